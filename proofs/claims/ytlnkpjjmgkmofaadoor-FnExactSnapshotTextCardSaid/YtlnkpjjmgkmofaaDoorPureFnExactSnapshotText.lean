/- For every snapshot the law FnExactSnapshotText returns true; no conditions. -/
import Derived.Test.YtlnkpjjmgkmofaaDoorQFnExactSnapshotText
import Derived.Test.YtlnkpjjmgkmofaaDoorCom
set_option linter.unusedVariables false
set_option linter.unusedSimpArgs false
namespace Go.Proofs.YtlnkpjjmgkmofaaDoor.Pure
open Go.RowKit Go.Proofs.YtlnkpjjmgkmofaaDoor.I Go.Proofs.YtlnkpjjmgkmofaaDoorW.PrintWords Go.Proofs.YtlnkpjjmgkmofaaDoorW.PrintLast
open Go.Proofs.YtlnkpjjmgkmofaaDoor.Opens
open Go.Proofs.YtlnkpjjmgkmofaaDoor.Com
open Go.Proofs.YtlnkpjjmgkmofaaDoor.Given

theorem laws_szIntS.val (xs : List Int) (a : Int) (hn : xs.length ≤ maxLen) (h0 : 0 ≤ a) (h1 : a ≤ 1048576) :
    ∃ r, laws_szIntS.f xs a = some r ∧ (¬ r < 0 → r = a - xs.length ∧ (xs.length : Int) ≤ a) := by
  unfold maxLen at hn
  unfold laws_szIntS.f
  rw [w64 (show -9223372036854775808 ≤ a - (xs.length : Int) by omega) (by omega)]
  by_cases h : a - (xs.length : Int) < 0
  · exact ⟨-1, by rw [if_pos h], fun h' => by omega⟩
  · exact ⟨_, by rw [if_neg h], fun h' => ⟨rfl, by omega⟩⟩

theorem laws_szSessionS.val (xs : List S113) (a : Int) (hn : xs.length ≤ maxLen) (h0 : 0 ≤ a) (h1 : a ≤ 1048576) :
    ∃ r, laws_szSessionS.f xs a = some r ∧ (¬ r < 0 → r = a - xs.length ∧ (xs.length : Int) ≤ a) := by
  unfold maxLen at hn
  unfold laws_szSessionS.f
  rw [w64 (show -9223372036854775808 ≤ a - (xs.length : Int) by omega) (by omega)]
  by_cases h : a - (xs.length : Int) < 0
  · exact ⟨-1, by rw [if_pos h], fun h' => by omega⟩
  · exact ⟨_, by rw [if_neg h], fun h' => ⟨rfl, by omega⟩⟩

theorem laws_szMachine.val (os : List Int) (xs : List S113) (a : Int) (ho : os.length ≤ maxLen) (hn : xs.length ≤ maxLen) (h0 : 0 ≤ a) (h1 : a ≤ 1048576) :
    ∃ r, laws_szMachine.f os xs a = some r ∧ (¬ r < 0 → r ≤ a ∧ (os.length : Int) ≤ a ∧ (xs.length : Int) ≤ a) := by
  obtain ⟨r, hr, hq⟩ := laws_szIntS.val os a ho h0 h1
  unfold laws_szMachine.f
  rw [hr]
  simp only [Option.bind_some]
  by_cases h : r < 0
  · exact ⟨-1, by rw [if_pos h], fun h' => by omega⟩
  · obtain ⟨h2, h3⟩ := hq h
    rw [if_neg h]
    obtain ⟨s, hs, ht⟩ := laws_szSessionS.val xs r hn (by omega) (by omega)
    rw [hs]
    simp only [Option.bind_some]
    by_cases h' : s < 0
    · exact ⟨-1, by rw [if_pos h'], fun h'' => by omega⟩
    · obtain ⟨h4, h5⟩ := ht h'
      exact ⟨s, by rw [if_neg h'], fun _ => ⟨by omega, by omega, by omega⟩⟩

theorem laws_szSnapshot.val (p q : Int) (os : List Int) (xs : List S113) (a : Int) (ho : os.length ≤ maxLen) (hn : xs.length ≤ maxLen) (h0 : 0 ≤ a) (h1 : a ≤ 1048576) :
    ∃ r, laws_szSnapshot.f p q os xs a = some r ∧ (¬ r < 0 → r ≤ a ∧ (os.length : Int) ≤ a ∧ (xs.length : Int) ≤ a) := by
  obtain ⟨r, hr, hq⟩ := laws_szMachine.val os xs a ho hn h0 h1
  unfold laws_szSnapshot.f
  rw [hr]
  simp only [Option.bind_some]
  by_cases h : r < 0
  · exact ⟨-1, by rw [if_pos h], fun h' => by omega⟩
  · exact ⟨r, by rw [if_neg h], hq⟩

/-- Bytes as a string. -/
def str (l : List UInt8) : ByteArray := ⟨l.toArray⟩
theorem str_append (a b : List UInt8) : str a ++ str b = str (a ++ b) := by
  apply ByteArray.ext
  simp [str]
theorem str_size (l : List UInt8) : (str l).size = l.length := by simp [str, ByteArray.size]
theorem str_inj {a b : List UInt8} (h : str a = str b) : a = b := by
  have := congrArg (fun s => s.data.toList) h
  simpa [str] using this
theorem str_toList (l : List UInt8) : (str l).toList = l := by rw [toList_data]; simp [str]
theorem toList_inj' {a b : ByteArray} (h : a.toList = b.toList) : a = b := bytesOf_inj (bytesOf_congr h)
/-- The digits of a number, none for 0. -/
def digs (m : Nat) : List UInt8 := if m = 0 then [] else Lib.decDigits m
theorem digs_step (m : Nat) (h : 0 < m) : digs m = digs (m / 10) ++ [UInt8.ofNat (48 + m % 10)] := by
  unfold digs
  rw [if_neg (by omega), Lib.decDigits]
  by_cases h9 : m < 10
  · rw [dif_pos h9, if_pos (by omega), Nat.mod_eq_of_lt h9]; rfl
  · rw [dif_neg h9, if_neg (by omega)]
theorem tmod10 (x : Int) : (0 ≤ x → Int.tmod x 10 = ((x.natAbs % 10 : Nat) : Int) ∧ Int.tdiv x 10 = ((x.natAbs / 10 : Nat) : Int)) ∧ (x < 0 → Int.tmod x 10 = -((x.natAbs % 10 : Nat) : Int) ∧ Int.tdiv x 10 = -((x.natAbs / 10 : Nat) : Int)) := by
  constructor
  · intro h
    obtain ⟨n, rfl⟩ := Int.eq_ofNat_of_zero_le h
    exact ⟨rfl, rfl⟩
  · intro h
    obtain ⟨n, rfl⟩ := Int.eq_negSucc_of_lt_zero h
    exact ⟨rfl, rfl⟩
theorem strOfNums_digit (d : Nat) (h : d < 10) : strOfNums ([(wrap64 (48 + (d : Int))) % 256] : List Int) = str [UInt8.ofNat (48 + d)] := by
  rw [w64 (by omega) (by omega)]
  apply ByteArray.ext
  apply Array.ext'
  rw [strOfNums_data]
  have e : ((48 + (d : Int)) % 256).toNat = 48 + d := by omega
  simp [str, e]
theorem itoa_zero : Lib.itoa 0 = [48] := by unfold Lib.itoa Lib.decDigits; simp
theorem itoa_digs (a : Int) (h : a ≠ 0) : Lib.itoa a = (if a < 0 then [45] else []) ++ digs a.natAbs := by
  have hn : ¬ a.natAbs = 0 := by omega
  unfold Lib.itoa digs
  by_cases c : a < 0
  · rw [if_pos c, if_pos c, if_neg hn]; rfl
  · rw [if_neg c, if_neg c, if_neg hn, show a.toNat = a.natAbs by omega]; rfl
theorem digs_len : ∀ n m : Nat, m < 10 ^ n → (digs m).length ≤ n := by
  intro n
  induction n with
  | zero => intro m h; obtain rfl : m = 0 := by simpa using h
            simp [digs]
  | succ n ih =>
    intro m h
    by_cases h0 : m = 0
    · subst h0; simp [digs]
    · rw [digs_step m (by omega), List.length_append]
      have := ih (m / 10) (by rw [Nat.pow_succ] at h; omega)
      simp only [List.length_cons, List.length_nil]
      omega
theorem itoa_len (a : Int) (h0 : -9223372036854775808 ≤ a) (h1 : a ≤ 9223372036854775807) : (Lib.itoa a).length ≤ 20 := by
  by_cases h : a = 0
  · subst h; rw [itoa_zero]; simp
  · rw [itoa_digs a h, List.length_append]
    have h2 := digs_len 19 a.natAbs (by omega)
    have h3 : (if a < 0 then ([45] : List UInt8) else []).length ≤ 1 := by split <;> simp
    omega
theorem str_lit (l : List UInt8) : (⟨l.toArray⟩ : ByteArray) = str l := rfl

theorem spec_FormatInt.l0ev (neg : Bool) : ∀ s : Int × List UInt8, (s.2.length + s.1.natAbs ≤ 9223372036854775808 ∧ (s.2.length = 0 ∨ s.2.length + s.1.natAbs ≤ 9223372036854775800)) →
    Ev (fun k => spec_FormatInt.l0 k s.1 (str s.2) neg) (str ((if neg then [45] else []) ++ digs s.1.natAbs ++ s.2)) := by
  refine loop_ev (fun k (s : Int × List UInt8) => spec_FormatInt.l0 k s.1 (str s.2) neg) _ (fun s => s.1.natAbs) (fun s => str ((if neg then [45] else []) ++ digs s.1.natAbs ++ s.2)) ?_
  rintro ⟨x, l⟩ ⟨h1, h2⟩
  simp only at h1 h2 ⊢
  by_cases hx : x = 0
  · subst hx
    refine .inl (ev_shift ?_)
    simp only [spec_FormatInt.l0, if_true, str_size]
    cases neg with
    | false => exact ev_val fun _ => by simp [digs]
    | true =>
      simp only [if_true, if_pos (show 1 + l.length ≤ 9223372036854775807 by omega)]
      exact ev_val fun _ => by rw [show (⟨#[45]⟩ : ByteArray) = str [45] from rfl, str_append]; simp [digs]
  · refine .inr ⟨(Int.tdiv x 10, UInt8.ofNat (48 + x.natAbs % 10) :: l), ?_, ?_, ?_, ?_⟩
    · have ht := tmod10 x
      simp only [List.length_cons]
      have : (Int.tdiv x 10).natAbs = x.natAbs / 10 := by rcases (show x < 0 ∨ 0 ≤ x by omega) with c | c; (have := (ht.2 c).2; omega); (have := (ht.1 c).2; omega)
      rw [this]
      omega
    · have ht := tmod10 x
      have : (Int.tdiv x 10).natAbs = x.natAbs / 10 := by rcases (show x < 0 ∨ 0 ≤ x by omega) with c | c; (have := (ht.2 c).2; omega); (have := (ht.1 c).2; omega)
      simp only [this]
      omega
    · have ht := tmod10 x
      have : (Int.tdiv x 10).natAbs = x.natAbs / 10 := by rcases (show x < 0 ∨ 0 ≤ x by omega) with c | c; (have := (ht.2 c).2; omega); (have := (ht.1 c).2; omega)
      simp only [this]
      rw [digs_step x.natAbs (by omega)]
      simp
    · intro r hr
      refine ev_shift ?_
      have ht := tmod10 x
      have e2 : wrap64 (Int.tdiv x 10) = Int.tdiv x 10 := w64 (by rcases (show x < 0 ∨ 0 ≤ x by omega) with c | c; (have := (ht.2 c).2; omega); (have := (ht.1 c).2; omega)) (by rcases (show x < 0 ∨ 0 ≤ x by omega) with c | c; (have := (ht.2 c).2; omega); (have := (ht.1 c).2; omega))
      have e3 : ∀ d : Nat, d < 10 → (strOfNums ([(wrap64 (48 + (d : Int))) % 256] : List Int)) ++ str l = str (UInt8.ofNat (48 + d) :: l) := fun d hd => by rw [strOfNums_digit d hd, str_append]; rfl
      have e4 : ∀ d : Nat, d < 10 → (strOfNums ([(wrap64 (48 + (d : Int))) % 256] : List Int)).size + (str l).size ≤ 9223372036854775807 := fun d hd => by rw [strOfNums_digit d hd, str_size, str_size]; simp only [List.length_cons, List.length_nil]; omega
      have hd : x.natAbs % 10 < 10 := by omega
      simp only [spec_FormatInt.l0, if_neg hx, e2]
      by_cases c : Int.tmod x 10 < 0
      · have hm : Int.tmod x 10 = -((x.natAbs % 10 : Nat) : Int) := by rcases (show x < 0 ∨ 0 ≤ x by omega) with c' | c'; exact (ht.2 c').1; (have := (ht.1 c').1; omega)
        have e1 : wrap64 (-(Int.tmod x 10)) = ((x.natAbs % 10 : Nat) : Int) := by rw [hm, w64 (by omega) (by omega)]; omega
        simp only [if_pos c, e1, Option.bind_some, if_pos (e4 _ hd), e3 _ hd]
        exact hr
      · have hm : Int.tmod x 10 = ((x.natAbs % 10 : Nat) : Int) := by rcases (show x < 0 ∨ 0 ≤ x by omega) with c' | c'; (have := (ht.2 c').1; omega); exact (ht.1 c').1
        rw [hm] at c
        simp only [hm, if_neg c, Option.bind_some, if_pos (e4 _ hd), e3 _ hd]
        exact hr
theorem spec_FormatInt.ev (a : Int) (h0 : -9223372036854775808 ≤ a) (h1 : a ≤ 9223372036854775807) : Ev (fun k => spec_FormatInt.f k a) (str (Lib.itoa a)) := by
  by_cases ha : a = 0
  · subst ha
    simp only [spec_FormatInt.f, if_true, itoa_zero]
    exact Ev.now _
  · simp only [spec_FormatInt.f, if_neg ha]
    have h := spec_FormatInt.l0ev (decide (a < 0)) (a, []) ⟨by simp only [List.length_nil]; omega, .inl rfl⟩
    refine ev_eq h ?_
    rw [itoa_digs a ha]
    simp only [List.append_nil, decide_eq_true_eq]

theorem spec_l1In.val (a b c : Int) : spec_l1In.f a b c = some (decide (b ≤ a ∧ a ≤ c)) := by
  unfold spec_l1In.f
  by_cases h : b ≤ a <;> simp [h]

theorem rdS (xs : List S91) (i : Nat) (h : i < xs.length) : rd_T91 xs (i : Int) = xs[i] := by simp [rd_T91, h]
theorem ses_eq (x y : S91) : x = y ↔ x.f0 = y.f0 ∧ x.f1 = y.f1 ∧ x.f2.f0 = y.f2.f0 ∧ x.f2.f1 = y.f2.f1 := by
  constructor
  · intro h; subst h; simp
  · rintro ⟨h0, h1, h2, h3⟩
    obtain ⟨a, b, ⟨c, d⟩⟩ := x
    obtain ⟨a', b', ⟨c', d'⟩⟩ := y
    simp_all

theorem rdLS (xs : List S113) (i : Nat) (h : i < xs.length) : rd_T113 xs (i : Int) = xs[i] := by simp [rd_T113, h]
/-- A session of the laws, as one of the program. -/
def toS (x : S113) : S91 := ⟨x.f0, x.f1, ⟨x.f2.f0, x.f2.f1⟩⟩

/-- Is this session one of a machine, behind the one before it? -/
def okSes (xs : List S91) (j : Nat) : Prop := (0 ≤ (rd_T91 xs (j : Int)).f0 ∧ (rd_T91 xs (j : Int)).f0 ≤ 2) ∧
  (1 ≤ (rd_T91 xs (j : Int)).f1 ∧ (rd_T91 xs (j : Int)).f1 ≤ 99) ∧ (0 ≤ (rd_T91 xs (j : Int)).f2.f1 ∧ (rd_T91 xs (j : Int)).f2.f1 ≤ 9) ∧
  (0 < j → (rd_T91 xs ((j : Int) - 1)).f0 < (rd_T91 xs (j : Int)).f0)
/-- Is this a machine? -/
def vMach (os : List Int) (xs : List S91) : Prop := os.length = 3 ∧ (∀ j : Nat, j < os.length → 0 ≤ rd os (j : Int) ∧ rd os (j : Int) ≤ 9) ∧ ∀ j, j < xs.length → okSes xs j

theorem spec_IsValidMachine.l1ev (os : List Int) (xs : List S91) (hn : xs.length ≤ 9223372036854775806) : ∃ b, Ev (fun k => spec_IsValidMachine.l1 k 0 os xs) b ∧ (b = true ↔ (∀ j, j < xs.length → okSes xs j) ∧ ((os.length : Int) == 3) = true) := by
  refine all_ev (fun k i => spec_IsValidMachine.l1 k i os xs) (okSes xs) xs.length ((os.length : Int) == 3)
    (ev_shift (ev_val fun k => by simp only [spec_IsValidMachine.l1, if_neg (show ¬ ((xs.length : Int) < (xs.length : Int)) by omega)])) (fun i hi => ?_)
  have e1 := w64 (show -9223372036854775808 ≤ (i : Int) + 1 by omega) (by omega)
  have e2 := w64 (show -9223372036854775808 ≤ (i : Int) - 1 by omega) (by omega)
  have c1 : (i : Int) < (xs.length : Int) := by omega
  have c2 : (0 : Int) ≤ (i : Int) := by omega
  have hno : Ev (fun k => spec_IsValidMachine.j2 k (i : Int) true os xs) false := ev_shift (ev_val fun k => by simp only [spec_IsValidMachine.j2, if_true])
  have hyes : ∀ b, Ev (fun k => spec_IsValidMachine.l1 k ((i : Int) + 1) os xs) b → Ev (fun k => spec_IsValidMachine.j2 k (i : Int) false os xs) b := fun b hb => ev_shift (by simp only [spec_IsValidMachine.j2, Bool.false_eq_true, if_false, e1]; exact hb)
  by_cases h1 : 0 ≤ (rd_T91 xs (i : Int)).f0 ∧ (rd_T91 xs (i : Int)).f0 ≤ 2
  · by_cases h2 : 1 ≤ (rd_T91 xs (i : Int)).f1 ∧ (rd_T91 xs (i : Int)).f1 ≤ 99
    · by_cases h3 : 0 ≤ (rd_T91 xs (i : Int)).f2.f1 ∧ (rd_T91 xs (i : Int)).f2.f1 ≤ 9
      · by_cases h0 : 0 < i
        · have c3 : (i : Int) > 0 := by omega
          have c4 : (0 : Int) ≤ (i : Int) - 1 := by omega
          have c5 : (i : Int) - 1 < (xs.length : Int) := by omega
          by_cases h4 : (rd_T91 xs ((i : Int) - 1)).f0 < (rd_T91 xs (i : Int)).f0
          · refine .inl ⟨⟨h1, h2, h3, fun _ => h4⟩, fun b hb => ev_shift ?_⟩
            simp only [spec_IsValidMachine.l1, if_pos c1, if_pos c2, spec_l1In.val, Option.bind_some, decide_eq_true h1, decide_eq_true h2, decide_eq_true h3, if_true, if_pos c3, e2, if_pos c4, if_pos c5, decide_eq_false (show ¬ ((rd_T91 xs ((i : Int) - 1)).f0 ≥ (rd_T91 xs (i : Int)).f0) by omega)]
            exact hyes b hb
          · refine .inr ⟨fun hh => h4 (hh.2.2.2 h0), ev_shift ?_⟩
            simp only [spec_IsValidMachine.l1, if_pos c1, if_pos c2, spec_l1In.val, Option.bind_some, decide_eq_true h1, decide_eq_true h2, decide_eq_true h3, if_true, if_pos c3, e2, if_pos c4, if_pos c5, decide_eq_true (show ((rd_T91 xs ((i : Int) - 1)).f0 ≥ (rd_T91 xs (i : Int)).f0) by omega)]
            exact hno
        · refine .inl ⟨⟨h1, h2, h3, fun h => absurd h h0⟩, fun b hb => ev_shift ?_⟩
          simp only [spec_IsValidMachine.l1, if_pos c1, if_pos c2, spec_l1In.val, Option.bind_some, decide_eq_true h1, decide_eq_true h2, decide_eq_true h3, if_true, if_neg (show ¬ ((i : Int) > 0) by omega)]
          exact hyes b hb
      · refine .inr ⟨fun hh => h3 hh.2.2.1, ev_shift ?_⟩
        simp only [spec_IsValidMachine.l1, if_pos c1, if_pos c2, spec_l1In.val, Option.bind_some, decide_eq_true h1, decide_eq_true h2, decide_eq_false h3, if_true, Bool.false_eq_true, if_false]
        exact hno
    · refine .inr ⟨fun hh => h2 hh.2.1, ev_shift ?_⟩
      simp only [spec_IsValidMachine.l1, if_pos c1, if_pos c2, spec_l1In.val, Option.bind_some, decide_eq_true h1, decide_eq_false h2, if_true, Bool.false_eq_true, if_false]
      exact hno
  · refine .inr ⟨fun hh => h1 hh.1, ev_shift ?_⟩
    simp only [spec_IsValidMachine.l1, if_pos c1, if_pos c2, spec_l1In.val, Option.bind_some, decide_eq_false h1, Bool.false_eq_true, if_false]
    exact hno
theorem spec_IsValidMachine.ev (os : List Int) (xs : List S91) (ho : os.length ≤ 9223372036854775806) (hn : xs.length ≤ 9223372036854775806) : ∃ b, Ev (fun k => spec_IsValidMachine.f k os xs) b ∧ (b = true ↔ vMach os xs) := by
  obtain ⟨c, hc, hr⟩ := spec_IsValidMachine.l1ev os xs hn
  obtain ⟨b, hb, hq⟩ := all_ev (fun k i => spec_IsValidMachine.l0 k i os xs) (fun j => 0 ≤ rd os (j : Int) ∧ rd os (j : Int) ≤ 9) os.length c
    (ev_shift (by simp only [spec_IsValidMachine.l0, if_neg (show ¬ ((os.length : Int) < (os.length : Int)) by omega)]; exact hc))
    (fun i hi => by
      have e1 := w64 (show -9223372036854775808 ≤ (i : Int) + 1 by omega) (by omega)
      by_cases h : 0 ≤ rd os (i : Int) ∧ rd os (i : Int) ≤ 9
      · refine .inl ⟨h, fun b hb => ev_shift ?_⟩
        simp only [spec_IsValidMachine.l0, if_pos (show (i : Int) < (os.length : Int) by omega), if_pos (show (0 : Int) ≤ (i : Int) by omega), spec_l1In.val, Option.bind_some, decide_eq_true h, if_true, e1]
        exact hb
      · refine .inr ⟨h, ev_shift (ev_val fun k => ?_)⟩
        simp only [spec_IsValidMachine.l0, if_pos (show (i : Int) < (os.length : Int) by omega), if_pos (show (0 : Int) ≤ (i : Int) by omega), spec_l1In.val, Option.bind_some, decide_eq_false h, Bool.false_eq_true, if_false])
  refine ⟨b, hb, hq.trans ?_⟩
  rw [hr, beq_iff_eq]
  exact ⟨fun h => ⟨by omega, h.1, h.2.1⟩, fun h => ⟨h.2.1, h.2.2, by have := h.1; omega⟩⟩

/-- The texts of numbers, one behind the other. -/
def catI (xs : List Int) : List UInt8 := xs.flatMap Lib.itoa
theorem catI_drop (xs : List Int) (i : Nat) (h : i < xs.length) : catI (xs.drop i) = Lib.itoa (rd xs (i : Int)) ++ catI (xs.drop (i + 1)) := by
  rw [drop_cons_rd xs i h]; rfl

/-- A session's text. -/
def sesL (x : S91) : List UInt8 := [32] ++ Lib.itoa x.f0 ++ [46] ++ Lib.itoa x.f1 ++ (if x.f2.f0 = true then [43] else [45]) ++ Lib.itoa x.f2.f1
/-- The texts of sessions, one behind the other. -/
def catS (xs : List S91) : List UInt8 := xs.flatMap sesL
theorem catS_drop (xs : List S91) (i : Nat) (h : i < xs.length) : catS (xs.drop i) = sesL (rd_T91 xs (i : Int)) ++ catS (xs.drop (i + 1)) := by
  rw [List.drop_eq_getElem_cons h, rdS xs i h]; rfl
theorem sesL_len {xs : List S91} {i : Nat} (h : okSes xs i) : (sesL (rd_T91 xs (i : Int))).length ≤ 70 := by
  obtain ⟨h1, h2, h3, _⟩ := h
  have l0 := itoa_len (rd_T91 xs (i : Int)).f0 (by omega) (by omega)
  have l1 := itoa_len (rd_T91 xs (i : Int)).f1 (by omega) (by omega)
  have l2 := itoa_len (rd_T91 xs (i : Int)).f2.f1 (by omega) (by omega)
  have l3 : (if (rd_T91 xs (i : Int)).f2.f0 = true then ([43] : List UInt8) else [45]).length = 1 := by split <;> rfl
  simp only [sesL, List.length_append, List.length_cons, List.length_nil]
  omega
theorem spec_FormatMachine.l1ev (os : List Int) (xs : List S91) (hn : xs.length ≤ 1048576) (hv : ∀ j, j < xs.length → okSes xs j) :
    ∀ s : Nat × List UInt8, (s.1 ≤ xs.length ∧ s.2.length ≤ 60000000 + 70 * s.1) → Ev (fun k => spec_FormatMachine.l1 k (str s.2) (s.1 : Int) os xs) (str (s.2 ++ catS (xs.drop s.1))) := by
  refine loop_ev (fun k (s : Nat × List UInt8) => spec_FormatMachine.l1 k (str s.2) (s.1 : Int) os xs) _ (fun s => xs.length - s.1) (fun s => str (s.2 ++ catS (xs.drop s.1))) ?_
  rintro ⟨i, acc⟩ ⟨h1, h2⟩
  simp only at h1 h2 ⊢
  by_cases hi : i < xs.length
  · have hl := sesL_len (hv i hi)
    have e1 := w64 (show -9223372036854775808 ≤ (i : Int) + 1 by omega) (by omega)
    refine .inr ⟨(i + 1, acc ++ sesL (rd_T91 xs (i : Int))), ⟨by simp only; omega, by simp only [List.length_append]; omega⟩, by simp only; omega, ?_, ?_⟩
    · simp only [catS_drop xs i hi, List.append_assoc]
    · intro r hr'
      obtain ⟨q1, q2, q3, _⟩ := hv i hi
      obtain ⟨K0, g0⟩ := spec_FormatInt.ev (rd_T91 xs (i : Int)).f0 (by omega) (by omega)
      obtain ⟨K1, g1⟩ := spec_FormatInt.ev (rd_T91 xs (i : Int)).f1 (by omega) (by omega)
      obtain ⟨K2, g2⟩ := spec_FormatInt.ev (rd_T91 xs (i : Int)).f2.f1 (by omega) (by omega)
      have l0 := itoa_len (rd_T91 xs (i : Int)).f0 (by omega) (by omega)
      have l1 := itoa_len (rd_T91 xs (i : Int)).f1 (by omega) (by omega)
      have l2 := itoa_len (rd_T91 xs (i : Int)).f2.f1 (by omega) (by omega)
      obtain ⟨K3, g3⟩ := hr'
      have g3 : ∀ k, K3 ≤ k → spec_FormatMachine.l1 k (str (acc ++ sesL (rd_T91 xs (i : Int)))) ((i : Int) + 1) os xs = some r := fun k hk => by simpa using g3 k hk
      have key : ∀ c : UInt8, (if (rd_T91 xs (i : Int)).f2.f0 = true then ([43] : List UInt8) else [45]) = [c] → Ev (fun k => spec_FormatMachine.j2 k (str acc) (i : Int) (str [c]) os xs (rd_T91 xs (i : Int)).f0 (rd_T91 xs (i : Int)).f1 (rd_T91 xs (i : Int)).f2.f0 (rd_T91 xs (i : Int)).f2.f1) r := by
        intro c hc
        refine ev_shift ⟨K0 + K1 + K2 + K3, fun k hk => ?_⟩
        simp only [spec_FormatMachine.j2, g0 k (by omega), g1 k (by omega), g2 k (by omega), Option.bind_some, str_lit, str_append, str_size, List.length_append, List.length_cons, List.length_nil, e1]
        simp (disch := omega) only [if_pos]
        have g4 := g3 k (by omega)
        simp only [sesL, hc, List.append_assoc] at g4 ⊢
        exact g4
      refine ev_shift ?_
      simp only [spec_FormatMachine.l1, if_pos (show (i : Int) < (xs.length : Int) by omega), if_pos (show (0 : Int) ≤ (i : Int) by omega)]
      cases hd : (rd_T91 xs (i : Int)).f2.f0 with
      | true => simp only [if_true, str_lit]; have := key 43 (by rw [hd]; rfl); rw [hd] at this; exact this
      | false => simp only [Bool.false_eq_true, if_false, str_lit]; have := key 45 (by rw [hd]; rfl); rw [hd] at this; exact this
  · refine .inl (ev_shift (ev_val fun k => ?_))
    simp only [spec_FormatMachine.l1, if_neg (show ¬ ((i : Int) < (xs.length : Int)) by omega), List.drop_eq_nil_of_le (show xs.length ≤ i by omega), catS, List.flatMap_nil, List.append_nil]
theorem spec_FormatMachine.l0ev (os : List Int) (xs : List S91) (ho : os.length ≤ 1048576) (hn : xs.length ≤ 1048576) (hv : ∀ j, j < xs.length → okSes xs j) (hr : ∀ j : Nat, j < os.length → 0 ≤ rd os (j : Int) ∧ rd os (j : Int) ≤ 9) :
    ∀ s : Nat × List UInt8, (s.1 ≤ os.length ∧ s.2.length ≤ 20 * s.1) → Ev (fun k => spec_FormatMachine.l0 k (str s.2) (s.1 : Int) os xs) (str (s.2 ++ catI (os.drop s.1) ++ catS xs)) := by
  refine loop_ev (fun k (s : Nat × List UInt8) => spec_FormatMachine.l0 k (str s.2) (s.1 : Int) os xs) _ (fun s => os.length - s.1) (fun s => str (s.2 ++ catI (os.drop s.1) ++ catS xs)) ?_
  rintro ⟨i, acc⟩ ⟨h1, h2⟩
  simp only at h1 h2 ⊢
  by_cases hi : i < os.length
  · obtain ⟨r0, r1⟩ := hr i hi
    have hl := itoa_len (rd os (i : Int)) (by omega) (by omega)
    have e1 := w64 (show -9223372036854775808 ≤ (i : Int) + 1 by omega) (by omega)
    refine .inr ⟨(i + 1, acc ++ Lib.itoa (rd os (i : Int))), ⟨by simp only; omega, by simp only [List.length_append]; omega⟩, by simp only; omega, ?_, ?_⟩
    · simp only [catI_drop os i hi, List.append_assoc]
    · intro r hr'
      refine ev_shift ?_
      simp only [spec_FormatMachine.l0, if_pos (show (i : Int) < (os.length : Int) by omega), if_pos (show (0 : Int) ≤ (i : Int) by omega)]
      refine Ev.bind (spec_FormatInt.ev _ (by omega) (by omega)) ?_
      simp only [str_size, str_append, if_pos (show acc.length + (Lib.itoa (rd os (i : Int))).length ≤ 9223372036854775807 by omega), e1]
      exact hr'
  · refine .inl (ev_shift ?_)
    simp only [spec_FormatMachine.l0, if_neg (show ¬ ((i : Int) < (os.length : Int)) by omega), List.drop_eq_nil_of_le (show os.length ≤ i by omega), catI, List.flatMap_nil, List.append_nil]
    have := spec_FormatMachine.l1ev os xs hn hv (0, acc) ⟨by simp, by simp only; omega⟩
    simpa using this
/-- A machine's text. -/
def machL (b : Bool) (os : List Int) (xs : List S91) : List UInt8 := if b = true then catI os ++ catS xs else []
theorem spec_FormatMachine.ev (os : List Int) (xs : List S91) (ho : os.length ≤ 1048576) (hn : xs.length ≤ 1048576) (b : Bool) (hb : Ev (fun k => spec_IsValidMachine.f k os xs) b) (hv : b = true → vMach os xs) :
    Ev (fun k => spec_FormatMachine.f k os xs) (str (machL b os xs)) := by
  refine Ev.bind hb ?_
  cases b with
  | false => exact ev_val fun _ => rfl
  | true =>
    obtain ⟨v1, v2, v3⟩ := hv rfl
    simp only [if_true, machL]
    exact spec_FormatMachine.l0ev os xs ho hn v3 v2 (0, []) ⟨by simp, by simp⟩

theorem flat_len {α : Type} (f : α → List UInt8) (c : Nat) : ∀ xs : List α, (∀ x ∈ xs, (f x).length ≤ c) → (xs.flatMap f).length ≤ c * xs.length := by
  intro xs
  induction xs with
  | nil => intro _; simp
  | cons x xs ih =>
    intro h
    rw [List.flatMap_cons, List.length_append, List.length_cons]
    have h1 := h x (by simp)
    have h2 := ih (fun y hy => h y (by simp [hy]))
    rw [Nat.mul_add, Nat.mul_one]
    omega
theorem machL_len (b : Bool) (os : List Int) (xs : List S91) (ho : os.length ≤ 1048576) (hn : xs.length ≤ 1048576) (hv : b = true → vMach os xs) : (machL b os xs).length ≤ 100000000 := by
  cases b with
  | false => simp [machL]
  | true =>
    obtain ⟨v1, v2, v3⟩ := hv rfl
    have h1 := flat_len Lib.itoa 20 os (fun x hx => by
      obtain ⟨i, hi, rfl⟩ := List.mem_iff_getElem.1 hx
      have := v2 i hi
      rw [rd_get os i hi] at this
      exact itoa_len _ (by omega) (by omega))
    have h2 := flat_len sesL 70 xs (fun x hx => by
      obtain ⟨i, hi, rfl⟩ := List.mem_iff_getElem.1 hx
      have := sesL_len (v3 i hi)
      rwa [rdS xs i hi] at this)
    simp only [machL, if_true, catI, catS, List.length_append]
    omega
/-- Is this a snapshot with a text? -/
def snapG (p q : Int) (b : Bool) : Prop := (0 ≤ p ∧ p ≤ 16) ∧ (0 ≤ q ∧ q ≤ 9972) ∧ b = true
instance (p q : Int) (b : Bool) : Decidable (snapG p q b) := by unfold snapG; infer_instance
/-- A snapshot's text. -/
def snapL (p q : Int) (b : Bool) (os : List Int) (xs : List S91) : List UInt8 := if snapG p q b then Lib.itoa p ++ [44] ++ Lib.itoa q ++ [44] ++ machL b os xs else []

theorem spec_l7Good.ev (p q : Int) (os : List Int) (xs : List S91) (b : Bool) (hb : Ev (fun k => spec_IsValidMachine.f k os xs) b) : Ev (fun k => spec_l7Good.f k p q os xs) (decide (snapG p q b)) := by
  simp only [spec_l7Good.f, spec_l1In.val, Option.bind_some]
  by_cases h1 : 0 ≤ p ∧ p ≤ 16
  · by_cases h2 : 0 ≤ q ∧ q ≤ 9972
    · simp only [decide_eq_true h1, decide_eq_true h2, if_true]
      refine Ev.bind hb (ev_val fun _ => ?_)
      cases b <;> simp [snapG, h1, h2]
    · simp only [decide_eq_true h1, decide_eq_false h2, if_true, Bool.false_eq_true, if_false]
      exact ev_some (decide_eq_false fun h => h2 h.2.1).symm
  · simp only [decide_eq_false h1, Bool.false_eq_true, if_false]
    exact ev_some (decide_eq_false fun h => h1 h.1).symm

theorem spec_SnapshotText.ev (p q : Int) (os : List Int) (xs : List S91) (ho : os.length ≤ 1048576) (hn : xs.length ≤ 1048576) (b : Bool) (hb : Ev (fun k => spec_IsValidMachine.f k os xs) b) (hv : b = true → vMach os xs) :
    Ev (fun k => spec_SnapshotText.f k p q os xs) (str (snapL p q b os xs)) := by
  refine Ev.bind (spec_l7Good.ev p q os xs b hb) ?_
  by_cases hg : snapG p q b
  · obtain ⟨h1, h2, h3⟩ := hg
    obtain ⟨K0, g0⟩ := spec_FormatInt.ev p (by omega) (by omega)
    obtain ⟨K1, g1⟩ := spec_FormatInt.ev q (by omega) (by omega)
    obtain ⟨K2, g2⟩ := spec_FormatMachine.ev os xs ho hn b hb hv
    have l0 := itoa_len p (by omega) (by omega)
    have l1 := itoa_len q (by omega) (by omega)
    have l2 := machL_len b os xs ho hn hv
    refine ⟨K0 + K1 + K2, fun k hk => ?_⟩
    simp only [decide_eq_true (show snapG p q b from ⟨h1, h2, h3⟩), if_true, g0 k (by omega), g1 k (by omega), g2 k (by omega), Option.bind_some, str_lit, str_append, str_size, List.length_append, List.length_cons, List.length_nil]
    simp (disch := omega) only [if_pos]
    rw [snapL, if_pos ⟨h1, h2, h3⟩]
  · simp only [decide_eq_false hg, Bool.false_eq_true, if_false, snapL, if_neg hg]
    exact Ev.now _

theorem laws_toIntS.ev (xs : List Int) (hn : xs.length ≤ 35184372088832) : Ev (fun k => laws_toIntS.f k xs) xs := by
  have key : ∀ (d i : Nat) (ys : List Int), i + d = xs.length → ys.length = xs.length → ys.take i = xs.take i → Ev (fun k => laws_toIntS.l0 k xs ys (i : Int)) xs := by
    intro d
    induction d with
    | zero =>
      intro i ys h1 h2 h3
      refine ev_shift ?_
      simp only [laws_toIntS.l0, if_neg (show ¬ ((i : Int) < (xs.length : Int)) by omega)]
      refine ev_some ?_
      rw [List.take_of_length_le (by omega), List.take_of_length_le (by omega)] at h3
      exact h3
    | succ d ih =>
      intro i ys h1 h2 h3
      refine ev_shift ?_
      simp only [laws_toIntS.l0, if_pos (show (i : Int) < (xs.length : Int) by omega), if_pos (show (0 : Int) ≤ (i : Int) by omega), if_pos (show (i : Int) < (ys.length : Int) by omega),
        w64 (show -9223372036854775808 ≤ (i : Int) + 1 by omega) (by omega), Int.toNat_natCast, rd_get xs i (by omega)]
      have := ih (i + 1) (ys.set i xs[i]) (by omega) (by simpa using h2) (by
        rw [List.take_succ_eq_append_getElem (by simp; omega), List.take_succ_eq_append_getElem (show i < xs.length by omega), List.take_set_of_le (Nat.le_refl _), h3]
        simp)
      simpa using this
  have h0 := key xs.length 0 (List.replicate xs.length 0) (by omega) (by simp) (by simp)
  refine Ev.congr (fun k => ?_) h0
  simp only [laws_toIntS.f, if_pos (show (0 : Int) ≤ (xs.length : Int) by omega), Int.toNat_natCast, if_pos hn]
  rfl

theorem laws_toResult.val (a : Bool) (b : Int) : laws_toResult.f a b = some (a, b) := rfl

theorem laws_toSession.val (a b : Int) (c : Bool) (d : Int) : laws_toSession.f a b c d = some (a, b, c, d) := rfl

theorem laws_toSessionS.ev (xs : List S113) (hn : xs.length ≤ 8796093022208) : Ev (fun k => laws_toSessionS.f k xs) (xs.map toS) := by
  have := map_loop (fun k ys i => laws_toSessionS.l0 k xs ys i) toS xs
    (fun k ys _ => by simp only [laws_toSessionS.l0, if_neg (show ¬ ((xs.length : Int) < (xs.length : Int)) by omega)])
    (fun i h ys k hy => by
      simp only [laws_toSessionS.l0, if_pos (show (i : Int) < (xs.length : Int) by omega), if_pos (show (0 : Int) ≤ (i : Int) by omega), if_pos (show (i : Int) < (ys.length : Int) by omega),
        laws_toSession.val, Option.bind_some, rdLS xs i h, Int.toNat_natCast, w64 (show -9223372036854775808 ≤ (i : Int) + 1 by omega) (by omega), toS])
    (List.replicate xs.length z91) (by simp)
  refine Ev.congr (fun k => ?_) this
  simp only [laws_toSessionS.f, if_pos (show (0 : Int) ≤ (xs.length : Int) by omega), Int.toNat_natCast, if_pos hn]

theorem laws_toMachine.ev (os : List Int) (xs : List S113) (ho : os.length ≤ 1048576) (hn : xs.length ≤ 1048576) : Ev (fun k => laws_toMachine.f k os xs) (os, xs.map toS) :=
  Ev.bind (laws_toIntS.ev os (by omega)) (Ev.bind (laws_toSessionS.ev xs (by omega)) (Ev.now _))

theorem laws_toSnapshot.ev (p q : Int) (os : List Int) (xs : List S113) (ho : os.length ≤ 1048576) (hn : xs.length ≤ 1048576) : Ev (fun k => laws_toSnapshot.f k p q os xs) (p, q, os, xs.map toS) :=
  Ev.bind (laws_toMachine.ev os xs (by omega) (by omega)) (Ev.now _)

theorem impl_FormatInt.val (a : Int) (h0 : -9223372036854775808 ≤ a) (h1 : a ≤ 9223372036854775807) : impl_FormatInt.f a = some (str (Lib.itoa a)) := by
  simp only [impl_FormatInt.f, strconv_Itoa.f, if_pos (show -9223372036854775808 ≤ a ∧ a ≤ 9223372036854775807 from ⟨h0, h1⟩), Option.bind_some]
  rfl

theorem impl_within.val (a b c : Int) : impl_within.f a b c = some (decide (b ≤ a ∧ a ≤ c)) := by
  unfold impl_within.f
  by_cases h : b ≤ a <;> simp [h]

theorem impl_IsValidMachine_1.val (a : Int) : impl_IsValidMachine_1.f a = some (!decide (0 ≤ a ∧ a ≤ 9)) := by
  unfold impl_IsValidMachine_1.f
  rw [impl_within.val]
  rfl

theorem slices_IndexFunc_int_int_impl_IsValidMachine_1.ev (os : List Int) (ho : os.length ≤ 9223372036854775806) :
    ∃ r : Int, Ev (fun k => slices_IndexFunc_int_int_impl_IsValidMachine_1.f k os ()) r ∧ (r ≥ 0 ↔ ¬ ∀ j : Nat, j < os.length → 0 ≤ rd os (j : Int) ∧ rd os (j : Int) ≤ 9) := by
  have key : ∀ d i : Nat, i + d = os.length → ∃ r : Int, Ev (fun k => slices_IndexFunc_int_int_impl_IsValidMachine_1.l0 k os (os.length : Int) (i : Int)) r ∧ (r ≥ 0 ↔ ¬ ∀ j : Nat, i ≤ j → j < os.length → 0 ≤ rd os (j : Int) ∧ rd os (j : Int) ≤ 9) := by
    intro d
    induction d with
    | zero =>
      intro i h
      refine ⟨-1, ev_shift (ev_val fun k => by simp only [slices_IndexFunc_int_int_impl_IsValidMachine_1.l0, if_neg (show ¬ ((i : Int) < (os.length : Int)) by omega)]), ?_⟩
      exact ⟨fun h' => absurd h' (by decide), fun h' => absurd (fun j h1 h2 => by omega) h'⟩
    | succ d ih =>
      intro i h
      have c1 : (i : Int) < (os.length : Int) := by omega
      have c2 : (0 : Int) ≤ (i : Int) := by omega
      have e1 := w64 (show -9223372036854775808 ≤ (i : Int) + 1 by omega) (by omega)
      by_cases hp : 0 ≤ rd os (i : Int) ∧ rd os (i : Int) ≤ 9
      · obtain ⟨r, hr, hq⟩ := ih (i + 1) (by omega)
        refine ⟨r, ev_shift ?_, hq.trans ?_⟩
        · simp only [slices_IndexFunc_int_int_impl_IsValidMachine_1.l0, if_pos c1, if_pos c2, impl_IsValidMachine_1.val, Option.bind_some, decide_eq_true hp, Bool.not_true, Bool.false_eq_true, if_false, e1]
          simpa using hr
        · refine not_congr ⟨fun h' j h1 h2 => ?_, fun h' j h1 h2 => h' j (by omega) h2⟩
          rcases Nat.eq_or_lt_of_le h1 with rfl | h3
          · exact hp
          · exact h' j h3 h2
      · refine ⟨(i : Int), ev_shift (ev_val fun k => ?_), ?_⟩
        · simp only [slices_IndexFunc_int_int_impl_IsValidMachine_1.l0, if_pos c1, if_pos c2, impl_IsValidMachine_1.val, Option.bind_some, decide_eq_false hp, Bool.not_false, if_true]
        · exact ⟨fun _ h' => hp (h' i (Nat.le_refl _) (by omega)), fun _ => c2⟩
  obtain ⟨r, hr, hq⟩ := key os.length 0 (by omega)
  exact ⟨r, by simpa [slices_IndexFunc_int_int_impl_IsValidMachine_1.f] using hr, hq.trans (not_congr ⟨fun h j h2 => h j (by omega) h2, fun h j _ h2 => h j h2⟩)⟩

theorem slices_ContainsFunc_int_int_impl_IsValidMachine_1.ev (os : List Int) (ho : os.length ≤ 9223372036854775806) :
    ∃ b, Ev (fun k => slices_ContainsFunc_int_int_impl_IsValidMachine_1.f k os ()) b ∧ (b = true ↔ ¬ ∀ j : Nat, j < os.length → 0 ≤ rd os (j : Int) ∧ rd os (j : Int) ≤ 9) := by
  obtain ⟨r, hr, hq⟩ := slices_IndexFunc_int_int_impl_IsValidMachine_1.ev os ho
  exact ⟨_, Ev.bind hr (Ev.now _), by rw [decide_eq_true_iff, hq]⟩

theorem impl_IsValidMachine.l0ev (os : List Int) (xs : List S91) (hn : xs.length ≤ 9223372036854775806) : ∃ b, Ev (fun k => impl_IsValidMachine.l0 k xs (xs.length : Int) 0 os xs) b ∧ (b = true ↔ ∀ j, j < xs.length → okSes xs j) := by
  suffices h : ∃ b, Ev (fun k => impl_IsValidMachine.l0 k xs (xs.length : Int) 0 os xs) b ∧ (b = true ↔ (∀ j, j < xs.length → okSes xs j) ∧ true = true) by simpa using h
  refine all_ev (fun k i => impl_IsValidMachine.l0 k xs (xs.length : Int) i os xs) (okSes xs) xs.length true
    (ev_shift (ev_val fun k => by simp only [impl_IsValidMachine.l0, if_neg (show ¬ ((xs.length : Int) < (xs.length : Int)) by omega)])) (fun i hi => ?_)
  have e1 := w64 (show -9223372036854775808 ≤ (i : Int) + 1 by omega) (by omega)
  have e2 := w64 (show -9223372036854775808 ≤ (i : Int) - 1 by omega) (by omega)
  have c1 : (i : Int) < (xs.length : Int) := by omega
  have c2 : (0 : Int) ≤ (i : Int) := by omega
  have hno : Ev (fun k => impl_IsValidMachine.j2 k xs (xs.length : Int) (i : Int) true os xs) false := ev_shift (ev_val fun k => by simp only [impl_IsValidMachine.j2, if_true])
  have hyes : ∀ b, Ev (fun k => impl_IsValidMachine.l0 k xs (xs.length : Int) ((i : Int) + 1) os xs) b → Ev (fun k => impl_IsValidMachine.j2 k xs (xs.length : Int) (i : Int) false os xs) b := fun b hb => ev_shift (by simp only [impl_IsValidMachine.j2, Bool.false_eq_true, if_false, e1]; exact hb)
  by_cases h1 : 0 ≤ (rd_T91 xs (i : Int)).f0 ∧ (rd_T91 xs (i : Int)).f0 ≤ 2
  · by_cases h0 : 0 < i
    · have c3 : (i : Int) > 0 := by omega
      have c4 : (0 : Int) ≤ (i : Int) - 1 := by omega
      have c5 : (i : Int) - 1 < (xs.length : Int) := by omega
      by_cases h4 : (rd_T91 xs ((i : Int) - 1)).f0 < (rd_T91 xs (i : Int)).f0
      · have c6 : ¬ ((rd_T91 xs (i : Int)).f0 ≤ (rd_T91 xs ((i : Int) - 1)).f0) := by omega
        by_cases h2 : 1 ≤ (rd_T91 xs (i : Int)).f1 ∧ (rd_T91 xs (i : Int)).f1 ≤ 99
        · by_cases h3 : 0 ≤ (rd_T91 xs (i : Int)).f2.f1 ∧ (rd_T91 xs (i : Int)).f2.f1 ≤ 9
          · refine .inl ⟨⟨h1, h2, h3, fun _ => h4⟩, fun b hb => ev_shift ?_⟩
            simp only [impl_IsValidMachine.l0, if_pos c1, if_pos c2, impl_within.val, Option.bind_some, decide_eq_true h1, decide_eq_true h2, decide_eq_true h3, if_true, if_pos c3, e2, if_pos c4, if_pos c5, if_neg c6, Bool.not_true]
            exact hyes b hb
          · refine .inr ⟨fun hh => h3 hh.2.2.1, ev_shift ?_⟩
            simp only [impl_IsValidMachine.l0, if_pos c1, if_pos c2, impl_within.val, Option.bind_some, decide_eq_true h1, decide_eq_true h2, decide_eq_false h3, if_true, if_pos c3, e2, if_pos c4, if_pos c5, if_neg c6, Bool.not_false]
            exact hno
        · refine .inr ⟨fun hh => h2 hh.2.1, ev_shift ?_⟩
          simp only [impl_IsValidMachine.l0, if_pos c1, if_pos c2, impl_within.val, Option.bind_some, decide_eq_true h1, decide_eq_false h2, if_true, if_pos c3, e2, if_pos c4, if_pos c5, if_neg c6, Bool.false_eq_true, if_false]
          exact hno
      · refine .inr ⟨fun hh => h4 (hh.2.2.2 h0), ev_shift ?_⟩
        simp only [impl_IsValidMachine.l0, if_pos c1, if_pos c2, impl_within.val, Option.bind_some, decide_eq_true h1, if_true, if_pos c3, e2, if_pos c4, if_pos c5, if_pos (show (rd_T91 xs (i : Int)).f0 ≤ (rd_T91 xs ((i : Int) - 1)).f0 by omega)]
        exact hno
    · have c3 : ¬ ((i : Int) > 0) := by omega
      by_cases h2 : 1 ≤ (rd_T91 xs (i : Int)).f1 ∧ (rd_T91 xs (i : Int)).f1 ≤ 99
      · by_cases h3 : 0 ≤ (rd_T91 xs (i : Int)).f2.f1 ∧ (rd_T91 xs (i : Int)).f2.f1 ≤ 9
        · refine .inl ⟨⟨h1, h2, h3, fun h => absurd h h0⟩, fun b hb => ev_shift ?_⟩
          simp only [impl_IsValidMachine.l0, if_pos c1, if_pos c2, impl_within.val, Option.bind_some, decide_eq_true h1, decide_eq_true h2, decide_eq_true h3, if_true, if_neg c3, Bool.not_true]
          exact hyes b hb
        · refine .inr ⟨fun hh => h3 hh.2.2.1, ev_shift ?_⟩
          simp only [impl_IsValidMachine.l0, if_pos c1, if_pos c2, impl_within.val, Option.bind_some, decide_eq_true h1, decide_eq_true h2, decide_eq_false h3, if_true, if_neg c3, Bool.not_false]
          exact hno
      · refine .inr ⟨fun hh => h2 hh.2.1, ev_shift ?_⟩
        simp only [impl_IsValidMachine.l0, if_pos c1, if_pos c2, impl_within.val, Option.bind_some, decide_eq_true h1, decide_eq_false h2, if_true, if_neg c3, Bool.false_eq_true, if_false]
        exact hno
  · refine .inr ⟨fun hh => h1 hh.1, ev_shift ?_⟩
    simp only [impl_IsValidMachine.l0, if_pos c1, if_pos c2, impl_within.val, Option.bind_some, decide_eq_false h1, Bool.false_eq_true, if_false]
    exact hno
theorem impl_IsValidMachine.ev (os : List Int) (xs : List S91) (ho : os.length ≤ 9223372036854775806) (hn : xs.length ≤ 9223372036854775806) : ∃ b, Ev (fun k => impl_IsValidMachine.f k os xs) b ∧ (b = true ↔ vMach os xs) := by
  have hno : Ev (fun k => impl_IsValidMachine.j0 k true os xs) false := ev_shift (ev_val fun k => by simp only [impl_IsValidMachine.j0, if_true])
  by_cases h3 : os.length = 3
  · obtain ⟨c, hc, hr⟩ := impl_IsValidMachine.l0ev os xs hn
    obtain ⟨b, hb, hq⟩ := slices_ContainsFunc_int_int_impl_IsValidMachine_1.ev os ho
    have c0 : (os.length : Int) = 3 := by omega
    cases b with
    | true =>
      refine ⟨false, ?_, by simp only [Bool.false_eq_true, false_iff]; exact fun h => (hq.1 rfl) h.2.1⟩
      simp only [impl_IsValidMachine.f, if_pos c0]
      exact Ev.bind hb hno
    | false =>
      have hob : ∀ j : Nat, j < os.length → 0 ≤ rd os (j : Int) ∧ rd os (j : Int) ≤ 9 := Classical.not_not.1 fun h => by simpa using hq.2 h
      refine ⟨c, ?_, hr.trans ⟨fun h => ⟨h3, hob, h⟩, fun h => h.2.2⟩⟩
      simp only [impl_IsValidMachine.f, if_pos c0]
      refine Ev.bind hb (ev_shift ?_)
      simp only [impl_IsValidMachine.j0, Bool.false_eq_true, if_false]
      exact hc
  · refine ⟨false, ?_, by simp only [Bool.false_eq_true, false_iff]; exact fun h => h3 h.1⟩
    simp only [impl_IsValidMachine.f, if_neg (show ¬ ((os.length : Int) = 3) by omega)]
    exact hno

theorem impl_FormatMachine.l1ev (xs : List S91) (hn : xs.length ≤ 1048576) (hv : ∀ j, j < xs.length → okSes xs j) :
    ∀ s : Nat × List UInt8, (s.1 ≤ xs.length ∧ s.2.length ≤ 60000000 + 70 * s.1) → Ev (fun k => impl_FormatMachine.l1 k (str s.2) xs (xs.length : Int) (s.1 : Int)) (str (s.2 ++ catS (xs.drop s.1))) := by
  refine loop_ev (fun k (s : Nat × List UInt8) => impl_FormatMachine.l1 k (str s.2) xs (xs.length : Int) (s.1 : Int)) _ (fun s => xs.length - s.1) (fun s => str (s.2 ++ catS (xs.drop s.1))) ?_
  rintro ⟨i, acc⟩ ⟨h1, h2⟩
  simp only at h1 h2 ⊢
  by_cases hi : i < xs.length
  · have hl := sesL_len (hv i hi)
    have e1 := w64 (show -9223372036854775808 ≤ (i : Int) + 1 by omega) (by omega)
    refine .inr ⟨(i + 1, acc ++ sesL (rd_T91 xs (i : Int))), ⟨by simp only; omega, by simp only [List.length_append]; omega⟩, by simp only; omega, ?_, ?_⟩
    · simp only [catS_drop xs i hi, List.append_assoc]
    · intro r hr'
      obtain ⟨q1, q2, q3, _⟩ := hv i hi
      have g0 := impl_FormatInt.val (rd_T91 xs (i : Int)).f0 (by omega) (by omega)
      have g1 := impl_FormatInt.val (rd_T91 xs (i : Int)).f1 (by omega) (by omega)
      have g2 := impl_FormatInt.val (rd_T91 xs (i : Int)).f2.f1 (by omega) (by omega)
      have l0 := itoa_len (rd_T91 xs (i : Int)).f0 (by omega) (by omega)
      have l1 := itoa_len (rd_T91 xs (i : Int)).f1 (by omega) (by omega)
      have l2 := itoa_len (rd_T91 xs (i : Int)).f2.f1 (by omega) (by omega)
      obtain ⟨K3, g3⟩ := hr'
      have g3 : ∀ k, K3 ≤ k → impl_FormatMachine.l1 k (str (acc ++ sesL (rd_T91 xs (i : Int)))) xs (xs.length : Int) ((i : Int) + 1) = some r := fun k hk => by simpa using g3 k hk
      have key : ∀ c : UInt8, (if (rd_T91 xs (i : Int)).f2.f0 = true then ([43] : List UInt8) else [45]) = [c] → Ev (fun k => impl_FormatMachine.j2 k (str acc) (str [c]) xs (xs.length : Int) (i : Int) (rd_T91 xs (i : Int)).f0 (rd_T91 xs (i : Int)).f1 (rd_T91 xs (i : Int)).f2.f0 (rd_T91 xs (i : Int)).f2.f1) r := by
        intro c hc
        refine ev_shift ⟨K3, fun k hk => ?_⟩
        simp only [impl_FormatMachine.j2, g0, g1, g2, Option.bind_some, str_lit, str_append, str_size, List.length_append, List.length_cons, List.length_nil, e1]
        simp (disch := omega) only [if_pos]
        have g4 := g3 k (by omega)
        simp only [sesL, hc, List.append_assoc] at g4 ⊢
        exact g4
      refine ev_shift ?_
      simp only [impl_FormatMachine.l1, if_pos (show (i : Int) < (xs.length : Int) by omega), if_pos (show (0 : Int) ≤ (i : Int) by omega)]
      cases hd : (rd_T91 xs (i : Int)).f2.f0 with
      | true => simp only [if_true, str_lit]; have := key 43 (by rw [hd]; rfl); rw [hd] at this; exact this
      | false => simp only [Bool.false_eq_true, if_false, str_lit]; have := key 45 (by rw [hd]; rfl); rw [hd] at this; exact this
  · refine .inl (ev_shift (ev_val fun k => ?_))
    simp only [impl_FormatMachine.l1, if_neg (show ¬ ((i : Int) < (xs.length : Int)) by omega), List.drop_eq_nil_of_le (show xs.length ≤ i by omega), catS, List.flatMap_nil, List.append_nil]
theorem impl_FormatMachine.l0ev (os : List Int) (xs : List S91) (ho : os.length ≤ 1048576) (hn : xs.length ≤ 1048576) (hv : ∀ j, j < xs.length → okSes xs j) (hr : ∀ j : Nat, j < os.length → 0 ≤ rd os (j : Int) ∧ rd os (j : Int) ≤ 9) :
    ∀ s : Nat × List UInt8, (s.1 ≤ os.length ∧ s.2.length ≤ 20 * s.1) → Ev (fun k => impl_FormatMachine.l0 k (str s.2) os (os.length : Int) (s.1 : Int) os xs) (str (s.2 ++ catI (os.drop s.1) ++ catS xs)) := by
  refine loop_ev (fun k (s : Nat × List UInt8) => impl_FormatMachine.l0 k (str s.2) os (os.length : Int) (s.1 : Int) os xs) _ (fun s => os.length - s.1) (fun s => str (s.2 ++ catI (os.drop s.1) ++ catS xs)) ?_
  rintro ⟨i, acc⟩ ⟨h1, h2⟩
  simp only at h1 h2 ⊢
  by_cases hi : i < os.length
  · obtain ⟨r0, r1⟩ := hr i hi
    have hl := itoa_len (rd os (i : Int)) (by omega) (by omega)
    have e1 := w64 (show -9223372036854775808 ≤ (i : Int) + 1 by omega) (by omega)
    refine .inr ⟨(i + 1, acc ++ Lib.itoa (rd os (i : Int))), ⟨by simp only; omega, by simp only [List.length_append]; omega⟩, by simp only; omega, ?_, ?_⟩
    · simp only [catI_drop os i hi, List.append_assoc]
    · intro r hr'
      refine ev_shift ?_
      simp only [impl_FormatMachine.l0, if_pos (show (i : Int) < (os.length : Int) by omega), if_pos (show (0 : Int) ≤ (i : Int) by omega), impl_FormatInt.val (rd os (i : Int)) (by omega) (by omega), Option.bind_some, str_size, str_append, if_pos (show acc.length + (Lib.itoa (rd os (i : Int))).length ≤ 9223372036854775807 by omega), e1]
      exact hr'
  · refine .inl (ev_shift ?_)
    simp only [impl_FormatMachine.l0, if_neg (show ¬ ((i : Int) < (os.length : Int)) by omega), List.drop_eq_nil_of_le (show os.length ≤ i by omega), catI, List.flatMap_nil, List.append_nil]
    have := impl_FormatMachine.l1ev xs hn hv (0, acc) ⟨by simp, by simp only; omega⟩
    simpa using this
theorem impl_FormatMachine.ev (os : List Int) (xs : List S91) (ho : os.length ≤ 1048576) (hn : xs.length ≤ 1048576) (b : Bool) (hb : Ev (fun k => impl_IsValidMachine.f k os xs) b) (hv : b = true → vMach os xs) :
    Ev (fun k => impl_FormatMachine.f k os xs) (str (machL b os xs)) := by
  refine Ev.bind hb ?_
  cases b with
  | false => exact ev_val fun _ => rfl
  | true =>
    obtain ⟨v1, v2, v3⟩ := hv rfl
    simp only [if_true, machL]
    exact impl_FormatMachine.l0ev os xs ho hn v3 v2 (0, []) ⟨by simp, by simp⟩

theorem impl_SnapshotText.ev (p q : Int) (os : List Int) (xs : List S91) (ho : os.length ≤ 1048576) (hn : xs.length ≤ 1048576) (b : Bool) (hb : Ev (fun k => impl_IsValidMachine.f k os xs) b) (hv : b = true → vMach os xs) :
    Ev (fun k => impl_SnapshotText.f k p q os xs) (str (snapL p q b os xs)) := by
  have hno : ¬ snapG p q b → Ev (fun k => impl_SnapshotText.j0 k true p q os xs) (str (snapL p q b os xs)) := fun hg => by
    refine ev_shift (ev_val fun k => ?_)
    simp only [impl_SnapshotText.j0, if_true, snapL, if_neg hg]
    rfl
  simp only [impl_SnapshotText.f, impl_within.val, Option.bind_some]
  by_cases h1 : 0 ≤ p ∧ p ≤ 16
  · by_cases h2 : 0 ≤ q ∧ q ≤ 9972
    · simp only [decide_eq_true h1, decide_eq_true h2, if_true]
      refine Ev.bind hb ?_
      by_cases h3 : b = true
      · obtain ⟨K2, g2⟩ := impl_FormatMachine.ev os xs ho hn b hb hv
        have g0 := impl_FormatInt.val p (by omega) (by omega)
        have g1 := impl_FormatInt.val q (by omega) (by omega)
        have l0 := itoa_len p (by omega) (by omega)
        have l1 := itoa_len q (by omega) (by omega)
        have l2 := machL_len b os xs ho hn hv
        subst h3
        refine ev_shift ⟨K2, fun k hk => ?_⟩
        simp only [impl_SnapshotText.j0, Bool.not_true, Bool.false_eq_true, if_false, g0, g1, g2 k hk, Option.bind_some, str_lit, str_append, str_size, List.length_append, List.length_cons, List.length_nil]
        simp (disch := omega) only [if_pos]
        rw [snapL, if_pos ⟨h1, h2, rfl⟩]
      · obtain rfl : b = false := by simpa using h3
        exact hno (fun hg => by simpa using hg.2.2)
    · simp only [decide_eq_true h1, decide_eq_false h2, if_true, Bool.false_eq_true, if_false]
      exact hno (fun hg => h2 hg.2.1)
  · simp only [decide_eq_false h1, Bool.false_eq_true, if_false]
    exact hno (fun hg => h1 hg.1)

theorem laws_eqIntS.ev (xs ys : List Int) (hn : xs.length ≤ 9223372036854775806) : ∃ b, Ev (fun k => laws_eqIntS.f k xs ys) b ∧ (b = true ↔ xs = ys) := by
  by_cases hl : xs.length = ys.length
  · obtain ⟨b, hb, hq⟩ := all_loop (fun k i => laws_eqIntS.l0 k xs ys i) (fun i => rd xs (i : Int) = rd ys (i : Int)) xs.length
      (fun k => by simp only [laws_eqIntS.l0, if_neg (show ¬ ((xs.length : Int) < (xs.length : Int)) by omega)])
      (fun i hi => by
        by_cases h : rd xs (i : Int) = rd ys (i : Int)
        · exact .inl ⟨h, 0, fun k _ => by simp only [laws_eqIntS.l0, if_pos (show (i : Int) < (xs.length : Int) by omega), if_pos (show (0 : Int) ≤ (i : Int) by omega), if_pos (show (i : Int) < (ys.length : Int) by omega), if_pos h, w64 (show -9223372036854775808 ≤ (i : Int) + 1 by omega) (by omega)]⟩
        · exact .inr ⟨h, 0, fun k _ => by simp only [laws_eqIntS.l0, if_pos (show (i : Int) < (xs.length : Int) by omega), if_pos (show (0 : Int) ≤ (i : Int) by omega), if_pos (show (i : Int) < (ys.length : Int) by omega), if_neg h]⟩)
      xs.length 0 (by omega)
    refine ⟨b, ?_, hq.trans ?_⟩
    · refine Ev.congr (fun k => ?_) hb
      simp only [laws_eqIntS.f, if_pos (show (xs.length : Int) = (ys.length : Int) by omega)]
      rfl
    · constructor
      · intro h
        refine List.ext_getElem hl (fun i h1 h2 => ?_)
        have := h i (by omega) h1
        rwa [rd_get xs i h1, rd_get ys i h2] at this
      · intro h; subst h; intro j _ _; rfl
  · refine ⟨false, ev_val (fun k => ?_), ?_⟩
    · simp only [laws_eqIntS.f, if_neg (show ¬ ((xs.length : Int) = (ys.length : Int)) by omega)]
    · constructor
      · intro h; cases h
      · intro h; subst h; exact absurd rfl hl
theorem laws_eqIntS.same (xs : List Int) (hn : xs.length ≤ 9223372036854775806) : Ev (fun k => laws_eqIntS.f k xs xs) true := by
  obtain ⟨b, hb, hq⟩ := laws_eqIntS.ev xs xs hn
  exact ev_eq hb (hq.2 rfl)

theorem laws_eqResult.val (a : Bool) (b : Int) (a' : Bool) (b' : Int) : laws_eqResult.f a b a' b' = some (decide (a = a' ∧ b = b')) := by
  unfold laws_eqResult.f
  by_cases h1 : a = a' <;> by_cases h2 : b = b' <;> simp [h1, h2]

theorem laws_eqSession.val0 (a b : Int) (c : Bool) (d a' b' : Int) (c' : Bool) (d' : Int) : laws_eqSession.f a b c d a' b' c' d' = some (decide (a = a' ∧ b = b' ∧ c = c' ∧ d = d')) := by
  unfold laws_eqSession.f
  simp only [laws_eqResult.val, Option.bind_some]
  by_cases h1 : a = a' <;> by_cases h2 : b = b' <;> by_cases h3 : c = c' <;> by_cases h4 : d = d' <;> simp [h1, h2, h3, h4]
theorem laws_eqSession.val (x y : S91) : ∃ b, laws_eqSession.f x.f0 x.f1 x.f2.f0 x.f2.f1 y.f0 y.f1 y.f2.f0 y.f2.f1 = some b ∧ (b = true ↔ x = y) :=
  ⟨_, laws_eqSession.val0 _ _ _ _ _ _ _ _, by rw [decide_eq_true_iff, ses_eq]⟩

theorem laws_eqSessionS.ev (xs ys : List S91) (hn : xs.length ≤ 9223372036854775806) : ∃ b, Ev (fun k => laws_eqSessionS.f k xs ys) b ∧ (b = true ↔ xs = ys) := by
  by_cases hl : xs.length = ys.length
  · obtain ⟨b, hb, hq⟩ := eq_loop (fun k i => laws_eqSessionS.l0 k xs ys i) xs ys hl
      (fun k => by simp only [laws_eqSessionS.l0, if_neg (show ¬ ((xs.length : Int) < (xs.length : Int)) by omega)])
      (fun i h1 h2 => by
        obtain ⟨b, hb, hq⟩ := laws_eqSession.val xs[i] ys[i]
        cases b with
        | true => exact .inl ⟨hq.1 rfl, 0, fun k _ => by simp only [laws_eqSessionS.l0, if_pos (show (i : Int) < (xs.length : Int) by omega), if_pos (show (0 : Int) ≤ (i : Int) by omega), if_pos (show (i : Int) < (ys.length : Int) by omega), rdS xs i h1, rdS ys i h2, hb, Option.bind_some, if_true, w64 (show -9223372036854775808 ≤ (i : Int) + 1 by omega) (by omega)]⟩
        | false => exact .inr ⟨fun h => by simpa using hq.2 h, 0, fun k _ => by simp only [laws_eqSessionS.l0, if_pos (show (i : Int) < (xs.length : Int) by omega), if_pos (show (0 : Int) ≤ (i : Int) by omega), if_pos (show (i : Int) < (ys.length : Int) by omega), rdS xs i h1, rdS ys i h2, hb, Option.bind_some, Bool.false_eq_true, if_false]⟩)
    refine ⟨b, ?_, hq⟩
    refine Ev.congr (fun k => ?_) hb
    simp only [laws_eqSessionS.f, if_pos (show (xs.length : Int) = (ys.length : Int) by omega)]
  · refine ⟨false, ev_val (fun k => ?_), ?_⟩
    · simp only [laws_eqSessionS.f, if_neg (show ¬ ((xs.length : Int) = (ys.length : Int)) by omega)]
    · constructor
      · intro h; cases h
      · intro h; subst h; exact absurd rfl hl
theorem laws_eqSessionS.same (xs : List S91) (hn : xs.length ≤ 9223372036854775806) : Ev (fun k => laws_eqSessionS.f k xs xs) true := by
  obtain ⟨b, hb, hq⟩ := laws_eqSessionS.ev xs xs hn
  exact ev_eq hb (hq.2 rfl)

theorem laws_eqMachine.ev (os : List Int) (xs : List S91) (os' : List Int) (xs' : List S91) (ho : os.length ≤ 9223372036854775806) (hn : xs.length ≤ 9223372036854775806) :
    ∃ b, Ev (fun k => laws_eqMachine.f k os xs os' xs') b ∧ (b = true ↔ os = os' ∧ xs = xs') := by
  obtain ⟨b, hb, hq⟩ := laws_eqIntS.ev os os' ho
  obtain ⟨c, hc, hr⟩ := laws_eqSessionS.ev xs xs' hn
  cases b with
  | true =>
    cases c with
    | true => exact ⟨true, Ev.bind hb (Ev.bind hc (ev_val fun _ => by simp)), by simp only [true_iff]; exact ⟨hq.1 rfl, hr.1 rfl⟩⟩
    | false => exact ⟨false, Ev.bind hb (Ev.bind hc (ev_val fun _ => by simp)), by simp only [Bool.false_eq_true, false_iff]; exact fun h => by simpa using hr.2 h.2⟩
  | false => exact ⟨false, Ev.bind hb (ev_val fun _ => by simp), by simp only [Bool.false_eq_true, false_iff]; exact fun h => by simpa using hq.2 h.1⟩
theorem laws_eqMachine.same (os : List Int) (xs : List S91) (ho : os.length ≤ 9223372036854775806) (hn : xs.length ≤ 9223372036854775806) : Ev (fun k => laws_eqMachine.f k os xs os xs) true := by
  obtain ⟨b, hb, hq⟩ := laws_eqMachine.ev os xs os xs ho hn
  exact ev_eq hb (hq.2 ⟨rfl, rfl⟩)

theorem laws_eqSnapshot.same (p q : Int) (os : List Int) (xs : List S91) (ho : os.length ≤ 9223372036854775806) (hn : xs.length ≤ 9223372036854775806) : Ev (fun k => laws_eqSnapshot.f k p q os xs p q os xs) true := by
  simp only [laws_eqSnapshot.f, if_true]
  refine Ev.bind (laws_eqMachine.same os xs ho hn) ?_
  simp only [if_true]
  exact Ev.now _

theorem FnExactSnapshotText : FnExactSnapshotTextPure := by
  intro x h
  refine Ev.rounds (g := fun k => laws_FnExactSnapshotText.f k x.f0 x.f1 x.f2.f0 x.f2.f1) ?_
  have hx := h.2.2
  obtain ⟨r, hr, hq⟩ := laws_szSnapshot.val x.f0 x.f1 x.f2.f0 x.f2.f1 1048576 hx.1.1 hx.2.1 (by omega) (by omega)
  simp only [laws_FnExactSnapshotText.f, hr, Option.bind_some]
  by_cases hneg : r < 0
  · simp only [if_pos hneg]; exact Ev.now _
  · obtain ⟨e1, e2, e3⟩ := hq hneg
    simp only [if_neg hneg]
    have hT := laws_toSnapshot.ev x.f0 x.f1 x.f2.f0 x.f2.f1 (by omega) (by omega)
    have hl : (x.f2.f1.map toS).length ≤ 1048576 := by simp; omega
    obtain ⟨b, hb1, hq1⟩ := spec_IsValidMachine.ev x.f2.f0 (x.f2.f1.map toS) (by omega) (by omega)
    obtain ⟨c, hc1, hq2⟩ := impl_IsValidMachine.ev x.f2.f0 (x.f2.f1.map toS) (by omega) (by omega)
    obtain rfl : c = b := by rw [Bool.eq_iff_iff, hq1, hq2]
    refine Ev.bind hT (Ev.bind (spec_SnapshotText.ev x.f0 x.f1 x.f2.f0 (x.f2.f1.map toS) (by omega) hl c hb1 hq1.1) (Ev.bind hT (Ev.bind (impl_SnapshotText.ev x.f0 x.f1 x.f2.f0 (x.f2.f1.map toS) (by omega) hl c hc1 hq1.1) ?_)))
    simp only [if_true]
    exact Ev.bind hT (Ev.bind (laws_eqSnapshot.same _ _ _ _ (by omega) (by omega)) (ev_val (fun _ => by simp)))

end Go.Proofs.YtlnkpjjmgkmofaaDoor.Pure
