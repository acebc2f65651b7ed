/- For every string the law FnExactDecodeHex returns true; no conditions. -/
import Derived.Test.YtgannaafabhopaaQFnExactDecodeHex
import Derived.Test.YtgannaafabhopaaCom
set_option linter.unusedVariables false
set_option linter.unusedSimpArgs false
namespace Go.Proofs.Ytgannaafabhopaa.Pure
open Go.RowKit Go.Proofs.Ytgannaafabhopaa.A Go.Proofs.YtgannaafabhopaaW.PrintWords Go.Proofs.YtgannaafabhopaaW.PrintLast
open Go.Proofs.Ytgannaafabhopaa.Opens
open Go.Proofs.Ytgannaafabhopaa.Com

/-- The sixteen digits. -/
def hexTab : ByteArray := ⟨#[48, 49, 50, 51, 52, 53, 54, 55, 56, 57, 97, 98, 99, 100, 101, 102]⟩
/-- A byte's two digits. -/
def hexOf (b : Int) : List Int := [bt hexTab (b / 16), bt hexTab (b % 16)]
/-- The digits of all bytes. -/
def hexAll (l : List Int) : List Int := l.flatMap hexOf
theorem hexAll_length (l : List Int) : (hexAll l).length = 2 * l.length := by
  induction l with
  | nil => rfl
  | cons b l ih => simp only [hexAll, List.flatMap_cons, List.length_append, List.length_cons] at ih ⊢; rw [ih]; simp [hexOf]; omega

theorem spec_l1Digit.val (a : Int) (h0 : 0 ≤ a) (h1 : a < 16) : spec_l1Digit.f a = some (bt hexTab a) := by
  unfold spec_l1Digit.f
  rw [if_pos h0, if_pos h1]; rfl

/-- A digit's value, or -1. -/
def halfV (b : Int) : Int := if 48 ≤ b ∧ b ≤ 57 then b - 48 else if 97 ≤ b ∧ b ≤ 102 then b - 87 else -1
theorem halfV_range (b : Int) : -1 ≤ halfV b ∧ halfV b ≤ 15 := by unfold halfV; split; omega; split <;> omega
/-- The bytes that digits stand for. -/
def hexDec : List Int → Option (List Int)
  | [] => some []
  | [_] => none
  | a :: b :: r => if halfV a < 0 ∨ halfV b < 0 then none else (hexDec r).map fun l => (16 * halfV a + halfV b) :: l
def hexOut (acc : List Int) : Option (List Int) → ByteArray × Bool
  | none => (⟨#[]⟩, false)
  | some l => (strOfNums (acc ++ l), true)
theorem hexOut_step (acc : List Int) (v : Int) (o : Option (List Int)) : hexOut acc (o.map fun l => v :: l) = hexOut (acc ++ [v]) o := by
  cases o with
  | none => rfl
  | some l => simp [hexOut]
theorem hexTab_val (i : Nat) (h : i < 16) : bt hexTab (i : Int) = if i < 10 then 48 + (i : Int) else 87 + (i : Int) := by
  have : i = 0 ∨ i = 1 ∨ i = 2 ∨ i = 3 ∨ i = 4 ∨ i = 5 ∨ i = 6 ∨ i = 7 ∨ i = 8 ∨ i = 9 ∨ i = 10 ∨ i = 11 ∨ i = 12 ∨ i = 13 ∨ i = 14 ∨ i = 15 := by omega
  rcases this with rfl | rfl | rfl | rfl | rfl | rfl | rfl | rfl | rfl | rfl | rfl | rfl | rfl | rfl | rfl | rfl <;> rfl

theorem spec_l1FromHex.ev (b : Int) : Ev (fun k => spec_l1FromHex.f k b) (halfV b) := by
  have key : ∀ d i : Nat, i + d = 16 → (∀ j : Nat, j < i → bt hexTab (j : Int) ≠ b) → Ev (fun k => spec_l1FromHex.l0 k b (i : Int)) (halfV b) := by
    intro d
    induction d with
    | zero =>
      intro i h hall
      refine ev_shift ?_
      simp only [spec_l1FromHex.l0, if_neg (show ¬ ((i : Int) < 16) by omega)]
      refine ev_some ?_
      unfold halfV
      by_cases h1 : 48 ≤ b ∧ b ≤ 57
      · exfalso
        have := hall (b - 48).toNat (by omega)
        rw [hexTab_val _ (by omega), if_pos (by omega)] at this
        omega
      · rw [if_neg h1]
        by_cases h2 : 97 ≤ b ∧ b ≤ 102
        · exfalso
          have := hall (b - 87).toNat (by omega)
          rw [hexTab_val _ (by omega), if_neg (by omega)] at this
          omega
        · rw [if_neg h2]
    | succ d ih =>
      intro i h hall
      refine ev_shift ?_
      simp only [spec_l1FromHex.l0, if_pos (show (i : Int) < 16 by omega), spec_l1Digit.val (i : Int) (by omega) (by omega), Option.bind_some, w64 (show -9223372036854775808 ≤ (i : Int) + 1 by omega) (by omega)]
      by_cases he : bt hexTab (i : Int) = b
      · simp only [if_pos he]
        refine ev_some ?_
        rw [hexTab_val i (by omega)] at he
        unfold halfV
        split at he
        · rw [if_pos ⟨by omega, by omega⟩]; omega
        · rw [if_neg (fun h => by omega), if_pos ⟨by omega, by omega⟩]; omega
      · simp only [if_neg he]
        have := ih (i + 1) (by omega) (fun j hj => by
          rcases Nat.lt_or_ge j i with h1 | h1
          · exact hall j h1
          · obtain rfl : j = i := by omega
            exact he)
        simpa using this
  have := key 16 0 (by omega) (fun j hj => by omega)
  simpa [spec_l1FromHex.f] using this

theorem spec_DecodeHex.loop (s : ByteArray) (hn : s.size ≤ 70368744177000) : ∀ (d i : Nat) (acc : List Int), i + 2 * d = s.size → acc.length ≤ i →
    Ev (fun k => spec_DecodeHex.l0 k s acc (i : Int)) (hexOut acc (hexDec ((bytesOf s).drop i))) := by
  intro d
  induction d with
  | zero =>
    intro i acc h ha
    refine ev_shift ?_
    simp only [spec_DecodeHex.l0, if_neg (show ¬ ((i : Int) < (s.size : Int)) by omega)]
    exact ev_some (by rw [bytes_end s i (by omega)]; simp [hexDec, hexOut])
  | succ d ih =>
    intro i acc h ha
    have hb := bt_range s (i : Int)
    have hb' := bt_range s ((i : Int) + 1)
    have e2 : bt s ((i + 1 : Nat) : Int) = bt s ((i : Int) + 1) := by rw [show ((i + 1 : Nat) : Int) = (i : Int) + 1 by omega]
    have r1 := halfV_range (bt s (i : Int))
    have r2 := halfV_range (bt s ((i : Int) + 1))
    refine ev_shift ?_
    simp only [spec_DecodeHex.l0, if_pos (show (i : Int) < (s.size : Int) by omega), if_pos (show (0 : Int) ≤ (i : Int) by omega), w64 (show -9223372036854775808 ≤ (i : Int) + 1 by omega) (by omega), w64 (show -9223372036854775808 ≤ (i : Int) + 2 by omega) (by omega),
      if_pos (show (0 : Int) ≤ (i : Int) + 1 by omega), if_pos (show (i : Int) + 1 < (s.size : Int) by omega)]
    refine Ev.bind (spec_l1FromHex.ev _) (Ev.bind (spec_l1FromHex.ev _) ?_)
    rw [bytes_cons s i (by omega), bytes_cons s (i + 1) (by omega), e2, hexDec]
    by_cases h1 : halfV (bt s (i : Int)) < 0
    · simp only [if_pos h1, if_pos (show halfV (bt s (i : Int)) < 0 ∨ halfV (bt s ((i : Int) + 1)) < 0 from .inl h1), hexOut]
      exact Ev.now _
    · by_cases h2 : halfV (bt s ((i : Int) + 1)) < 0
      · simp only [if_neg h1, if_pos h2, if_pos (show halfV (bt s (i : Int)) < 0 ∨ halfV (bt s ((i : Int) + 1)) < 0 from .inr h2), hexOut]
        exact Ev.now _
      · simp only [if_neg h1, if_neg h2, if_neg (show ¬ (halfV (bt s (i : Int)) < 0 ∨ halfV (bt s ((i : Int) + 1)) < 0) from fun h => h.elim h1 h2), hexOut_step, if_pos (show acc.length < 140737488355328 by omega),
          w64 (show -9223372036854775808 ≤ 16 * halfV (bt s (i : Int)) by omega) (by omega), w64 (show -9223372036854775808 ≤ 16 * halfV (bt s (i : Int)) + halfV (bt s ((i : Int) + 1)) by omega) (by omega),
          show (16 * halfV (bt s (i : Int)) + halfV (bt s ((i : Int) + 1))) % 256 = 16 * halfV (bt s (i : Int)) + halfV (bt s ((i : Int) + 1)) by omega]
        have := ih (i + 2) (acc ++ [16 * halfV (bt s (i : Int)) + halfV (bt s ((i : Int) + 1))]) (by omega) (by simp; omega)
        simpa using this
/-- What both answer. -/
theorem spec_DecodeHex.ev (s : ByteArray) (hn : s.size ≤ 70368744177000) : Ev (fun k => spec_DecodeHex.f k s) (if s.size % 2 = 1 then (⟨#[]⟩, false) else hexOut [] (hexDec (bytesOf s))) := by
  by_cases h : s.size % 2 = 1
  · simp only [spec_DecodeHex.f, if_pos h, if_pos (show (s.size : Int) % 2 = 1 by omega)]
    exact Ev.now _
  · simp only [spec_DecodeHex.f, if_neg h, if_neg (show ¬ ((s.size : Int) % 2 = 1) by omega)]
    exact spec_DecodeHex.loop s hn (s.size / 2) 0 [] (by omega) (by simp)

theorem impl_half.ev (b : Int) (h0 : 0 ≤ b) (h1 : b ≤ 255) : Ev (fun k => impl_half.f k b) (halfV b) := by
  have hf : Ev (fun k => impl_half.j0 k b false) (if 97 ≤ b ∧ b ≤ 102 then b - 87 else -1) := by
    refine ev_shift ?_
    simp only [impl_half.j0, Bool.false_eq_true, if_false]
    by_cases h2 : b ≥ 97
    · by_cases h3 : b ≤ 102
      · simp only [if_pos h2, if_pos h3, if_pos (show 97 ≤ b ∧ b ≤ 102 from ⟨h2, h3⟩)]
        exact ev_some (by omega)
      · simp only [if_pos h2, if_neg h3, if_neg (show ¬ (97 ≤ b ∧ b ≤ 102) from fun h => h3 h.2)]
        exact Ev.now _
    · simp only [if_neg h2, if_neg (show ¬ (97 ≤ b ∧ b ≤ 102) from fun h => h2 h.1)]
      exact Ev.now _
  by_cases ha : b ≥ 48
  · by_cases hb : b ≤ 57
    · simp only [impl_half.f, if_pos ha, decide_eq_true hb, halfV, if_pos (show 48 ≤ b ∧ b ≤ 57 from ⟨ha, hb⟩)]
      refine ev_shift ?_
      simp only [impl_half.j0, if_true]
      exact ev_some (by omega)
    · simp only [impl_half.f, if_pos ha, decide_eq_false hb, halfV, if_neg (show ¬ (48 ≤ b ∧ b ≤ 57) from fun h => hb h.2)]
      exact hf
  · simp only [impl_half.f, if_neg ha, halfV, if_neg (show ¬ (48 ≤ b ∧ b ≤ 57) from fun h => ha h.1)]
    exact hf

theorem impl_DecodeHex.loop (s : ByteArray) (hn : s.size ≤ 70368744177000) : ∀ (d i : Nat) (acc : List Int), i + 2 * d = s.size → acc.length ≤ i →
    Ev (fun k => impl_DecodeHex.l0 k s acc (i : Int)) (hexOut acc (hexDec ((bytesOf s).drop i))) := by
  intro d
  induction d with
  | zero =>
    intro i acc h ha
    refine ev_shift ?_
    simp only [impl_DecodeHex.l0, if_neg (show ¬ ((i : Int) < (s.size : Int)) by omega)]
    exact ev_some (by rw [bytes_end s i (by omega)]; simp [hexDec, hexOut])
  | succ d ih =>
    intro i acc h ha
    have hb := bt_range s (i : Int)
    have hb' := bt_range s ((i : Int) + 1)
    have e2 : bt s ((i + 1 : Nat) : Int) = bt s ((i : Int) + 1) := by rw [show ((i + 1 : Nat) : Int) = (i : Int) + 1 by omega]
    have r1 := halfV_range (bt s (i : Int))
    have r2 := halfV_range (bt s ((i : Int) + 1))
    refine ev_shift ?_
    simp only [impl_DecodeHex.l0, if_pos (show (i : Int) < (s.size : Int) by omega), if_pos (show (0 : Int) ≤ (i : Int) by omega), w64 (show -9223372036854775808 ≤ (i : Int) + 1 by omega) (by omega), w64 (show -9223372036854775808 ≤ (i : Int) + 2 by omega) (by omega),
      if_pos (show (0 : Int) ≤ (i : Int) + 1 by omega), if_pos (show (i : Int) + 1 < (s.size : Int) by omega)]
    refine Ev.bind (impl_half.ev _ hb.1 hb.2) (Ev.bind (impl_half.ev _ hb'.1 hb'.2) ?_)
    rw [bytes_cons s i (by omega), bytes_cons s (i + 1) (by omega), e2, hexDec]
    by_cases h1 : halfV (bt s (i : Int)) < 0
    · simp only [if_pos h1, if_pos (show halfV (bt s (i : Int)) < 0 ∨ halfV (bt s ((i : Int) + 1)) < 0 from .inl h1), hexOut]
      exact Ev.now _
    · by_cases h2 : halfV (bt s ((i : Int) + 1)) < 0
      · simp only [if_neg h1, if_pos h2, if_pos (show halfV (bt s (i : Int)) < 0 ∨ halfV (bt s ((i : Int) + 1)) < 0 from .inr h2), hexOut]
        exact Ev.now _
      · simp only [if_neg h1, if_neg h2, if_neg (show ¬ (halfV (bt s (i : Int)) < 0 ∨ halfV (bt s ((i : Int) + 1)) < 0) from fun h => h.elim h1 h2), hexOut_step, if_pos (show acc.length < 140737488355328 by omega),
          w64 (show -9223372036854775808 ≤ 16 * halfV (bt s (i : Int)) by omega) (by omega), w64 (show -9223372036854775808 ≤ 16 * halfV (bt s (i : Int)) + halfV (bt s ((i : Int) + 1)) by omega) (by omega),
          show (16 * halfV (bt s (i : Int)) + halfV (bt s ((i : Int) + 1))) % 256 = 16 * halfV (bt s (i : Int)) + halfV (bt s ((i : Int) + 1)) by omega]
        have := ih (i + 2) (acc ++ [16 * halfV (bt s (i : Int)) + halfV (bt s ((i : Int) + 1))]) (by omega) (by simp; omega)
        simpa using this
/-- What both answer. -/
theorem impl_DecodeHex.ev (s : ByteArray) (hn : s.size ≤ 70368744177000) : Ev (fun k => impl_DecodeHex.f k s) (if s.size % 2 = 1 then (⟨#[]⟩, false) else hexOut [] (hexDec (bytesOf s))) := by
  by_cases h : s.size % 2 = 1
  · simp only [impl_DecodeHex.f, if_pos h, if_pos (show (s.size : Int) % 2 = 1 by omega)]
    exact Ev.now _
  · simp only [impl_DecodeHex.f, if_neg h, if_neg (show ¬ ((s.size : Int) % 2 = 1) by omega)]
    exact impl_DecodeHex.loop s hn (s.size / 2) 0 [] (by omega) (by simp)

theorem FnExactDecodeHex : FnExactDecodeHexPure := by
  intro s hs
  refine Ev.rounds (g := fun k => laws_FnExactDecodeHex.f k s) ?_
  by_cases hb : (s.size : Int) > 1048576
  · simp only [laws_FnExactDecodeHex.f, if_pos hb]; exact Ev.now _
  · simp only [laws_FnExactDecodeHex.f, if_neg hb]
    refine Ev.bind (spec_DecodeHex.ev s (by omega)) (Ev.bind (impl_DecodeHex.ev s (by omega)) ?_)
    exact ev_val (fun _ => by simp)

end Go.Proofs.Ytgannaafabhopaa.Pure
