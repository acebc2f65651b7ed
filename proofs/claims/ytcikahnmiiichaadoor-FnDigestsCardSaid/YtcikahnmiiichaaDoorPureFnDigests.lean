/- For every code the law FnDigests returns true; no conditions. -/
import Derived.Test.YtcikahnmiiichaaDoorQFnDigests
import Derived.Test.YtcikahnmiiichaaDoorGCom
set_option linter.unusedVariables false
set_option linter.unusedSimpArgs false
namespace Go.Proofs.YtcikahnmiiichaaDoor.Pure
open Go.RowKit Go.Proofs.YtcikahnmiiichaaDoor.G Go.Proofs.YtcikahnmiiichaaDoorW.PrintWords Go.Proofs.YtcikahnmiiichaaDoorW.PrintLast
open Go.Proofs.YtcikahnmiiichaaDoor.Opens
open Go.Proofs.YtcikahnmiiichaaDoor.Com
open Go.Proofs.YtcikahnmiiichaaDoor.Given

-- nothing to say of it

/-! The cursor of the draws: the code, an index, a mix. -/
theorem and255 (x : Int) : 0 ≤ Go.bits .and .i64 x 255 ∧ Go.bits .and .i64 x 255 ≤ 255 := by
  have h : (BitVec.ofInt IntKind.i64.bits x &&& BitVec.ofInt IntKind.i64.bits 255).toNat ≤ 255 := by
    rw [BitVec.toNat_and]
    refine Nat.le_trans Nat.and_le_right ?_
    decide
  simp only [Go.bits]
  rw [Go.IntKind.wrap_i64]
  omega
/-- Where the index may stand. -/
def CurI (i : Int) : Prop := 0 ≤ i ∧ i ≤ 1048576
theorem cur0 : CurI 0 := ⟨by omega, by omega⟩

theorem spec_l1New.ev (c : List Int) (hc : c.length ≤ 1048576) : ∃ h, Ev (fun k => spec_l1New.f k c) (c, 0, h) := by
  have key : ∀ d i : Nat, i + d = c.length → ∀ h, ∃ h', Ev (fun k => spec_l1New.l0 k c h (i : Int)) (c, 0, h') := by
    intro d
    induction d with
    | zero =>
      intro i hi h
      refine ⟨h, ev_shift (ev_val fun k => ?_)⟩
      simp only [spec_l1New.l0, if_neg (show ¬ ((i : Int) < (c.length : Int)) by omega)]
    | succ d ih =>
      intro i hi h
      by_cases h4 : (i : Int) < 4000
      · obtain ⟨h', hh⟩ := ih (i + 1) (by omega) (Go.bits .and .i64 (wrap64 ((wrap64 ((wrap64 (h * 131)) + (wrap64 (rd c (i : Int))))) + 7)) 1073741823)
        rw [show ((i + 1 : Nat) : Int) = (i : Int) + 1 by omega] at hh
        refine ⟨h', ev_shift (ev_to ⟨0, fun k _ => ?_⟩ hh)⟩
        simp only [spec_l1New.l0, if_pos (show (i : Int) < (c.length : Int) by omega), if_pos h4, if_pos (show (0 : Int) ≤ (i : Int) by omega), w64 (show -9223372036854775808 ≤ (i : Int) + 1 by omega) (by omega)]
      · refine ⟨h, ev_shift (ev_val fun k => ?_)⟩
        simp only [spec_l1New.l0, if_pos (show (i : Int) < (c.length : Int) by omega), if_neg h4]
  exact key c.length 0 (by omega) _

theorem spec_l1Byte.is (c : List Int) (hc : c.length ≤ 1048576) (i h : Int) (hi : CurI i) : ∃ x i' h', spec_l1Byte.f c i h = some (x, i', h') ∧ (0 ≤ x ∧ x ≤ 255) ∧ CurI i' := by
  obtain ⟨h0, h1⟩ := hi
  rw [spec_l1Byte.f]
  by_cases hl : i < (c.length : Int)
  · rw [if_pos hl, if_pos h0, w64 (show -9223372036854775808 ≤ i + 1 by omega) (by omega)]
    exact ⟨_, _, _, rfl, and255 _, by omega, by omega⟩
  · rw [if_neg hl]
    exact ⟨_, _, _, rfl, and255 _, h0, h1⟩

theorem spec_l1Below.is (c : List Int) (hc : c.length ≤ 1048576) (i h n : Int) (hi : CurI i) : ∃ x i' h', spec_l1Below.f c i h n = some (x, i', h') ∧ (n ≤ 0 → x = 0) ∧ (0 < n → 0 ≤ x ∧ x < n) ∧ CurI i' := by
  rw [spec_l1Below.f]
  by_cases h0 : n ≤ 0
  · rw [if_pos h0]
    exact ⟨_, _, _, rfl, fun _ => rfl, fun h => absurd h (by omega), hi⟩
  rw [if_neg h0]
  have hn : 0 < n := by omega
  have hz : ¬ (n = 0) := by omega
  have md : ∀ x : Int, 0 ≤ x → 0 ≤ Int.tmod x n ∧ Int.tmod x n < n := fun x hx => by
    rw [tmod_pos x n hx]; exact ⟨Int.emod_nonneg _ hz, Int.emod_lt_of_pos _ hn⟩
  by_cases h1 : n ≤ 256
  · rw [if_pos h1]
    obtain ⟨x, i', h', e, hx, hi'⟩ := spec_l1Byte.is c hc i h hi
    rw [e]
    simp only [Option.bind_some, if_neg hz]
    exact ⟨_, _, _, rfl, fun h => absurd h h0, fun _ => md x hx.1, hi'⟩
  · rw [if_neg h1]
    obtain ⟨x, i1, g1, e1, hx, hi1⟩ := spec_l1Byte.is c hc i h hi
    obtain ⟨y, i2, g2, e2, hy, hi2⟩ := spec_l1Byte.is c hc i1 g1 hi1
    obtain ⟨z, i3, g3, e3, hz3, hi3⟩ := spec_l1Byte.is c hc i2 g2 hi2
    obtain ⟨w, i4, g4, e4, hw, hi4⟩ := spec_l1Byte.is c hc i3 g3 hi3
    simp only [e1, e2, e3, e4, Option.bind_some, if_neg hz]
    refine ⟨_, _, _, rfl, fun h => absurd h h0, fun _ => md _ ?_, hi4⟩
    simp only [wrap64]
    omega

theorem spec_l1PickInt.is (c : List Int) (hc : c.length ≤ 1048576) (i h : Int) (l : List Int) (hl : 0 < l.length) (hi : CurI i) : ∃ x i' h', spec_l1PickInt.f c i h l = some (x, i', h') ∧ x ∈ l ∧ CurI i' := by
  obtain ⟨x, i', h', e, _, hx, hi'⟩ := spec_l1Below.is c hc i h (l.length : Int) hi
  obtain ⟨h0, h1⟩ := hx (by omega)
  rw [spec_l1PickInt.f, e]
  simp only [Option.bind_some, if_pos h0, if_pos h1]
  refine ⟨_, _, _, rfl, ?_, hi'⟩
  obtain ⟨j, rfl⟩ := Int.eq_ofNat_of_zero_le h0
  rw [rd_get l j (by omega)]
  exact List.getElem_mem _

theorem spec_l1Once.is (c : List Int) (hc : c.length ≤ 1048576) (i h n : Int) (hi : CurI i) : ∃ b i' h', spec_l1Once.f c i h n = some (b, i', h') ∧ CurI i' := by
  obtain ⟨x, i', h', e, _, _, hi'⟩ := spec_l1Below.is c hc i h n hi
  rw [spec_l1Once.f, e]
  exact ⟨_, _, _, rfl, hi'⟩

/-- A drawn operation: it ends; its parts are small numbers. -/
theorem spec_l3Op.is (c : List Int) (hc : c.length ≤ 1048576) (i h : Int) (hi : CurI i) : ∃ o0 o1 o2 o3 o4 o5 i' h', spec_l3Op.f c i h = some (o0, o1, o2, o3, o4, o5, i', h') ∧ CurI i' := by
  obtain ⟨a, i1, h1, e1, _, _, hi1⟩ := spec_l1Below.is c hc i h 3 hi
  obtain ⟨b, i2, h2, e2, _, _, hi2⟩ := spec_l1Below.is c hc i1 h1 5 hi1
  obtain ⟨d, i3, h3, e3, _, _, hi3⟩ := spec_l1Below.is c hc i2 h2 3 hi2
  obtain ⟨e, i4, h4, e4, _, _, hi4⟩ := spec_l1Below.is c hc i3 h3 10 hi3
  obtain ⟨q, i5, h5, e5, hi5⟩ := spec_l1Once.is c hc i4 h4 3 hi4
  cases q with
  | true =>
    obtain ⟨x, i6, h6, e6, _, hi6⟩ := spec_l1PickInt.is c hc i5 h5 [0, 0, 1, 5, 9] (by simp) hi5
    exact ⟨_, _, _, _, _, _, _, _, by simp only [spec_l3Op.f, e1, e2, e3, e4, e5, e6, Option.bind_some, if_true]; rfl, hi6⟩
  | false => exact ⟨_, _, _, _, _, _, _, _, by simp only [spec_l3Op.f, e1, e2, e3, e4, e5, Option.bind_some, Bool.false_eq_true, if_false]; rfl, hi5⟩

theorem rdE (xs : List S66) (i : Nat) (h : i < xs.length) : rd_T66 xs (i : Int) = xs[i] := by simp [rd_T66, h]
theorem ent_eq (x y : S66) : x = y ↔ x.f0 = y.f0 ∧ x.f1.f0 = y.f1.f0 ∧ x.f1.f1 = y.f1.f1 ∧ x.f1.f2 = y.f1.f2 ∧ x.f1.f3 = y.f1.f3 ∧ x.f1.f4 = y.f1.f4 ∧ x.f1.f5 = y.f1.f5 := by
  constructor
  · intro h; subst h; simp
  · rintro ⟨h0, h1, h2, h3, h4, h5, h6⟩
    obtain ⟨a, ⟨b, c, d, e, f, g⟩⟩ := x
    obtain ⟨a', ⟨b', c', d', e', f', g'⟩⟩ := y
    simp_all

theorem spec_l5Log.ev (c : List Int) (hc : c.length ≤ 1048576) (i h : Int) (hi : CurI i) : ∃ l i' h', Ev (fun k => spec_l5Log.f k c i h) (l, i', h') ∧ l.length ≤ 7 ∧ CurI i' := by
  have key : ∀ d : Nat, d ≤ 7 → ∀ (acc : List S66) (e : Int), acc.length + d ≤ 7 → ∀ i h : Int, CurI i → ∃ l i' h', Ev (fun k => spec_l5Log.l0 k acc e (d : Int) c i h) (l, i', h') ∧ l.length ≤ 7 ∧ CurI i' := by
    intro d
    induction d with
    | zero =>
      intro _ acc e ha i h hi
      refine ⟨acc, i, h, ev_shift (ev_val fun k => ?_), by omega, hi⟩
      simp only [spec_l5Log.l0, if_neg (show ¬ ((0 : Nat) : Int) > 0 by omega)]
    | succ d ih =>
      intro hd acc e ha i h hi
      obtain ⟨q, i1, h1, e1, hi1⟩ := spec_l1Once.is c hc i h 3 hi
      obtain ⟨o0, o1, o2, o3, o4, o5, i2, h2, e2, hi2⟩ := spec_l3Op.is c hc i1 h1 hi1
      have e4 : wrap64 (((d + 1 : Nat) : Int) - 1) = (d : Int) := by rw [w64 (by omega) (by omega)]; omega
      have step : ∀ e' : Int, ∃ l i' h', Ev (fun k => spec_l5Log.l0 k (acc ++ [(⟨e', (⟨o0, o1, o2, o3, o4, o5⟩ : S64)⟩ : S66)]) e' (d : Int) c i2 h2) (l, i', h') ∧ l.length ≤ 7 ∧ CurI i' := fun e' =>
        ih (by omega) (acc ++ [(⟨e', (⟨o0, o1, o2, o3, o4, o5⟩ : S64)⟩ : S66)]) e' (by simp; omega) i2 h2 hi2
      have hlim : acc.length < 2513169434916 := by omega
      cases q with
      | true =>
        obtain ⟨l, i', h', hl, hp⟩ := step (wrap64 (e + 1))
        refine ⟨l, i', h', ev_shift (ev_to ⟨0, fun k _ => ?_⟩ hl), hp⟩
        simp only [spec_l5Log.l0, if_pos (show ((d + 1 : Nat) : Int) > 0 by omega), e1, Option.bind_some, if_true, e2, if_pos hlim, e4]
      | false =>
        obtain ⟨l, i', h', hl, hp⟩ := step e
        refine ⟨l, i', h', ev_shift (ev_to ⟨0, fun k _ => ?_⟩ hl), hp⟩
        simp only [spec_l5Log.l0, if_pos (show ((d + 1 : Nat) : Int) > 0 by omega), e1, Option.bind_some, Bool.false_eq_true, if_false, e2, if_pos hlim, e4]
  obtain ⟨n, i1, h1, e1, _, hn, hi1⟩ := spec_l1Below.is c hc i h 7 hi
  have hn' := hn (by omega)
  obtain ⟨N, rfl⟩ := Int.eq_ofNat_of_zero_le hn'.1
  obtain ⟨l, i', h', hl, hp⟩ := key N (by omega) [] 1 (by simp; omega) i1 h1 hi1
  refine ⟨l, i', h', ?_, hp⟩
  simp only [spec_l5Log.f, e1, Option.bind_some]
  exact hl

theorem spec_l3Any.is (c : List Int) (hc : c.length ≤ 1048576) (i h : Int) (hi : CurI i) : ∃ o0 o1 o2 o3 o4 o5 i' h', spec_l3Any.f c i h = some (o0, o1, o2, o3, o4, o5, i', h') ∧ CurI i' := by
  obtain ⟨o0, o1, o2, o3, o4, o5, i1, h1, e1, hi1⟩ := spec_l3Op.is c hc i h hi
  obtain ⟨q, i2, h2, e2, _, _, hi2⟩ := spec_l1Below.is c hc i1 h1 14 hi1
  rw [spec_l3Any.f, e1]
  simp only [Option.bind_some, e2]
  by_cases c0 : q = 0
  · obtain ⟨x, i3, h3, e3, _, hi3⟩ := spec_l1PickInt.is c hc i2 h2 [(-1), 2, 3] (by simp) hi2
    simp only [if_pos c0, e3, Option.bind_some]
    exact ⟨_, _, _, _, _, _, _, _, rfl, hi3⟩
  simp only [if_neg c0]
  by_cases c1 : q = 1
  · obtain ⟨x, i3, h3, e3, _, hi3⟩ := spec_l1PickInt.is c hc i2 h2 [0, 99, 100] (by simp) hi2
    simp only [if_pos c1, e3, Option.bind_some]
    exact ⟨_, _, _, _, _, _, _, _, rfl, hi3⟩
  simp only [if_neg c1]
  by_cases c2 : q = 2
  · obtain ⟨x, i3, h3, e3, _, _, hi3⟩ := spec_l1Below.is c hc i2 h2 4 hi2
    simp only [if_pos c2, e3, Option.bind_some]
    exact ⟨_, _, _, _, _, _, _, _, rfl, hi3⟩
  simp only [if_neg c2]
  by_cases c3 : q = 3
  · obtain ⟨x, i3, h3, e3, _, hi3⟩ := spec_l1PickInt.is c hc i2 h2 [(-1), 3] (by simp) hi2
    simp only [if_pos c3, e3, Option.bind_some]
    exact ⟨_, _, _, _, _, _, _, _, rfl, hi3⟩
  simp only [if_neg c3]
  by_cases c4 : q = 4
  · obtain ⟨x, i3, h3, e3, _, hi3⟩ := spec_l1PickInt.is c hc i2 h2 [(-1), 9, 10] (by simp) hi2
    simp only [if_pos c4, e3, Option.bind_some]
    exact ⟨_, _, _, _, _, _, _, _, rfl, hi3⟩
  simp only [if_neg c4]
  by_cases c5 : q = 5
  · obtain ⟨x, i3, h3, e3, _, hi3⟩ := spec_l1PickInt.is c hc i2 h2 [(-1), 0, 9, 10] (by simp) hi2
    simp only [if_pos c5, e3, Option.bind_some]
    exact ⟨_, _, _, _, _, _, _, _, rfl, hi3⟩
  simp only [if_neg c5]
  exact ⟨_, _, _, _, _, _, _, _, rfl, hi2⟩

theorem spec_l5Any.ev (c : List Int) (hc : c.length ≤ 1048576) (i h : Int) (hi : CurI i) : ∃ l i' h', Ev (fun k => spec_l5Any.f k c i h) (l, i', h') ∧ l.length ≤ 17 ∧ CurI i' := by
  have key : ∀ d : Nat, ∀ (acc : List S66), acc.length + d = 17 → ∀ i h : Int, CurI i → ∃ l i' h', Ev (fun k => spec_l5Any.l0 k acc c i h) (l, i', h') ∧ l.length ≤ 17 ∧ CurI i' := by
    intro d
    induction d with
    | zero =>
      intro acc ha i h hi
      refine ⟨acc, i, h, ev_shift (ev_val fun k => ?_), by omega, hi⟩
      simp only [spec_l5Any.l0, if_neg (show ¬ ((acc.length : Int) < 17) by omega)]
    | succ d ih =>
      intro acc ha i h hi
      obtain ⟨o0, o1, o2, o3, o4, o5, i2, h2, e2, hi2⟩ := spec_l3Op.is c hc i h hi
      obtain ⟨l, i', h', hl, hp⟩ := ih (acc ++ [(⟨20, (⟨o0, o1, o2, o3, o4, o5⟩ : S64)⟩ : S66)]) (by simp; omega) i2 h2 hi2
      refine ⟨l, i', h', ev_shift (ev_to ⟨0, fun k _ => ?_⟩ hl), hp⟩
      simp only [spec_l5Any.l0, if_pos (show (acc.length : Int) < 17 by omega), e2, Option.bind_some, if_pos (show acc.length < 2513169434916 by omega)]
  obtain ⟨l, i1, h1, e1, hl, hi1⟩ := spec_l5Log.ev c hc i h hi
  obtain ⟨q, i2, h2, e2, _, _, hi2⟩ := spec_l1Below.is c hc i1 h1 14 hi1
  by_cases c0 : q = 0
  · obtain ⟨x, i3, h3, e3, _, hi3⟩ := spec_l1PickInt.is c hc i2 h2 [0, 1, 20, 21] (by simp) hi2
    obtain ⟨o0, o1, o2, o3, o4, o5, i4, h4, e4, hi4⟩ := spec_l3Any.is c hc i3 h3 hi3
    refine ⟨l ++ [(⟨x, (⟨o0, o1, o2, o3, o4, o5⟩ : S64)⟩ : S66)], i4, h4, Ev.bind e1 (ev_val fun k => ?_), by simp; omega, hi4⟩
    simp only [e2, Option.bind_some, if_pos c0, e3, e4, if_pos (show l.length < 2513169434916 by omega)]
  by_cases c1 : q = 1
  · obtain ⟨m, i3, h3, e3, hm, hi3⟩ := key (17 - l.length) l (by omega) i2 h2 hi2
    refine ⟨m, i3, h3, Ev.bind e1 ?_, hm, hi3⟩
    simp only [e2, Option.bind_some, if_neg c0, if_pos c1]
    exact e3
  · refine ⟨l, i2, h2, Ev.bind e1 (ev_val fun k => ?_), by omega, hi2⟩
    simp only [e2, Option.bind_some, if_neg c0, if_neg c1]

theorem spec_l5Copy.val (xs : List S66) (h : xs.length < 2513169434916) : spec_l5Copy.f xs = some xs := by
  simp only [spec_l5Copy.f, Option.bind_some, List.length_nil, List.nil_append, if_pos (show 0 + xs.length < 2513169434916 by omega)]

theorem spec_l5Two.ev (c : List Int) (hc : c.length ≤ 1048576) : ∃ a b, Ev (fun k => spec_l5Two.f k c) (a, b) ∧ a.length ≤ 17 ∧ b.length ≤ 20 := by
  obtain ⟨h, e0⟩ := spec_l1New.ev c hc
  obtain ⟨a, i1, h1, e1, ha, hi1⟩ := spec_l5Any.ev c hc 0 h cur0
  obtain ⟨q, i2, h2, e2, hi2⟩ := spec_l1Once.is c hc i1 h1 3 hi1
  have key : ∀ d : Nat, d ≤ 3 → ∀ (acc : List S66), acc.length + d ≤ 20 → ∀ i h : Int, CurI i → ∃ b, Ev (fun k => spec_l5Two.l0 k a acc (d : Int) c i h) (a, b) ∧ b.length ≤ 20 := by
    intro d
    induction d with
    | zero =>
      intro _ acc hn i h hi
      refine ⟨acc, ev_shift (ev_val fun k => ?_), by omega⟩
      simp only [spec_l5Two.l0, if_neg (show ¬ ((0 : Nat) : Int) > 0 by omega)]
    | succ d ih =>
      intro hd acc hn i h hi
      obtain ⟨o0, o1, o2, o3, o4, o5, i2, h2, e2, hi2⟩ := spec_l3Op.is c hc i h hi
      have e4 : wrap64 (((d + 1 : Nat) : Int) - 1) = (d : Int) := by rw [w64 (by omega) (by omega)]; omega
      obtain ⟨b, hb, hp⟩ := ih (by omega) (acc ++ [(⟨9, (⟨o0, o1, o2, o3, o4, o5⟩ : S64)⟩ : S66)]) (by simp; omega) i2 h2 hi2
      refine ⟨b, ev_shift (ev_to ⟨0, fun k _ => ?_⟩ hb), hp⟩
      simp only [spec_l5Two.l0, if_pos (show ((d + 1 : Nat) : Int) > 0 by omega), e2, Option.bind_some, if_pos (show acc.length < 2513169434916 by omega), e4]
  cases q with
  | true =>
    obtain ⟨b, i3, h3, e3, hb, hi3⟩ := spec_l5Any.ev c hc i2 h2 hi2
    refine ⟨a, b, Ev.bind e0 (Ev.bind e1 ?_), ha, by omega⟩
    simp only [e2, Option.bind_some, if_true]
    exact Ev.bind e3 (Ev.now _)
  | false =>
    obtain ⟨n, i3, h3, e3, _, hn, hi3⟩ := spec_l1Below.is c hc i2 h2 ((a.length : Int) + 1) hi2
    have hn' := hn (by omega)
    obtain ⟨m, i4, h4, e4, _, hm, hi4⟩ := spec_l1Below.is c hc i3 h3 3 hi3
    have hm' := hm (by omega)
    obtain ⟨M, rfl⟩ := Int.eq_ofNat_of_zero_le hm'.1
    have hcp := spec_l5Copy.val (a.take n.toNat) (by rw [List.length_take]; omega)
    obtain ⟨b, hb, hp⟩ := key M (by omega) (a.take n.toNat) (by rw [List.length_take]; omega) i4 h4 hi4
    refine ⟨a, b, Ev.bind e0 (Ev.bind e1 ?_), ha, hp⟩
    simp only [e2, Option.bind_some, Bool.false_eq_true, if_false, w64 (show -9223372036854775808 ≤ (a.length : Int) + 1 by omega) (by omega), e3, if_pos hn'.1, if_pos (show n ≤ (a.length : Int) by omega), hcp, e4]
    exact hb

theorem spec_DrawCommonPrefix.ev (c : List Int) (hc : c.length ≤ 1048576) : ∃ a b, Ev (fun k => spec_DrawCommonPrefix.f k c) (a, b) ∧ a.length ≤ 17 ∧ b.length ≤ 20 := by
  obtain ⟨a, b, e, h⟩ := spec_l5Two.ev c hc
  exact ⟨a, b, Ev.bind e (Ev.now _), h⟩

theorem impl_within.val (a b c : Int) : impl_within.f a b c = some (decide (b ≤ a ∧ a ≤ c)) := by
  unfold impl_within.f
  by_cases h : b ≤ a <;> simp [h]

/-- Is this an operation? -/
def vop (a b c d e f : Int) : Bool := decide ((0 ≤ a ∧ a ≤ 2) ∧ (1 ≤ b ∧ b ≤ 99) ∧ (0 ≤ d ∧ d ≤ 2) ∧ (0 ≤ f ∧ f ≤ 9) ∧ ((c = 1 ∧ e = 0) ∨ (c = 2 ∧ 0 ≤ e ∧ e ≤ 9)))

theorem impl_IsValidOp.val (a b c d e f : Int) : impl_IsValidOp.f a b c d e f = some (vop a b c d e f) := by
  unfold impl_IsValidOp.f vop
  simp only [impl_within.val, Option.bind_some]
  by_cases h1 : 0 ≤ a ∧ a ≤ 2
  · by_cases h2 : 1 ≤ b ∧ b ≤ 99
    · by_cases h3 : 0 ≤ d ∧ d ≤ 2
      · by_cases h4 : 0 ≤ f ∧ f ≤ 9
        · simp only [decide_eq_true h1, decide_eq_true h2, decide_eq_true h3, decide_eq_true h4, if_true]
          by_cases hc : c = 1
          · by_cases he : e = 0
            · simp [hc, he, h1, h2, h3, h4]
            · simp [hc, he, h1, h2, h3, h4]
          · by_cases hc2 : c = 2
            · simp [hc2, h1, h2, h3, h4]
            · simp [hc, hc2]
        · simp only [decide_eq_true h1, decide_eq_true h2, decide_eq_true h3, decide_eq_false h4, if_true, Bool.false_eq_true, if_false]
          simp; intros; omega
      · simp only [decide_eq_true h1, decide_eq_true h2, decide_eq_false h3, if_true, Bool.false_eq_true, if_false]
        simp; intros; omega
    · simp only [decide_eq_true h1, decide_eq_false h2, if_true, Bool.false_eq_true, if_false]
      simp; intros; omega
  · simp only [decide_eq_false h1, Bool.false_eq_true, if_false]
    simp; intros; omega

/-- Is this entry one of a log, behind the one before it? -/
def okAt (xs : List S66) (j : Nat) : Prop := (1 ≤ (rd_T66 xs (j : Int)).f0 ∧ (rd_T66 xs (j : Int)).f0 ≤ 20) ∧
  vop (rd_T66 xs (j : Int)).f1.f0 (rd_T66 xs (j : Int)).f1.f1 (rd_T66 xs (j : Int)).f1.f2 (rd_T66 xs (j : Int)).f1.f3 (rd_T66 xs (j : Int)).f1.f4 (rd_T66 xs (j : Int)).f1.f5 = true ∧
  (0 < j → (rd_T66 xs ((j : Int) - 1)).f0 ≤ (rd_T66 xs (j : Int)).f0)
/-- Is this a log? -/
def isLog (xs : List S66) : Prop := (∀ j, j < xs.length → okAt xs j) ∧ xs.length ≤ 16

theorem impl_IsLog.ev (xs : List S66) (hn : xs.length ≤ 9223372036854775806) : ∃ b, Ev (fun k => impl_IsLog.f k xs) b ∧ (b = true ↔ isLog xs) := by
  refine ⟨decide (vL_impl xs), ev_val fun _ => rfl, decide_eq_true_iff.trans ?_⟩
  simp only [vL_impl, isLog, okE_impl, okAt, impl_IsValidOp.val, Option.some.injEq]
  exact And.comm

/-- One step of the checksum. -/
def ckStep (c b : Int) : Int := (c * 257 + b + 1) % 9949
/-- The checksum of a string's bytes. -/
def cks (l : List Int) : Int := l.foldl ckStep 5
theorem ckStep_range (c b : Int) : 0 ≤ ckStep c b ∧ ckStep c b ≤ 9948 := by unfold ckStep; omega
theorem ckFold_range (l : List Int) : ∀ c, 0 ≤ c → c ≤ 9948 → 0 ≤ l.foldl ckStep c ∧ l.foldl ckStep c ≤ 9948 := by
  induction l with
  | nil => intro c h0 h1; exact ⟨h0, h1⟩
  | cons b l ih => intro c h0 h1; exact ih _ (ckStep_range c b).1 (ckStep_range c b).2
theorem cks_range (l : List Int) : 0 ≤ cks l ∧ cks l ≤ 9948 := ckFold_range l 5 (by omega) (by omega)

theorem impl_Checksum.step (c b : Int) (h0 : 0 ≤ c) (h1 : c ≤ 9948) (b0 : 0 ≤ b) (b1 : b ≤ 255) : Int.tmod (wrap64 ((wrap64 ((wrap64 (257 * c)) + (wrap64 b))) + 1)) 9949 = ckStep c b := by
  rw [w64 (x := 257 * c) (by omega) (by omega), w64 (x := b) (by omega) (by omega), w64 (x := 257 * c + b) (by omega) (by omega), w64 (x := 257 * c + b + 1) (by omega) (by omega), tmod_pos _ _ (by omega), Int.mul_comm 257 c]
  rfl
theorem impl_Checksum.ev (s : ByteArray) (hn : s.size ≤ 9223372036854775806) : Ev (fun k => impl_Checksum.f k s) (cks (bytesOf s)) := by
  have key : ∀ (d i : Nat) (c : Int), i + d = s.size → 0 ≤ c → c ≤ 9948 → Ev (fun k => impl_Checksum.l0 k s c (s.size : Int) (i : Int)) (((bytesOf s).drop i).foldl ckStep c) := by
    intro d
    induction d with
    | zero =>
      intro i c h h0 h1
      refine ev_shift ?_
      simp only [impl_Checksum.l0, if_neg (show ¬ ((i : Int) < (s.size : Int)) by omega)]
      exact ev_some (by rw [bytes_end s i (by omega)]; rfl)
    | succ d ih =>
      intro i c h h0 h1
      have hb := bt_range s (i : Int)
      have := ih (i + 1) (ckStep c (bt s (i : Int))) (by omega) (ckStep_range _ _).1 (ckStep_range _ _).2
      refine ev_shift ?_
      simp only [impl_Checksum.l0, if_pos (show (i : Int) < (s.size : Int) by omega), if_pos (show (0 : Int) ≤ (i : Int) by omega), w64 (show -9223372036854775808 ≤ (i : Int) + 1 by omega) (by omega),
        impl_Checksum.step c _ h0 h1 hb.1 hb.2]
      rw [bytes_cons s i (by omega), List.foldl_cons]
      simpa using this
  simpa [impl_Checksum.f, cks] using key s.size 0 5 (by omega) (by omega) (by omega)

/-- Bytes as a string. -/
def str (l : List UInt8) : ByteArray := ⟨l.toArray⟩
theorem str_append (a b : List UInt8) : str a ++ str b = str (a ++ b) := by
  apply ByteArray.ext
  simp [str]
theorem str_size (l : List UInt8) : (str l).size = l.length := by simp [str, ByteArray.size]
theorem str_inj {a b : List UInt8} (h : str a = str b) : a = b := by
  have := congrArg (fun s => s.data.toList) h
  simpa [str] using this
theorem str_toList (l : List UInt8) : (str l).toList = l := by rw [toList_data]; simp [str]
theorem toList_inj' {a b : ByteArray} (h : a.toList = b.toList) : a = b := bytesOf_inj (bytesOf_congr h)
/-- The digits of a number, none for 0. -/
def digs (m : Nat) : List UInt8 := if m = 0 then [] else Lib.decDigits m
theorem digs_step (m : Nat) (h : 0 < m) : digs m = digs (m / 10) ++ [UInt8.ofNat (48 + m % 10)] := by
  unfold digs
  rw [if_neg (by omega), Lib.decDigits]
  by_cases h9 : m < 10
  · rw [dif_pos h9, if_pos (by omega), Nat.mod_eq_of_lt h9]; rfl
  · rw [dif_neg h9, if_neg (by omega)]
theorem tmod10 (x : Int) : (0 ≤ x → Int.tmod x 10 = ((x.natAbs % 10 : Nat) : Int) ∧ Int.tdiv x 10 = ((x.natAbs / 10 : Nat) : Int)) ∧ (x < 0 → Int.tmod x 10 = -((x.natAbs % 10 : Nat) : Int) ∧ Int.tdiv x 10 = -((x.natAbs / 10 : Nat) : Int)) := by
  constructor
  · intro h
    obtain ⟨n, rfl⟩ := Int.eq_ofNat_of_zero_le h
    exact ⟨rfl, rfl⟩
  · intro h
    obtain ⟨n, rfl⟩ := Int.eq_negSucc_of_lt_zero h
    exact ⟨rfl, rfl⟩
theorem strOfNums_digit (d : Nat) (h : d < 10) : strOfNums ([(wrap64 (48 + (d : Int))) % 256] : List Int) = str [UInt8.ofNat (48 + d)] := by
  rw [w64 (by omega) (by omega)]
  apply ByteArray.ext
  apply Array.ext'
  rw [strOfNums_data]
  have e : ((48 + (d : Int)) % 256).toNat = 48 + d := by omega
  simp [str, e]
theorem itoa_zero : Lib.itoa 0 = [48] := by unfold Lib.itoa Lib.decDigits; simp
theorem itoa_digs (a : Int) (h : a ≠ 0) : Lib.itoa a = (if a < 0 then [45] else []) ++ digs a.natAbs := by
  have hn : ¬ a.natAbs = 0 := by omega
  unfold Lib.itoa digs
  by_cases c : a < 0
  · rw [if_pos c, if_pos c, if_neg hn]; rfl
  · rw [if_neg c, if_neg c, if_neg hn, show a.toNat = a.natAbs by omega]; rfl
theorem digs_len : ∀ n m : Nat, m < 10 ^ n → (digs m).length ≤ n := by
  intro n
  induction n with
  | zero => intro m h; obtain rfl : m = 0 := by simpa using h
            simp [digs]
  | succ n ih =>
    intro m h
    by_cases h0 : m = 0
    · subst h0; simp [digs]
    · rw [digs_step m (by omega), List.length_append]
      have := ih (m / 10) (by rw [Nat.pow_succ] at h; omega)
      simp only [List.length_cons, List.length_nil]
      omega
theorem itoa_len (a : Int) (h0 : -9223372036854775808 ≤ a) (h1 : a ≤ 9223372036854775807) : (Lib.itoa a).length ≤ 20 := by
  by_cases h : a = 0
  · subst h; rw [itoa_zero]; simp
  · rw [itoa_digs a h, List.length_append]
    have h2 := digs_len 19 a.natAbs (by omega)
    have h3 : (if a < 0 then ([45] : List UInt8) else []).length ≤ 1 := by split <;> simp
    omega
theorem str_lit (l : List UInt8) : (⟨l.toArray⟩ : ByteArray) = str l := rfl

theorem impl_FormatInt.val (a : Int) (h0 : -9223372036854775808 ≤ a) (h1 : a ≤ 9223372036854775807) : impl_FormatInt.f a = some (str (Lib.itoa a)) := by
  simp only [impl_FormatInt.f, strconv_Itoa.f, if_pos (show -9223372036854775808 ≤ a ∧ a ≤ 9223372036854775807 from ⟨h0, h1⟩), Option.bind_some]
  rfl

/-- An operation's text. -/
def opL (a b c d e f : Int) : List UInt8 := Lib.itoa a ++ [46] ++ Lib.itoa b ++ (if c = 2 then [32, 115, 119, 97, 112, 32] ++ Lib.itoa d ++ [32] ++ Lib.itoa e ++ [32] ++ Lib.itoa f else [32, 119, 114, 105, 116, 101, 32] ++ Lib.itoa d ++ [32] ++ Lib.itoa f)
def fopL (a b c d e f : Int) : List UInt8 := if vop a b c d e f = true then opL a b c d e f else []

theorem impl_FormatOp.val (a b c d e f : Int) : impl_FormatOp.f a b c d e f = some (str (fopL a b c d e f)) := by
  cases hv : vop a b c d e f with
  | false => simp only [impl_FormatOp.f, impl_IsValidOp.val, hv, Option.bind_some, Bool.false_eq_true, if_false, fopL]; rfl
  | true =>
    have hq := hv
    simp only [vop, decide_eq_true_eq] at hq
    have h0 := impl_FormatInt.val a (by omega) (by omega)
    have h1 := impl_FormatInt.val b (by omega) (by omega)
    have h3 := impl_FormatInt.val d (by omega) (by omega)
    have h4 := impl_FormatInt.val e (by omega) (by omega)
    have h5 := impl_FormatInt.val f (by omega) (by omega)
    have l0 := itoa_len a (by omega) (by omega)
    have l1 := itoa_len b (by omega) (by omega)
    have l3 := itoa_len d (by omega) (by omega)
    have l4 := itoa_len e (by omega) (by omega)
    have l5 := itoa_len f (by omega) (by omega)
    rcases (show (c = 1 ∧ ¬ c = 2) ∨ (c = 2 ∧ ¬ c = 1) by omega) with ⟨hc, hn⟩ | ⟨hc, hn⟩
    · simp only [impl_FormatOp.f, impl_IsValidOp.val, hv, Option.bind_some, if_true, h0, h1, h3, h5, if_neg hn, str_lit, str_append, str_size, List.length_append, List.length_cons, List.length_nil]
      simp (disch := omega) only [if_pos]
      simp only [fopL, hv, if_true, opL, if_neg hn, List.append_assoc, List.cons_append, List.nil_append]
    · simp only [impl_FormatOp.f, impl_IsValidOp.val, hv, Option.bind_some, if_true, h0, h1, h3, h4, h5, if_pos hc, str_lit, str_append, str_size, List.length_append, List.length_cons, List.length_nil]
      simp (disch := omega) only [if_pos]
      simp only [fopL, hv, if_true, opL, if_pos hc, List.append_assoc, List.cons_append, List.nil_append]

theorem strings_Join.val (ls : List (List UInt8)) (sep : List UInt8) (h1 : ls.length ≤ 140737488355328) (h2 : (Lib.join ls sep).length ≤ 140737488355328) : strings_Join.f (ls.map str) (str sep) = some (str (Lib.join ls sep)) := by
  have e : (ls.map str).map (·.data.toList) = ls := by rw [List.map_map]; conv => rhs; rw [← List.map_id ls]
                                                       apply List.map_congr_left; intro l _; simp [str]
  have e2 : (str sep).data.toList = sep := by simp [str]
  simp only [strings_Join.f, e, e2, List.length_map]
  rw [if_pos ⟨h1, h2⟩]
  rfl

/-- An entry's text. -/
def entL (x : S66) : List UInt8 := Lib.itoa x.f0 ++ [58] ++ fopL x.f1.f0 x.f1.f1 x.f1.f2 x.f1.f3 x.f1.f4 x.f1.f5
/-- The entries' texts from the i-th on, as they are written behind what stands there. -/
def restL (xs : List S66) (i : Nat) : List UInt8 := if i = 0 then Lib.join (xs.map entL) [59] else Lib.joinTail [59] ((xs.drop i).map entL)
/-- A log's text. -/
def logL (xs : List S66) : List UInt8 := if xs.length = 0 then [110, 111, 110, 101] else Lib.join (xs.map entL) [59]
theorem restL_step (xs : List S66) (i : Nat) (h : i < xs.length) : restL xs i = (if i = 0 then entL xs[i] else [59] ++ entL xs[i]) ++ restL xs (i + 1) := by
  have hd : xs.drop i = xs[i] :: xs.drop (i + 1) := List.drop_eq_getElem_cons h
  unfold restL
  rw [if_neg (show ¬ (i + 1 = 0) by omega)]
  by_cases h0 : i = 0
  · subst h0
    rw [if_pos rfl, if_pos rfl]
    have e : xs.map entL = entL xs[0] :: (xs.drop 1).map entL := by
      conv => lhs; rw [← List.drop_zero (l := xs), hd]
      rfl
    rw [e, Lib.join_cons]
  · rw [if_neg h0, if_neg h0, hd]
    simp only [Lib.joinTail, List.map_cons, List.flatten_cons]
theorem restL_end (xs : List S66) : restL xs xs.length = [] := by
  unfold restL
  by_cases h : xs.length = 0
  · rw [if_pos h, List.length_eq_zero_iff.1 h]; rfl
  · rw [if_neg h, List.drop_length]; rfl
theorem fopL_len (a b c d e f : Int) : (fopL a b c d e f).length ≤ 150 := by
  unfold fopL
  cases hv : vop a b c d e f with
  | false => simp
  | true =>
    simp only [vop, decide_eq_true_eq] at hv
    have l0 := itoa_len a (by omega) (by omega)
    have l1 := itoa_len b (by omega) (by omega)
    have l3 := itoa_len d (by omega) (by omega)
    have l4 := itoa_len e (by omega) (by omega)
    have l5 := itoa_len f (by omega) (by omega)
    simp only [if_true, opL]
    split <;> simp only [List.length_append, List.length_cons, List.length_nil] <;> omega
theorem isLog_epoch (xs : List S66) (hv : isLog xs) (i : Nat) (h : i < xs.length) : 1 ≤ xs[i].f0 ∧ xs[i].f0 ≤ 20 := by
  have := (hv.1 i h).1
  rwa [rdE xs i h] at this

theorem joinL_len (xs : List S66) (hv : isLog xs) : (Lib.join (xs.map entL) [59]).length ≤ 400 * 16 := by
  have h16 := hv.2
  have key : ∀ d i : Nat, i + d = xs.length → (restL xs i).length ≤ 400 * d := by
    intro d
    induction d with
    | zero => intro i h; obtain rfl : i = xs.length := by omega
              rw [restL_end]; simp
    | succ d ih =>
      intro i h
      have hi : i < xs.length := by omega
      have hep := isLog_epoch xs hv i hi
      have hl := itoa_len xs[i].f0 (by omega) (by omega)
      have hl2 := fopL_len xs[i].f1.f0 xs[i].f1.f1 xs[i].f1.f2 xs[i].f1.f3 xs[i].f1.f4 xs[i].f1.f5
      have := ih (i + 1) (by omega)
      rw [restL_step xs i hi, List.length_append]
      split <;> simp only [entL, List.length_append, List.length_cons, List.length_nil] <;> omega
  have := key xs.length 0 (by omega)
  simp only [restL, if_true] at this
  omega
theorem impl_FormatLog.l0ev (xs : List S66) (hv : isLog xs) :
    ∀ s : Nat, s ≤ xs.length → Ev (fun k => impl_FormatLog.l0 k ((xs.take s).map fun x => str (entL x)) xs (xs.length : Int) (s : Int)) (str (Lib.join (xs.map entL) [59])) := by
  refine loop_ev (fun k (s : Nat) => impl_FormatLog.l0 k ((xs.take s).map fun x => str (entL x)) xs (xs.length : Int) (s : Int)) _ (fun s => xs.length - s) (fun _ => str (Lib.join (xs.map entL) [59])) ?_
  intro i h1
  have h16 := hv.2
  by_cases hi : i < xs.length
  · have hep := isLog_epoch xs hv i hi
    have hl := itoa_len xs[i].f0 (by omega) (by omega)
    have hl2 := fopL_len xs[i].f1.f0 xs[i].f1.f1 xs[i].f1.f2 xs[i].f1.f3 xs[i].f1.f4 xs[i].f1.f5
    have f1 := impl_FormatInt.val xs[i].f0 (by omega) (by omega)
    have e1 := w64 (show -9223372036854775808 ≤ (i : Int) + 1 by omega) (by omega)
    have ht : (xs.take i).length = i := by rw [List.length_take]; omega
    refine .inr ⟨i + 1, by omega, by omega, rfl, fun r hr => ev_shift ?_⟩
    refine Ev.congr (fun k => ?_) hr
    simp only [impl_FormatLog.l0, if_pos (show (i : Int) < (xs.length : Int) by omega), if_pos (show (0 : Int) ≤ (i : Int) by omega), rdE xs i hi, f1, impl_FormatOp.val, Option.bind_some, str_lit, str_append, str_size, List.length_append, List.length_cons, List.length_nil, List.length_map, ht, e1]
    simp (disch := omega) only [if_pos]
    rw [List.take_succ_eq_append_getElem hi, List.map_append]
    simp only [entL, List.map_cons, List.map_nil, List.append_assoc]
    rfl
  · refine .inl (ev_shift (ev_val fun k => ?_))
    obtain rfl : i = xs.length := by omega
    have hj := strings_Join.val (xs.map entL) [59] (by simp; omega) (by have := joinL_len xs hv; omega)
    rw [List.map_map] at hj
    simp only [impl_FormatLog.l0, if_neg (show ¬ ((xs.length : Int) < (xs.length : Int)) by omega), List.take_length, str_lit]
    rw [show (fun x => str (entL x)) = (str ∘ entL) from rfl, hj]
    rfl
theorem impl_FormatLog.ev (xs : List S66) (hn : xs.length ≤ 1048577) (b : Bool) (hb : Ev (fun k => impl_IsLog.f k xs) b) (hq : b = true ↔ isLog xs) : Ev (fun k => impl_FormatLog.f k xs) (str (if b = true then logL xs else [])) := by
  refine Ev.bind hb ?_
  cases b with
  | false => exact ev_val fun _ => rfl
  | true =>
    simp only [if_true, logL]
    by_cases h : xs.length = 0
    · simp only [if_pos h, if_pos (show (xs.length : Int) = 0 by omega)]; exact Ev.now _
    · simp only [if_neg h, if_neg (show ¬ ((xs.length : Int) = 0) by omega)]
      have := impl_FormatLog.l0ev xs (hq.1 rfl) 0 (by omega)
      simpa using this

/-- A digest, one entry on. -/
def dgStep (c : Int) (x : S66) : Int := (c * 31 + cks (bytesOf (str (entL x)))) % 9973
theorem dgStep_range (c : Int) (x : S66) : 0 ≤ dgStep c x ∧ dgStep c x ≤ 9972 := by unfold dgStep; omega
/-- The digests of a log, from one on. -/
def dgs : Int → List S66 → List Int
  | c, [] => [c]
  | c, x :: r => c :: dgs (dgStep c x) r
theorem dgs_len : ∀ (xs : List S66) (c : Int), (dgs c xs).length = xs.length + 1
  | [], _ => rfl
  | x :: r, c => by simp [dgs, dgs_len r]
theorem isLog_one (xs : List S66) (hv : isLog xs) (i : Nat) (h : i < xs.length) : isLog [xs[i]] := by
  have h1 := hv.1 i h
  refine ⟨fun j hj => ?_, by simp⟩
  obtain rfl : j = 0 := by simpa using hj
  simp only [okAt, rdE xs i h] at h1
  have e : rd_T66 [xs[i]] ((0 : Nat) : Int) = xs[i] := rdE [xs[i]] 0 (by simp)
  simp only [okAt, e]
  exact ⟨h1.1, h1.2.1, fun h0 => absurd h0 (Nat.lt_irrefl 0)⟩
theorem logL_one (x : S66) : logL [x] = entL x := by
  simp only [logL, List.length_singleton, if_neg (show ¬ (1 = 0) by omega), List.map_cons, List.map_nil]
  exact Lib.join_one _ _
theorem cut_one (xs : List S66) (i : Nat) (h : i < xs.length) : (xs.take (i + 1)).drop i = [xs[i]] := by
  rw [List.take_succ_eq_append_getElem h, List.drop_append_of_le_length (by rw [List.length_take]; omega), List.drop_eq_nil_of_le (by rw [List.length_take]; omega)]
  rfl
theorem entL_len (xs : List S66) (hv : isLog xs) (i : Nat) (h : i < xs.length) : (entL xs[i]).length ≤ 400 := by
  have hep := isLog_epoch xs hv i h
  have hl := itoa_len xs[i].f0 (by omega) (by omega)
  have hl2 := fopL_len xs[i].f1.f0 xs[i].f1.f1 xs[i].f1.f2 xs[i].f1.f3 xs[i].f1.f4 xs[i].f1.f5
  simp only [entL, List.length_append, List.length_cons, List.length_nil]
  omega
/-- The digest at a place, or -1. -/
def dgAt (l : List Int) (a : Int) : Int := if 0 ≤ a ∧ a ≤ (l.length : Int) - 1 then rd l a else -1

theorem impl_FormatLog.one (x : S66) (h : isLog [x]) : Ev (fun k => impl_FormatLog.f k [x]) (str (entL x)) := by
  obtain ⟨b, hb, hq⟩ := impl_IsLog.ev [x] (by simp)
  have := impl_FormatLog.ev [x] (by simp) b hb hq
  rw [if_pos (hq.2 h), logL_one] at this
  exact this
theorem impl_DigestList.l0ev (xs : List S66) (hv : isLog xs) :
    ∀ s : List Int × Int, (s.1.length ≤ xs.length ∧ 0 ≤ s.2 ∧ s.2 ≤ 9972) → Ev (fun k => impl_DigestList.l0 k xs (s.1 ++ [s.2]) (xs.length : Int) (s.1.length : Int)) (s.1 ++ dgs s.2 (xs.drop s.1.length)) := by
  refine loop_ev (fun k (s : List Int × Int) => impl_DigestList.l0 k xs (s.1 ++ [s.2]) (xs.length : Int) (s.1.length : Int)) _ (fun s => xs.length - s.1.length) (fun s => s.1 ++ dgs s.2 (xs.drop s.1.length)) ?_
  rintro ⟨pre, d⟩ ⟨h1, h2, h3⟩
  simp only at h1 h2 h3 ⊢
  have h16 := hv.2
  obtain ⟨i, hi0⟩ : ∃ i, i = pre.length := ⟨_, rfl⟩
  rw [← hi0] at h1 ⊢
  by_cases hi : i < xs.length
  · have hd : xs.drop i = xs[i] :: xs.drop (i + 1) := List.drop_eq_getElem_cons hi
    have e1 := w64 (show -9223372036854775808 ≤ (i : Int) + 1 by omega) (by omega)
    have e2 : (((i : Int) + 1).toNat) = i + 1 := by omega
    have hck := cks_range (bytesOf (str (entL xs[i])))
    have hl := entL_len xs hv i hi
    obtain ⟨K1, f1⟩ := impl_FormatLog.one xs[i] (isLog_one xs hv i hi)
    obtain ⟨K2, f2⟩ := impl_Checksum.ev (str (entL xs[i])) (by rw [str_size]; omega)
    have hst := dgStep_range d xs[i]
    refine .inr ⟨(pre ++ [d], dgStep d xs[i]), ⟨by simp only [List.length_append, List.length_singleton]; omega, hst.1, hst.2⟩, by simp only [List.length_append, List.length_singleton]; omega, ?_, ?_⟩
    · simp only [List.length_append, List.length_singleton, ← hi0]
      rw [hd]
      simp only [dgs, List.append_assoc, List.singleton_append]
    · rintro r ⟨K3, hr3⟩
      simp only [List.length_append, List.length_singleton, ← hi0] at hr3
      refine ⟨K1 + K2 + K3 + 1, fun k hk => ?_⟩
      obtain ⟨k, rfl⟩ : ∃ m, k = m + 1 := ⟨k - 1, by omega⟩
      rw [← hr3 k (by omega)]
      have hrd : rd (pre ++ [d]) (i : Int) = d := by
        rw [rd_get _ i (by simp; omega), List.getElem_append_right (by omega)]
        simp [hi0]
      simp only [impl_DigestList.l0, if_pos (show (i : Int) < (xs.length : Int) by omega), if_pos (show (0 : Int) ≤ (i : Int) by omega), e1, e2, if_pos (show (i : Int) ≤ (i : Int) + 1 by omega), if_pos (show (i : Int) + 1 ≤ (xs.length : Int) by omega), Int.toNat_natCast, cut_one xs i hi, f1 k (by omega), f2 k (by omega), Option.bind_some, List.length_append, List.length_singleton, ← hi0, if_pos (show i + 1 < 17592186044416 by omega), if_pos (show (i : Int) < ((i + 1 : Nat) : Int) by omega), hrd,
        w64 (show -9223372036854775808 ≤ d * 31 by omega) (by omega), w64 (show -9223372036854775808 ≤ d * 31 + cks (bytesOf (str (entL xs[i]))) by omega) (by omega), tmod_pos (d * 31 + cks (bytesOf (str (entL xs[i])))) 9973 (by omega), Int.mul_comm 31 d]
      rfl
  · obtain rfl : i = xs.length := by omega
    refine .inl (ev_shift (ev_val fun k => ?_))
    simp only [impl_DigestList.l0, if_neg (show ¬ ((xs.length : Int) < (xs.length : Int)) by omega), List.drop_length, dgs]
theorem impl_DigestList.ev (xs : List S66) (hn : xs.length ≤ 1048576) (b : Bool) (hb : Ev (fun k => impl_IsLog.f k xs) b) (hq : b = true ↔ isLog xs) : Ev (fun k => impl_DigestList.f k xs) (if b = true then dgs 11 xs else []) := by
  unfold impl_DigestList.f
  refine Ev.bind hb ?_
  cases b with
  | false => exact ev_val fun _ => rfl
  | true =>
    simp only [if_true]
    have := impl_DigestList.l0ev xs (hq.1 rfl) ([], 11) ⟨by simp, by simp, by simp⟩
    simpa using this

theorem laws_sameInts.same (xs : List Int) (hn : xs.length ≤ 1000000000) : Ev (fun k => laws_sameInts.f k xs xs) true := by
  have key : ∀ d i : Nat, i + d = xs.length → Ev (fun k => laws_sameInts.l0 k xs xs (i : Int)) true := by
    intro d
    induction d with
    | zero =>
      intro i hi
      refine ev_shift (ev_val fun k => ?_)
      simp only [laws_sameInts.l0, if_neg (show ¬ ((i : Int) < (xs.length : Int)) by omega)]
    | succ d ih =>
      intro i hi
      have hh := ih (i + 1) (by omega)
      rw [show ((i + 1 : Nat) : Int) = (i : Int) + 1 by omega] at hh
      refine ev_shift (ev_to ⟨0, fun k _ => ?_⟩ hh)
      simp only [laws_sameInts.l0, if_pos (show (i : Int) < (xs.length : Int) by omega), if_pos (show (0 : Int) ≤ (i : Int) by omega), if_true, w64 (show -9223372036854775808 ≤ (i : Int) + 1 by omega) (by omega)]
  simp only [laws_sameInts.f, if_true]
  exact key xs.length 0 (by omega)

theorem spec_l1In.val (a b c : Int) : spec_l1In.f a b c = some (decide (b ≤ a ∧ a ≤ c)) := by
  unfold spec_l1In.f
  by_cases h : b ≤ a <;> simp [h]

theorem spec_IsValidOp.val (a b c d e f : Int) : spec_IsValidOp.f a b c d e f = some (vop a b c d e f) := by
  unfold spec_IsValidOp.f vop
  simp only [spec_l1In.val, Option.bind_some]
  by_cases h1 : 0 ≤ a ∧ a ≤ 2
  · by_cases h2 : 1 ≤ b ∧ b ≤ 99
    · by_cases h3 : 0 ≤ d ∧ d ≤ 2
      · by_cases h4 : 0 ≤ f ∧ f ≤ 9
        · simp only [decide_eq_true h1, decide_eq_true h2, decide_eq_true h3, decide_eq_true h4, if_true]
          by_cases hc : c = 1
          · by_cases he : e = 0
            · simp [hc, he, h1, h2, h3, h4]
            · simp [hc, he, h1, h2, h3, h4]
          · by_cases hc2 : c = 2
            · simp [hc2, h1, h2, h3, h4]
            · simp [hc, hc2]
        · simp only [decide_eq_true h1, decide_eq_true h2, decide_eq_true h3, decide_eq_false h4, if_true, Bool.false_eq_true, if_false]
          simp; intros; omega
      · simp only [decide_eq_true h1, decide_eq_true h2, decide_eq_false h3, if_true, Bool.false_eq_true, if_false]
        simp; intros; omega
    · simp only [decide_eq_true h1, decide_eq_false h2, if_true, Bool.false_eq_true, if_false]
      simp; intros; omega
  · simp only [decide_eq_false h1, Bool.false_eq_true, if_false]
    simp; intros; omega

theorem spec_IsLog.ev (xs : List S66) (hn : xs.length ≤ 9223372036854775806) : ∃ b, Ev (fun k => spec_IsLog.f k xs) b ∧ (b = true ↔ isLog xs) := by
  refine ⟨decide (vL_spec xs), ev_val fun _ => rfl, decide_eq_true_iff.trans ?_⟩
  simp only [vL_spec, isLog, okE_spec, okAt, spec_IsValidOp.val, Option.some.injEq]
  exact And.comm

theorem spec_Checksum.step (c b : Int) (h0 : 0 ≤ c) (h1 : c ≤ 9948) (b0 : 0 ≤ b) (b1 : b ≤ 255) : Int.tmod (wrap64 ((wrap64 ((wrap64 (c * 257)) + (wrap64 b))) + 1)) 9949 = ckStep c b := by
  rw [w64 (x := c * 257) (by omega) (by omega), w64 (x := b) (by omega) (by omega), w64 (x := c * 257 + b) (by omega) (by omega), w64 (x := c * 257 + b + 1) (by omega) (by omega), tmod_pos _ _ (by omega)]
  rfl
theorem spec_Checksum.ev (s : ByteArray) (hn : s.size ≤ 9223372036854775806) : Ev (fun k => spec_Checksum.f k s) (cks (bytesOf s)) := by
  have key : ∀ (d i : Nat) (c : Int), i + d = s.size → 0 ≤ c → c ≤ 9948 → Ev (fun k => spec_Checksum.l0 k s c (i : Int)) (((bytesOf s).drop i).foldl ckStep c) := by
    intro d
    induction d with
    | zero =>
      intro i c h h0 h1
      refine ev_shift ?_
      simp only [spec_Checksum.l0, if_neg (show ¬ ((i : Int) < (s.size : Int)) by omega)]
      exact ev_some (by rw [bytes_end s i (by omega)]; rfl)
    | succ d ih =>
      intro i c h h0 h1
      have hb := bt_range s (i : Int)
      have := ih (i + 1) (ckStep c (bt s (i : Int))) (by omega) (ckStep_range _ _).1 (ckStep_range _ _).2
      refine ev_shift ?_
      simp only [spec_Checksum.l0, if_pos (show (i : Int) < (s.size : Int) by omega), if_pos (show (0 : Int) ≤ (i : Int) by omega), w64 (show -9223372036854775808 ≤ (i : Int) + 1 by omega) (by omega),
        spec_Checksum.step c _ h0 h1 hb.1 hb.2]
      rw [bytes_cons s i (by omega), List.foldl_cons]
      simpa using this
  simpa [spec_Checksum.f, cks] using key s.size 0 5 (by omega) (by omega) (by omega)

theorem spec_FormatInt.l0ev (neg : Bool) : ∀ s : Int × List UInt8, (s.2.length + s.1.natAbs ≤ 9223372036854775808 ∧ (s.2.length = 0 ∨ s.2.length + s.1.natAbs ≤ 9223372036854775800)) →
    Ev (fun k => spec_FormatInt.l0 k s.1 (str s.2) neg) (str ((if neg then [45] else []) ++ digs s.1.natAbs ++ s.2)) := by
  refine loop_ev (fun k (s : Int × List UInt8) => spec_FormatInt.l0 k s.1 (str s.2) neg) _ (fun s => s.1.natAbs) (fun s => str ((if neg then [45] else []) ++ digs s.1.natAbs ++ s.2)) ?_
  rintro ⟨x, l⟩ ⟨h1, h2⟩
  simp only at h1 h2 ⊢
  by_cases hx : x = 0
  · subst hx
    refine .inl (ev_shift ?_)
    simp only [spec_FormatInt.l0, if_true, str_size]
    cases neg with
    | false => exact ev_val fun _ => by simp [digs]
    | true =>
      simp only [if_true, if_pos (show 1 + l.length ≤ 9223372036854775807 by omega)]
      exact ev_val fun _ => by rw [show (⟨#[45]⟩ : ByteArray) = str [45] from rfl, str_append]; simp [digs]
  · refine .inr ⟨(Int.tdiv x 10, UInt8.ofNat (48 + x.natAbs % 10) :: l), ?_, ?_, ?_, ?_⟩
    · have ht := tmod10 x
      simp only [List.length_cons]
      have : (Int.tdiv x 10).natAbs = x.natAbs / 10 := by rcases (show x < 0 ∨ 0 ≤ x by omega) with c | c; (have := (ht.2 c).2; omega); (have := (ht.1 c).2; omega)
      rw [this]
      omega
    · have ht := tmod10 x
      have : (Int.tdiv x 10).natAbs = x.natAbs / 10 := by rcases (show x < 0 ∨ 0 ≤ x by omega) with c | c; (have := (ht.2 c).2; omega); (have := (ht.1 c).2; omega)
      simp only [this]
      omega
    · have ht := tmod10 x
      have : (Int.tdiv x 10).natAbs = x.natAbs / 10 := by rcases (show x < 0 ∨ 0 ≤ x by omega) with c | c; (have := (ht.2 c).2; omega); (have := (ht.1 c).2; omega)
      simp only [this]
      rw [digs_step x.natAbs (by omega)]
      simp
    · intro r hr
      refine ev_shift ?_
      have ht := tmod10 x
      have e2 : wrap64 (Int.tdiv x 10) = Int.tdiv x 10 := w64 (by rcases (show x < 0 ∨ 0 ≤ x by omega) with c | c; (have := (ht.2 c).2; omega); (have := (ht.1 c).2; omega)) (by rcases (show x < 0 ∨ 0 ≤ x by omega) with c | c; (have := (ht.2 c).2; omega); (have := (ht.1 c).2; omega))
      have e3 : ∀ d : Nat, d < 10 → (strOfNums ([(wrap64 (48 + (d : Int))) % 256] : List Int)) ++ str l = str (UInt8.ofNat (48 + d) :: l) := fun d hd => by rw [strOfNums_digit d hd, str_append]; rfl
      have e4 : ∀ d : Nat, d < 10 → (strOfNums ([(wrap64 (48 + (d : Int))) % 256] : List Int)).size + (str l).size ≤ 9223372036854775807 := fun d hd => by rw [strOfNums_digit d hd, str_size, str_size]; simp only [List.length_cons, List.length_nil]; omega
      have hd : x.natAbs % 10 < 10 := by omega
      simp only [spec_FormatInt.l0, if_neg hx, e2]
      by_cases c : Int.tmod x 10 < 0
      · have hm : Int.tmod x 10 = -((x.natAbs % 10 : Nat) : Int) := by rcases (show x < 0 ∨ 0 ≤ x by omega) with c' | c'; exact (ht.2 c').1; (have := (ht.1 c').1; omega)
        have e1 : wrap64 (-(Int.tmod x 10)) = ((x.natAbs % 10 : Nat) : Int) := by rw [hm, w64 (by omega) (by omega)]; omega
        simp only [if_pos c, e1, Option.bind_some, if_pos (e4 _ hd), e3 _ hd]
        exact hr
      · have hm : Int.tmod x 10 = ((x.natAbs % 10 : Nat) : Int) := by rcases (show x < 0 ∨ 0 ≤ x by omega) with c' | c'; (have := (ht.2 c').1; omega); exact (ht.1 c').1
        rw [hm] at c
        simp only [hm, if_neg c, Option.bind_some, if_pos (e4 _ hd), e3 _ hd]
        exact hr
theorem spec_FormatInt.ev (a : Int) (h0 : -9223372036854775808 ≤ a) (h1 : a ≤ 9223372036854775807) : Ev (fun k => spec_FormatInt.f k a) (str (Lib.itoa a)) := by
  by_cases ha : a = 0
  · subst ha
    simp only [spec_FormatInt.f, if_true, itoa_zero]
    exact Ev.now _
  · simp only [spec_FormatInt.f, if_neg ha]
    have h := spec_FormatInt.l0ev (decide (a < 0)) (a, []) ⟨by simp only [List.length_nil]; omega, .inl rfl⟩
    refine ev_eq h ?_
    rw [itoa_digs a ha]
    simp only [List.append_nil, decide_eq_true_eq]

theorem spec_FormatOp.ev (a b c d e f : Int) : Ev (fun k => spec_FormatOp.f k a b c d e f) (str (fopL a b c d e f)) := by
  cases hv : vop a b c d e f with
  | false => exact ev_val fun k => by simp only [spec_FormatOp.f, spec_IsValidOp.val, hv, Option.bind_some, Bool.false_eq_true, if_false, fopL]; rfl
  | true =>
    have hq := hv
    simp only [vop, decide_eq_true_eq] at hq
    obtain ⟨K0, h0⟩ := spec_FormatInt.ev a (by omega) (by omega)
    obtain ⟨K1, h1⟩ := spec_FormatInt.ev b (by omega) (by omega)
    obtain ⟨K3, h3⟩ := spec_FormatInt.ev d (by omega) (by omega)
    obtain ⟨K4, h4⟩ := spec_FormatInt.ev e (by omega) (by omega)
    obtain ⟨K5, h5⟩ := spec_FormatInt.ev f (by omega) (by omega)
    have l0 := itoa_len a (by omega) (by omega)
    have l1 := itoa_len b (by omega) (by omega)
    have l3 := itoa_len d (by omega) (by omega)
    have l4 := itoa_len e (by omega) (by omega)
    have l5 := itoa_len f (by omega) (by omega)
    refine ⟨K0 + K1 + K3 + K4 + K5, fun k hk => ?_⟩
    rcases (show (c = 1 ∧ ¬ c = 2) ∨ (c = 2 ∧ ¬ c = 1) by omega) with ⟨hc, hn⟩ | ⟨hc, hn⟩
    · simp only [spec_FormatOp.f, spec_IsValidOp.val, hv, Option.bind_some, if_true, h0 k (by omega), h1 k (by omega), h3 k (by omega), h5 k (by omega), if_pos hc, str_lit, str_append, str_size, List.length_append, List.length_cons, List.length_nil]
      simp (disch := omega) only [if_pos]
      simp only [fopL, hv, if_true, opL, if_neg hn, List.append_assoc, List.cons_append, List.nil_append]
    · simp only [spec_FormatOp.f, spec_IsValidOp.val, hv, Option.bind_some, if_true, h0 k (by omega), h1 k (by omega), h3 k (by omega), h4 k (by omega), h5 k (by omega), if_neg hn, str_lit, str_append, str_size, List.length_append, List.length_cons, List.length_nil]
      simp (disch := omega) only [if_pos]
      simp only [fopL, hv, if_true, opL, if_pos hc, List.append_assoc, List.cons_append, List.nil_append]

theorem spec_FormatLog.l0ev (xs : List S66) (hv : isLog xs) :
    ∀ s : Nat × List UInt8, (s.1 ≤ xs.length ∧ s.2.length ≤ 400 * s.1) → Ev (fun k => spec_FormatLog.l0 k xs (str s.2) (s.1 : Int)) (str (s.2 ++ restL xs s.1)) := by
  refine loop_ev (fun k (s : Nat × List UInt8) => spec_FormatLog.l0 k xs (str s.2) (s.1 : Int)) _ (fun s => xs.length - s.1) (fun s => str (s.2 ++ restL xs s.1)) ?_
  rintro ⟨i, acc⟩ ⟨h1, h2⟩
  simp only at h1 h2 ⊢
  have h16 := hv.2
  by_cases hi : i < xs.length
  · have hep := isLog_epoch xs hv i hi
    obtain ⟨K1, f1⟩ := spec_FormatInt.ev xs[i].f0 (by omega) (by omega)
    obtain ⟨K2, f2⟩ := spec_FormatOp.ev xs[i].f1.f0 xs[i].f1.f1 xs[i].f1.f2 xs[i].f1.f3 xs[i].f1.f4 xs[i].f1.f5
    have hl := itoa_len xs[i].f0 (by omega) (by omega)
    have hl2 := fopL_len xs[i].f1.f0 xs[i].f1.f1 xs[i].f1.f2 xs[i].f1.f3 xs[i].f1.f4 xs[i].f1.f5
    have e1 := w64 (show -9223372036854775808 ≤ (i : Int) + 1 by omega) (by omega)
    refine .inr ⟨(i + 1, acc ++ (if i = 0 then entL xs[i] else [59] ++ entL xs[i])), ⟨by simp only; omega, ?_⟩, by simp only; omega, ?_, ?_⟩
    · simp only [List.length_append]
      split <;> simp only [entL, List.length_append, List.length_cons, List.length_nil] <;> omega
    · simp only [restL_step xs i hi, List.append_assoc]
    · intro r hr'
      obtain ⟨K3, hr3⟩ := hr'
      refine ⟨K1 + K2 + K3 + 1, fun k hk => ?_⟩
      obtain ⟨k, rfl⟩ : ∃ m, k = m + 1 := ⟨k - 1, by omega⟩
      rw [← hr3 k (by omega)]
      by_cases h0 : i = 0
      · simp only [spec_FormatLog.l0, if_pos (show (i : Int) < (xs.length : Int) by omega), if_pos (show (0 : Int) ≤ (i : Int) by omega), if_neg (show ¬ ((i : Int) > 0) by omega), rdE xs i hi, f1 k (by omega), f2 k (by omega), Option.bind_some, str_lit, str_append, str_size, List.length_append, List.length_cons, List.length_nil, e1]
        simp (disch := omega) only [if_pos]
        simp only [entL, List.append_assoc, List.cons_append, List.nil_append]
        rfl
      · simp only [spec_FormatLog.l0, if_pos (show (i : Int) < (xs.length : Int) by omega), if_pos (show (0 : Int) ≤ (i : Int) by omega), if_pos (show (i : Int) > 0 by omega), rdE xs i hi, f1 k (by omega), f2 k (by omega), Option.bind_some, str_lit, str_append, str_size, List.length_append, List.length_cons, List.length_nil, e1]
        simp (disch := omega) only [if_pos, if_neg]
        simp only [entL, List.append_assoc, List.cons_append, List.nil_append]
        rfl
  · refine .inl (ev_shift (ev_val fun k => ?_))
    obtain rfl : i = xs.length := by omega
    simp only [spec_FormatLog.l0, if_neg (show ¬ ((xs.length : Int) < (xs.length : Int)) by omega), restL_end, List.append_nil]
theorem spec_FormatLog.ev (xs : List S66) (hn : xs.length ≤ 1048577) (b : Bool) (hb : Ev (fun k => spec_IsLog.f k xs) b) (hq : b = true ↔ isLog xs) : Ev (fun k => spec_FormatLog.f k xs) (str (if b = true then logL xs else [])) := by
  refine Ev.bind hb ?_
  cases b with
  | false => exact ev_val fun _ => rfl
  | true =>
    simp only [if_true, logL]
    by_cases h : xs.length = 0
    · simp only [if_pos h, if_pos (show (xs.length : Int) = 0 by omega)]; exact Ev.now _
    · simp only [if_neg h, if_neg (show ¬ ((xs.length : Int) = 0) by omega)]
      have := spec_FormatLog.l0ev xs (hq.1 rfl) (0, []) ⟨by simp, by simp⟩
      have e : (⟨#[]⟩ : ByteArray) = str [] := rfl
      rw [e]
      simpa [restL] using this

theorem spec_FormatLog.one (x : S66) (h : isLog [x]) : Ev (fun k => spec_FormatLog.f k [x]) (str (entL x)) := by
  obtain ⟨b, hb, hq⟩ := spec_IsLog.ev [x] (by simp)
  have := spec_FormatLog.ev [x] (by simp) b hb hq
  rw [if_pos (hq.2 h), logL_one] at this
  exact this
theorem spec_DigestList.l0ev (xs : List S66) (hv : isLog xs) :
    ∀ s : List Int × Int, (s.1.length ≤ xs.length ∧ 0 ≤ s.2 ∧ s.2 ≤ 9972) → Ev (fun k => spec_DigestList.l0 k xs (s.1 ++ [s.2]) s.2 (s.1.length : Int)) (s.1 ++ dgs s.2 (xs.drop s.1.length)) := by
  refine loop_ev (fun k (s : List Int × Int) => spec_DigestList.l0 k xs (s.1 ++ [s.2]) s.2 (s.1.length : Int)) _ (fun s => xs.length - s.1.length) (fun s => s.1 ++ dgs s.2 (xs.drop s.1.length)) ?_
  rintro ⟨pre, d⟩ ⟨h1, h2, h3⟩
  simp only at h1 h2 h3 ⊢
  have h16 := hv.2
  obtain ⟨i, hi0⟩ : ∃ i, i = pre.length := ⟨_, rfl⟩
  rw [← hi0] at h1 ⊢
  by_cases hi : i < xs.length
  · have hd : xs.drop i = xs[i] :: xs.drop (i + 1) := List.drop_eq_getElem_cons hi
    have e1 := w64 (show -9223372036854775808 ≤ (i : Int) + 1 by omega) (by omega)
    have e2 : (((i : Int) + 1).toNat) = i + 1 := by omega
    have hck := cks_range (bytesOf (str (entL xs[i])))
    have hl := entL_len xs hv i hi
    obtain ⟨K1, f1⟩ := spec_FormatLog.one xs[i] (isLog_one xs hv i hi)
    obtain ⟨K2, f2⟩ := spec_Checksum.ev (str (entL xs[i])) (by rw [str_size]; omega)
    have hst := dgStep_range d xs[i]
    refine .inr ⟨(pre ++ [d], dgStep d xs[i]), ⟨by simp only [List.length_append, List.length_singleton]; omega, hst.1, hst.2⟩, by simp only [List.length_append, List.length_singleton]; omega, ?_, ?_⟩
    · simp only [List.length_append, List.length_singleton, ← hi0]
      rw [hd]
      simp only [dgs, List.append_assoc, List.singleton_append]
    · rintro r ⟨K3, hr3⟩
      simp only [List.length_append, List.length_singleton, ← hi0] at hr3
      refine ⟨K1 + K2 + K3 + 1, fun k hk => ?_⟩
      obtain ⟨k, rfl⟩ : ∃ m, k = m + 1 := ⟨k - 1, by omega⟩
      rw [← hr3 k (by omega)]
      simp only [spec_DigestList.l0, if_pos (show (i : Int) < (xs.length : Int) by omega), if_pos (show (0 : Int) ≤ (i : Int) by omega), e1, e2, if_pos (show (i : Int) ≤ (i : Int) + 1 by omega), if_pos (show (i : Int) + 1 ≤ (xs.length : Int) by omega), Int.toNat_natCast, cut_one xs i hi, f1 k (by omega), f2 k (by omega), Option.bind_some, List.length_append, List.length_singleton, ← hi0, if_pos (show i + 1 < 17592186044416 by omega),
        w64 (show -9223372036854775808 ≤ d * 31 by omega) (by omega), w64 (show -9223372036854775808 ≤ d * 31 + cks (bytesOf (str (entL xs[i]))) by omega) (by omega), tmod_pos (d * 31 + cks (bytesOf (str (entL xs[i])))) 9973 (by omega)]
      rfl
  · obtain rfl : i = xs.length := by omega
    refine .inl (ev_shift (ev_val fun k => ?_))
    simp only [spec_DigestList.l0, if_neg (show ¬ ((xs.length : Int) < (xs.length : Int)) by omega), List.drop_length, dgs]
theorem spec_DigestList.ev (xs : List S66) (hn : xs.length ≤ 1048576) (b : Bool) (hb : Ev (fun k => spec_IsLog.f k xs) b) (hq : b = true ↔ isLog xs) : Ev (fun k => spec_DigestList.f k xs) (if b = true then dgs 11 xs else []) := by
  simp only [spec_DigestList.f, Option.bind_some, List.length_nil, if_pos (show 0 < 17592186044416 by omega), List.nil_append]
  refine Ev.bind hb ?_
  cases b with
  | false => exact ev_val fun _ => rfl
  | true =>
    simp only [if_true]
    have := spec_DigestList.l0ev xs (hq.1 rfl) ([], 11) ⟨by simp, by simp, by simp⟩
    simpa using this

/-- How long two logs agree. -/
def cpl : List S66 → List S66 → Nat
  | x :: xs, y :: ys => if x.f0 = y.f0 ∧ x.f1.f0 = y.f1.f0 ∧ x.f1.f1 = y.f1.f1 ∧ x.f1.f2 = y.f1.f2 ∧ x.f1.f3 = y.f1.f3 ∧ x.f1.f4 = y.f1.f4 ∧ x.f1.f5 = y.f1.f5 then cpl xs ys + 1 else 0
  | _, _ => 0
theorem cpl_nil_right (xs : List S66) : cpl xs [] = 0 := by cases xs <;> rfl
theorem ent_test (x y : S66) : ((x.f0 == y.f0 && (x.f1.f0 == y.f1.f0 && (x.f1.f1 == y.f1.f1 && (x.f1.f2 == y.f1.f2 && (x.f1.f3 == y.f1.f3 && (x.f1.f4 == y.f1.f4 && x.f1.f5 == y.f1.f5)))))) = true) ↔ (x.f0 = y.f0 ∧ x.f1.f0 = y.f1.f0 ∧ x.f1.f1 = y.f1.f1 ∧ x.f1.f2 = y.f1.f2 ∧ x.f1.f3 = y.f1.f3 ∧ x.f1.f4 = y.f1.f4 ∧ x.f1.f5 = y.f1.f5) := by
  simp only [Bool.and_eq_true, beq_iff_eq]

theorem spec_CommonPrefix.ev (xs ys : List S66) (hx : xs.length ≤ 9223372036854775806) : Ev (fun k => spec_CommonPrefix.f k xs ys) (cpl xs ys : Int) := by
  have key : ∀ (d i : Nat), i + d = xs.length → Ev (fun k => spec_CommonPrefix.l0 k xs ys (i : Int)) ((i : Int) + (cpl (xs.drop i) (ys.drop i) : Int)) := by
    intro d
    induction d with
    | zero =>
      intro i h
      refine ev_shift ?_
      simp only [spec_CommonPrefix.l0, if_neg (show ¬ ((i : Int) < (xs.length : Int)) by omega)]
      exact ev_some (by rw [List.drop_eq_nil_of_le (show xs.length ≤ i by omega)]; simp [cpl])
    | succ d ih =>
      intro i h
      have h1 : i < xs.length := by omega
      refine ev_shift ?_
      by_cases h2 : i < ys.length
      · have := ih (i + 1) (by omega)
        simp only [spec_CommonPrefix.l0, if_pos (show (i : Int) < (xs.length : Int) by omega), if_pos (show (i : Int) < (ys.length : Int) by omega), if_pos (show (0 : Int) ≤ (i : Int) by omega), w64 (show -9223372036854775808 ≤ (i : Int) + 1 by omega) (by omega), rdE xs i h1, rdE ys i h2, ent_test]
        rw [List.drop_eq_getElem_cons h1, List.drop_eq_getElem_cons h2]
        by_cases hc : xs[i].f0 = ys[i].f0 ∧ xs[i].f1.f0 = ys[i].f1.f0 ∧ xs[i].f1.f1 = ys[i].f1.f1 ∧ xs[i].f1.f2 = ys[i].f1.f2 ∧ xs[i].f1.f3 = ys[i].f1.f3 ∧ xs[i].f1.f4 = ys[i].f1.f4 ∧ xs[i].f1.f5 = ys[i].f1.f5
        · simp only [if_pos hc, cpl]
          refine ev_eq (by simpa using this) (by omega)
        · simp only [if_neg hc, cpl]
          exact ev_some (by omega)
      · simp only [spec_CommonPrefix.l0, if_pos (show (i : Int) < (xs.length : Int) by omega), if_neg (show ¬ ((i : Int) < (ys.length : Int)) by omega)]
        exact ev_some (by rw [List.drop_eq_nil_of_le (show ys.length ≤ i by omega), cpl_nil_right]; simp)
  have := key xs.length 0 (by omega)
  simpa [spec_CommonPrefix.f] using this

/-- Where two lists part. -/
def firstDiff : List Int → List Int → Int → Int
  | [], [], _ => -1
  | [], _ :: _, i => i
  | _ :: _, [], i => i
  | x :: xs, y :: ys, i => if x = y then firstDiff xs ys (i + 1) else i

theorem impl_FirstDifference.ev (xs ys : List Int) (hx : xs.length ≤ 9223372036854775806) (hy : ys.length ≤ 9223372036854775806) : Ev (fun k => impl_FirstDifference.f k xs ys) (firstDiff xs ys 0) := by
  have key : ∀ (d i : Nat), i + d = min xs.length ys.length → Ev (fun k => impl_FirstDifference.l0 k xs ys ((min xs.length ys.length : Nat) : Int) ((min xs.length ys.length : Nat) : Int) (i : Int)) (firstDiff (xs.drop i) (ys.drop i) (i : Int)) := by
    intro d
    induction d with
    | zero =>
      intro i h
      refine ev_shift ?_
      simp only [impl_FirstDifference.l0, if_neg (show ¬ ((i : Int) < ((min xs.length ys.length : Nat) : Int)) by omega)]
      by_cases he : (xs.length : Int) = (ys.length : Int)
      · simp only [if_pos he]
        refine ev_some ?_
        rw [List.drop_eq_nil_of_le (by omega), List.drop_eq_nil_of_le (by omega)]; rfl
      · simp only [if_neg he]
        refine ev_some ?_
        rcases Nat.lt_or_ge xs.length ys.length with hl | hl
        · rw [List.drop_eq_nil_of_le (show xs.length ≤ i by omega), List.drop_eq_getElem_cons (show i < ys.length by omega)]
          simp only [firstDiff]; omega
        · rw [List.drop_eq_nil_of_le (show ys.length ≤ i by omega), List.drop_eq_getElem_cons (show i < xs.length by omega)]
          simp only [firstDiff]; omega
    | succ d ih =>
      intro i h
      have := ih (i + 1) (by omega)
      refine ev_shift ?_
      simp only [impl_FirstDifference.l0, if_pos (show (i : Int) < ((min xs.length ys.length : Nat) : Int) by omega), if_pos (show (i : Int) < (xs.length : Int) by omega), if_pos (show (i : Int) < (ys.length : Int) by omega), if_pos (show (0 : Int) ≤ (i : Int) by omega), w64 (show -9223372036854775808 ≤ (i : Int) + 1 by omega) (by omega)]
      rw [drop_cons_rd xs i (by omega), drop_cons_rd ys i (by omega)]
      by_cases he : rd xs (i : Int) = rd ys (i : Int)
      · simp only [if_pos he, firstDiff]
        simpa using this
      · simp only [if_neg he, firstDiff]
        exact Ev.now _
  have := key (min xs.length ys.length) 0 (by omega)
  rw [List.drop_zero, List.drop_zero] at this
  by_cases hl : (ys.length : Int) < (xs.length : Int)
  · simp only [impl_FirstDifference.f, if_pos hl]
    rw [show ((min xs.length ys.length : Nat) : Int) = (ys.length : Int) by omega] at this
    exact this
  · simp only [impl_FirstDifference.f, if_neg hl]
    rw [show ((min xs.length ys.length : Nat) : Int) = (xs.length : Int) by omega] at this
    exact this

theorem spec_FirstDifference.ev (xs ys : List Int) (hx : xs.length ≤ 9223372036854775806) (hy : ys.length ≤ 9223372036854775806) : Ev (fun k => spec_FirstDifference.f k xs ys) (firstDiff xs ys 0) := by
  have key : ∀ (d i : Nat), i + d = min xs.length ys.length → Ev (fun k => spec_FirstDifference.l0 k xs ys (i : Int)) (firstDiff (xs.drop i) (ys.drop i) (i : Int)) := by
    intro d
    induction d with
    | zero =>
      intro i h
      have hend : ¬ ((i : Int) < (xs.length : Int) ∧ (i : Int) < (ys.length : Int)) := by omega
      have hj : Ev (fun k => spec_FirstDifference.j1 k xs ys (i : Int) false) (firstDiff (xs.drop i) (ys.drop i) (i : Int)) := by
        refine ev_shift ?_
        simp only [spec_FirstDifference.j1, Bool.false_eq_true, if_false]
        by_cases he : (xs.length : Int) = (ys.length : Int)
        · simp only [if_pos he]
          refine ev_some ?_
          rw [List.drop_eq_nil_of_le (by omega), List.drop_eq_nil_of_le (by omega)]; rfl
        · simp only [if_neg he]
          rcases Nat.lt_or_ge xs.length ys.length with hl | hl
          · simp only [if_neg (show ¬ ((ys.length : Int) < (xs.length : Int)) by omega)]
            refine ev_some ?_
            rw [List.drop_eq_nil_of_le (show xs.length ≤ i by omega), List.drop_eq_getElem_cons (show i < ys.length by omega)]
            simp only [firstDiff]; omega
          · simp only [if_pos (show (ys.length : Int) < (xs.length : Int) by omega)]
            refine ev_some ?_
            rw [List.drop_eq_nil_of_le (show ys.length ≤ i by omega), List.drop_eq_getElem_cons (show i < xs.length by omega)]
            simp only [firstDiff]; omega
      refine ev_shift ?_
      by_cases h1 : (i : Int) < (xs.length : Int)
      · simp only [spec_FirstDifference.l0, if_pos h1, decide_eq_false (show ¬ ((i : Int) < (ys.length : Int)) from fun h2 => hend ⟨h1, h2⟩)]
        exact hj
      · simp only [spec_FirstDifference.l0, if_neg h1]
        exact hj
    | succ d ih =>
      intro i h
      have := ih (i + 1) (by omega)
      refine ev_shift ?_
      simp only [spec_FirstDifference.l0, if_pos (show (i : Int) < (xs.length : Int) by omega), decide_eq_true (show (i : Int) < (ys.length : Int) by omega)]
      refine ev_shift ?_
      simp only [spec_FirstDifference.j1, if_true, if_pos (show (i : Int) < (xs.length : Int) by omega), if_pos (show (i : Int) < (ys.length : Int) by omega), if_pos (show (0 : Int) ≤ (i : Int) by omega), w64 (show -9223372036854775808 ≤ (i : Int) + 1 by omega) (by omega)]
      rw [drop_cons_rd xs i (by omega), drop_cons_rd ys i (by omega)]
      by_cases he : rd xs (i : Int) = rd ys (i : Int)
      · simp only [if_pos he, firstDiff]
        simpa using this
      · simp only [if_neg he, firstDiff]
        exact Ev.now _
  simpa [spec_FirstDifference.f] using key (min xs.length ys.length) 0 (by omega)

theorem spec_DigestOf.ev (xs : List S66) (a : Int) (l : List Int) (hl : Ev (fun k => spec_DigestList.f k xs) l) (hn : l.length ≤ 1000000) : Ev (fun k => spec_DigestOf.f k xs a) (dgAt l a) := by
  refine Ev.bind hl (ev_val fun k => ?_)
  have e1 := w64 (show -9223372036854775808 ≤ (l.length : Int) - 1 by omega) (by omega)
  by_cases h : 0 ≤ a ∧ a ≤ (l.length : Int) - 1
  · simp only [spec_l1In.val, e1, Option.bind_some, decide_eq_true h, if_true, if_pos h.1, if_pos (show a < (l.length : Int) by omega), dgAt, if_pos h]
  · simp only [spec_l1In.val, e1, Option.bind_some, decide_eq_false h, Bool.false_eq_true, if_false, dgAt, if_neg h]

theorem spec_DrawProvesPrefix.ev (c : List Int) (hc : c.length ≤ 1048576) : ∃ l n d, Ev (fun k => spec_DrawProvesPrefix.f k c) (l, n, d) ∧ l.length ≤ 17 ∧ 0 ≤ n ∧ n ≤ (l.length : Int) + 1 := by
  obtain ⟨h, e0⟩ := spec_l1New.ev c hc
  obtain ⟨l, i1, h1, e1, hl, hi1⟩ := spec_l5Any.ev c hc 0 h cur0
  obtain ⟨n, i2, h2, e2, _, hn, hi2⟩ := spec_l1Below.is c hc i1 h1 ((l.length : Int) + 2) hi1
  have hn' := hn (by omega)
  obtain ⟨b, hb, hq⟩ := spec_IsLog.ev l (by omega)
  have hS := spec_DigestList.ev l (by omega) b hb hq
  have hlen : (if b = true then dgs 11 l else []).length ≤ 1000000 := by
    split
    · rw [dgs_len]; omega
    · simp
  have hD := spec_DigestOf.ev l n _ hS hlen
  generalize dgAt (if b = true then dgs 11 l else []) n = t at hD
  obtain ⟨q, i3, h3, e3, hi3⟩ := spec_l1Once.is c hc i2 h2 4 hi2
  cases q with
  | true =>
    obtain ⟨x, i4, h4, e4, _, hi4⟩ := spec_l1PickInt.is c hc i3 h3 [(-1), 0, 11, wrap64 (t + 1)] (by simp) hi3
    refine ⟨l, n, x, Ev.bind e0 (Ev.bind e1 ?_), hl, hn'.1, by omega⟩
    simp only [w64 (show -9223372036854775808 ≤ (l.length : Int) + 2 by omega) (by omega), e2, Option.bind_some]
    refine Ev.bind hD (ev_val fun k => ?_)
    simp only [e3, Option.bind_some, if_true, e4]
  | false =>
    refine ⟨l, n, t, Ev.bind e0 (Ev.bind e1 ?_), hl, hn'.1, by omega⟩
    simp only [w64 (show -9223372036854775808 ≤ (l.length : Int) + 2 by omega) (by omega), e2, Option.bind_some]
    refine Ev.bind hD (ev_val fun k => ?_)
    simp only [e3, Option.bind_some, Bool.false_eq_true, if_false]

theorem impl_DigestOf.ev (xs : List S66) (a : Int) (l : List Int) (hl : Ev (fun k => impl_DigestList.f k xs) l) (hn : l.length ≤ 1000000) : Ev (fun k => impl_DigestOf.f k xs a) (dgAt l a) := by
  refine Ev.bind hl (ev_val fun k => ?_)
  have e1 := w64 (show -9223372036854775808 ≤ (l.length : Int) - 1 by omega) (by omega)
  by_cases h : 0 ≤ a ∧ a ≤ (l.length : Int) - 1
  · simp only [impl_within.val, e1, Option.bind_some, decide_eq_true h, if_true, if_pos h.1, if_pos (show a < (l.length : Int) by omega), dgAt, if_pos h]
  · simp only [impl_within.val, e1, Option.bind_some, decide_eq_false h, Bool.false_eq_true, if_false, dgAt, if_neg h]

theorem impl_ProvesPrefix.ev (xs : List S66) (a d : Int) (l : List Int) (hl : Ev (fun k => impl_DigestList.f k xs) l) (hn : l.length ≤ 1000000) : Ev (fun k => impl_ProvesPrefix.f k xs a d) (decide (d ≥ 0) && (dgAt l a == d)) := by
  by_cases h : d ≥ 0
  · simp only [impl_ProvesPrefix.f, if_pos h, decide_eq_true h, Bool.true_and]
    exact Ev.bind (impl_DigestOf.ev xs a l hl hn) (Ev.now _)
  · simp only [impl_ProvesPrefix.f, if_neg h, decide_eq_false h, Bool.false_and]
    exact Ev.now _

theorem spec_ProvesPrefix.ev (xs : List S66) (a d : Int) (l : List Int) (hl : Ev (fun k => spec_DigestList.f k xs) l) (hn : l.length ≤ 1000000) : Ev (fun k => spec_ProvesPrefix.f k xs a d) (decide (d ≥ 0) && (dgAt l a == d)) := by
  by_cases h : d ≥ 0
  · simp only [spec_ProvesPrefix.f, if_pos h, decide_eq_true h, Bool.true_and]
    exact Ev.bind (spec_DigestOf.ev xs a l hl hn) (Ev.now _)
  · simp only [spec_ProvesPrefix.f, if_neg h, decide_eq_false h, Bool.false_and]
    exact Ev.now _

theorem firstDiff_ge : ∀ (x y : List Int) (i : Int), firstDiff x y i = -1 ∨ i ≤ firstDiff x y i
  | [], [], _ => .inl rfl
  | [], _ :: _, _ => .inr (Int.le_refl _)
  | _ :: _, [], _ => .inr (Int.le_refl _)
  | x :: xs, y :: ys, i => by
    unfold firstDiff
    split
    · rcases firstDiff_ge xs ys (i + 1) with h | h
      · exact .inl h
      · exact .inr (by omega)
    · exact .inr (Int.le_refl _)
/-- The digests of a common prefix are equal: the first different one lies behind it. -/
theorem dgs_prefix : ∀ (a b : List S66) (c i : Int), 0 ≤ i → firstDiff (dgs c a) (dgs c b) i = -1 ∨ i + (cpl a b : Int) < firstDiff (dgs c a) (dgs c b) i
  | [], [], c, i, h => .inl (by simp [dgs, firstDiff])
  | [], y :: b, c, i, h => .inr (by
      cases b <;> simp [dgs, firstDiff, cpl] <;> omega)
  | x :: a, [], c, i, h => .inr (by
      rw [cpl_nil_right]
      cases a <;> simp [dgs, firstDiff] <;> omega)
  | x :: a, y :: b, c, i, h => by
    have e : firstDiff (dgs c (x :: a)) (dgs c (y :: b)) i = firstDiff (dgs (dgStep c x) a) (dgs (dgStep c y) b) (i + 1) := by
      show firstDiff (c :: dgs (dgStep c x) a) (c :: dgs (dgStep c y) b) i = _
      rw [firstDiff, if_pos rfl]
    rw [e]
    by_cases t : x.f0 = y.f0 ∧ x.f1.f0 = y.f1.f0 ∧ x.f1.f1 = y.f1.f1 ∧ x.f1.f2 = y.f1.f2 ∧ x.f1.f3 = y.f1.f3 ∧ x.f1.f4 = y.f1.f4 ∧ x.f1.f5 = y.f1.f5
    · have hxy : x = y := by
        cases x with | mk xe xo => cases y with | mk ye yo => cases xo; cases yo; simp only at t; obtain ⟨rfl, rfl, rfl, rfl, rfl, rfl, rfl⟩ := t; rfl
      subst hxy
      have ec : cpl (x :: a) (x :: b) = cpl a b + 1 := by rw [cpl, if_pos t]
      rw [ec]
      rcases dgs_prefix a b (dgStep c x) (i + 1) (by omega) with h' | h'
      · exact .inl h'
      · exact .inr (by omega)
    · have ec : cpl (x :: a) (y :: b) = 0 := by rw [cpl, if_neg t]
      rw [ec]
      rcases firstDiff_ge (dgs (dgStep c x) a) (dgs (dgStep c y) b) (i + 1) with h' | h'
      · exact .inl h'
      · exact .inr (by omega)
theorem dgs_nonneg : ∀ (l : List S66) (c : Int), 0 ≤ c → ∀ x ∈ dgs c l, 0 ≤ x
  | [], c, h, x, hx => by simp [dgs] at hx; omega
  | y :: r, c, h, x, hx => by
    simp only [dgs, List.mem_cons] at hx
    rcases hx with rfl | hx
    · exact h
    · exact dgs_nonneg r _ (dgStep_range c y).1 x hx

theorem FnDigests : FnDigestsPure := by
  intro c _ _ _
  refine Ev.rounds (g := fun k => laws_FnDigests.f k c) ?_
  by_cases h1 : (c.length : Int) > 1048576
  · simp only [laws_FnDigests.f, laws_big.f, Option.bind_some, decide_eq_true h1, if_true]; exact Ev.now _
  simp only [laws_FnDigests.f, laws_big.f, Option.bind_some, decide_eq_false h1, Bool.false_eq_true, if_false]
  have lens : ∀ (l : List S66) (b : Bool), l.length ≤ 20 → (if b = true then dgs 11 l else []).length ≤ 21 := fun l b h => by
    split
    · rw [dgs_len]; omega
    · simp
  -- the second half
  have fin : Ev (fun k => laws_FnDigests.j1 k c false) true := by
    obtain ⟨l, n, d, hd, hl, hn⟩ := spec_DrawProvesPrefix.ev c (by omega)
    obtain ⟨b, sb, qb⟩ := spec_IsLog.ev l (by omega)
    obtain ⟨b', ib, qb'⟩ := impl_IsLog.ev l (by omega)
    obtain rfl : b' = b := by rw [Bool.eq_iff_iff, qb, qb']
    have hS := spec_DigestList.ev l (by omega) _ sb qb
    have hI := impl_DigestList.ev l (by omega) _ ib qb
    have hlen := lens l b' (by omega)
    refine ev_shift ?_
    simp only [laws_FnDigests.j1, Bool.false_eq_true, if_false]
    refine Ev.bind hd (Ev.bind (impl_ProvesPrefix.ev l n d _ hI (by omega)) (Ev.bind (spec_ProvesPrefix.ev l n d _ hS (by omega)) ?_))
    simp only [beq_self_eq_true, if_true]
    refine Ev.bind (impl_DigestOf.ev l n _ hI (by omega)) (Ev.bind (spec_DigestOf.ev l n _ hS (by omega)) ?_)
    simp only [if_true]
    refine Ev.bind sb ?_
    cases hb : b' with
    | false => simp only [Bool.false_eq_true, if_false]; exact Ev.now _
    | true =>
      subst hb
      simp only [if_true]
      by_cases hn2 : n > (l.length : Int)
      · simp only [if_pos hn2]; exact Ev.now _
      · simp only [if_neg hn2]
        refine Ev.bind (impl_DigestOf.ev l n _ hI (by omega)) ?_
        refine Ev.bind (impl_ProvesPrefix.ev l n _ _ hI (by omega)) ?_
        have h0 : dgAt (if true = true then dgs 11 l else []) n ≥ 0 := by
          simp only [if_true]
          have hl2 := dgs_len l 11
          obtain ⟨N, rfl⟩ := Int.eq_ofNat_of_zero_le hn.1
          rw [dgAt, if_pos (by omega), rd_get _ N (by omega)]
          exact dgs_nonneg l 11 (by omega) _ (List.getElem_mem _)
        exact ev_some (by rw [decide_eq_true h0]; simp)
  obtain ⟨a, b, hd, la, lb⟩ := spec_DrawCommonPrefix.ev c (by omega)
  obtain ⟨ba, sa, qa⟩ := spec_IsLog.ev a (by omega)
  obtain ⟨ba', ia, qa'⟩ := impl_IsLog.ev a (by omega)
  obtain rfl : ba' = ba := by rw [Bool.eq_iff_iff, qa, qa']
  obtain ⟨bb, sb, qb⟩ := spec_IsLog.ev b (by omega)
  obtain ⟨bb', ib, qb'⟩ := impl_IsLog.ev b (by omega)
  obtain rfl : bb' = bb := by rw [Bool.eq_iff_iff, qb, qb']
  have sA := spec_DigestList.ev a (by omega) _ sa qa
  have iA := impl_DigestList.ev a (by omega) _ ia qa
  have sB := spec_DigestList.ev b (by omega) _ sb qb
  have iB := impl_DigestList.ev b (by omega) _ ib qb
  have nA := lens a ba' (by omega)
  have nB := lens b bb' (by omega)
  refine Ev.bind hd (Ev.bind iA (Ev.bind iB (Ev.bind sA (Ev.bind (laws_sameInts.same _ (by omega)) ?_))))
  simp only [if_true]
  refine Ev.bind sB (Ev.bind (laws_sameInts.same _ (by omega)) ?_)
  simp only [Bool.not_true]
  refine ev_shift ?_
  simp only [laws_FnDigests.j0, Bool.false_eq_true, if_false]
  refine Ev.bind (spec_CommonPrefix.ev a b (by omega)) (Ev.bind (impl_FirstDifference.ev _ _ (by omega) (by omega)) (Ev.bind (spec_FirstDifference.ev _ _ (by omega) (by omega)) ?_))
  simp only [if_true]
  refine Ev.bind sa ?_
  cases hba : ba' with
  | false => simp only [Bool.false_eq_true, if_false]; exact fin
  | true =>
    simp only [if_true]
    refine Ev.bind sb ?_
    cases hbb : bb' with
    | false => simp only [Bool.false_eq_true, if_false]; exact fin
    | true =>
      simp only [if_true]
      by_cases hk : firstDiff (dgs 11 a) (dgs 11 b) 0 ≥ 0
      · have hlt : ¬ (firstDiff (dgs 11 a) (dgs 11 b) 0 ≤ (cpl a b : Int)) := by
          rcases dgs_prefix a b 11 0 (by omega) with h | h <;> omega
        simp only [if_pos hk, decide_eq_false hlt]
        exact fin
      · simp only [if_neg hk]
        exact fin

end Go.Proofs.YtcikahnmiiichaaDoor.Pure
