/- Go functions as Lean functions, and the proof that the code comes to them: written by a program of this session out of the translation. -/
import Derived.Test.YtcikahnmiiichaaDoorP0
import Derived.Test.YtcikahnmiiichaaDoorP6
namespace Go.Proofs.YtcikahnmiiichaaDoor.P
open List renaming setIfInBounds_toArray → uZ, set_cons_zero → vA, set_cons_succ → vB
open Go.World renaming block_lt_of_cell? → vF
open Go.Proofs.YtcikahnmiiichaaDoor.Given
open Go.RowKit Go.Proofs.YtcikahnmiiichaaDoorW.PrintWords Go.Proofs.YtcikahnmiiichaaDoorW.PrintLast Go.Proofs.YtcikahnmiiichaaDoorW.PrintMore
attribute [local go_sem] max2_int min2_int max_two min_two max_three min_three max_four min_four   -- for this text's walks alone
set_option linter.unusedVariables false
set_option linter.unusedSimpArgs false

/-! ### strings_genSplit: function 101 -/
mutual
def strings_genSplit.j0 : Nat → ByteArray → ByteArray → Int → Int → Option (List ByteArray)
 | 0, _, _, _, _ => none
 | k + 1, x0, x1, x2, x3 => if (wrap64 ((x0.size : Int) + 1)) < x3 then (if 0 ≤ (wrap64 ((x0.size : Int) + 1)) then (if (wrap64 ((x0.size : Int) + 1) : Int).toNat ≤ 17592186044416 then (strings_genSplit.l0 k x0 x1 x2 (wrap64 ((wrap64 ((x0.size : Int) + 1)) - 1)) (List.replicate (wrap64 ((x0.size : Int) + 1) : Int).toNat (⟨#[]⟩ : ByteArray)) 0) else (none)) else (none)) else (if 0 ≤ x3 then (if (x3 : Int).toNat ≤ 17592186044416 then (strings_genSplit.l0 k x0 x1 x2 (wrap64 (x3 - 1)) (List.replicate (x3 : Int).toNat (⟨#[]⟩ : ByteArray)) 0) else (none)) else (none))
def strings_genSplit.l0 : Nat → ByteArray → ByteArray → Int → Int → List ByteArray → Int → Option (List ByteArray)
 | 0, _, _, _, _, _, _ => none
 | k + 1, x0, x1, x2, x3, x9, x10 => if x10 < x3 then ((strings_Index.f x0 x1).bind fun t159 => (if t159 < 0 then (if 0 ≤ x10 then (if x10 < (x9.length : Int) then (if 0 ≤ (wrap64 (x10 + 1)) then (if (wrap64 (x10 + 1)) ≤ (x9.length : Int) then (some ((x9.set (x10 : Int).toNat x0).take ((wrap64 (x10 + 1)) : Int).toNat)) else (none)) else (none)) else (none)) else (none)) else (if 0 ≤ (wrap64 (t159 + x2)) then (if (wrap64 (t159 + x2)) ≤ (x0.size : Int) then (if 0 ≤ x10 then (if x10 < (x9.length : Int) then (if 0 ≤ (wrap64 (t159 + (x1.size : Int))) then (if (wrap64 (t159 + (x1.size : Int))) ≤ (x0.size : Int) then (strings_genSplit.l0 k (x0.extract ((wrap64 (t159 + (x1.size : Int))) : Int).toNat x0.size) x1 x2 x3 (x9.set (x10 : Int).toNat (x0.extract 0 ((wrap64 (t159 + x2)) : Int).toNat)) (wrap64 (x10 + 1))) else (none)) else (none)) else (none)) else (none)) else (none)) else (none)))) else (if 0 ≤ x10 then (if x10 < (x9.length : Int) then (if 0 ≤ (wrap64 (x10 + 1)) then (if (wrap64 (x10 + 1)) ≤ (x9.length : Int) then (some ((x9.set (x10 : Int).toNat x0).take ((wrap64 (x10 + 1)) : Int).toNat)) else (none)) else (none)) else (none)) else (none))
end
def strings_genSplit.f (k : Nat) (a0 : ByteArray) (a1 : ByteArray) (a2 : Int) (a3 : Int) : Option (List ByteArray) := if a3 = 0 then (some ([] : List ByteArray)) else (if a1.toList = ([] : List UInt8) then ((strings_explode.f a0 a3).bind fun t152 => (some t152)) else (if a3 < 0 then ((strings_Count.f a0 a1).bind fun t155 => (strings_genSplit.j0 k a0 a1 a2 (wrap64 (t155 + 1)))) else (strings_genSplit.j0 k a0 a1 a2 a3)))
theorem strings_genSplit.mono_l : ∀ k, (∀ y0 y1 y2 y3, uA (strings_genSplit.j0 k y0 y1 y2 y3) (strings_genSplit.j0 (k + 1) y0 y1 y2 y3)) ∧ (∀ y0 y1 y2 y3 y4 y5, uA (strings_genSplit.l0 k y0 y1 y2 y3 y4 y5) (strings_genSplit.l0 (k + 1) y0 y1 y2 y3 y4 y5))
 | 0 => ⟨fun _ _ _ _ r h => by simp [strings_genSplit.j0] at h, fun _ _ _ _ _ _ r h => by simp [strings_genSplit.l0] at h⟩
 | k + 1 => by
  obtain ⟨ih0, ih1⟩ := strings_genSplit.mono_l k
  refine ⟨?_, ?_⟩
  ·intro y0 y1 y2 y3
   unfold strings_genSplit.j0
   repeat' first
   | (with_reducible exact ih0 _ _ _ _)
   | (with_reducible exact ih1 _ _ _ _ _ _)
   | (with_reducible exact uA.refl _)
   | (with_reducible exact uA.none _)
   | (with_reducible refine uA.ite ?_ ?_)
   | (with_reducible refine uA.bind ?_ (fun _ => ?_))
   | exact ih0 _ _ _ _
   | exact ih1 _ _ _ _ _ _
   | exact uA.none _
   | refine uA.ite ?_ ?_
   | refine uA.bind ?_ (fun _ => ?_)
  intro y0 y1 y2 y3 y4 y5
  unfold strings_genSplit.l0
  repeat' first
  | (with_reducible exact ih0 _ _ _ _)
  | (with_reducible exact ih1 _ _ _ _ _ _)
  | (with_reducible exact uA.refl _)
  | (with_reducible exact uA.none _)
  | (with_reducible refine uA.ite ?_ ?_)
  | (with_reducible refine uA.bind ?_ (fun _ => ?_))
  | exact ih0 _ _ _ _
  | exact ih1 _ _ _ _ _ _
  | exact uA.none _
  | refine uA.ite ?_ ?_
  | refine uA.bind ?_ (fun _ => ?_)
theorem strings_genSplit.mono : ∀ a0 a1 a2 a3 k, uA (strings_genSplit.f k a0 a1 a2 a3) (strings_genSplit.f (k + 1) a0 a1 a2 a3) := by
 intro a0 a1 a2 a3 k
 obtain ⟨ih0, ih1⟩ := strings_genSplit.mono_l k
 unfold strings_genSplit.f
 repeat' first
   | (with_reducible exact ih0 _ _ _ _)
   | (with_reducible exact ih1 _ _ _ _ _ _)
   | (with_reducible exact uA.refl _)
   | (with_reducible exact uA.none _)
   | (with_reducible refine uA.ite ?_ ?_)
   | (with_reducible refine uA.bind ?_ (fun _ => ?_))
   | exact ih0 _ _ _ _
   | exact ih1 _ _ _ _ _ _
   | exact uA.none _
   | refine uA.ite ?_ ?_
   | refine uA.bind ?_ (fun _ => ?_)
set_option maxHeartbeats 8000000 in
set_option maxRecDepth 100000 in
theorem strings_genSplit.calls (k : Nat) (a0 : ByteArray) (a1 : ByteArray) (a2 : Int) (a3 : Int) (r : List ByteArray) (w : World) (h : strings_genSplit.f k a0 a1 a2 a3 = some r) :
  Calls Tryd.prog 101 #[.string a0, .string a1, .int .i64 a2, .int .i64 a3] w fun e w' => ∃ v0_ : Value, e = .returned (v0_) ∧ Kd.R Kd.string 9 w' w.heap.size (fun _ => True) v0_ r ∧ Below w.heap.size w w' := by
 have HB := Aside0.mk (Below.refl w.heap.size w)
 have H : (if a3 = 0 then (some ([] : List ByteArray)) else (if a1.toList = ([] : List UInt8) then ((strings_explode.f a0 a3).bind fun t152 => (some t152)) else (if a3 < 0 then ((strings_Count.f a0 a1).bind fun t155 => (strings_genSplit.j0 k a0 a1 a2 (wrap64 (t155 + 1)))) else (strings_genSplit.j0 k a0 a1 a2 a3)))) = some r := h
 clear h
 by_cases c5 : a3 = 0
 ·rw [if_pos c5] at H
  have c5b0 := beq_iff_eq.mpr c5
  have c5b1 := bne_eq_false_iff_eq.mpr c5
  clear c5
  obtain rfl := Option.some.inj H
  go_enter Tryd.func101, Tryd.ntmps101
  go_wp2
  go_ret
  exact ⟨_, cq4, cq6, cq1⟩
 rw [if_neg c5] at H
 have c5b0 := beq_eq_false_iff_ne.mpr c5
 have c5b1 := bne_iff_ne.mpr c5
 by_cases c6 : a1.toList = ([] : List UInt8)
 ·rw [if_pos c6] at H
  have c6b0 : (a1.toList == ([] : List UInt8)) = true := beq_iff_eq.mpr c6
  have c6b1 : (a1.toList != ([] : List UInt8)) = false := bne_eq_false_iff_eq.mpr c6
  clear c6
  replace H := Option.bind_eq_some_iff.mp H
  obtain ⟨t152, A70, H⟩ := H
  try dsimp only at H
  have A7 := Aside0.mk A70
  clear A70
  obtain rfl := Option.some.inj H
  go_enter Tryd.func101, Tryd.ntmps101
  go_wp2_with (first | ((with_reducible refine uI (f := 119) rfl ?_); refine goesM (some 18) Tryd.func119 #[.string a0, .int .i64 a3] ?_; (with_reducible refine (strings_explode.calls a0 a3 t152 _ A7.out).mono ?_); rintro e w8 ⟨v153, rfl, ho0, hb⟩; refine ⟨_, rfl, ?_⟩; have HO154 := Aside0.mk (Kd.R_lower ho0 (uY cq1)); replace HB := uP HB hb; (try clear hb); (try clear ho0)))
  go_ret
  exact ⟨_, cq4, by (with_reducible repeat (first | apply Kd.uL | apply Kd.uK | apply Kd.uM)); exact HO154.out, cq1⟩
 rw [if_neg c6] at H
 have c6b0 : (a1.toList == ([] : List UInt8)) = false := beq_eq_false_iff_ne.mpr c6
 have c6b1 : (a1.toList != ([] : List UInt8)) = true := bne_iff_ne.mpr c6
 have HC9 := Aside0.mk H
 clear H
 go_enter Tryd.func101, Tryd.ntmps101
 go_upto_if 20 with (fail)
 go_cut [3] (fun v3 wc => ∃ (kq : Nat) (x3_8 : Int), v3 = .int .i64 x3_8 ∧ Aside0 (strings_genSplit.j0 kq a0 a1 a2 x3_8 = some r) ∧ Aside0 (kq ≤ k) ∧ Aside0 (Below w.heap.size w wc))
 case first =>
  have H := HC9.out
  clear HC9
  by_cases c10 : a3 < 0
  rotate_left
  ·rw [if_neg c10] at H
   have c10b0 := decide_eq_false c10
   clear c10
   (first | rw [c10b0] | (simp only [uQ, i32_w]; rw [c10b0]) | skip)
   have H' := Aside0.mk H
   clear H
   go_wp2
   go_meet
   case rel => exact ⟨_, (a3), cq3, H', ⟨by first | omega | exact Nat.le_refl _⟩, ⟨cq1⟩⟩
  rw [if_pos c10] at H
  have c10b0 := decide_eq_true c10
  clear c10
  (first | rw [c10b0] | (simp only [uQ, i32_w]; rw [c10b0]) | skip)
  replace H := Option.bind_eq_some_iff.mp H
  obtain ⟨t155, A110, H⟩ := H
  try dsimp only at H
  have A11 := Aside0.mk A110
  clear A110
  have H' := Aside0.mk H
  clear H
  go_wp2_with (first | ((with_reducible refine uI (f := 120) rfl ?_); refine goesM (some 23) Tryd.func120 #[.string a0, .string a1] ?_; (with_reducible refine (strings_Count.calls a0 a1 t155 _ A11.out).mono ?_); rintro e w' ⟨rfl, ⟨nd, rfl⟩⟩; refine ⟨_, rfl, ?_⟩))
  go_meet
  case rel => exact ⟨_, (wrap64 (t155 + 1)), cq3, H', ⟨by first | omega | exact Nat.le_refl _⟩, ⟨cq1⟩⟩
 case rest =>
  clear HC9
  try clear c5
  try clear c5b0
  try clear c5b1
  try clear c6
  try clear c6b0
  try clear c6b1
  obtain ⟨kq, x3_8, rfl, HA, HJ8, HB⟩ := hcut
  cases kq with
  | zero => exact absurd HA.out (by simp [strings_genSplit.j0])
  | succ kj8 =>
   have H := HA.out
   clear HA
   simp only [strings_genSplit.j0] at H
   by_cases c12 : (wrap64 ((a0.size : Int) + 1)) < x3_8
   ·rw [if_pos c12] at H
    have c12i := eq_true c12
    have c12b0 := decide_eq_true c12
    clear c12
    obtain ⟨ji13, hji13⟩ : ∃ j_ : Int, (wrap64 ((a0.size : Int) + 1)) = j_ := ⟨_, rfl⟩
    replace H : (if 0 ≤ (ji13) then (if (ji13 : Int).toNat ≤ 17592186044416 then (strings_genSplit.l0 kj8 a0 a1 a2 (wrap64 ((ji13) - 1)) (List.replicate (ji13 : Int).toNat (⟨#[]⟩ : ByteArray)) 0) else (none)) else (none)) = some r := by first | (rw [hji13] at H; exact H) | (simp only [hji13] at H ⊢; exact H) | rfl
    (try rw [hji13] at c12i)
    (try rw [hji13] at c12b0)
    have hji13w : (IntKind.i64.wrap ((a0.size : Int) + 1)) = ji13 := (uQ _).trans hji13
    by_cases c14 : 0 ≤ (ji13)
    rotate_left
    ·rw [if_neg c14] at H
     exact absurd H (by simp)
    rw [if_pos c14] at H
    have c14b0 := eq_true c14
    have c14b1 := decide_eq_true c14
    clear c14
    by_cases c15 : (ji13 : Int).toNat ≤ 17592186044416
    rotate_left
    ·rw [if_neg c15] at H
     exact absurd H (by simp)
    rw [if_pos c15] at H
    have c15b0 := eq_true c15
    have c15b1 := decide_eq_true c15
    clear c15
    obtain ⟨y156, hy156⟩ : ∃ y_ : List ByteArray, y_ = (List.replicate (ji13 : Int).toNat (⟨#[]⟩ : ByteArray)) := ⟨_, rfl⟩
    replace H : (strings_genSplit.l0 kj8 a0 a1 a2 (wrap64 ((ji13) - 1)) y156 0) = some r := rpl hy156 H
    have Ny156 := Aside0.mk hy156
    clear hy156
    have H' := Aside0.mk H
    clear H
    go_wp2_with (first | ((with_reducible refine uU (N := 31) rfl ?_); refine Kd.R_make Kd.string _ 9 rfl (N := 31) rfl 37 _ _ rfl ji13 rfl rfl Tryd.underlying37 (.string ⟨#[]⟩) 16 info9 rfl (by decide) (by omega) (⟨#[]⟩ : ByteArray) (ok := fun _ => True) (okp := fun _ => True) rfl (fun _ hk => hk) trivial (of_decide_eq_true uJ) (Nat.le_trans (Nat.mul_le_mul_right _ (of_decide_eq_true uJ : ji13.toNat ≤ 17592186044416)) (by omega)) (Below.refl _ _) (Nat.le_refl _) ?_; intro v157 w16 ho17 hb hg_ hnew_; clear hg_ hnew_; (first | rw [← Ny156.out] at ho17 | (simp only [Int.reduceToNat] at ho17; rw [← Ny156.out] at ho17)); have HO158 := Aside0.mk (Kd.R_lower ho17 (uY cq1)); replace HB := uP HB hb; clear hb ho17))
    go_loopg [0, 10] kj8 (fun kq v0 v10 w' => ∃ (x0_2 : ByteArray) (x9_2 : List ByteArray) (x10_2 : Int), v0 = .string x0_2 ∧ v10 = .int .i64 x10_2 ∧ Aside0 (strings_genSplit.l0 kq x0_2 a1 a2 (wrap64 ((ji13) - 1)) x9_2 x10_2 = some r) ∧ Aside0 (kq ≤ kj8) ∧ Aside0 (Kd.R Kd.string 9 w' w.heap.size (fun _ => True) v157 x9_2) ∧ Aside0 (Below w.heap.size w w'))
    case atStart => exact ⟨(a0), (y156), (0), cq3, cq3, H', ⟨Nat.le_refl _⟩, ⟨by (with_reducible repeat (first | apply Kd.uL | apply Kd.uK | apply Kd.uM)); exact HO158.out⟩, ⟨cq1⟩⟩
    case round =>
     clear H'
     try clear c5
     try clear c5b0
     try clear c5b1
     try clear c6
     try clear c6b0
     try clear c6b1
     try clear c12
     try clear c12b0
     try clear c14
     try clear c14b0
     try clear c14b1
     try clear c15
     try clear c15b0
     try clear c15b1
     obtain ⟨x0_2, x9_2, x10_2, rfl, rfl, HA, HK2, HO_9, HB⟩ := hrel
     cases gk with
     | zero => exact absurd HA.out (by simp [strings_genSplit.l0])
     | succ k2 =>
      have H := HA.out
      clear HA
      simp only [strings_genSplit.l0] at H
      by_cases c18 : x10_2 < (wrap64 ((ji13) - 1))
      rotate_left
      ·rw [if_neg c18] at H
       have c18b0 := decide_eq_false c18
       clear c18
       obtain ⟨c41b0, H⟩ := ifD H
       obtain ⟨c42b0, H⟩ := ifD H
       obtain ⟨y165, hy165⟩ : ∃ y_ : List ByteArray, y_ = (x9_2.set (x10_2 : Int).toNat x0_2) := ⟨_, rfl⟩
       replace H : (if 0 ≤ (wrap64 (x10_2 + 1)) then (if (wrap64 (x10_2 + 1)) ≤ (x9_2.length : Int) then (some (y165.take ((wrap64 (x10_2 + 1)) : Int).toNat)) else (none)) else (none)) = some r := rpl hy165 H
       have Ny165 := Aside0.mk hy165
       clear hy165
       obtain ⟨ji44, hji44⟩ : ∃ j_ : Int, (wrap64 (x10_2 + 1)) = j_ := ⟨_, rfl⟩
       replace H : (if 0 ≤ (ji44) then (if (ji44) ≤ (x9_2.length : Int) then (some (y165.take ((ji44) : Int).toNat)) else (none)) else (none)) = some r := by first | (rw [hji44] at H; exact H) | (simp only [hji44] at H ⊢; exact H) | rfl
       have hji44w : (IntKind.i64.wrap (x10_2 + 1)) = ji44 := (uQ _).trans hji44
       by_cases c45 : 0 ≤ (ji44)
       rotate_left
       ·rw [if_neg c45] at H
        exact absurd H (by simp)
       rw [if_pos c45] at H
       have c45b0 := eq_true c45
       have c45b1 := decide_eq_true c45
       clear c45
       by_cases c46 : (ji44) ≤ (x9_2.length : Int)
       rotate_left
       ·rw [if_neg c46] at H
        exact absurd H (by simp)
       rw [if_pos c46] at H
       have c46b0 := eq_true c46
       have c46b1 := decide_eq_true c46
       clear c46
       obtain ⟨y166, hy166⟩ : ∃ y_ : List ByteArray, y_ = (y165.take ((ji44) : Int).toNat) := ⟨_, rfl⟩
       replace H : (some y166) = some r := rpl hy166 H
       have Ny166 := Aside0.mk hy166
       clear hy166
       obtain rfl := Option.some.inj H
       have p43 : 0 ≤ (x10_2 : Int) := of_decide_eq_true uJ
       have q43 : (x10_2 : Int) < ((x9_2.length : Int) : Int) := of_decide_eq_true uJ
       obtain ⟨go43, co43, eo43, gb43, gl43, cl43, HG43⟩ := Kd.R_form HO_9.out (by omega)
       (first | cases eo43 | (injection eo43 with ea_ en_ ec_; (first | subst ea_ | (injection ea_ with ea_; subst ea_)); subst ec_; clear en_))
       have GB43 := Aside0.mk gb43
       have GG43 := Aside0.mk HG43
       clear gb43 gl43 HG43
       obtain ⟨hx43_0, hf43_0⟩ := Kd.R_celln (⟨#[]⟩ : ByteArray) HO_9.out (x10_2 : Int) p43 q43
       replace p43 := eq_true p43
       replace q43 := eq_true q43
       have HP47 := Kd.R_putg HO_9.out (x10_2 : Int) x0_2
       go_wp2_with (first | ((with_reducible refine gate_store (t := 9) (p := 61) rfl ?_); refine store_event (t := 9) (p := 61) (v := ?vo_w48) (w1 := (wr.setCell ⟨go43, (x10_2 : Int).toNat, none⟩ (.string x0_2))) ?hg ?ho ?hn ?hr ?_; (case ho => rfl); (case hg => rfl); (case hn => rfl); (case hr => first | (go_simp; done) | (go_simp; rfl)); intro w48 hw; have hg : wr.grownBy w48 (some go43) := (by rw [hw]; exact HP47.2); have hp_ : Kd.R Kd.string 9 w48 w.heap.size (fun _ => True) (.slice (some ⟨go43, 0, none⟩) x9_2.length co43) y165 := (by rw [hw, Ny165.out]; exact HP47.1); clear HP47; replace HO_9 := Aside0.mk (hp_); replace HB := Aside0.mk ((by rw [hw]; exact below_set (HB.out) GB43.out : Below w.heap.size w w48)); clear hg hw hp_; have q49 : ((ji44) : Int) ≤ ((x9_2.length : Int) : Int) := of_decide_eq_true uJ; obtain ⟨i049, hi049, _, hsz49, _⟩ := info_parts info9; have hcut49 := cut_to (P := Tryd.prog) 37 9 .i64 Tryd.underlying37 hi049 (some ⟨go43, 0, none⟩) x9_2.length co43 (ji44) (of_decide_eq_true uJ) q49 (Kd.uH HO_9.out).2.1; have hr49 := Kd.R_take (m := ((ji44) : Int).toNat) HO_9.out (by first | omega | (have hl_ := (Kd.uH HO_9.out).1; omega)); have hy49 : y166.length = ((ji44) : Int).toNat := (by rw [Ny166.out, List.length_take]; first | omega | (have hl_ := (Kd.uH HO_9.out).1; omega)); rw [← Ny166.out] at hr49; rw [← hy49] at hr49 hcut49; clear hy49 hi049 hsz49 HO_9; have HO168 := Aside0.mk hr49; clear hr49; replace q49 := eq_true q49))
       go_ret
       exact ⟨_, by first | rfl | (simp [errW_none, errW_some] <;> rfl) | (simp only [← hji13, ← hji44]; first | rfl | (simp [errW_none, errW_some] <;> rfl)) | (simp [*, errW_none, errW_some] <;> rfl), by (with_reducible repeat (first | apply Kd.uL | apply Kd.uK | apply Kd.uM)); exact HO168.out, cq1⟩
      rw [if_pos c18] at H
      have c18b0 := decide_eq_true c18
      clear c18
      replace H := Option.bind_eq_some_iff.mp H
      obtain ⟨t159, A190, H⟩ := H
      try dsimp only at H
      have A19 := Aside0.mk A190
      clear A190
      by_cases c20 : t159 < 0
      ·rw [if_pos c20] at H
       have c20b0 := decide_eq_true c20
       clear c20
       obtain ⟨c21b0, H⟩ := ifD H
       obtain ⟨c22b0, H⟩ := ifD H
       obtain ⟨y160, hy160⟩ : ∃ y_ : List ByteArray, y_ = (x9_2.set (x10_2 : Int).toNat x0_2) := ⟨_, rfl⟩
       replace H : (if 0 ≤ (wrap64 (x10_2 + 1)) then (if (wrap64 (x10_2 + 1)) ≤ (x9_2.length : Int) then (some (y160.take ((wrap64 (x10_2 + 1)) : Int).toNat)) else (none)) else (none)) = some r := rpl hy160 H
       have Ny160 := Aside0.mk hy160
       clear hy160
       obtain ⟨ji24, hji24⟩ : ∃ j_ : Int, (wrap64 (x10_2 + 1)) = j_ := ⟨_, rfl⟩
       replace H : (if 0 ≤ (ji24) then (if (ji24) ≤ (x9_2.length : Int) then (some (y160.take ((ji24) : Int).toNat)) else (none)) else (none)) = some r := by first | (rw [hji24] at H; exact H) | (simp only [hji24] at H ⊢; exact H) | rfl
       (try rw [hji24] at A19)
       have hji24w : (IntKind.i64.wrap (x10_2 + 1)) = ji24 := (uQ _).trans hji24
       by_cases c25 : 0 ≤ (ji24)
       rotate_left
       ·rw [if_neg c25] at H
        exact absurd H (by simp)
       rw [if_pos c25] at H
       have c25b0 := eq_true c25
       have c25b1 := decide_eq_true c25
       clear c25
       by_cases c26 : (ji24) ≤ (x9_2.length : Int)
       rotate_left
       ·rw [if_neg c26] at H
        exact absurd H (by simp)
       rw [if_pos c26] at H
       have c26b0 := eq_true c26
       have c26b1 := decide_eq_true c26
       clear c26
       obtain ⟨y161, hy161⟩ : ∃ y_ : List ByteArray, y_ = (y160.take ((ji24) : Int).toNat) := ⟨_, rfl⟩
       replace H : (some y161) = some r := rpl hy161 H
       have Ny161 := Aside0.mk hy161
       clear hy161
       obtain rfl := Option.some.inj H
       go_wp2_with (first | ((with_reducible refine uI (f := 121) rfl ?_); refine goesM (some 39) Tryd.func121 #[.string x0_2, .string a1] ?_; (with_reducible refine (strings_Index.calls x0_2 a1 t159 _ A19.out).mono ?_); rintro e w' ⟨rfl, ⟨nd, rfl⟩⟩; refine ⟨_, rfl, ?_⟩; (try (rw [drewN_self wr]; generalize hq_ : World.drewN wr _ = wr; have n0_ : Aside0 (Kd.R Kd.string 9 wr w.heap.size (fun _ => True) v157 x9_2) := ⟨by rw [← hq_]; exact (rSR HO_9.out)⟩; have n1_ : Aside0 (Below w.heap.size w wr) := ⟨cq49⟩; clear HO_9 HB hq_; have HO_9 := n0_; have HB := n1_; clear n0_ n1_)); have p23 : 0 ≤ (x10_2 : Int) := of_decide_eq_true uJ; have q23 : (x10_2 : Int) < ((x9_2.length : Int) : Int) := of_decide_eq_true uJ; obtain ⟨go23, co23, eo23, gb23, gl23, cl23, HG23⟩ := Kd.R_form HO_9.out (by omega); (first | cases eo23 | (injection eo23 with ea_ en_ ec_; (first | subst ea_ | (injection ea_ with ea_; subst ea_)); subst ec_; clear en_)); have GB23 := Aside0.mk gb23; have GG23 := Aside0.mk HG23; clear gb23 gl23 HG23; obtain ⟨hx23_0, hf23_0⟩ := Kd.R_celln (⟨#[]⟩ : ByteArray) HO_9.out (x10_2 : Int) p23 q23; replace p23 := eq_true p23; replace q23 := eq_true q23; obtain ⟨hy27_, hz27_⟩ := Kd.R_celln (⟨#[]⟩ : ByteArray) HO_9.out (x10_2 : Int) (of_decide_eq_true uJ) (of_decide_eq_true uJ); have HP27 := Kd.R_putg HO_9.out (x10_2 : Int) x0_2) | ((with_reducible refine gate_store (t := 9) (p := 61) rfl ?_); refine store_event (t := 9) (p := 61) (v := ?vo_w28) (w1 := (wr.setCell ⟨go23, (x10_2 : Int).toNat, none⟩ (.string x0_2))) ?hg ?ho ?hn ?hr ?_; (case ho => rfl); (case hg => rfl); (case hn => rfl); (case hr => first | (go_simp; done) | (go_simp; rfl)); intro w28 hw; have hg : wr.grownBy w28 (some go23) := (by rw [hw]; exact HP27.2); have hp_ : Kd.R Kd.string 9 w28 w.heap.size (fun _ => True) (.slice (some ⟨go23, 0, none⟩) x9_2.length co23) y160 := (by rw [hw, Ny160.out]; exact HP27.1); clear HP27; replace HO_9 := Aside0.mk (hp_); replace HB := Aside0.mk ((by rw [hw]; exact below_set (HB.out) GB23.out : Below w.heap.size w w28)); clear hg hw hp_; have q29 : ((ji24) : Int) ≤ ((x9_2.length : Int) : Int) := of_decide_eq_true uJ; obtain ⟨i029, hi029, _, hsz29, _⟩ := info_parts info9; have hcut29 := cut_to (P := Tryd.prog) 37 9 .i64 Tryd.underlying37 hi029 (some ⟨go23, 0, none⟩) x9_2.length co23 (ji24) (of_decide_eq_true uJ) q29 (Kd.uH HO_9.out).2.1; have hr29 := Kd.R_take (m := ((ji24) : Int).toNat) HO_9.out (by first | omega | (have hl_ := (Kd.uH HO_9.out).1; omega)); have hy29 : y161.length = ((ji24) : Int).toNat := (by rw [Ny161.out, List.length_take]; first | omega | (have hl_ := (Kd.uH HO_9.out).1; omega)); rw [← Ny161.out] at hr29; rw [← hy29] at hr29 hcut29; clear hy29 hi029 hsz29 HO_9; have HO163 := Aside0.mk hr29; clear hr29; replace q29 := eq_true q29))
       go_ret
       exact ⟨_, by first | rfl | (simp [errW_none, errW_some] <;> rfl) | (simp only [← hji13, ← hji24]; first | rfl | (simp [errW_none, errW_some] <;> rfl)) | (simp [*, errW_none, errW_some] <;> rfl), by (with_reducible repeat (first | apply Kd.uL | apply Kd.uK | apply Kd.uM)); exact HO163.out, cq1⟩
      rw [if_neg c20] at H
      have c20b0 := decide_eq_false c20
      clear c20
      obtain ⟨ji30, hji30⟩ : ∃ j_ : Int, (wrap64 (t159 + a2)) = j_ := ⟨_, rfl⟩
      replace H : (if 0 ≤ (ji30) then (if (ji30) ≤ (x0_2.size : Int) then (if 0 ≤ x10_2 then (if x10_2 < (x9_2.length : Int) then (if 0 ≤ (wrap64 (t159 + (a1.size : Int))) then (if (wrap64 (t159 + (a1.size : Int))) ≤ (x0_2.size : Int) then (strings_genSplit.l0 k2 (x0_2.extract ((wrap64 (t159 + (a1.size : Int))) : Int).toNat x0_2.size) a1 a2 (wrap64 ((ji13) - 1)) (x9_2.set (x10_2 : Int).toNat (x0_2.extract 0 ((ji30) : Int).toNat)) (wrap64 (x10_2 + 1))) else (none)) else (none)) else (none)) else (none)) else (none)) else (none)) = some r := by first | (rw [hji30] at H; exact H) | (simp only [hji30] at H ⊢; exact H) | rfl
      (try rw [hji30] at A19)
      have hji30w : (IntKind.i64.wrap (t159 + a2)) = ji30 := (uQ _).trans hji30
      by_cases c31 : 0 ≤ (ji30)
      rotate_left
      ·rw [if_neg c31] at H
       exact absurd H (by simp)
      rw [if_pos c31] at H
      have c31b0 := eq_true c31
      have c31b1 := decide_eq_true c31
      clear c31
      by_cases c32 : (ji30) ≤ (x0_2.size : Int)
      rotate_left
      ·rw [if_neg c32] at H
       exact absurd H (by simp)
      rw [if_pos c32] at H
      have c32b0 := eq_true c32
      have c32b1 := decide_eq_true c32
      clear c32
      obtain ⟨c33b0, H⟩ := ifD H
      obtain ⟨c34b0, H⟩ := ifD H
      obtain ⟨y164, hy164⟩ : ∃ y_ : List ByteArray, y_ = (x9_2.set (x10_2 : Int).toNat (x0_2.extract 0 ((ji30) : Int).toNat)) := ⟨_, rfl⟩
      replace H : (if 0 ≤ (wrap64 (t159 + (a1.size : Int))) then (if (wrap64 (t159 + (a1.size : Int))) ≤ (x0_2.size : Int) then (strings_genSplit.l0 k2 (x0_2.extract ((wrap64 (t159 + (a1.size : Int))) : Int).toNat x0_2.size) a1 a2 (wrap64 ((ji13) - 1)) y164 (wrap64 (x10_2 + 1))) else (none)) else (none)) = some r := rpl hy164 H
      have Ny164 := Aside0.mk hy164
      clear hy164
      obtain ⟨ji36, hji36⟩ : ∃ j_ : Int, (wrap64 (t159 + (a1.size : Int))) = j_ := ⟨_, rfl⟩
      replace H : (if 0 ≤ (ji36) then (if (ji36) ≤ (x0_2.size : Int) then (strings_genSplit.l0 k2 (x0_2.extract ((ji36) : Int).toNat x0_2.size) a1 a2 (wrap64 ((ji13) - 1)) y164 (wrap64 (x10_2 + 1))) else (none)) else (none)) = some r := by first | (rw [hji36] at H; exact H) | (simp only [hji36] at H ⊢; exact H) | rfl
      (try rw [hji36] at A19)
      have hji36w : (IntKind.i64.wrap (t159 + (a1.size : Int))) = ji36 := (uQ _).trans hji36
      by_cases c37 : 0 ≤ (ji36)
      rotate_left
      ·rw [if_neg c37] at H
       exact absurd H (by simp)
      rw [if_pos c37] at H
      have c37b0 := eq_true c37
      have c37b1 := decide_eq_true c37
      clear c37
      by_cases c38 : (ji36) ≤ (x0_2.size : Int)
      rotate_left
      ·rw [if_neg c38] at H
       exact absurd H (by simp)
      rw [if_pos c38] at H
      have c38b0 := eq_true c38
      have c38b1 := decide_eq_true c38
      clear c38
      have H' := Aside0.mk H
      clear H
      go_wp2_with (first | ((with_reducible refine uI (f := 121) rfl ?_); refine goesM (some 39) Tryd.func121 #[.string x0_2, .string a1] ?_; (with_reducible refine (strings_Index.calls x0_2 a1 t159 _ A19.out).mono ?_); rintro e w' ⟨rfl, ⟨nd, rfl⟩⟩; refine ⟨_, rfl, ?_⟩; (try (rw [drewN_self wr]; generalize hq_ : World.drewN wr _ = wr; have n0_ : Aside0 (Kd.R Kd.string 9 wr w.heap.size (fun _ => True) v157 x9_2) := ⟨by rw [← hq_]; exact (rSR HO_9.out)⟩; have n1_ : Aside0 (Below w.heap.size w wr) := ⟨cq49⟩; clear HO_9 HB hq_; have HO_9 := n0_; have HB := n1_; clear n0_ n1_)); have p35 : 0 ≤ (x10_2 : Int) := of_decide_eq_true uJ; have q35 : (x10_2 : Int) < ((x9_2.length : Int) : Int) := of_decide_eq_true uJ; obtain ⟨go35, co35, eo35, gb35, gl35, cl35, HG35⟩ := Kd.R_form HO_9.out (by omega); (first | cases eo35 | (injection eo35 with ea_ en_ ec_; (first | subst ea_ | (injection ea_ with ea_; subst ea_)); subst ec_; clear en_)); have GB35 := Aside0.mk gb35; have GG35 := Aside0.mk HG35; clear gb35 gl35 HG35; obtain ⟨hx35_0, hf35_0⟩ := Kd.R_celln (⟨#[]⟩ : ByteArray) HO_9.out (x10_2 : Int) p35 q35; replace p35 := eq_true p35; replace q35 := eq_true q35; obtain ⟨hy39_, hz39_⟩ := Kd.R_celln (⟨#[]⟩ : ByteArray) HO_9.out (x10_2 : Int) (of_decide_eq_true uJ) (of_decide_eq_true uJ); have HP39 := Kd.R_putg HO_9.out (x10_2 : Int) (x0_2.extract 0 ((ji30) : Int).toNat)) | ((with_reducible refine gate_store (t := 9) (p := 49) rfl ?_); refine store_event (t := 9) (p := 49) (v := ?vo_w40) (w1 := (wr.setCell ⟨go35, (x10_2 : Int).toNat, none⟩ (.string (x0_2.extract 0 ((ji30) : Int).toNat)))) ?hg ?ho ?hn ?hr ?_; (case ho => rfl); (case hg => rfl); (case hn => rfl); (case hr => first | (go_simp; done) | (go_simp; rfl)); intro w40 hw; have hg : wr.grownBy w40 (some go35) := (by rw [hw]; exact HP39.2); have hp_ : Kd.R Kd.string 9 w40 w.heap.size (fun _ => True) (.slice (some ⟨go35, 0, none⟩) x9_2.length co35) y164 := (by rw [hw, Ny164.out]; exact HP39.1); clear HP39; replace HO_9 := Aside0.mk (hp_); replace HB := Aside0.mk ((by rw [hw]; exact below_set (HB.out) GB35.out : Below w.heap.size w w40)); clear hg hw hp_))
      go_roundg k2
      case measure => have := HJ8.out; have := HK2.out; omega
      case rel => exact ⟨(x0_2.extract ((ji36) : Int).toNat x0_2.size), (y164), (wrap64 (x10_2 + 1)), (by first | rfl | (simp; done) | (simp only [← hji36] <;> (first | rfl | simp)) | (simp [*]; done)), cq3, H', ⟨by have := HJ8.out; have := HK2.out; omega⟩, ⟨by (with_reducible repeat (first | apply Kd.uL | apply Kd.uK | apply Kd.uM)); exact HO_9.out⟩, ⟨cq1⟩⟩
   rw [if_neg c12] at H
   have c12i := eq_false c12
   have c12b0 := decide_eq_false c12
   clear c12
   by_cases c50 : 0 ≤ x3_8
   rotate_left
   ·rw [if_neg c50] at H
    exact absurd H (by simp)
   rw [if_pos c50] at H
   have c50b0 := eq_true c50
   have c50b1 := decide_eq_true c50
   clear c50
   by_cases c51 : (x3_8 : Int).toNat ≤ 17592186044416
   rotate_left
   ·rw [if_neg c51] at H
    exact absurd H (by simp)
   rw [if_pos c51] at H
   have c51b0 := eq_true c51
   have c51b1 := decide_eq_true c51
   clear c51
   obtain ⟨y169, hy169⟩ : ∃ y_ : List ByteArray, y_ = (List.replicate (x3_8 : Int).toNat (⟨#[]⟩ : ByteArray)) := ⟨_, rfl⟩
   replace H : (strings_genSplit.l0 kj8 a0 a1 a2 (wrap64 (x3_8 - 1)) y169 0) = some r := rpl hy169 H
   have Ny169 := Aside0.mk hy169
   clear hy169
   have H' := Aside0.mk H
   clear H
   go_wp2_with (first | ((with_reducible refine uU (N := 31) rfl ?_); refine Kd.R_make Kd.string _ 9 rfl (N := 31) rfl 37 _ _ rfl x3_8 rfl rfl Tryd.underlying37 (.string ⟨#[]⟩) 16 info9 rfl (by decide) (by omega) (⟨#[]⟩ : ByteArray) (ok := fun _ => True) (okp := fun _ => True) rfl (fun _ hk => hk) trivial (of_decide_eq_true uJ) (Nat.le_trans (Nat.mul_le_mul_right _ (of_decide_eq_true uJ : x3_8.toNat ≤ 17592186044416)) (by omega)) (Below.refl _ _) (Nat.le_refl _) ?_; intro v170 w52 ho53 hb hg_ hnew_; clear hg_ hnew_; (first | rw [← Ny169.out] at ho53 | (simp only [Int.reduceToNat] at ho53; rw [← Ny169.out] at ho53)); have HO171 := Aside0.mk (Kd.R_lower ho53 (uY cq1)); replace HB := uP HB hb; clear hb ho53))
   go_loopg [0, 10] kj8 (fun kq v0 v10 w' => ∃ (x0_2 : ByteArray) (x9_2 : List ByteArray) (x10_2 : Int), v0 = .string x0_2 ∧ v10 = .int .i64 x10_2 ∧ Aside0 (strings_genSplit.l0 kq x0_2 a1 a2 (wrap64 (x3_8 - 1)) x9_2 x10_2 = some r) ∧ Aside0 (kq ≤ kj8) ∧ Aside0 (Kd.R Kd.string 9 w' w.heap.size (fun _ => True) v170 x9_2) ∧ Aside0 (Below w.heap.size w w'))
   case atStart => exact ⟨(a0), (y169), (0), cq3, cq3, H', ⟨Nat.le_refl _⟩, ⟨by (with_reducible repeat (first | apply Kd.uL | apply Kd.uK | apply Kd.uM)); exact HO171.out⟩, ⟨cq1⟩⟩
   case round =>
    clear H'
    try clear c5
    try clear c5b0
    try clear c5b1
    try clear c6
    try clear c6b0
    try clear c6b1
    try clear c12
    try clear c12b0
    try clear c50
    try clear c50b0
    try clear c50b1
    try clear c51
    try clear c51b0
    try clear c51b1
    obtain ⟨x0_2, x9_2, x10_2, rfl, rfl, HA, HK2, HO_9, HB⟩ := hrel
    cases gk with
    | zero => exact absurd HA.out (by simp [strings_genSplit.l0])
    | succ k2 =>
     have H := HA.out
     clear HA
     simp only [strings_genSplit.l0] at H
     by_cases c54 : x10_2 < (wrap64 (x3_8 - 1))
     rotate_left
     ·rw [if_neg c54] at H
      have c54b0 := decide_eq_false c54
      clear c54
      obtain ⟨c77b0, H⟩ := ifD H
      obtain ⟨c78b0, H⟩ := ifD H
      obtain ⟨y165, hy165⟩ : ∃ y_ : List ByteArray, y_ = (x9_2.set (x10_2 : Int).toNat x0_2) := ⟨_, rfl⟩
      replace H : (if 0 ≤ (wrap64 (x10_2 + 1)) then (if (wrap64 (x10_2 + 1)) ≤ (x9_2.length : Int) then (some (y165.take ((wrap64 (x10_2 + 1)) : Int).toNat)) else (none)) else (none)) = some r := rpl hy165 H
      have Ny165 := Aside0.mk hy165
      clear hy165
      obtain ⟨ji80, hji80⟩ : ∃ j_ : Int, (wrap64 (x10_2 + 1)) = j_ := ⟨_, rfl⟩
      replace H : (if 0 ≤ (ji80) then (if (ji80) ≤ (x9_2.length : Int) then (some (y165.take ((ji80) : Int).toNat)) else (none)) else (none)) = some r := by first | (rw [hji80] at H; exact H) | (simp only [hji80] at H ⊢; exact H) | rfl
      have hji80w : (IntKind.i64.wrap (x10_2 + 1)) = ji80 := (uQ _).trans hji80
      by_cases c81 : 0 ≤ (ji80)
      rotate_left
      ·rw [if_neg c81] at H
       exact absurd H (by simp)
      rw [if_pos c81] at H
      have c81b0 := eq_true c81
      have c81b1 := decide_eq_true c81
      clear c81
      by_cases c82 : (ji80) ≤ (x9_2.length : Int)
      rotate_left
      ·rw [if_neg c82] at H
       exact absurd H (by simp)
      rw [if_pos c82] at H
      have c82b0 := eq_true c82
      have c82b1 := decide_eq_true c82
      clear c82
      obtain ⟨y166, hy166⟩ : ∃ y_ : List ByteArray, y_ = (y165.take ((ji80) : Int).toNat) := ⟨_, rfl⟩
      replace H : (some y166) = some r := rpl hy166 H
      have Ny166 := Aside0.mk hy166
      clear hy166
      obtain rfl := Option.some.inj H
      have p79 : 0 ≤ (x10_2 : Int) := of_decide_eq_true uJ
      have q79 : (x10_2 : Int) < ((x9_2.length : Int) : Int) := of_decide_eq_true uJ
      obtain ⟨go79, co79, eo79, gb79, gl79, cl79, HG79⟩ := Kd.R_form HO_9.out (by omega)
      (first | cases eo79 | (injection eo79 with ea_ en_ ec_; (first | subst ea_ | (injection ea_ with ea_; subst ea_)); subst ec_; clear en_))
      have GB79 := Aside0.mk gb79
      have GG79 := Aside0.mk HG79
      clear gb79 gl79 HG79
      obtain ⟨hx79_0, hf79_0⟩ := Kd.R_celln (⟨#[]⟩ : ByteArray) HO_9.out (x10_2 : Int) p79 q79
      replace p79 := eq_true p79
      replace q79 := eq_true q79
      have HP83 := Kd.R_putg HO_9.out (x10_2 : Int) x0_2
      go_wp2_with (first | ((with_reducible refine gate_store (t := 9) (p := 61) rfl ?_); refine store_event (t := 9) (p := 61) (v := ?vo_w84) (w1 := (wr.setCell ⟨go79, (x10_2 : Int).toNat, none⟩ (.string x0_2))) ?hg ?ho ?hn ?hr ?_; (case ho => rfl); (case hg => rfl); (case hn => rfl); (case hr => first | (go_simp; done) | (go_simp; rfl)); intro w84 hw; have hg : wr.grownBy w84 (some go79) := (by rw [hw]; exact HP83.2); have hp_ : Kd.R Kd.string 9 w84 w.heap.size (fun _ => True) (.slice (some ⟨go79, 0, none⟩) x9_2.length co79) y165 := (by rw [hw, Ny165.out]; exact HP83.1); clear HP83; replace HO_9 := Aside0.mk (hp_); replace HB := Aside0.mk ((by rw [hw]; exact below_set (HB.out) GB79.out : Below w.heap.size w w84)); clear hg hw hp_; have q85 : ((ji80) : Int) ≤ ((x9_2.length : Int) : Int) := of_decide_eq_true uJ; obtain ⟨i085, hi085, _, hsz85, _⟩ := info_parts info9; have hcut85 := cut_to (P := Tryd.prog) 37 9 .i64 Tryd.underlying37 hi085 (some ⟨go79, 0, none⟩) x9_2.length co79 (ji80) (of_decide_eq_true uJ) q85 (Kd.uH HO_9.out).2.1; have hr85 := Kd.R_take (m := ((ji80) : Int).toNat) HO_9.out (by first | omega | (have hl_ := (Kd.uH HO_9.out).1; omega)); have hy85 : y166.length = ((ji80) : Int).toNat := (by rw [Ny166.out, List.length_take]; first | omega | (have hl_ := (Kd.uH HO_9.out).1; omega)); rw [← Ny166.out] at hr85; rw [← hy85] at hr85 hcut85; clear hy85 hi085 hsz85 HO_9; have HO168 := Aside0.mk hr85; clear hr85; replace q85 := eq_true q85))
      go_ret
      exact ⟨_, by first | rfl | (simp [errW_none, errW_some] <;> rfl) | (simp only [← hji80]; first | rfl | (simp [errW_none, errW_some] <;> rfl)) | (simp [*, errW_none, errW_some] <;> rfl), by (with_reducible repeat (first | apply Kd.uL | apply Kd.uK | apply Kd.uM)); exact HO168.out, cq1⟩
     rw [if_pos c54] at H
     have c54b0 := decide_eq_true c54
     clear c54
     replace H := Option.bind_eq_some_iff.mp H
     obtain ⟨t159, A550, H⟩ := H
     try dsimp only at H
     have A55 := Aside0.mk A550
     clear A550
     by_cases c56 : t159 < 0
     ·rw [if_pos c56] at H
      have c56b0 := decide_eq_true c56
      clear c56
      obtain ⟨c57b0, H⟩ := ifD H
      obtain ⟨c58b0, H⟩ := ifD H
      obtain ⟨y160, hy160⟩ : ∃ y_ : List ByteArray, y_ = (x9_2.set (x10_2 : Int).toNat x0_2) := ⟨_, rfl⟩
      replace H : (if 0 ≤ (wrap64 (x10_2 + 1)) then (if (wrap64 (x10_2 + 1)) ≤ (x9_2.length : Int) then (some (y160.take ((wrap64 (x10_2 + 1)) : Int).toNat)) else (none)) else (none)) = some r := rpl hy160 H
      have Ny160 := Aside0.mk hy160
      clear hy160
      obtain ⟨ji60, hji60⟩ : ∃ j_ : Int, (wrap64 (x10_2 + 1)) = j_ := ⟨_, rfl⟩
      replace H : (if 0 ≤ (ji60) then (if (ji60) ≤ (x9_2.length : Int) then (some (y160.take ((ji60) : Int).toNat)) else (none)) else (none)) = some r := by first | (rw [hji60] at H; exact H) | (simp only [hji60] at H ⊢; exact H) | rfl
      (try rw [hji60] at A55)
      have hji60w : (IntKind.i64.wrap (x10_2 + 1)) = ji60 := (uQ _).trans hji60
      by_cases c61 : 0 ≤ (ji60)
      rotate_left
      ·rw [if_neg c61] at H
       exact absurd H (by simp)
      rw [if_pos c61] at H
      have c61b0 := eq_true c61
      have c61b1 := decide_eq_true c61
      clear c61
      by_cases c62 : (ji60) ≤ (x9_2.length : Int)
      rotate_left
      ·rw [if_neg c62] at H
       exact absurd H (by simp)
      rw [if_pos c62] at H
      have c62b0 := eq_true c62
      have c62b1 := decide_eq_true c62
      clear c62
      obtain ⟨y161, hy161⟩ : ∃ y_ : List ByteArray, y_ = (y160.take ((ji60) : Int).toNat) := ⟨_, rfl⟩
      replace H : (some y161) = some r := rpl hy161 H
      have Ny161 := Aside0.mk hy161
      clear hy161
      obtain rfl := Option.some.inj H
      go_wp2_with (first | ((with_reducible refine uI (f := 121) rfl ?_); refine goesM (some 39) Tryd.func121 #[.string x0_2, .string a1] ?_; (with_reducible refine (strings_Index.calls x0_2 a1 t159 _ A55.out).mono ?_); rintro e w' ⟨rfl, ⟨nd, rfl⟩⟩; refine ⟨_, rfl, ?_⟩; (try (rw [drewN_self wr]; generalize hq_ : World.drewN wr _ = wr; have n0_ : Aside0 (Kd.R Kd.string 9 wr w.heap.size (fun _ => True) v170 x9_2) := ⟨by rw [← hq_]; exact (rSR HO_9.out)⟩; have n1_ : Aside0 (Below w.heap.size w wr) := ⟨cq49⟩; clear HO_9 HB hq_; have HO_9 := n0_; have HB := n1_; clear n0_ n1_)); have p59 : 0 ≤ (x10_2 : Int) := of_decide_eq_true uJ; have q59 : (x10_2 : Int) < ((x9_2.length : Int) : Int) := of_decide_eq_true uJ; obtain ⟨go59, co59, eo59, gb59, gl59, cl59, HG59⟩ := Kd.R_form HO_9.out (by omega); (first | cases eo59 | (injection eo59 with ea_ en_ ec_; (first | subst ea_ | (injection ea_ with ea_; subst ea_)); subst ec_; clear en_)); have GB59 := Aside0.mk gb59; have GG59 := Aside0.mk HG59; clear gb59 gl59 HG59; obtain ⟨hx59_0, hf59_0⟩ := Kd.R_celln (⟨#[]⟩ : ByteArray) HO_9.out (x10_2 : Int) p59 q59; replace p59 := eq_true p59; replace q59 := eq_true q59; obtain ⟨hy63_, hz63_⟩ := Kd.R_celln (⟨#[]⟩ : ByteArray) HO_9.out (x10_2 : Int) (of_decide_eq_true uJ) (of_decide_eq_true uJ); have HP63 := Kd.R_putg HO_9.out (x10_2 : Int) x0_2) | ((with_reducible refine gate_store (t := 9) (p := 61) rfl ?_); refine store_event (t := 9) (p := 61) (v := ?vo_w64) (w1 := (wr.setCell ⟨go59, (x10_2 : Int).toNat, none⟩ (.string x0_2))) ?hg ?ho ?hn ?hr ?_; (case ho => rfl); (case hg => rfl); (case hn => rfl); (case hr => first | (go_simp; done) | (go_simp; rfl)); intro w64 hw; have hg : wr.grownBy w64 (some go59) := (by rw [hw]; exact HP63.2); have hp_ : Kd.R Kd.string 9 w64 w.heap.size (fun _ => True) (.slice (some ⟨go59, 0, none⟩) x9_2.length co59) y160 := (by rw [hw, Ny160.out]; exact HP63.1); clear HP63; replace HO_9 := Aside0.mk (hp_); replace HB := Aside0.mk ((by rw [hw]; exact below_set (HB.out) GB59.out : Below w.heap.size w w64)); clear hg hw hp_; have q65 : ((ji60) : Int) ≤ ((x9_2.length : Int) : Int) := of_decide_eq_true uJ; obtain ⟨i065, hi065, _, hsz65, _⟩ := info_parts info9; have hcut65 := cut_to (P := Tryd.prog) 37 9 .i64 Tryd.underlying37 hi065 (some ⟨go59, 0, none⟩) x9_2.length co59 (ji60) (of_decide_eq_true uJ) q65 (Kd.uH HO_9.out).2.1; have hr65 := Kd.R_take (m := ((ji60) : Int).toNat) HO_9.out (by first | omega | (have hl_ := (Kd.uH HO_9.out).1; omega)); have hy65 : y161.length = ((ji60) : Int).toNat := (by rw [Ny161.out, List.length_take]; first | omega | (have hl_ := (Kd.uH HO_9.out).1; omega)); rw [← Ny161.out] at hr65; rw [← hy65] at hr65 hcut65; clear hy65 hi065 hsz65 HO_9; have HO163 := Aside0.mk hr65; clear hr65; replace q65 := eq_true q65))
      go_ret
      exact ⟨_, by first | rfl | (simp [errW_none, errW_some] <;> rfl) | (simp only [← hji60]; first | rfl | (simp [errW_none, errW_some] <;> rfl)) | (simp [*, errW_none, errW_some] <;> rfl), by (with_reducible repeat (first | apply Kd.uL | apply Kd.uK | apply Kd.uM)); exact HO163.out, cq1⟩
     rw [if_neg c56] at H
     have c56b0 := decide_eq_false c56
     clear c56
     obtain ⟨ji66, hji66⟩ : ∃ j_ : Int, (wrap64 (t159 + a2)) = j_ := ⟨_, rfl⟩
     replace H : (if 0 ≤ (ji66) then (if (ji66) ≤ (x0_2.size : Int) then (if 0 ≤ x10_2 then (if x10_2 < (x9_2.length : Int) then (if 0 ≤ (wrap64 (t159 + (a1.size : Int))) then (if (wrap64 (t159 + (a1.size : Int))) ≤ (x0_2.size : Int) then (strings_genSplit.l0 k2 (x0_2.extract ((wrap64 (t159 + (a1.size : Int))) : Int).toNat x0_2.size) a1 a2 (wrap64 (x3_8 - 1)) (x9_2.set (x10_2 : Int).toNat (x0_2.extract 0 ((ji66) : Int).toNat)) (wrap64 (x10_2 + 1))) else (none)) else (none)) else (none)) else (none)) else (none)) else (none)) = some r := by first | (rw [hji66] at H; exact H) | (simp only [hji66] at H ⊢; exact H) | rfl
     (try rw [hji66] at A55)
     have hji66w : (IntKind.i64.wrap (t159 + a2)) = ji66 := (uQ _).trans hji66
     by_cases c67 : 0 ≤ (ji66)
     rotate_left
     ·rw [if_neg c67] at H
      exact absurd H (by simp)
     rw [if_pos c67] at H
     have c67b0 := eq_true c67
     have c67b1 := decide_eq_true c67
     clear c67
     by_cases c68 : (ji66) ≤ (x0_2.size : Int)
     rotate_left
     ·rw [if_neg c68] at H
      exact absurd H (by simp)
     rw [if_pos c68] at H
     have c68b0 := eq_true c68
     have c68b1 := decide_eq_true c68
     clear c68
     obtain ⟨c69b0, H⟩ := ifD H
     obtain ⟨c70b0, H⟩ := ifD H
     obtain ⟨y164, hy164⟩ : ∃ y_ : List ByteArray, y_ = (x9_2.set (x10_2 : Int).toNat (x0_2.extract 0 ((ji66) : Int).toNat)) := ⟨_, rfl⟩
     replace H : (if 0 ≤ (wrap64 (t159 + (a1.size : Int))) then (if (wrap64 (t159 + (a1.size : Int))) ≤ (x0_2.size : Int) then (strings_genSplit.l0 k2 (x0_2.extract ((wrap64 (t159 + (a1.size : Int))) : Int).toNat x0_2.size) a1 a2 (wrap64 (x3_8 - 1)) y164 (wrap64 (x10_2 + 1))) else (none)) else (none)) = some r := rpl hy164 H
     have Ny164 := Aside0.mk hy164
     clear hy164
     obtain ⟨ji72, hji72⟩ : ∃ j_ : Int, (wrap64 (t159 + (a1.size : Int))) = j_ := ⟨_, rfl⟩
     replace H : (if 0 ≤ (ji72) then (if (ji72) ≤ (x0_2.size : Int) then (strings_genSplit.l0 k2 (x0_2.extract ((ji72) : Int).toNat x0_2.size) a1 a2 (wrap64 (x3_8 - 1)) y164 (wrap64 (x10_2 + 1))) else (none)) else (none)) = some r := by first | (rw [hji72] at H; exact H) | (simp only [hji72] at H ⊢; exact H) | rfl
     (try rw [hji72] at A55)
     have hji72w : (IntKind.i64.wrap (t159 + (a1.size : Int))) = ji72 := (uQ _).trans hji72
     by_cases c73 : 0 ≤ (ji72)
     rotate_left
     ·rw [if_neg c73] at H
      exact absurd H (by simp)
     rw [if_pos c73] at H
     have c73b0 := eq_true c73
     have c73b1 := decide_eq_true c73
     clear c73
     by_cases c74 : (ji72) ≤ (x0_2.size : Int)
     rotate_left
     ·rw [if_neg c74] at H
      exact absurd H (by simp)
     rw [if_pos c74] at H
     have c74b0 := eq_true c74
     have c74b1 := decide_eq_true c74
     clear c74
     have H' := Aside0.mk H
     clear H
     go_wp2_with (first | ((with_reducible refine uI (f := 121) rfl ?_); refine goesM (some 39) Tryd.func121 #[.string x0_2, .string a1] ?_; (with_reducible refine (strings_Index.calls x0_2 a1 t159 _ A55.out).mono ?_); rintro e w' ⟨rfl, ⟨nd, rfl⟩⟩; refine ⟨_, rfl, ?_⟩; (try (rw [drewN_self wr]; generalize hq_ : World.drewN wr _ = wr; have n0_ : Aside0 (Kd.R Kd.string 9 wr w.heap.size (fun _ => True) v170 x9_2) := ⟨by rw [← hq_]; exact (rSR HO_9.out)⟩; have n1_ : Aside0 (Below w.heap.size w wr) := ⟨cq49⟩; clear HO_9 HB hq_; have HO_9 := n0_; have HB := n1_; clear n0_ n1_)); have p71 : 0 ≤ (x10_2 : Int) := of_decide_eq_true uJ; have q71 : (x10_2 : Int) < ((x9_2.length : Int) : Int) := of_decide_eq_true uJ; obtain ⟨go71, co71, eo71, gb71, gl71, cl71, HG71⟩ := Kd.R_form HO_9.out (by omega); (first | cases eo71 | (injection eo71 with ea_ en_ ec_; (first | subst ea_ | (injection ea_ with ea_; subst ea_)); subst ec_; clear en_)); have GB71 := Aside0.mk gb71; have GG71 := Aside0.mk HG71; clear gb71 gl71 HG71; obtain ⟨hx71_0, hf71_0⟩ := Kd.R_celln (⟨#[]⟩ : ByteArray) HO_9.out (x10_2 : Int) p71 q71; replace p71 := eq_true p71; replace q71 := eq_true q71; obtain ⟨hy75_, hz75_⟩ := Kd.R_celln (⟨#[]⟩ : ByteArray) HO_9.out (x10_2 : Int) (of_decide_eq_true uJ) (of_decide_eq_true uJ); have HP75 := Kd.R_putg HO_9.out (x10_2 : Int) (x0_2.extract 0 ((ji66) : Int).toNat)) | ((with_reducible refine gate_store (t := 9) (p := 49) rfl ?_); refine store_event (t := 9) (p := 49) (v := ?vo_w76) (w1 := (wr.setCell ⟨go71, (x10_2 : Int).toNat, none⟩ (.string (x0_2.extract 0 ((ji66) : Int).toNat)))) ?hg ?ho ?hn ?hr ?_; (case ho => rfl); (case hg => rfl); (case hn => rfl); (case hr => first | (go_simp; done) | (go_simp; rfl)); intro w76 hw; have hg : wr.grownBy w76 (some go71) := (by rw [hw]; exact HP75.2); have hp_ : Kd.R Kd.string 9 w76 w.heap.size (fun _ => True) (.slice (some ⟨go71, 0, none⟩) x9_2.length co71) y164 := (by rw [hw, Ny164.out]; exact HP75.1); clear HP75; replace HO_9 := Aside0.mk (hp_); replace HB := Aside0.mk ((by rw [hw]; exact below_set (HB.out) GB71.out : Below w.heap.size w w76)); clear hg hw hp_))
     go_roundg k2
     case measure => have := HJ8.out; have := HK2.out; omega
     case rel => exact ⟨(x0_2.extract ((ji72) : Int).toNat x0_2.size), (y164), (wrap64 (x10_2 + 1)), (by first | rfl | (simp; done) | (simp only [← hji72] <;> (first | rfl | simp)) | (simp [*]; done)), cq3, H', ⟨by have := HJ8.out; have := HK2.out; omega⟩, ⟨by (with_reducible repeat (first | apply Kd.uL | apply Kd.uK | apply Kd.uM)); exact HO_9.out⟩, ⟨cq1⟩⟩

/-! ### strings_Split: function 69 -/
def strings_Split.f (k : Nat) (a0 : ByteArray) (a1 : ByteArray) : Option (List ByteArray) := (strings_genSplit.f k a0 a1 0 (-1)).bind fun t172 => (some t172)
theorem strings_Split.mono : ∀ a0 a1 k, uA (strings_Split.f k a0 a1) (strings_Split.f (k + 1) a0 a1) := by
 intro a0 a1 k
 unfold strings_Split.f
 repeat' first
   | (with_reducible exact strings_genSplit.mono _ _ _ _ _)
   | (with_reducible exact uA.refl _)
   | (with_reducible exact uA.none _)
   | (with_reducible refine uA.ite ?_ ?_)
   | (with_reducible refine uA.bind ?_ (fun _ => ?_))
   | exact uA.none _
   | refine uA.ite ?_ ?_
   | refine uA.bind ?_ (fun _ => ?_)
set_option maxHeartbeats 8000000 in
set_option maxRecDepth 100000 in
theorem strings_Split.calls (k : Nat) (a0 : ByteArray) (a1 : ByteArray) (r : List ByteArray) (w : World) (h : strings_Split.f k a0 a1 = some r) :
  Calls Tryd.prog 69 #[.string a0, .string a1] w fun e w' => ∃ v0_ : Value, e = .returned (v0_) ∧ Kd.R Kd.string 9 w' w.heap.size (fun _ => True) v0_ r ∧ Below w.heap.size w w' := by
 have HB := Aside0.mk (Below.refl w.heap.size w)
 have H : ((strings_genSplit.f k a0 a1 0 (-1)).bind fun t172 => (some t172)) = some r := h
 clear h
 replace H := Option.bind_eq_some_iff.mp H
 obtain ⟨t172, A30, H⟩ := H
 try dsimp only at H
 have A3 := Aside0.mk A30
 clear A30
 obtain rfl := Option.some.inj H
 go_enter Tryd.func69, Tryd.ntmps69
 go_wp2_with (first | ((with_reducible refine uI (f := 101) rfl ?_); refine goesM (some 7) Tryd.func101 #[.string a0, .string a1, .int .i64 0, .int .i64 (-1)] ?_; (with_reducible refine (strings_genSplit.calls k a0 a1 0 (-1) t172 _ A3.out).mono ?_); rintro e w4 ⟨v173, rfl, ho0, hb⟩; refine ⟨_, rfl, ?_⟩; have HO174 := Aside0.mk (Kd.R_lower ho0 (uY cq1)); replace HB := uP HB hb; (try clear hb); (try clear ho0)))
 go_ret
 exact ⟨_, cq4, by (with_reducible repeat (first | apply Kd.uL | apply Kd.uK | apply Kd.uM)); exact HO174.out, cq1⟩

/-! ### internal_stringslite_Cut: function 102 -/
def internal_stringslite_Cut.f (a0 : ByteArray) (a1 : ByteArray) : Option (ByteArray × ByteArray × Bool) := (internal_stringslite_Index.f a0 a1).bind fun t175 => (if t175 ≥ 0 then (if 0 ≤ t175 then (if t175 ≤ (a0.size : Int) then (if 0 ≤ (wrap64 (t175 + (a1.size : Int))) then (if (wrap64 (t175 + (a1.size : Int))) ≤ (a0.size : Int) then (some (a0.extract 0 (t175 : Int).toNat, a0.extract ((wrap64 (t175 + (a1.size : Int))) : Int).toNat a0.size, true)) else (none)) else (none)) else (none)) else (none)) else (some (a0, (⟨#[]⟩ : ByteArray), false)))
set_option maxHeartbeats 8000000 in
set_option maxRecDepth 100000 in
theorem internal_stringslite_Cut.calls (a0 : ByteArray) (a1 : ByteArray) (r1 : ByteArray) (r2 : ByteArray) (r3 : Bool) (w : World) (h : internal_stringslite_Cut.f a0 a1 = some (r1, r2, r3)) :
  Calls Tryd.prog 102 #[.string a0, .string a1] w fun e w' => e = .returned (.tuple #[.string r1, .string r2, .bool r3]) ∧ Drawn0 w w' := by
 have H : ((internal_stringslite_Index.f a0 a1).bind fun t175 => (if t175 ≥ 0 then (if 0 ≤ t175 then (if t175 ≤ (a0.size : Int) then (if 0 ≤ (wrap64 (t175 + (a1.size : Int))) then (if (wrap64 (t175 + (a1.size : Int))) ≤ (a0.size : Int) then (some (a0.extract 0 (t175 : Int).toNat, a0.extract ((wrap64 (t175 + (a1.size : Int))) : Int).toNat a0.size, true)) else (none)) else (none)) else (none)) else (none)) else (some (a0, (⟨#[]⟩ : ByteArray), false)))) = some (r1, r2, r3) := h
 clear h
 replace H := Option.bind_eq_some_iff.mp H
 obtain ⟨t175, A30, H⟩ := H
 try dsimp only at H
 have A3 := Aside0.mk A30
 clear A30
 by_cases c4 : t175 ≥ 0
 rotate_left
 ·rw [if_neg c4] at H
  have c4b0 := decide_eq_false c4
  clear c4
  simp only [Option.some.injEq, Prod.mk.injEq] at H
  obtain ⟨rfl, rfl, rfl⟩ := H
  go_enter Tryd.func102, Tryd.ntmps102
  go_wp2_with (first | (go_at_call 122; (with_reducible refine (internal_stringslite_Index.calls a0 a1 t175 _ A3.out).mono ?_); rintro e w' ⟨rfl, ⟨nd, rfl⟩⟩; (try exact dwN)))
  repeat (go_quiet (first | (go_at_call 122; (with_reducible refine (internal_stringslite_Index.calls a0 a1 t175 _ A3.out).mono ?_); rintro e w' ⟨rfl, ⟨nd, rfl⟩⟩; (try exact dwN))); try go_wp2_with (first | (go_at_call 122; (with_reducible refine (internal_stringslite_Index.calls a0 a1 t175 _ A3.out).mono ?_); rintro e w' ⟨rfl, ⟨nd, rfl⟩⟩; (try exact dwN))))
  go_ret3
  exact ⟨cq3, cq18⟩
 rw [if_pos c4] at H
 have c4b0 := decide_eq_true c4
 clear c4
 by_cases c5 : 0 ≤ t175
 rotate_left
 ·rw [if_neg c5] at H
  exact absurd H (by simp)
 rw [if_pos c5] at H
 have c5b0 := eq_true c5
 have c5b1 := decide_eq_true c5
 clear c5
 by_cases c6 : t175 ≤ (a0.size : Int)
 rotate_left
 ·rw [if_neg c6] at H
  exact absurd H (by simp)
 rw [if_pos c6] at H
 have c6b0 := eq_true c6
 have c6b1 := decide_eq_true c6
 clear c6
 obtain ⟨ji7, hji7⟩ : ∃ j_ : Int, (wrap64 (t175 + (a1.size : Int))) = j_ := ⟨_, rfl⟩
 replace H : (if 0 ≤ (ji7) then (if (ji7) ≤ (a0.size : Int) then (some (a0.extract 0 (t175 : Int).toNat, a0.extract ((ji7) : Int).toNat a0.size, true)) else (none)) else (none)) = some (r1, r2, r3) := by first | (rw [hji7] at H; exact H) | (simp only [hji7] at H ⊢; exact H) | rfl
 (try rw [hji7] at A3)
 have hji7w : (IntKind.i64.wrap (t175 + (a1.size : Int))) = ji7 := (uQ _).trans hji7
 by_cases c8 : 0 ≤ (ji7)
 rotate_left
 ·rw [if_neg c8] at H
  exact absurd H (by simp)
 rw [if_pos c8] at H
 have c8b0 := eq_true c8
 have c8b1 := decide_eq_true c8
 clear c8
 by_cases c9 : (ji7) ≤ (a0.size : Int)
 rotate_left
 ·rw [if_neg c9] at H
  exact absurd H (by simp)
 rw [if_pos c9] at H
 have c9b0 := eq_true c9
 have c9b1 := decide_eq_true c9
 clear c9
 simp only [Option.some.injEq, Prod.mk.injEq] at H
 obtain ⟨rfl, rfl, rfl⟩ := H
 go_enter Tryd.func102, Tryd.ntmps102
 go_wp2_with (first | (go_at_call 122; (with_reducible refine (internal_stringslite_Index.calls a0 a1 t175 _ A3.out).mono ?_); rintro e w' ⟨rfl, ⟨nd, rfl⟩⟩; (try exact dwN)))
 repeat (go_quiet (first | (go_at_call 122; (with_reducible refine (internal_stringslite_Index.calls a0 a1 t175 _ A3.out).mono ?_); rintro e w' ⟨rfl, ⟨nd, rfl⟩⟩; (try exact dwN))); try go_wp2_with (first | (go_at_call 122; (with_reducible refine (internal_stringslite_Index.calls a0 a1 t175 _ A3.out).mono ?_); rintro e w' ⟨rfl, ⟨nd, rfl⟩⟩; (try exact dwN))))
 go_ret3
 exact ⟨by first | rfl | (simp; done) | (simp only [← hji7] <;> (first | rfl | simp)) | (simp [*]; done), cq18⟩

/-! ### strings_Cut: function 70 -/
def strings_Cut.f (a0 : ByteArray) (a1 : ByteArray) : Option (ByteArray × ByteArray × Bool) := (internal_stringslite_Cut.f a0 a1).bind fun bt176 => (some (bt176.1, bt176.2.1, bt176.2.2))
set_option maxHeartbeats 8000000 in
set_option maxRecDepth 100000 in
theorem strings_Cut.calls (a0 : ByteArray) (a1 : ByteArray) (r1 : ByteArray) (r2 : ByteArray) (r3 : Bool) (w : World) (h : strings_Cut.f a0 a1 = some (r1, r2, r3)) :
  Calls Tryd.prog 70 #[.string a0, .string a1] w fun e w' => e = .returned (.tuple #[.string r1, .string r2, .bool r3]) ∧ Drawn0 w w' := by
 have H : ((internal_stringslite_Cut.f a0 a1).bind fun bt176 => (some (bt176.1, bt176.2.1, bt176.2.2))) = some (r1, r2, r3) := h
 clear h
 replace H := Option.bind_eq_some_iff.mp H
 obtain ⟨⟨t176, t177, t178⟩, A30, H⟩ := H
 try dsimp only at H
 have A3 := Aside0.mk A30
 clear A30
 simp only [Option.some.injEq, Prod.mk.injEq] at H
 obtain ⟨rfl, rfl, rfl⟩ := H
 go_enter Tryd.func70, Tryd.ntmps70
 go_wp2_with (first | ((with_reducible refine uI (f := 102) rfl ?_); refine goesM (some 9) Tryd.func102 #[.string a0, .string a1] ?_; (with_reducible refine (internal_stringslite_Cut.calls a0 a1 t176 t177 t178 _ A3.out).mono ?_); rintro e w' ⟨rfl, ⟨nd, rfl⟩⟩; refine ⟨_, rfl, ?_⟩))
 go_ret3
 exact ⟨cq3, cq18⟩

/-! ### impl_within: function 55 -/
def impl_within.f (a0 : Int) (a1 : Int) (a2 : Int) : Option (Bool) := if a1 ≤ a0 then (some (decide (a0 ≤ a2))) else (some false)
set_option maxHeartbeats 8000000 in
set_option maxRecDepth 100000 in
theorem impl_within.calls (a0 : Int) (a1 : Int) (a2 : Int) (r : Bool) (w : World) (h : impl_within.f a0 a1 a2 = some r) :
  Calls Tryd.prog 55 #[.int .i64 a0, .int .i64 a1, .int .i64 a2] w fun e w' => e = .returned (.bool r) ∧ Drawn0 w w' := by
 have H : (if a1 ≤ a0 then (some (decide (a0 ≤ a2))) else (some false)) = some r := h
 clear h
 by_cases c4 : a1 ≤ a0
 ·rw [if_pos c4] at H
  have c4b0 := decide_eq_true c4
  clear c4
  obtain rfl := Option.some.inj H
  go_enter Tryd.func55, Tryd.ntmps55
  go_wp2
  go_ret
  exact ⟨cq3, cq18⟩
 rw [if_neg c4] at H
 have c4b0 := decide_eq_false c4
 clear c4
 obtain rfl := Option.some.inj H
 go_enter Tryd.func55, Tryd.ntmps55
 go_wp2
 go_ret
 exact ⟨cq3, cq18⟩

/-! ### impl_FormatInt: function 87 -/
def impl_FormatInt.f (a0 : Int) : Option (ByteArray) := (strconv_Itoa.f a0).bind fun t179 => (some t179)
set_option maxHeartbeats 8000000 in
set_option maxRecDepth 100000 in
theorem impl_FormatInt.calls (a0 : Int) (r : ByteArray) (w : World) (hWF : WF w) (h : impl_FormatInt.f a0 = some r) :
  Calls Tryd.prog 87 #[.int .i64 a0] w fun e w' => e = .returned (.string r) ∧ Below w.heap.size w w' := by
 have HB := Aside0.mk (Below.refl w.heap.size w)
 have H : ((strconv_Itoa.f a0).bind fun t179 => (some t179)) = some r := h
 clear h
 replace H := Option.bind_eq_some_iff.mp H
 obtain ⟨t179, A20, H⟩ := H
 try dsimp only at H
 have A2 := Aside0.mk A20
 clear A20
 obtain rfl := Option.some.inj H
 go_enter Tryd.func87, Tryd.ntmps87
 go_wp2_with (first | ((with_reducible refine uI (f := 112) rfl ?_); refine goesM (some 4) Tryd.func112 #[.int .i64 a0] ?_; (with_reducible refine (strconv_Itoa.calls a0 t179 _ ?side1 A2.out).mono ?_); (case side1 => exact cq48); rintro e w3 ⟨rfl, hb⟩; refine ⟨_, rfl, ?_⟩; replace HB := uP HB hb; (try clear hb)))
 go_ret
 exact ⟨cq4, cq1⟩

end Go.Proofs.YtcikahnmiiichaaDoor.P
