/- Go functions as Lean functions, and the proof that the code comes to them: written by a program of this session out of the translation. -/
import Derived.Test.YtcikahnmiiichaaDoorK0
import Derived.Test.YtcikahnmiiichaaDoorK1
import Derived.Test.YtcikahnmiiichaaDoorK3
namespace Go.Proofs.YtcikahnmiiichaaDoor.K
open List renaming setIfInBounds_toArray → vZ, set_cons_zero → yA, set_cons_succ → yB
open Go.World renaming block_lt_of_cell? → yF
open Go.Proofs.YtcikahnmiiichaaDoor.Given
open Go.RowKit Go.Proofs.YtcikahnmiiichaaDoorW.PrintWords Go.Proofs.YtcikahnmiiichaaDoorW.PrintLast Go.Proofs.YtcikahnmiiichaaDoorW.PrintMore
attribute [local go_sem] max2_int min2_int max_two min_two vW vV max_four min_four   -- for this text's walks alone
set_option linter.unusedVariables false
set_option linter.unusedSimpArgs false

/-! ### spec_ReceiveChunk: function 23 -/
mutual
def spec_ReceiveChunk.j0 : Nat → ByteArray → Int → Int → List ByteArray → Bool → Option (List ByteArray × Bool)
 | 0, _, _, _, _, _ => none
 | k + 1, x1, x6, x7, x10, x33 => if x33 = true then (some (x10, false)) else (spec_ReceiveChunk.l0 k x1 x6 x7 x10)
def spec_ReceiveChunk.l0 : Nat → ByteArray → Int → Int → List ByteArray → Option (List ByteArray × Bool)
 | 0, _, _, _, _ => none
 | k + 1, x1, x6, x7, x10 => if (x10.length : Int) < x7 then (if x10.length < 8796093022208 then (spec_ReceiveChunk.l0 k x1 x6 x7 (x10 ++ [(⟨#[]⟩ : ByteArray)])) else (none)) else (if 0 ≤ x6 then (if x6 < (x10.length : Int) then (if (rdOf ByteArray.empty x10 x6).toList = ([] : List UInt8) then (some ((x10.set (x6 : Int).toNat x1), true)) else (some (x10, false))) else (none)) else (none))
end
def spec_ReceiveChunk.f (k : Nat) (l0 : List ByteArray) (a1 : ByteArray) : Option (List ByteArray × Bool) := (spec_l7Read.f k a1).bind fun bt141 => ((some (([] : List ByteArray) : List ByteArray)).bind fun y145 => (if y145.length + l0.length < 8796093022208 then ((some (y145 ++ l0 : List ByteArray)).bind fun y148 => (if bt141.2.2.2 = true then (if (l0.length : Int) > 0 then (spec_ReceiveChunk.j0 k a1 bt141.1 bt141.2.1 y148 ((l0.length : Int) != bt141.2.1)) else (spec_ReceiveChunk.j0 k a1 bt141.1 bt141.2.1 y148 false)) else (spec_ReceiveChunk.j0 k a1 bt141.1 bt141.2.1 y148 true))) else (none)))
theorem spec_ReceiveChunk.mono_l : ∀ k, (∀ y0 y1 y2 y3 y4, uA (spec_ReceiveChunk.j0 k y0 y1 y2 y3 y4) (spec_ReceiveChunk.j0 (k + 1) y0 y1 y2 y3 y4)) ∧ (∀ y0 y1 y2 y3, uA (spec_ReceiveChunk.l0 k y0 y1 y2 y3) (spec_ReceiveChunk.l0 (k + 1) y0 y1 y2 y3))
 | 0 => ⟨fun _ _ _ _ _ r h => by simp [spec_ReceiveChunk.j0] at h, fun _ _ _ _ r h => by simp [spec_ReceiveChunk.l0] at h⟩
 | k + 1 => by
  obtain ⟨ih0, ih1⟩ := spec_ReceiveChunk.mono_l k
  refine ⟨?_, ?_⟩
  ·intro y0 y1 y2 y3 y4
   unfold spec_ReceiveChunk.j0
   repeat' first
   | (with_reducible exact ih0 _ _ _ _ _)
   | (with_reducible exact ih1 _ _ _ _)
   | (with_reducible exact spec_l7Read.mono _ _)
   | (with_reducible exact uA.refl _)
   | (with_reducible exact uA.none _)
   | (with_reducible refine uA.vA ?_ ?_)
   | (with_reducible refine uA.bind ?_ (fun _ => ?_))
   | exact ih0 _ _ _ _ _
   | exact ih1 _ _ _ _
   | exact uA.none _
   | refine uA.vA ?_ ?_
   | refine uA.bind ?_ (fun _ => ?_)
  intro y0 y1 y2 y3
  unfold spec_ReceiveChunk.l0
  repeat' first
  | (with_reducible exact ih0 _ _ _ _ _)
  | (with_reducible exact ih1 _ _ _ _)
  | (with_reducible exact spec_l7Read.mono _ _)
  | (with_reducible exact uA.refl _)
  | (with_reducible exact uA.none _)
  | (with_reducible refine uA.vA ?_ ?_)
  | (with_reducible refine uA.bind ?_ (fun _ => ?_))
  | exact ih0 _ _ _ _ _
  | exact ih1 _ _ _ _
  | exact uA.none _
  | refine uA.vA ?_ ?_
  | refine uA.bind ?_ (fun _ => ?_)
theorem spec_ReceiveChunk.mono : ∀ a0 a1 k, uA (spec_ReceiveChunk.f k a0 a1) (spec_ReceiveChunk.f (k + 1) a0 a1) := by
 intro a0 a1 k
 obtain ⟨ih0, ih1⟩ := spec_ReceiveChunk.mono_l k
 unfold spec_ReceiveChunk.f
 repeat' first
   | (with_reducible exact ih0 _ _ _ _ _)
   | (with_reducible exact ih1 _ _ _ _)
   | (with_reducible exact spec_l7Read.mono _ _)
   | (with_reducible exact uA.refl _)
   | (with_reducible exact uA.none _)
   | (with_reducible refine uA.vA ?_ ?_)
   | (with_reducible refine uA.bind ?_ (fun _ => ?_))
   | exact ih0 _ _ _ _ _
   | exact ih1 _ _ _ _
   | exact uA.none _
   | refine uA.vA ?_ ?_
   | refine uA.bind ?_ (fun _ => ?_)
set_option maxHeartbeats 8000000 in
set_option maxRecDepth 100000 in
theorem spec_ReceiveChunk.calls (k : Nat) (A0 : Option Addr) (c0 : Nat) (l0 : List ByteArray) (a1 : ByteArray) (r1 : List ByteArray) (r2 : Bool) (w : World) (hr0 : Kd.C Kd.string w A0 l0.length l0) (hc0 : l0.length ≤ c0) (h : spec_ReceiveChunk.f k l0 a1 = some (r1, r2)) :
  Calls Tryd.prog 23 #[.slice A0 l0.length c0, .string a1] w fun e w' => ∃ v0_ : Value, e = .returned (.tuple #[v0_, .bool r2]) ∧ Kd.R Kd.string 9 w' w.heap.size (fun _ => True) v0_ r1 ∧ Below w.heap.size w w' := by
 have HR0 := Aside0.mk hr0
 have HC0 := Aside0.mk hc0
 clear hr0 hc0
 have HB := Aside0.mk (Below.refl w.heap.size w)
 have H : ((spec_l7Read.f k a1).bind fun bt141 => ((some (([] : List ByteArray) : List ByteArray)).bind fun y145 => (if y145.length + l0.length < 8796093022208 then ((some (y145 ++ l0 : List ByteArray)).bind fun y148 => (if bt141.2.2.2 = true then (if (l0.length : Int) > 0 then (spec_ReceiveChunk.j0 k a1 bt141.1 bt141.2.1 y148 ((l0.length : Int) != bt141.2.1)) else (spec_ReceiveChunk.j0 k a1 bt141.1 bt141.2.1 y148 false)) else (spec_ReceiveChunk.j0 k a1 bt141.1 bt141.2.1 y148 true))) else (none)))) = some (r1, r2) := h
 clear h
 replace H := Option.bind_eq_some_iff.mp H
 obtain ⟨⟨t141, t142, t143, t144⟩, A30, H⟩ := H
 try dsimp only at H
 have A3 := Aside0.mk A30
 clear A30
 obtain ⟨y145, hy145⟩ : ∃ y_ : List ByteArray, y_ = (([] : List ByteArray)) := ⟨_, rfl⟩
 replace H : (if y145.length + l0.length < 8796093022208 then ((some (y145 ++ l0 : List ByteArray)).bind fun y148 => (if t144 = true then (if (l0.length : Int) > 0 then (spec_ReceiveChunk.j0 k a1 t141 t142 y148 ((l0.length : Int) != t142)) else (spec_ReceiveChunk.j0 k a1 t141 t142 y148 false)) else (spec_ReceiveChunk.j0 k a1 t141 t142 y148 true))) else (none)) = some (r1, r2) := rpl hy145 H
 have Ny145 := Aside0.mk hy145
 clear hy145
 obtain ⟨LMc4, H⟩ := ifL H
 obtain ⟨y148, hy148⟩ : ∃ y_ : List ByteArray, y_ = (y145 ++ l0) := ⟨_, rfl⟩
 replace H : (if t144 = true then (if (l0.length : Int) > 0 then (spec_ReceiveChunk.j0 k a1 t141 t142 y148 ((l0.length : Int) != t142)) else (spec_ReceiveChunk.j0 k a1 t141 t142 y148 false)) else (spec_ReceiveChunk.j0 k a1 t141 t142 y148 true)) = some (r1, r2) := rpl hy148 H
 have Ny148 := Aside0.mk hy148
 clear hy148
 have HC5 := Aside0.mk H
 clear H
 go_enter Tryd.func23, Tryd.ntmps23
 go_upto_region 3 with (first | ((with_reducible refine uB (f := 60) rfl ?_); refine uL (some 13) Tryd.func60 #[.string a1] ?_; (with_reducible refine (spec_l7Read.calls k a1 t141 t142 t143 t144 _ A3.out).mono ?_); rintro e w6 ⟨rfl, hb⟩; refine ⟨_, rfl, ?_⟩; replace HB := uH HB hb; (try clear hb)) | ((with_reducible refine uQ (N := 18) rfl ?_); refine Kd.R_lit Kd.string _ 9 ?hg (N := 18) ?hd (xs := ([] : List ByteArray)) (inner := []) (ok := fun _ => True) (okp := fun _ => True) ?hr ?hp (fun _ hk => hk) trivial (Below.refl _ _) (Nat.le_refl _) (by simp) ?_; (case hd => rfl); (case hg => rfl); (case hr => first | (go_simp; done) | (go_simp; rfl)); (case hp => exact (Reps.none _ _)); intro v146 w7 ho8 hb hg_ hnew_; clear hg_ hnew_; (first | rw [← Ny145.out] at ho8 | (simp only [Int.reduceToNat] at ho8; rw [← Ny145.out] at ho8)); have HO147 := Aside0.mk (Kd.uN ho8 (uR uW)); replace HB := uH HB hb; clear hb ho8) | ((with_reducible refine gate_builtin (b := .append) (xs := #[.tmp 18, .tmp 19]) rfl ?_); at_builtin; refine Kd.R_append_rows Kd.string (w0 := w) w.heap.size rfl (.tmp 18) (.tmp 19) 37 9 (.string ⟨#[]⟩) 16 rfl Tryd.underlying37 info9 rfl (by decide) (by omega) v146 y145 l0 _ _ _ (fun _ => True) (fun _ => False) rfl rfl ?aO ?aR (fun _ _ h => h) (fun _ h => h.elim) ?aF ?aB ?aS ?aL ?_; (case aR => exact cq12); (case aB => exact cq36); (case aF => exact (fun _ _ => trivial)); (case aO => exact (uT HO147.out)); (case aS => exact cq30); (case aL => have := LMc4.out; omega); intro v149 w9 ho hb hg hat; rw [← Ny148.out] at ho; have n0_ := Aside0.mk (hb); have n1_ := Aside0.mk (ho); clear HB; clear HO147; have HB := n0_; have HO150 := n1_; clear n0_ n1_; clear ho hb hg hat))
 (try simp only [Act.put, vZ, yA, yB])
 go_cut [33] (fun v33 wc => ∃ (kq : Nat) (x33_4 : Bool), v33 = .bool x33_4 ∧ Aside0 (spec_ReceiveChunk.j0 kq a1 t141 t142 y148 x33_4 = some (r1, r2)) ∧ Aside0 (kq ≤ k) ∧ Aside0 (Kd.R Kd.string 9 wc w.heap.size (fun _ => True) v149 y148) ∧ Aside0 (Below w.heap.size w wc))
 case first =>
  have H := HC5.out
  clear HC5
  by_cases c10 : t144 = true
  rotate_left
  ·replace c10 := Bool.eq_false_iff.mpr c10
   subst c10
   try rw [if_neg (show ¬ (false = true) by decide)] at H
   have H' := Aside0.mk H
   clear H
   go_wp2
   go_meet
   case rel => exact ⟨_, (true), vD, H', ⟨by first | omega | exact Nat.le_refl _⟩, ⟨cq146⟩, ⟨uW⟩⟩
  subst c10
  try rw [if_pos rfl] at H
  by_cases c11 : (l0.length : Int) > 0
  rotate_left
  ·rw [if_neg c11] at H
   have c11b0 := decide_eq_false c11
   have c11b1 : decide (0 < l0.length) = false := decide_eq_false (by omega)
   clear c11
   (first | rw [c11b0] | (simp only [vM, vO]; rw [c11b0]) | skip)
   have H' := Aside0.mk H
   clear H
   go_wp2
   go_meet
   case rel => exact ⟨_, (false), vD, H', ⟨by first | omega | exact Nat.le_refl _⟩, ⟨cq146⟩, ⟨uW⟩⟩
  rw [if_pos c11] at H
  have c11b0 := decide_eq_true c11
  have c11b1 : decide (0 < l0.length) = true := decide_eq_true (by omega)
  clear c11
  (first | rw [c11b0] | (simp only [vM, vO]; rw [c11b0]) | skip)
  have H' := Aside0.mk H
  clear H
  go_wp2
  go_meet
  case rel => exact ⟨_, (((l0.length : Int) != t142)), vD, H', ⟨by first | omega | exact Nat.le_refl _⟩, ⟨cq146⟩, ⟨uW⟩⟩
 case rest =>
  clear HC5
  obtain ⟨kq, x33_4, rfl, HA, HJ4, HO_10, HB⟩ := hcut
  cases kq with
  | zero => exact absurd HA.out (by simp [spec_ReceiveChunk.j0])
  | succ kj4 =>
   have H := HA.out
   clear HA
   simp only [spec_ReceiveChunk.j0] at H
   by_cases c12 : x33_4 = true
   ·subst c12
    try rw [if_pos rfl] at H
    simp only [Option.some.injEq, Prod.mk.injEq] at H
    obtain ⟨rfl, rfl⟩ := H
    go_wp2
    go_ret2
    exact ⟨_, cq5, cq104, uW⟩
   replace c12 := Bool.eq_false_iff.mpr c12
   subst c12
   try rw [if_neg (show ¬ (false = true) by decide)] at H
   have H' := Aside0.mk H
   clear H
   go_wp2
   go_loopg [10] kj4 (fun kq v10 w' => ∃ (x10_2 : List ByteArray), Aside0 (spec_ReceiveChunk.l0 kq a1 t141 t142 x10_2 = some (r1, r2)) ∧ Aside0 (kq ≤ kj4) ∧ Aside0 (Kd.R Kd.string 9 w' w.heap.size (fun _ => True) v10 x10_2) ∧ Aside0 (Below w.heap.size w w'))
   case atStart => exact ⟨(y148), H', ⟨Nat.le_refl _⟩, ⟨cq104⟩, ⟨uW⟩⟩
   case round =>
    clear H'
    try clear c12
    obtain ⟨x10_2, HA, HK2, HO_10, HB⟩ := hrel
    cases gk with
    | zero => exact absurd HA.out (by simp [spec_ReceiveChunk.l0])
    | succ k2 =>
     have H := HA.out
     clear HA
     simp only [spec_ReceiveChunk.l0] at H
     by_cases c13 : (x10_2.length : Int) < t142
     ·rw [if_pos c13] at H
      have c13b0 := decide_eq_true c13
      clear c13
      obtain ⟨LMc14, H⟩ := ifL H
      obtain ⟨y151, hy151⟩ : ∃ y_ : List ByteArray, y_ = (x10_2 ++ [(⟨#[]⟩ : ByteArray)]) := ⟨_, rfl⟩
      replace H : (spec_ReceiveChunk.l0 k2 a1 t141 t142 y151) = some (r1, r2) := rpl hy151 H
      have Ny151 := Aside0.mk hy151
      clear hy151
      have H' := Aside0.mk H
      clear H
      obtain ⟨Ao15, co15, eo15⟩ := Kd.uS HO_10.out
      subst eo15
      go_wp2_with (first | ((with_reducible refine gate_builtin (b := .append) (xs := #[.tmp 39, .tmp 40]) rfl ?_); at_builtin; refine Kd.R_append Kd.string (w0 := w) w.heap.size rfl (.tmp 39) (.tmp 40) 37 9 (.string ⟨#[]⟩) 16 rfl Tryd.underlying37 info9 rfl (by decide) (by omega) (.slice Ao15 x10_2.length co15) x10_2 (⟨#[]⟩ : ByteArray) [.string (⟨#[]⟩ : ByteArray)] (fun _ => True) (fun _ => False) rfl rfl ?aP (fun _ hk => hk.elim) ?aF ?aO ?aB ?aS ?aL ?_; (case aP => exact rfl); (case aB => exact cq36); (case aF => exact (fun _ _ => trivial)); (case aO => exact (uT HO_10.out)); (case aS => exact cq30); (case aL => have := LMc14.out; omega); intro v152 w16 ho hb hg hat; rw [← Ny151.out] at ho; have n0_ := Aside0.mk (hb); have n1_ := Aside0.mk (ho); clear HB; clear HO_10; have HB := n0_; have HO153 := n1_; clear n0_ n1_; clear ho hb hg hat))
      go_roundg k2
      case measure => have := HJ4.out; have := HK2.out; omega
      case rel => exact ⟨(y151), H', ⟨by have := HJ4.out; have := HK2.out; omega⟩, ⟨by (with_reducible repeat (first | apply Kd.uK | apply Kd.uJ | apply Kd.uO)); exact HO153.out⟩, ⟨uW⟩⟩
     rw [if_neg c13] at H
     have c13b0 := decide_eq_false c13
     clear c13
     obtain ⟨c17b0, H⟩ := ifD H
     obtain ⟨c18b0, H⟩ := ifD H
     by_cases c19 : (rdOf ByteArray.empty x10_2 t141).toList = ([] : List UInt8)
     rotate_left
     ·rw [if_neg c19] at H
      have c19b0 : ((rdOf ByteArray.empty x10_2 t141).toList == ([] : List UInt8)) = false := beq_eq_false_iff_ne.mpr c19
      have c19b1 : ((rdOf ByteArray.empty x10_2 t141).toList != ([] : List UInt8)) = true := bne_iff_ne.mpr c19
      simp only [Option.some.injEq, Prod.mk.injEq] at H
      obtain ⟨rfl, rfl⟩ := H
      obtain ⟨Ao24, co24, eo24⟩ := Kd.uS HO_10.out
      subst eo24
      have p154 : 0 ≤ (t141 : Int) := of_decide_eq_true vC
      have q154 : t141 < (x10_2.length : Int) := of_decide_eq_true vC
      obtain ⟨ad154, e154, hx154_0⟩ := Kd.vS (Kd.uY HO_10.out).2.2 t141 p154 q154
      cases e154
      replace p154 := eq_true p154
      replace q154 := eq_true q154
      go_wp2
      go_ret2
      exact ⟨_, cq5, cq104, uW⟩
     rw [if_pos c19] at H
     have c19b0 : ((rdOf ByteArray.empty x10_2 t141).toList == ([] : List UInt8)) = true := beq_iff_eq.mpr c19
     have c19b1 : ((rdOf ByteArray.empty x10_2 t141).toList != ([] : List UInt8)) = false := bne_eq_false_iff_eq.mpr c19
     clear c19
     obtain ⟨y155, hy155⟩ : ∃ y_ : List ByteArray, y_ = (x10_2.set (t141 : Int).toNat a1) := ⟨_, rfl⟩
     replace H : (some (y155, true)) = some (r1, r2) := rpl hy155 H
     have Ny155 := Aside0.mk hy155
     clear hy155
     simp only [Option.some.injEq, Prod.mk.injEq] at H
     obtain ⟨rfl, rfl⟩ := H
     obtain ⟨Ao21, co21, eo21⟩ := Kd.uS HO_10.out
     subst eo21
     have p154 : 0 ≤ (t141 : Int) := of_decide_eq_true vC
     have q154 : t141 < (x10_2.length : Int) := of_decide_eq_true vC
     obtain ⟨ad154, e154, hx154_0⟩ := Kd.vS (Kd.uY HO_10.out).2.2 t141 p154 q154
     cases e154
     replace p154 := eq_true p154
     replace q154 := eq_true q154
     have p20 : 0 ≤ (t141 : Int) := of_decide_eq_true vC
     have q20 : (t141 : Int) < ((x10_2.length : Int) : Int) := of_decide_eq_true vC
     obtain ⟨go20, co20, eo20, gb20, gl20, cl20, HG20⟩ := Kd.R_form HO_10.out (by omega)
     (first | cases eo20 | (injection eo20 with ea_ en_ ec_; (first | subst ea_ | (injection ea_ with ea_; subst ea_)); subst ec_; clear en_))
     have GB20 := Aside0.mk gb20
     have GG20 := Aside0.mk HG20
     clear gb20 gl20 HG20
     (first | simp only [add_plain] at hx154_0 | skip)
     obtain ⟨hx20_0, hf20_0⟩ := Kd.R_celln (⟨#[]⟩ : ByteArray) HO_10.out (t141 : Int) p20 q20
     replace p20 := eq_true p20
     replace q20 := eq_true q20
     have HP22 := Kd.R_putg HO_10.out (t141 : Int) a1
     go_wp2_with (first | ((with_reducible refine vU (t := 9) (p := 51) rfl ?_); refine vR (t := 9) (p := 51) (v := ?vo_w23) (w1 := (wr.setCell ⟨go20, (t141 : Int).toNat, none⟩ (.string a1))) ?hg ?ho ?hn ?hr ?_; (case ho => rfl); (case hg => rfl); (case hn => rfl); (case hr => first | (go_simp; done) | (go_simp; rfl)); intro w23 hw; have hg : wr.grownBy w23 (some go20) := (by rw [hw]; exact HP22.2); have hp_ : Kd.R Kd.string 9 w23 w.heap.size (fun _ => True) (.slice (some ⟨go20, 0, none⟩) x10_2.length co21) y155 := (by rw [hw, Ny155.out]; exact HP22.1); clear HP22; replace HO_10 := Aside0.mk (hp_); replace HB := Aside0.mk ((by rw [hw]; exact below_set (HB.out) GB20.out : Below w.heap.size w w23)); clear hg hw hp_))
     go_ret2
     exact ⟨_, cq5, cq104, uW⟩

/-! ### spec_EncodeChunks: function 26 -/
mutual
def spec_EncodeChunks.j0 : Nat → ByteArray → Int → List ByteArray → Int → Option (List ByteArray)
 | 0, _, _, _, _ => none
 | k + 1, x0, x1, x5, x6 => if x6 > 40 then (some x5) else (spec_EncodeChunks.l0 k x0 x1 x5 x6 0)
def spec_EncodeChunks.l0 : Nat → ByteArray → Int → List ByteArray → Int → Int → Option (List ByteArray)
 | 0, _, _, _, _, _ => none
 | k + 1, x0, x1, x5, x6, x7 => if x7 < x6 then (if 0 ≤ (wrap64 (x7 * x1)) then (if (wrap64 (x7 * x1)) ≤ (mn (x0.size : Int) (wrap64 ((wrap64 (x7 * x1)) + (mn x1 (x0.size : Int))))) then (if (mn (x0.size : Int) (wrap64 ((wrap64 (x7 * x1)) + (mn x1 (x0.size : Int))))) ≤ (x0.size : Int) then ((spec_l7Chunk.f k x7 x6 (x0.extract ((wrap64 (x7 * x1)) : Int).toNat ((mn (x0.size : Int) (wrap64 ((wrap64 (x7 * x1)) + (mn x1 (x0.size : Int))))) : Int).toNat)).bind fun t159 => (if x5.length < 8796093022208 then (spec_EncodeChunks.l0 k x0 x1 (x5 ++ [t159]) x6 (wrap64 (x7 + 1))) else (none))) else (none)) else (none)) else (none)) else (some x5)
end
def spec_EncodeChunks.f (k : Nat) (a0 : ByteArray) (a1 : Int) : Option (List ByteArray) := (some (([] : List ByteArray) : List ByteArray)).bind fun y156 => (if a1 < 1 then (some y156) else (if a1 = 0 then (none) else (if a1 ≥ (a0.size : Int) then (spec_EncodeChunks.j0 k a0 a1 y156 1) else (spec_EncodeChunks.j0 k a0 a1 y156 (mx 1 (wrap64 (Int.tdiv (wrap64 ((wrap64 ((a0.size : Int) + a1)) - 1)) a1)))))))
theorem spec_EncodeChunks.mono_l : ∀ k, (∀ y0 y1 y2 y3, uA (spec_EncodeChunks.j0 k y0 y1 y2 y3) (spec_EncodeChunks.j0 (k + 1) y0 y1 y2 y3)) ∧ (∀ y0 y1 y2 y3 y4, uA (spec_EncodeChunks.l0 k y0 y1 y2 y3 y4) (spec_EncodeChunks.l0 (k + 1) y0 y1 y2 y3 y4))
 | 0 => ⟨fun _ _ _ _ r h => by simp [spec_EncodeChunks.j0] at h, fun _ _ _ _ _ r h => by simp [spec_EncodeChunks.l0] at h⟩
 | k + 1 => by
  obtain ⟨ih0, ih1⟩ := spec_EncodeChunks.mono_l k
  refine ⟨?_, ?_⟩
  ·intro y0 y1 y2 y3
   unfold spec_EncodeChunks.j0
   repeat' first
   | (with_reducible exact ih0 _ _ _ _)
   | (with_reducible exact ih1 _ _ _ _ _)
   | (with_reducible exact spec_l7Chunk.mono _ _ _ _)
   | (with_reducible exact uA.refl _)
   | (with_reducible exact uA.none _)
   | (with_reducible refine uA.vA ?_ ?_)
   | (with_reducible refine uA.bind ?_ (fun _ => ?_))
   | exact ih0 _ _ _ _
   | exact ih1 _ _ _ _ _
   | exact uA.none _
   | refine uA.vA ?_ ?_
   | refine uA.bind ?_ (fun _ => ?_)
  intro y0 y1 y2 y3 y4
  unfold spec_EncodeChunks.l0
  repeat' first
  | (with_reducible exact ih0 _ _ _ _)
  | (with_reducible exact ih1 _ _ _ _ _)
  | (with_reducible exact spec_l7Chunk.mono _ _ _ _)
  | (with_reducible exact uA.refl _)
  | (with_reducible exact uA.none _)
  | (with_reducible refine uA.vA ?_ ?_)
  | (with_reducible refine uA.bind ?_ (fun _ => ?_))
  | exact ih0 _ _ _ _
  | exact ih1 _ _ _ _ _
  | exact uA.none _
  | refine uA.vA ?_ ?_
  | refine uA.bind ?_ (fun _ => ?_)
theorem spec_EncodeChunks.mono : ∀ a0 a1 k, uA (spec_EncodeChunks.f k a0 a1) (spec_EncodeChunks.f (k + 1) a0 a1) := by
 intro a0 a1 k
 obtain ⟨ih0, ih1⟩ := spec_EncodeChunks.mono_l k
 unfold spec_EncodeChunks.f
 repeat' first
   | (with_reducible exact ih0 _ _ _ _)
   | (with_reducible exact ih1 _ _ _ _ _)
   | (with_reducible exact spec_l7Chunk.mono _ _ _ _)
   | (with_reducible exact uA.refl _)
   | (with_reducible exact uA.none _)
   | (with_reducible refine uA.vA ?_ ?_)
   | (with_reducible refine uA.bind ?_ (fun _ => ?_))
   | exact ih0 _ _ _ _
   | exact ih1 _ _ _ _ _
   | exact uA.none _
   | refine uA.vA ?_ ?_
   | refine uA.bind ?_ (fun _ => ?_)
set_option maxHeartbeats 8000000 in
set_option maxRecDepth 100000 in
theorem spec_EncodeChunks.calls (k : Nat) (a0 : ByteArray) (a1 : Int) (r : List ByteArray) (w : World) (h : spec_EncodeChunks.f k a0 a1 = some r) :
  Calls Tryd.prog 26 #[.string a0, .int .i64 a1] w fun e w' => ∃ v0_ : Value, e = .returned (v0_) ∧ Kd.R Kd.string 9 w' w.heap.size (fun _ => True) v0_ r ∧ Below w.heap.size w w' := by
 have HB := Aside0.mk (Below.refl w.heap.size w)
 have H : ((some (([] : List ByteArray) : List ByteArray)).bind fun y156 => (if a1 < 1 then (some y156) else (if a1 = 0 then (none) else (if a1 ≥ (a0.size : Int) then (spec_EncodeChunks.j0 k a0 a1 y156 1) else (spec_EncodeChunks.j0 k a0 a1 y156 (mx 1 (wrap64 (Int.tdiv (wrap64 ((wrap64 ((a0.size : Int) + a1)) - 1)) a1)))))))) = some r := h
 clear h
 obtain ⟨y156, hy156⟩ : ∃ y_ : List ByteArray, y_ = (([] : List ByteArray)) := ⟨_, rfl⟩
 replace H : (if a1 < 1 then (some y156) else (if a1 = 0 then (none) else (if a1 ≥ (a0.size : Int) then (spec_EncodeChunks.j0 k a0 a1 y156 1) else (spec_EncodeChunks.j0 k a0 a1 y156 (mx 1 (wrap64 (Int.tdiv (wrap64 ((wrap64 ((a0.size : Int) + a1)) - 1)) a1))))))) = some r := rpl hy156 H
 have Ny156 := Aside0.mk hy156
 clear hy156
 by_cases c3 : a1 < 1
 ·rw [if_pos c3] at H
  have c3b0 := decide_eq_true c3
  clear c3
  obtain rfl := Option.some.inj H
  go_enter Tryd.func26, Tryd.ntmps26
  go_wp2_with (first | ((with_reducible refine uQ (N := 8) rfl ?_); refine Kd.R_lit Kd.string _ 9 ?hg (N := 8) ?hd (xs := ([] : List ByteArray)) (inner := []) (ok := fun _ => True) (okp := fun _ => True) ?hr ?hp (fun _ hk => hk) trivial (Below.refl _ _) (Nat.le_refl _) (by simp) ?_; (case hd => rfl); (case hg => rfl); (case hr => first | (go_simp; done) | (go_simp; rfl)); (case hp => exact (Reps.none _ _)); intro v157 w4 ho5 hb hg_ hnew_; clear hg_ hnew_; (first | rw [← Ny156.out] at ho5 | (simp only [Int.reduceToNat] at ho5; rw [← Ny156.out] at ho5)); have HO158 := Aside0.mk (Kd.uN ho5 (uR uW)); replace HB := uH HB hb; clear hb ho5))
  go_ret
  exact ⟨_, cq5, cq147, uW⟩
 rw [if_neg c3] at H
 have c3b0 := decide_eq_false c3
 clear c3
 by_cases c6 : a1 = 0
 ·rw [if_pos c6] at H
  exact absurd H (by simp)
 rw [if_neg c6] at H
 have c6b0 := beq_eq_false_iff_ne.mpr c6
 have c6b1 := bne_iff_ne.mpr c6
 obtain ⟨ji7, hji7⟩ : ∃ j_ : Int, (mx 1 (wrap64 (Int.tdiv (wrap64 ((wrap64 ((a0.size : Int) + a1)) - 1)) a1))) = j_ := ⟨_, rfl⟩
 replace H : (if a1 ≥ (a0.size : Int) then (spec_EncodeChunks.j0 k a0 a1 y156 1) else (spec_EncodeChunks.j0 k a0 a1 y156 ji7)) = some r := by first | (rw [hji7] at H; exact H) | (simp only [hji7] at H ⊢; exact H) | rfl
 (try (have hji7l : 1 ≤ ji7 := by (rw [← hji7]; unfold mx; (repeat' split) <;> omega)))
 (try (have hji7m : 0 ≤ ji7 := by omega))
 have hji7_ : (if 1 < (wrap64 (Int.tdiv (wrap64 ((wrap64 ((a0.size : Int) + a1)) - 1)) a1)) then (wrap64 (Int.tdiv (wrap64 ((wrap64 ((a0.size : Int) + a1)) - 1)) a1)) else 1) = ji7 := hji7
 have HC8 := Aside0.mk H
 clear H
 go_enter Tryd.func26, Tryd.ntmps26
 go_upto_if 23 with (first | ((with_reducible refine uQ (N := 8) rfl ?_); refine Kd.R_lit Kd.string _ 9 ?hg (N := 8) ?hd (xs := ([] : List ByteArray)) (inner := []) (ok := fun _ => True) (okp := fun _ => True) ?hr ?hp (fun _ hk => hk) trivial (Below.refl _ _) (Nat.le_refl _) (by simp) ?_; (case hd => rfl); (case hg => rfl); (case hr => first | (go_simp; done) | (go_simp; rfl)); (case hp => exact (Reps.none _ _)); intro v157 w9 ho10 hb hg_ hnew_; clear hg_ hnew_; (first | rw [← Ny156.out] at ho10 | (simp only [Int.reduceToNat] at ho10; rw [← Ny156.out] at ho10)); have n0_ := Aside0.mk (Kd.uN ho10 (uR uW)); have n1_ := uH HB hb; clear HB; have HO158 := n0_; have HB := n1_; clear n0_ n1_; clear hb ho10))
 (try simp only [Act.put, vZ, yA, yB])
 go_cut [6] (fun v6 wc => ∃ (kq : Nat) (x6_7 : Int), v6 = .int .i64 x6_7 ∧ Aside0 (spec_EncodeChunks.j0 kq a0 a1 y156 x6_7 = some r) ∧ Aside0 (kq ≤ k) ∧ Aside0 (Kd.R Kd.string 9 wc w.heap.size (fun _ => True) v157 y156) ∧ Aside0 (Below w.heap.size w wc))
 case first =>
  have H := HC8.out
  clear HC8
  by_cases c11 : a1 ≥ (a0.size : Int)
  ·rw [if_pos c11] at H
   have c11b0 := decide_eq_true c11
   clear c11
   (first | rw [c11b0] | (simp only [vM, vO]; rw [c11b0]) | skip)
   have H' := Aside0.mk H
   clear H
   go_wp2
   go_meet
   case rel => exact ⟨_, (1), vD, H', ⟨by first | omega | exact Nat.le_refl _⟩, ⟨cq147⟩, ⟨uW⟩⟩
  rw [if_neg c11] at H
  have c11b0 := decide_eq_false c11
  clear c11
  (first | rw [c11b0] | (simp only [vM, vO]; rw [c11b0]) | skip)
  have H' := Aside0.mk H
  clear H
  go_wp2
  go_meet
  case rel => exact ⟨_, (ji7), (by first | rfl | (simp; done) | (simp only [← hji7] <;> (first | rfl | simp)) | (simp [*]; done)), H', ⟨by first | omega | exact Nat.le_refl _⟩, ⟨cq147⟩, ⟨uW⟩⟩
 case rest =>
  clear HC8
  try clear c3
  try clear c3b0
  try clear c6
  try clear c6b0
  try clear c6b1
  obtain ⟨kq, x6_7, rfl, HA, HJ7, HO_5, HB⟩ := hcut
  cases kq with
  | zero => exact absurd HA.out (by simp [spec_EncodeChunks.j0])
  | succ kj7 =>
   have H := HA.out
   clear HA
   simp only [spec_EncodeChunks.j0] at H
   by_cases c12 : x6_7 > 40
   ·rw [if_pos c12] at H
    have c12b0 := decide_eq_true c12
    clear c12
    obtain rfl := Option.some.inj H
    go_wp2
    go_ret
    exact ⟨_, by first | rfl | (simp [errW_none, errW_some] <;> rfl) | (simp only [← hji7]; first | rfl | (simp [errW_none, errW_some] <;> rfl)) | (simp [*, errW_none, errW_some] <;> rfl), cq27, uW⟩
   rw [if_neg c12] at H
   have c12b0 := decide_eq_false c12
   clear c12
   have H' := Aside0.mk H
   clear H
   go_wp2
   go_loopg [5, 7] kj7 (fun kq v5 v7 w' => ∃ (x5_2 : List ByteArray) (x7_2 : Int), v7 = .int .i64 x7_2 ∧ Aside0 (spec_EncodeChunks.l0 kq a0 a1 x5_2 x6_7 x7_2 = some r) ∧ Aside0 (kq ≤ kj7) ∧ Aside0 (Kd.R Kd.string 9 w' w.heap.size (fun _ => True) v5 x5_2) ∧ Aside0 (Below w.heap.size w w'))
   case atStart => exact ⟨(y156), (0), vD, H', ⟨Nat.le_refl _⟩, ⟨cq27⟩, ⟨uW⟩⟩
   case round =>
    clear H'
    try clear c3
    try clear c3b0
    try clear c6
    try clear c6b0
    try clear c6b1
    try clear c12
    try clear c12b0
    obtain ⟨x5_2, x7_2, rfl, HA, HK2, HO_5, HB⟩ := hrel
    cases gk with
    | zero => exact absurd HA.out (by simp [spec_EncodeChunks.l0])
    | succ k2 =>
     have H := HA.out
     clear HA
     simp only [spec_EncodeChunks.l0] at H
     by_cases c13 : x7_2 < x6_7
     rotate_left
     ·rw [if_neg c13] at H
      have c13b0 := decide_eq_false c13
      clear c13
      obtain rfl := Option.some.inj H
      go_wp2
      go_ret
      exact ⟨_, by first | rfl | (simp [errW_none, errW_some] <;> rfl) | (simp only [← hji7]; first | rfl | (simp [errW_none, errW_some] <;> rfl)) | (simp [*, errW_none, errW_some] <;> rfl), cq27, uW⟩
     rw [if_pos c13] at H
     have c13b0 := decide_eq_true c13
     clear c13
     obtain ⟨ji14, hji14⟩ : ∃ j_ : Int, (mn a1 (a0.size : Int)) = j_ := ⟨_, rfl⟩
     replace H : (if 0 ≤ (wrap64 (x7_2 * a1)) then (if (wrap64 (x7_2 * a1)) ≤ (mn (a0.size : Int) (wrap64 ((wrap64 (x7_2 * a1)) + (ji14)))) then (if (mn (a0.size : Int) (wrap64 ((wrap64 (x7_2 * a1)) + (ji14)))) ≤ (a0.size : Int) then ((spec_l7Chunk.f k2 x7_2 x6_7 (a0.extract ((wrap64 (x7_2 * a1)) : Int).toNat ((mn (a0.size : Int) (wrap64 ((wrap64 (x7_2 * a1)) + (ji14)))) : Int).toNat)).bind fun t159 => (if x5_2.length < 8796093022208 then (spec_EncodeChunks.l0 k2 a0 a1 (x5_2 ++ [t159]) x6_7 (wrap64 (x7_2 + 1))) else (none))) else (none)) else (none)) else (none)) = some r := by first | (rw [hji14] at H; exact H) | (simp only [hji14] at H ⊢; exact H) | rfl
     have hji14_ : (if (a0.size : Int) < a1 then (a0.size : Int) else a1) = ji14 := hji14
     obtain ⟨ji15, hji15⟩ : ∃ j_ : Int, (mn (a0.size : Int) (wrap64 ((wrap64 (x7_2 * a1)) + (ji14)))) = j_ := ⟨_, rfl⟩
     replace H : (if 0 ≤ (wrap64 (x7_2 * a1)) then (if (wrap64 (x7_2 * a1)) ≤ (ji15) then (if (ji15) ≤ (a0.size : Int) then ((spec_l7Chunk.f k2 x7_2 x6_7 (a0.extract ((wrap64 (x7_2 * a1)) : Int).toNat ((ji15) : Int).toNat)).bind fun t159 => (if x5_2.length < 8796093022208 then (spec_EncodeChunks.l0 k2 a0 a1 (x5_2 ++ [t159]) x6_7 (wrap64 (x7_2 + 1))) else (none))) else (none)) else (none)) else (none)) = some r := by first | (rw [hji15] at H; exact H) | (simp only [hji15] at H ⊢; exact H) | rfl
     have hji15_ : (if (wrap64 ((wrap64 (x7_2 * a1)) + (ji14))) < (a0.size : Int) then (wrap64 ((wrap64 (x7_2 * a1)) + (ji14))) else (a0.size : Int)) = ji15 := hji15
     obtain ⟨ji16, hji16⟩ : ∃ j_ : Int, (wrap64 (x7_2 * a1)) = j_ := ⟨_, rfl⟩
     replace H : (if 0 ≤ (ji16) then (if (ji16) ≤ (ji15) then (if (ji15) ≤ (a0.size : Int) then ((spec_l7Chunk.f k2 x7_2 x6_7 (a0.extract ((ji16) : Int).toNat ((ji15) : Int).toNat)).bind fun t159 => (if x5_2.length < 8796093022208 then (spec_EncodeChunks.l0 k2 a0 a1 (x5_2 ++ [t159]) x6_7 (wrap64 (x7_2 + 1))) else (none))) else (none)) else (none)) else (none)) = some r := by first | (rw [hji16] at H; exact H) | (simp only [hji16] at H ⊢; exact H) | rfl
     (try rw [hji16] at hji15_)
     (try rw [hji16] at hji15)
     have hji16w : (IntKind.i64.wrap (x7_2 * a1)) = ji16 := (vM _).trans hji16
     by_cases c17 : 0 ≤ (ji16)
     rotate_left
     ·rw [if_neg c17] at H
      exact absurd H (by simp)
     rw [if_pos c17] at H
     have c17b0 := eq_true c17
     have c17b1 := decide_eq_true c17
     clear c17
     by_cases c18 : (ji16) ≤ (ji15)
     rotate_left
     ·rw [if_neg c18] at H
      exact absurd H (by simp)
     rw [if_pos c18] at H
     have c18b0 := eq_true c18
     have c18b1 := decide_eq_true c18
     clear c18
     by_cases c19 : (ji15) ≤ (a0.size : Int)
     rotate_left
     ·rw [if_neg c19] at H
      exact absurd H (by simp)
     rw [if_pos c19] at H
     have c19b0 := eq_true c19
     have c19b1 := decide_eq_true c19
     clear c19
     replace H := Option.bind_eq_some_iff.mp H
     obtain ⟨t159, A200, H⟩ := H
     try dsimp only at H
     have A20 := Aside0.mk A200
     clear A200
     obtain ⟨LMc21, H⟩ := ifL H
     obtain ⟨y160, hy160⟩ : ∃ y_ : List ByteArray, y_ = (x5_2 ++ [t159]) := ⟨_, rfl⟩
     replace H : (spec_EncodeChunks.l0 k2 a0 a1 y160 x6_7 (wrap64 (x7_2 + 1))) = some r := rpl hy160 H
     have Ny160 := Aside0.mk hy160
     clear hy160
     have H' := Aside0.mk H
     clear H
     go_wp2_with (first | ((with_reducible refine uB (f := 64) rfl ?_); refine goesL_ (some 51) rfl rfl Tryd.func64 (by kernel_rfl) rfl #[.int .i64 x7_2, .int .i64 x6_7, .string (a0.extract ((ji16) : Int).toNat ((ji15) : Int).toNat)] rfl (by (try simp only [List.map_toArray, List.map_cons, List.map_nil]); first | done | (simp only [hji15, hji16]; rfl) | rfl | (simp only [List.length_drop, List.length_take]; rfl)) ?_; (with_reducible refine (spec_l7Chunk.calls k2 x7_2 x6_7 (a0.extract ((ji16) : Int).toNat ((ji15) : Int).toNat) t159 _ A20.out).mono ?_); rintro e w22 ⟨rfl, hb⟩; refine ⟨_, rfl, ?_⟩; replace HO_5 := Kd.tR HO_5 hb; replace HB := uH HB hb; (try clear hb)) | ((with_reducible refine gate_builtin (b := .append) (xs := #[.tmp 32, .tmp 52]) rfl ?_); at_builtin; refine Kd.R_append Kd.string (w0 := w) w.heap.size rfl (.tmp 32) (.tmp 52) 37 9 (.string ⟨#[]⟩) 16 rfl Tryd.underlying37 info9 rfl (by decide) (by omega) u5 x5_2 t159 [.string t159] (fun _ => True) (fun _ => False) rfl rfl ?aP (fun _ hk => hk.elim) ?aF ?aO ?aB ?aS ?aL ?_; (case aP => exact rfl); (case aB => exact cq36); (case aF => exact (fun _ _ => trivial)); (case aO => exact (uT HO_5.out)); (case aS => exact cq30); (case aL => have := LMc21.out; omega); intro v161 w23 ho hb hg hat; rw [← Ny160.out] at ho; have n0_ := Aside0.mk (hb); have n1_ := Aside0.mk (ho); clear HB; clear HO_5; have HB := n0_; have HO162 := n1_; clear n0_ n1_; clear ho hb hg hat))
     go_roundg k2
     case measure => have := HJ7.out; have := HK2.out; omega
     case rel => exact ⟨(y160), (wrap64 (x7_2 + 1)), vD, H', ⟨by have := HJ7.out; have := HK2.out; omega⟩, ⟨by (with_reducible repeat (first | apply Kd.uK | apply Kd.uJ | apply Kd.uO)); exact HO162.out⟩, ⟨uW⟩⟩

end Go.Proofs.YtcikahnmiiichaaDoor.K
