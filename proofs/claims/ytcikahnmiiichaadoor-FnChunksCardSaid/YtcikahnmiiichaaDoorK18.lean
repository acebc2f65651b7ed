/- Go functions as Lean functions, and the proof that the code comes to them: written by a program of this session out of the translation. -/
import Derived.Test.YtcikahnmiiichaaDoorK0
import Derived.Test.YtcikahnmiiichaaDoorShelf
namespace Go.Proofs.YtcikahnmiiichaaDoor.K
open List renaming setIfInBounds_toArray → vZ, set_cons_zero → yA, set_cons_succ → yB
open Go.World renaming block_lt_of_cell? → yF
open Go.Proofs.YtcikahnmiiichaaDoor.Given
open Go.RowKit Go.Proofs.YtcikahnmiiichaaDoorW.PrintWords Go.Proofs.YtcikahnmiiichaaDoorW.PrintLast Go.Proofs.YtcikahnmiiichaaDoorW.PrintMore
attribute [local go_sem] max2_int min2_int max_two min_two vW vV max_four min_four   -- for this text's walks alone
set_option linter.unusedVariables false
set_option linter.unusedSimpArgs false

/-! ### slices_Clone_string_string: function 58 -/
def slices_Clone_string_string.f (l0 : List ByteArray) : Option (List ByteArray) := if l0.length < 8796093022208 then some l0 else none
set_option maxHeartbeats 8000000 in
set_option maxRecDepth 100000 in
theorem slices_Clone_string_string.calls (A0 : Option Addr) (c0 : Nat) (l0 : List ByteArray) (r : List ByteArray) (w : World) (hr0 : Kd.C Kd.string w A0 l0.length l0) (hc0 : l0.length ≤ c0) (h : slices_Clone_string_string.f l0 = some r) :
  Calls Tryd.prog 58 #[.slice A0 l0.length c0] w fun e w' => ∃ v0_ : Value, e = .returned (v0_) ∧ Kd.R Kd.string 9 w' w.heap.size (fun _ => True) v0_ r ∧ Below w.heap.size w w' := by
 have HR0 := Aside0.mk hr0
 have HC0 := Aside0.mk hc0
 have HB := Aside0.mk (Below.refl w.heap.size w)
 unfold slices_Clone_string_string.f at h
 by_cases c2 : l0.length < 8796093022208
 rotate_left
 ·rw [if_neg c2] at h
  exact absurd h (by simp)
 rw [if_pos c2] at h
 obtain rfl := Option.some.inj h
 clear h
 have LMc2 := Aside0.mk c2
 have q_ : ∀ (w : World) (a : Option Addr) (n c n' c' : Nat), (binOp .eql 37 (.slice a n c) (.slice none n' c')).run Tryd.prog w = .ok (.bool a.isNone) w := fun w a n c n' c' => Lib.run_eql_slice_nil w _ _ a n c n' c' Tryd.underlying37
 cases A0 with
 | none =>
  have hl : l0 = [] := by
   rcases Nat.eq_zero_or_pos l0.length with h | h
   ·exact List.length_eq_zero_iff.1 h
   obtain ⟨ad, e, _⟩ := hr0.2.2 h
   cases e
  subst hl
  clear hr0 hc0 c2 HR0 HC0 LMc2
  go_enter Tryd.func58, Tryd.ntmps58
  go_wp2
  go_ret
  exact ⟨_, rfl, Kd.R_nil _ _ _ _ _, HB.out⟩
 | some ad =>
  clear hr0 hc0 c2
  go_enter Tryd.func58, Tryd.ntmps58
  go_wp2_with (first | ((with_reducible refine uQ (N := 5) rfl ?_); refine Kd.R_lit Kd.string _ 9 ?hg (N := 5) ?hd (xs := ([] : List ByteArray)) (inner := []) (ok := fun _ => True) (okp := fun _ => True) ?hr ?hp (fun _ hk => hk) trivial (Below.refl _ _) (Nat.le_refl _) (by simp) ?_; (case hd => rfl); (case hg => rfl); (case hr => first | (go_simp; done) | (go_simp; rfl)); (case hp => exact (Reps.none _ _)); intro v134 w3 ho4 hb hg_ hnew_; clear hg_ hnew_; have HO135 := Aside0.mk (Kd.uN ho4 (uR uW)); replace HB := uH HB hb; clear hb ho4) | ((with_reducible refine gate_builtin (b := .append) (xs := #[.tmp 5, .tmp 6]) rfl ?_); at_builtin; refine Kd.R_append_rows Kd.string (w0 := w) w.heap.size rfl (.tmp 5) (.tmp 6) 37 9 ((.string ⟨#[]⟩)) 16 rfl Tryd.underlying37 info9 rfl (by decide) (by omega) v134 ([] : List ByteArray) l0 _ _ _ (fun _ => True) (fun _ => False) rfl rfl ?aO ?aR (fun _ _ h => h) (fun _ h => h.elim) ?aF ?aB ?aS ?aL ?_; (case aR => exact cq12); (case aB => exact cq36); (case aF => exact (fun _ _ => trivial)); (case aO => exact (uT HO135.out)); (case aS => exact cq30); (case aL => have := LMc2.out; simp only [List.length_nil]; omega); intro v137 w5 ho hb hg hat; rw [List.nil_append] at ho; have n0_ := Aside0.mk (hb); have n1_ := Aside0.mk (ho); clear HB; clear HO135; have HB := n0_; have HO138 := n1_; clear n0_ n1_; clear ho hb hg hat))
  go_ret
  exact ⟨_, rfl, by (with_reducible repeat (first | apply Kd.uK | apply Kd.uJ | apply Kd.uO)); exact HO138.out, uW⟩

/-! ### impl_within: function 55 -/
def impl_within.f (a0 : Int) (a1 : Int) (a2 : Int) : Option (Bool) := if a1 ≤ a0 then (some (decide (a0 ≤ a2))) else (some false)
set_option maxHeartbeats 8000000 in
set_option maxRecDepth 100000 in
theorem impl_within.calls (a0 : Int) (a1 : Int) (a2 : Int) (r : Bool) (w : World) (h : impl_within.f a0 a1 a2 = some r) :
  Calls Tryd.prog 55 #[.int .i64 a0, .int .i64 a1, .int .i64 a2] w fun e w' => e = .returned (.bool r) ∧ Drawn0 w w' := by
 have H : (if a1 ≤ a0 then (some (decide (a0 ≤ a2))) else (some false)) = some r := h
 clear h
 by_cases c4 : a1 ≤ a0
 ·rw [if_pos c4] at H
  have c4b0 := decide_eq_true c4
  clear c4
  obtain rfl := Option.some.inj H
  go_enter Tryd.func55, Tryd.ntmps55
  go_wp2
  go_ret
  exact ⟨vD, cq21⟩
 rw [if_neg c4] at H
 have c4b0 := decide_eq_false c4
 clear c4
 obtain rfl := Option.some.inj H
 go_enter Tryd.func55, Tryd.ntmps55
 go_wp2
 go_ret
 exact ⟨vD, cq21⟩

/-! ### impl_Checksum: function 44 -/
def impl_Checksum.l0 : Nat → ByteArray → Int → Int → Int → Option (Int)
 | 0, _, _, _, _ => none
 | k + 1, x0, x3, x6, x7 => if x7 < x6 then (if 0 ≤ x7 then (if x7 < (x0.size : Int) then (impl_Checksum.l0 k x0 (Int.tmod (wrap64 ((wrap64 ((wrap64 (257 * x3)) + (wrap64 (bt x0 x7)))) + 1)) 9949) x6 (wrap64 (x7 + 1))) else (none)) else (none)) else (some x3)
def impl_Checksum.f (k : Nat) (a0 : ByteArray) : Option (Int) := impl_Checksum.l0 k a0 5 (a0.size : Int) 0
theorem impl_Checksum.mono_l : ∀ k, (∀ y0 y1 y2 y3, uA (impl_Checksum.l0 k y0 y1 y2 y3) (impl_Checksum.l0 (k + 1) y0 y1 y2 y3))
 | 0 => fun _ _ _ _ r h => by simp [impl_Checksum.l0] at h
 | k + 1 => by
  have ih0 := impl_Checksum.mono_l k
  intro y0 y1 y2 y3
  unfold impl_Checksum.l0
  repeat' first
  | (with_reducible exact ih0 _ _ _ _)
  | (with_reducible exact uA.refl _)
  | (with_reducible exact uA.none _)
  | (with_reducible refine uA.vA ?_ ?_)
  | (with_reducible refine uA.bind ?_ (fun _ => ?_))
  | exact ih0 _ _ _ _
  | exact uA.none _
  | refine uA.vA ?_ ?_
  | refine uA.bind ?_ (fun _ => ?_)
theorem impl_Checksum.mono : ∀ a0 k, uA (impl_Checksum.f k a0) (impl_Checksum.f (k + 1) a0) := by
 intro a0 k
 have ih0 := impl_Checksum.mono_l k
 unfold impl_Checksum.f
 repeat' first
   | (with_reducible exact ih0 _ _ _ _)
   | (with_reducible exact uA.refl _)
   | (with_reducible exact uA.none _)
   | (with_reducible refine uA.vA ?_ ?_)
   | (with_reducible refine uA.bind ?_ (fun _ => ?_))
   | exact ih0 _ _ _ _
   | exact uA.none _
   | refine uA.vA ?_ ?_
   | refine uA.bind ?_ (fun _ => ?_)
set_option maxHeartbeats 8000000 in
set_option maxRecDepth 100000 in
theorem impl_Checksum.calls (k : Nat) (a0 : ByteArray) (r : Int) (w : World) (h : impl_Checksum.f k a0 = some r) :
  Calls Tryd.prog 44 #[.string a0] w fun e w' => e = .returned (.int .i64 r) ∧ Drawn0 w w' := by
 have H : (impl_Checksum.l0 k a0 5 (a0.size : Int) 0) = some r := h
 clear h
 have H' := Aside0.mk H
 clear H
 go_enter Tryd.func44, Tryd.ntmps44
 go_wp2
 go_loopg [3, 7] k (fun kq v3 v7 w' => ∃ (x3_1 : Int) (x7_1 : Int), v3 = .int .i64 x3_1 ∧ v7 = .int .i64 x7_1 ∧ Aside0 (impl_Checksum.l0 kq a0 x3_1 (a0.size : Int) x7_1 = some r) ∧ Aside0 (kq ≤ k) ∧ Drawn0 w w')
 case atStart => exact ⟨(5), (0), vD, vD, H', ⟨Nat.le_refl _⟩, cq21⟩
 case round =>
  clear H'
  obtain ⟨x3_1, x7_1, rfl, rfl, HA, HK1, ⟨m1, rfl⟩⟩ := hrel
  cases gk with
  | zero => exact absurd HA.out (by simp [impl_Checksum.l0])
  | succ k1 =>
   have H := HA.out
   clear HA
   simp only [impl_Checksum.l0] at H
   by_cases c2 : x7_1 < (a0.size : Int)
   rotate_left
   ·rw [if_neg c2] at H
    have c2b0 := decide_eq_false c2
    clear c2
    obtain rfl := Option.some.inj H
    go_wp2
    go_ret
    exact ⟨vD, cq21⟩
   rw [if_pos c2] at H
   have c2b0 := decide_eq_true c2
   clear c2
   obtain ⟨c3b0, H⟩ := ifD H
   obtain ⟨c4b0, H⟩ := ifD H
   have H' := Aside0.mk H
   clear H
   have p5 : 0 ≤ (x7_1 : Int) := of_decide_eq_true vC
   have q5 : x7_1 < (a0.size : Int) := of_decide_eq_true vC
   have hx5 := bt_at a0 x7_1
   replace p5 := eq_true p5
   replace q5 := eq_true q5
   go_wp2
   go_roundg k1
   case measure => have := HK1.out; omega
   case rel => exact ⟨(Int.tmod (wrap64 ((wrap64 ((wrap64 (257 * x3_1)) + (wrap64 (bt a0 x7_1)))) + 1)) 9949), (wrap64 (x7_1 + 1)), vD, vD, H', ⟨by have := HK1.out; omega⟩, cq21⟩

/-! ### impl_FormatInt: function 87 -/
def impl_FormatInt.f (a0 : Int) : Option (ByteArray) := (strconv_Itoa.f a0).bind fun t552 => (some t552)
set_option maxHeartbeats 8000000 in
set_option maxRecDepth 100000 in
theorem impl_FormatInt.calls (a0 : Int) (r : ByteArray) (w : World) (hWF : WF w) (h : impl_FormatInt.f a0 = some r) :
  Calls Tryd.prog 87 #[.int .i64 a0] w fun e w' => e = .returned (.string r) ∧ Below w.heap.size w w' := by
 have HB := Aside0.mk (Below.refl w.heap.size w)
 have H : ((strconv_Itoa.f a0).bind fun t552 => (some t552)) = some r := h
 clear h
 replace H := Option.bind_eq_some_iff.mp H
 obtain ⟨t552, A20, H⟩ := H
 try dsimp only at H
 have A2 := Aside0.mk A20
 clear A20
 obtain rfl := Option.some.inj H
 go_enter Tryd.func87, Tryd.ntmps87
 go_wp2_with (first | ((with_reducible refine uB (f := 112) rfl ?_); refine uL (some 4) Tryd.func112 #[.int .i64 a0] ?_; (with_reducible refine (strconv_Itoa.calls a0 t552 _ ?side1 A2.out).mono ?_); (case side1 => exact cq7); rintro e w3 ⟨rfl, hb⟩; refine ⟨_, rfl, ?_⟩; replace HB := uH HB hb; (try clear hb)))
 go_ret
 exact ⟨cq5, uW⟩

/-! ### impl_chunkText: function 63 -/
def impl_chunkText.f (k : Nat) (a0 : Int) (a1 : Int) (a2 : ByteArray) : Option (ByteArray) := (impl_FormatInt.f a0).bind fun t553 => (if t553.size + 1 ≤ 9223372036854775807 then ((impl_FormatInt.f a1).bind fun t554 => (if (t553 ++ (⟨#[47]⟩ : ByteArray)).size + t554.size ≤ 9223372036854775807 then (if ((t553 ++ (⟨#[47]⟩ : ByteArray)) ++ t554).size + 1 ≤ 9223372036854775807 then (if (((t553 ++ (⟨#[47]⟩ : ByteArray)) ++ t554) ++ (⟨#[58]⟩ : ByteArray)).size + a2.size ≤ 9223372036854775807 then (if ((((t553 ++ (⟨#[47]⟩ : ByteArray)) ++ t554) ++ (⟨#[58]⟩ : ByteArray)) ++ a2).size + 1 ≤ 9223372036854775807 then ((impl_Checksum.f k ((((t553 ++ (⟨#[47]⟩ : ByteArray)) ++ t554) ++ (⟨#[58]⟩ : ByteArray)) ++ a2)).bind fun t555 => ((impl_FormatInt.f t555).bind fun t556 => (if (((((t553 ++ (⟨#[47]⟩ : ByteArray)) ++ t554) ++ (⟨#[58]⟩ : ByteArray)) ++ a2) ++ (⟨#[35]⟩ : ByteArray)).size + t556.size ≤ 9223372036854775807 then (some ((((((t553 ++ (⟨#[47]⟩ : ByteArray)) ++ t554) ++ (⟨#[58]⟩ : ByteArray)) ++ a2) ++ (⟨#[35]⟩ : ByteArray)) ++ t556)) else (none)))) else (none)) else (none)) else (none)) else (none))) else (none))
theorem impl_chunkText.mono : ∀ a0 a1 a2 k, uA (impl_chunkText.f k a0 a1 a2) (impl_chunkText.f (k + 1) a0 a1 a2) := by
 intro a0 a1 a2 k
 unfold impl_chunkText.f
 repeat' first
   | (with_reducible exact impl_Checksum.mono _ _)
   | (with_reducible exact uA.refl _)
   | (with_reducible exact uA.none _)
   | (with_reducible refine uA.vA ?_ ?_)
   | (with_reducible refine uA.bind ?_ (fun _ => ?_))
   | exact uA.none _
   | refine uA.vA ?_ ?_
   | refine uA.bind ?_ (fun _ => ?_)
set_option maxHeartbeats 8000000 in
set_option maxRecDepth 100000 in
theorem impl_chunkText.calls (k : Nat) (a0 : Int) (a1 : Int) (a2 : ByteArray) (r : ByteArray) (w : World) (hWF : WF w) (h : impl_chunkText.f k a0 a1 a2 = some r) :
  Calls Tryd.prog 63 #[.int .i64 a0, .int .i64 a1, .string a2] w fun e w' => e = .returned (.string r) ∧ Below w.heap.size w w' := by
 have HB := Aside0.mk (Below.refl w.heap.size w)
 have H : ((impl_FormatInt.f a0).bind fun t553 => (if t553.size + 1 ≤ 9223372036854775807 then ((impl_FormatInt.f a1).bind fun t554 => (if (t553 ++ (⟨#[47]⟩ : ByteArray)).size + t554.size ≤ 9223372036854775807 then (if ((t553 ++ (⟨#[47]⟩ : ByteArray)) ++ t554).size + 1 ≤ 9223372036854775807 then (if (((t553 ++ (⟨#[47]⟩ : ByteArray)) ++ t554) ++ (⟨#[58]⟩ : ByteArray)).size + a2.size ≤ 9223372036854775807 then (if ((((t553 ++ (⟨#[47]⟩ : ByteArray)) ++ t554) ++ (⟨#[58]⟩ : ByteArray)) ++ a2).size + 1 ≤ 9223372036854775807 then ((impl_Checksum.f k ((((t553 ++ (⟨#[47]⟩ : ByteArray)) ++ t554) ++ (⟨#[58]⟩ : ByteArray)) ++ a2)).bind fun t555 => ((impl_FormatInt.f t555).bind fun t556 => (if (((((t553 ++ (⟨#[47]⟩ : ByteArray)) ++ t554) ++ (⟨#[58]⟩ : ByteArray)) ++ a2) ++ (⟨#[35]⟩ : ByteArray)).size + t556.size ≤ 9223372036854775807 then (some ((((((t553 ++ (⟨#[47]⟩ : ByteArray)) ++ t554) ++ (⟨#[58]⟩ : ByteArray)) ++ a2) ++ (⟨#[35]⟩ : ByteArray)) ++ t556)) else (none)))) else (none)) else (none)) else (none)) else (none))) else (none))) = some r := h
 clear h
 replace H := Option.bind_eq_some_iff.mp H
 obtain ⟨t553, A40, H⟩ := H
 try dsimp only at H
 have A4 := Aside0.mk A40
 clear A40
 by_cases c5 : t553.size + 1 ≤ 9223372036854775807
 rotate_left
 ·rw [if_neg c5] at H
  exact absurd H (by simp)
 rw [if_pos c5] at H
 have c5b0 := eq_true c5
 have c5b1 := decide_eq_true c5
 try have c5b2 : (9223372036854775807 < t553.size + 1) = False := eq_false (Nat.not_lt.2 c5)
 replace H := Option.bind_eq_some_iff.mp H
 obtain ⟨t554, A60, H⟩ := H
 try dsimp only at H
 have A6 := Aside0.mk A60
 clear A60
 by_cases c7 : (t553 ++ (⟨#[47]⟩ : ByteArray)).size + t554.size ≤ 9223372036854775807
 rotate_left
 ·rw [if_neg c7] at H
  exact absurd H (by simp)
 rw [if_pos c7] at H
 have c7b0 := eq_true c7
 have c7b1 := decide_eq_true c7
 try have c7b2 : (9223372036854775807 < (t553 ++ (⟨#[47]⟩ : ByteArray)).size + t554.size) = False := eq_false (Nat.not_lt.2 c7)
 have c7b3 : (9223372036854775807 < t553.size + 1 + t554.size) = False := eq_false (Nat.not_lt.2 (by have z_ := c7; (repeat rw [ByteArray.size_append] at z_); exact z_))
 by_cases c8 : ((t553 ++ (⟨#[47]⟩ : ByteArray)) ++ t554).size + 1 ≤ 9223372036854775807
 rotate_left
 ·rw [if_neg c8] at H
  exact absurd H (by simp)
 rw [if_pos c8] at H
 have c8b0 := eq_true c8
 have c8b1 := decide_eq_true c8
 try have c8b2 : (9223372036854775807 < ((t553 ++ (⟨#[47]⟩ : ByteArray)) ++ t554).size + 1) = False := eq_false (Nat.not_lt.2 c8)
 have c8b3 : (9223372036854775807 < t553.size + 1 + t554.size + 1) = False := eq_false (Nat.not_lt.2 (by have z_ := c8; (repeat rw [ByteArray.size_append] at z_); exact z_))
 by_cases c9 : (((t553 ++ (⟨#[47]⟩ : ByteArray)) ++ t554) ++ (⟨#[58]⟩ : ByteArray)).size + a2.size ≤ 9223372036854775807
 rotate_left
 ·rw [if_neg c9] at H
  exact absurd H (by simp)
 rw [if_pos c9] at H
 have c9b0 := eq_true c9
 have c9b1 := decide_eq_true c9
 try have c9b2 : (9223372036854775807 < (((t553 ++ (⟨#[47]⟩ : ByteArray)) ++ t554) ++ (⟨#[58]⟩ : ByteArray)).size + a2.size) = False := eq_false (Nat.not_lt.2 c9)
 have c9b3 : (9223372036854775807 < t553.size + 1 + t554.size + 1 + a2.size) = False := eq_false (Nat.not_lt.2 (by have z_ := c9; (repeat rw [ByteArray.size_append] at z_); exact z_))
 by_cases c10 : ((((t553 ++ (⟨#[47]⟩ : ByteArray)) ++ t554) ++ (⟨#[58]⟩ : ByteArray)) ++ a2).size + 1 ≤ 9223372036854775807
 rotate_left
 ·rw [if_neg c10] at H
  exact absurd H (by simp)
 rw [if_pos c10] at H
 have c10b0 := eq_true c10
 have c10b1 := decide_eq_true c10
 try have c10b2 : (9223372036854775807 < ((((t553 ++ (⟨#[47]⟩ : ByteArray)) ++ t554) ++ (⟨#[58]⟩ : ByteArray)) ++ a2).size + 1) = False := eq_false (Nat.not_lt.2 c10)
 have c10b3 : (9223372036854775807 < t553.size + 1 + t554.size + 1 + a2.size + 1) = False := eq_false (Nat.not_lt.2 (by have z_ := c10; (repeat rw [ByteArray.size_append] at z_); exact z_))
 replace H := Option.bind_eq_some_iff.mp H
 obtain ⟨t555, A110, H⟩ := H
 try dsimp only at H
 have A11 := Aside0.mk A110
 clear A110
 replace H := Option.bind_eq_some_iff.mp H
 obtain ⟨t556, A120, H⟩ := H
 try dsimp only at H
 have A12 := Aside0.mk A120
 clear A120
 by_cases c13 : (((((t553 ++ (⟨#[47]⟩ : ByteArray)) ++ t554) ++ (⟨#[58]⟩ : ByteArray)) ++ a2) ++ (⟨#[35]⟩ : ByteArray)).size + t556.size ≤ 9223372036854775807
 rotate_left
 ·rw [if_neg c13] at H
  exact absurd H (by simp)
 rw [if_pos c13] at H
 have c13b0 := eq_true c13
 have c13b1 := decide_eq_true c13
 try have c13b2 : (9223372036854775807 < (((((t553 ++ (⟨#[47]⟩ : ByteArray)) ++ t554) ++ (⟨#[58]⟩ : ByteArray)) ++ a2) ++ (⟨#[35]⟩ : ByteArray)).size + t556.size) = False := eq_false (Nat.not_lt.2 c13)
 have c13b3 : (9223372036854775807 < t553.size + 1 + t554.size + 1 + a2.size + 1 + t556.size) = False := eq_false (Nat.not_lt.2 (by have z_ := c13; (repeat rw [ByteArray.size_append] at z_); exact z_))
 obtain rfl := Option.some.inj H
 go_enter Tryd.func63, Tryd.ntmps63
 go_wp2_with (first | ((with_reducible refine uB (f := 87) rfl ?_); refine uL (some 9) Tryd.func87 #[.int .i64 a0] ?_; (with_reducible refine (impl_FormatInt.calls a0 t553 _ ?side1 A4.out).mono ?_); (case side1 => exact cq7); rintro e w14 ⟨rfl, hb⟩; refine ⟨_, rfl, ?_⟩; replace HB := uH HB hb; (try clear hb)) | ((with_reducible refine uB (f := 87) rfl ?_); refine uL (some 12) Tryd.func87 #[.int .i64 a1] ?_; (with_reducible refine (impl_FormatInt.calls a1 t554 _ ?side1 A6.out).mono ?_); (case side1 => exact cq7); rintro e w15 ⟨rfl, hb⟩; refine ⟨_, rfl, ?_⟩; replace HB := uH HB hb; (try clear hb)) | ((with_reducible refine uB (f := 44) rfl ?_); refine uL (some 20) Tryd.func44 #[.string ((((t553 ++ (⟨#[47]⟩ : ByteArray)) ++ t554) ++ (⟨#[58]⟩ : ByteArray)) ++ a2)] ?_; (with_reducible refine (impl_Checksum.calls k ((((t553 ++ (⟨#[47]⟩ : ByteArray)) ++ t554) ++ (⟨#[58]⟩ : ByteArray)) ++ a2) t555 _ A11.out).mono ?_); rintro e w' ⟨rfl, ⟨nd, rfl⟩⟩; refine ⟨_, rfl, ?_⟩) | ((with_reducible refine uB (f := 87) rfl ?_); refine uL (some 21) Tryd.func87 #[.int .i64 t555] ?_; (with_reducible refine (impl_FormatInt.calls t555 t556 _ ?side1 A12.out).mono ?_); (case side1 => exact cq7); rintro e w16 ⟨rfl, hb⟩; refine ⟨_, rfl, ?_⟩; replace HB := uH HB hb; (try clear hb)))
 go_ret
 exact ⟨cq5, uW⟩

/-! ### internal_stringslite_Index: function 122 -/
/-- The place of a string of one byte. -/
def internal_stringslite_Index.f (a0 : ByteArray) (a1 : ByteArray) : Option Int := match a1.data.toList with
  | [c] => some (Lib.indexByte a0.data.toList c)
  | _ => none
theorem internal_stringslite_Index.calls (a0 a1 : ByteArray) (r : Int) (w : World) (h : internal_stringslite_Index.f a0 a1 = some r) :
    Calls Tryd.prog 122 #[.string a0, .string a1] w fun e w' => e = .returned (.int .i64 r) ∧ Drawn0 w w' := by
  unfold internal_stringslite_Index.f at h
  obtain ⟨⟨l⟩⟩ := a1
  match l, h with
  | [c], h =>
    have h := Option.some.inj h
    subst h
    refine (Tryd.stringslite_Index_one a0 c w).mono ?_
    rintro e w' ⟨rfl, rfl⟩
    exact ⟨rfl, ⟨0, rfl⟩⟩
  | [], h => cases h
  | _ :: _ :: _, h => cases h

/-! ### internal_stringslite_Cut: function 102 -/
def internal_stringslite_Cut.f (a0 : ByteArray) (a1 : ByteArray) : Option (ByteArray × ByteArray × Bool) := (internal_stringslite_Index.f a0 a1).bind fun t557 => (if t557 ≥ 0 then (if 0 ≤ t557 then (if t557 ≤ (a0.size : Int) then (if 0 ≤ (wrap64 (t557 + (a1.size : Int))) then (if (wrap64 (t557 + (a1.size : Int))) ≤ (a0.size : Int) then (some (a0.extract 0 (t557 : Int).toNat, a0.extract ((wrap64 (t557 + (a1.size : Int))) : Int).toNat a0.size, true)) else (none)) else (none)) else (none)) else (none)) else (some (a0, (⟨#[]⟩ : ByteArray), false)))
set_option maxHeartbeats 8000000 in
set_option maxRecDepth 100000 in
theorem internal_stringslite_Cut.calls (a0 : ByteArray) (a1 : ByteArray) (r1 : ByteArray) (r2 : ByteArray) (r3 : Bool) (w : World) (h : internal_stringslite_Cut.f a0 a1 = some (r1, r2, r3)) :
  Calls Tryd.prog 102 #[.string a0, .string a1] w fun e w' => e = .returned (.tuple #[.string r1, .string r2, .bool r3]) ∧ Drawn0 w w' := by
 have H : ((internal_stringslite_Index.f a0 a1).bind fun t557 => (if t557 ≥ 0 then (if 0 ≤ t557 then (if t557 ≤ (a0.size : Int) then (if 0 ≤ (wrap64 (t557 + (a1.size : Int))) then (if (wrap64 (t557 + (a1.size : Int))) ≤ (a0.size : Int) then (some (a0.extract 0 (t557 : Int).toNat, a0.extract ((wrap64 (t557 + (a1.size : Int))) : Int).toNat a0.size, true)) else (none)) else (none)) else (none)) else (none)) else (some (a0, (⟨#[]⟩ : ByteArray), false)))) = some (r1, r2, r3) := h
 clear h
 replace H := Option.bind_eq_some_iff.mp H
 obtain ⟨t557, A30, H⟩ := H
 try dsimp only at H
 have A3 := Aside0.mk A30
 clear A30
 by_cases c4 : t557 ≥ 0
 rotate_left
 ·rw [if_neg c4] at H
  have c4b0 := decide_eq_false c4
  clear c4
  simp only [Option.some.injEq, Prod.mk.injEq] at H
  obtain ⟨rfl, rfl, rfl⟩ := H
  go_enter Tryd.func102, Tryd.ntmps102
  go_wp2_with (first | (go_at_call 122; (with_reducible refine (internal_stringslite_Index.calls a0 a1 t557 _ A3.out).mono ?_); rintro e w' ⟨rfl, ⟨nd, rfl⟩⟩; (try exact dwN)))
  repeat (go_quiet (first | (go_at_call 122; (with_reducible refine (internal_stringslite_Index.calls a0 a1 t557 _ A3.out).mono ?_); rintro e w' ⟨rfl, ⟨nd, rfl⟩⟩; (try exact dwN))); try go_wp2_with (first | (go_at_call 122; (with_reducible refine (internal_stringslite_Index.calls a0 a1 t557 _ A3.out).mono ?_); rintro e w' ⟨rfl, ⟨nd, rfl⟩⟩; (try exact dwN))))
  go_ret3
  exact ⟨vD, cq21⟩
 rw [if_pos c4] at H
 have c4b0 := decide_eq_true c4
 clear c4
 by_cases c5 : 0 ≤ t557
 rotate_left
 ·rw [if_neg c5] at H
  exact absurd H (by simp)
 rw [if_pos c5] at H
 have c5b0 := eq_true c5
 have c5b1 := decide_eq_true c5
 clear c5
 by_cases c6 : t557 ≤ (a0.size : Int)
 rotate_left
 ·rw [if_neg c6] at H
  exact absurd H (by simp)
 rw [if_pos c6] at H
 have c6b0 := eq_true c6
 have c6b1 := decide_eq_true c6
 clear c6
 obtain ⟨ji7, hji7⟩ : ∃ j_ : Int, (wrap64 (t557 + (a1.size : Int))) = j_ := ⟨_, rfl⟩
 replace H : (if 0 ≤ (ji7) then (if (ji7) ≤ (a0.size : Int) then (some (a0.extract 0 (t557 : Int).toNat, a0.extract ((ji7) : Int).toNat a0.size, true)) else (none)) else (none)) = some (r1, r2, r3) := by first | (rw [hji7] at H; exact H) | (simp only [hji7] at H ⊢; exact H) | rfl
 (try rw [hji7] at A3)
 have hji7w : (IntKind.i64.wrap (t557 + (a1.size : Int))) = ji7 := (vM _).trans hji7
 by_cases c8 : 0 ≤ (ji7)
 rotate_left
 ·rw [if_neg c8] at H
  exact absurd H (by simp)
 rw [if_pos c8] at H
 have c8b0 := eq_true c8
 have c8b1 := decide_eq_true c8
 clear c8
 by_cases c9 : (ji7) ≤ (a0.size : Int)
 rotate_left
 ·rw [if_neg c9] at H
  exact absurd H (by simp)
 rw [if_pos c9] at H
 have c9b0 := eq_true c9
 have c9b1 := decide_eq_true c9
 clear c9
 simp only [Option.some.injEq, Prod.mk.injEq] at H
 obtain ⟨rfl, rfl, rfl⟩ := H
 go_enter Tryd.func102, Tryd.ntmps102
 go_wp2_with (first | (go_at_call 122; (with_reducible refine (internal_stringslite_Index.calls a0 a1 t557 _ A3.out).mono ?_); rintro e w' ⟨rfl, ⟨nd, rfl⟩⟩; (try exact dwN)))
 repeat (go_quiet (first | (go_at_call 122; (with_reducible refine (internal_stringslite_Index.calls a0 a1 t557 _ A3.out).mono ?_); rintro e w' ⟨rfl, ⟨nd, rfl⟩⟩; (try exact dwN))); try go_wp2_with (first | (go_at_call 122; (with_reducible refine (internal_stringslite_Index.calls a0 a1 t557 _ A3.out).mono ?_); rintro e w' ⟨rfl, ⟨nd, rfl⟩⟩; (try exact dwN))))
 go_ret3
 exact ⟨by first | rfl | (simp; done) | (simp only [← hji7] <;> (first | rfl | simp)) | (simp [*]; done), cq21⟩

/-! ### strings_Cut: function 70 -/
def strings_Cut.f (a0 : ByteArray) (a1 : ByteArray) : Option (ByteArray × ByteArray × Bool) := (internal_stringslite_Cut.f a0 a1).bind fun bt558 => (some (bt558.1, bt558.2.1, bt558.2.2))
set_option maxHeartbeats 8000000 in
set_option maxRecDepth 100000 in
theorem strings_Cut.calls (a0 : ByteArray) (a1 : ByteArray) (r1 : ByteArray) (r2 : ByteArray) (r3 : Bool) (w : World) (h : strings_Cut.f a0 a1 = some (r1, r2, r3)) :
  Calls Tryd.prog 70 #[.string a0, .string a1] w fun e w' => e = .returned (.tuple #[.string r1, .string r2, .bool r3]) ∧ Drawn0 w w' := by
 have H : ((internal_stringslite_Cut.f a0 a1).bind fun bt558 => (some (bt558.1, bt558.2.1, bt558.2.2))) = some (r1, r2, r3) := h
 clear h
 replace H := Option.bind_eq_some_iff.mp H
 obtain ⟨⟨t558, t559, t560⟩, A30, H⟩ := H
 try dsimp only at H
 have A3 := Aside0.mk A30
 clear A30
 simp only [Option.some.injEq, Prod.mk.injEq] at H
 obtain ⟨rfl, rfl, rfl⟩ := H
 go_enter Tryd.func70, Tryd.ntmps70
 go_wp2_with (first | ((with_reducible refine uB (f := 102) rfl ?_); refine uL (some 9) Tryd.func102 #[.string a0, .string a1] ?_; (with_reducible refine (internal_stringslite_Cut.calls a0 a1 t558 t559 t560 _ A3.out).mono ?_); rintro e w' ⟨rfl, ⟨nd, rfl⟩⟩; refine ⟨_, rfl, ?_⟩))
 go_ret3
 exact ⟨vD, cq21⟩

/-! ### impl_ParseInt: function 103 -/
mutual
def impl_ParseInt.j0 : Nat → ByteArray → ByteArray → Int → Bool → Option (Int × Bool)
 | 0, _, _, _, _ => none
 | k + 1, x0, x4, x5, x16 => if x16 = true then (if 1 ≤ (x0.size : Int) then (impl_ParseInt.j1 k x0 (x0.extract 1 x0.size) (-1)) else (none)) else (impl_ParseInt.j1 k x0 x4 x5)
def impl_ParseInt.j1 : Nat → ByteArray → ByteArray → Int → Option (Int × Bool)
 | 0, _, _, _ => none
 | k + 1, x0, x4, x5 => (impl_within.f (x4.size : Int) 1 9).bind fun t561 => (if t561 = true then (impl_ParseInt.l0 k x0 x4 x5 0 (x4.size : Int) 0) else (some (0, false)))
def impl_ParseInt.l0 : Nat → ByteArray → ByteArray → Int → Int → Int → Int → Option (Int × Bool)
 | 0, _, _, _, _, _, _ => none
 | k + 1, x0, x4, x5, x6, x24, x25 => if x25 < x24 then (if 0 ≤ x25 then (if x25 < (x4.size : Int) then (if (bt x4 x25) < 48 then (some (0, false)) else (if (bt x4 x25) > 57 then (some (0, false)) else (impl_ParseInt.l0 k x0 x4 x5 (wrap64 ((wrap64 (10 * x6)) + (((bt x4 x25) - 48) % 256))) x24 (wrap64 (x25 + 1))))) else (none)) else (none)) else ((impl_FormatInt.f (wrap64 (x5 * x6))).bind fun t562 => (if t562.toList = x0.toList then (some (wrap64 (x5 * x6), true)) else (some (0, false))))
end
def impl_ParseInt.f (k : Nat) (a0 : ByteArray) : Option (Int × Bool) := if (a0.size : Int) > 0 then (if 0 < (a0.size : Int) then (impl_ParseInt.j0 k a0 a0 1 ((bt a0 0) == 45)) else (none)) else (impl_ParseInt.j0 k a0 a0 1 false)
theorem impl_ParseInt.mono_l : ∀ k, (∀ y0 y1 y2 y3, uA (impl_ParseInt.j0 k y0 y1 y2 y3) (impl_ParseInt.j0 (k + 1) y0 y1 y2 y3)) ∧ (∀ y0 y1 y2, uA (impl_ParseInt.j1 k y0 y1 y2) (impl_ParseInt.j1 (k + 1) y0 y1 y2)) ∧ (∀ y0 y1 y2 y3 y4 y5, uA (impl_ParseInt.l0 k y0 y1 y2 y3 y4 y5) (impl_ParseInt.l0 (k + 1) y0 y1 y2 y3 y4 y5))
 | 0 => ⟨fun _ _ _ _ r h => by simp [impl_ParseInt.j0] at h, fun _ _ _ r h => by simp [impl_ParseInt.j1] at h, fun _ _ _ _ _ _ r h => by simp [impl_ParseInt.l0] at h⟩
 | k + 1 => by
  obtain ⟨ih0, ih1, ih2⟩ := impl_ParseInt.mono_l k
  refine ⟨?_, ?_, ?_⟩
  ·intro y0 y1 y2 y3
   unfold impl_ParseInt.j0
   repeat' first
   | (with_reducible exact ih0 _ _ _ _)
   | (with_reducible exact ih1 _ _ _)
   | (with_reducible exact ih2 _ _ _ _ _ _)
   | (with_reducible exact uA.refl _)
   | (with_reducible exact uA.none _)
   | (with_reducible refine uA.vA ?_ ?_)
   | (with_reducible refine uA.bind ?_ (fun _ => ?_))
   | exact ih0 _ _ _ _
   | exact ih1 _ _ _
   | exact ih2 _ _ _ _ _ _
   | exact uA.none _
   | refine uA.vA ?_ ?_
   | refine uA.bind ?_ (fun _ => ?_)
  ·intro y0 y1 y2
   unfold impl_ParseInt.j1
   repeat' first
   | (with_reducible exact ih0 _ _ _ _)
   | (with_reducible exact ih1 _ _ _)
   | (with_reducible exact ih2 _ _ _ _ _ _)
   | (with_reducible exact uA.refl _)
   | (with_reducible exact uA.none _)
   | (with_reducible refine uA.vA ?_ ?_)
   | (with_reducible refine uA.bind ?_ (fun _ => ?_))
   | exact ih0 _ _ _ _
   | exact ih1 _ _ _
   | exact ih2 _ _ _ _ _ _
   | exact uA.none _
   | refine uA.vA ?_ ?_
   | refine uA.bind ?_ (fun _ => ?_)
  intro y0 y1 y2 y3 y4 y5
  unfold impl_ParseInt.l0
  repeat' first
  | (with_reducible exact ih0 _ _ _ _)
  | (with_reducible exact ih1 _ _ _)
  | (with_reducible exact ih2 _ _ _ _ _ _)
  | (with_reducible exact uA.refl _)
  | (with_reducible exact uA.none _)
  | (with_reducible refine uA.vA ?_ ?_)
  | (with_reducible refine uA.bind ?_ (fun _ => ?_))
  | exact ih0 _ _ _ _
  | exact ih1 _ _ _
  | exact ih2 _ _ _ _ _ _
  | exact uA.none _
  | refine uA.vA ?_ ?_
  | refine uA.bind ?_ (fun _ => ?_)
theorem impl_ParseInt.mono : ∀ a0 k, uA (impl_ParseInt.f k a0) (impl_ParseInt.f (k + 1) a0) := by
 intro a0 k
 obtain ⟨ih0, ih1, ih2⟩ := impl_ParseInt.mono_l k
 unfold impl_ParseInt.f
 repeat' first
   | (with_reducible exact ih0 _ _ _ _)
   | (with_reducible exact ih1 _ _ _)
   | (with_reducible exact ih2 _ _ _ _ _ _)
   | (with_reducible exact uA.refl _)
   | (with_reducible exact uA.none _)
   | (with_reducible refine uA.vA ?_ ?_)
   | (with_reducible refine uA.bind ?_ (fun _ => ?_))
   | exact ih0 _ _ _ _
   | exact ih1 _ _ _
   | exact ih2 _ _ _ _ _ _
   | exact uA.none _
   | refine uA.vA ?_ ?_
   | refine uA.bind ?_ (fun _ => ?_)
set_option maxHeartbeats 8000000 in
set_option maxRecDepth 100000 in
theorem impl_ParseInt.calls (k : Nat) (a0 : ByteArray) (r1 : Int) (r2 : Bool) (w : World) (hWF : WF w) (h : impl_ParseInt.f k a0 = some (r1, r2)) :
  Calls Tryd.prog 103 #[.string a0] w fun e w' => e = .returned (.tuple #[.int .i64 r1, .bool r2]) ∧ Below w.heap.size w w' := by
 have HB := Aside0.mk (Below.refl w.heap.size w)
 have H : (if (a0.size : Int) > 0 then (if 0 < (a0.size : Int) then (impl_ParseInt.j0 k a0 a0 1 ((bt a0 0) == 45)) else (none)) else (impl_ParseInt.j0 k a0 a0 1 false)) = some (r1, r2) := h
 clear h
 have HC2 := Aside0.mk H
 clear H
 go_enter Tryd.func103, Tryd.ntmps103
 go_upto_region 2 with (fail)
 go_cut [16] (fun v16 wc => ∃ (kq : Nat) (x16_1 : Bool), v16 = .bool x16_1 ∧ Aside0 (impl_ParseInt.j0 kq a0 a0 1 x16_1 = some (r1, r2)) ∧ Aside0 (kq ≤ k) ∧ Aside0 (Below w.heap.size w wc))
 case first =>
  have H := HC2.out
  clear HC2
  by_cases c3 : (a0.size : Int) > 0
  rotate_left
  ·rw [if_neg c3] at H
   have c3b0 := decide_eq_false c3
   have c3b1 : decide (0 < a0.size) = false := decide_eq_false (by omega)
   clear c3
   (first | rw [c3b0] | (simp only [vM, vO]; rw [c3b0]) | skip)
   have H' := Aside0.mk H
   clear H
   go_wp2
   go_meet
   case rel => exact ⟨_, (false), vD, H', ⟨by first | omega | exact Nat.le_refl _⟩, ⟨uW⟩⟩
  rw [if_pos c3] at H
  have c3b0 := decide_eq_true c3
  have c3b1 : decide (0 < a0.size) = true := decide_eq_true (by omega)
  clear c3
  (first | rw [c3b0] | (simp only [vM, vO]; rw [c3b0]) | skip)
  by_cases c4 : 0 < (a0.size : Int)
  rotate_left
  ·rw [if_neg c4] at H
   exact absurd H (by simp)
  rw [if_pos c4] at H
  have c4b0 := decide_eq_true c4
  have c4b1 : decide (0 < a0.size) = true := decide_eq_true (by omega)
  clear c4
  have H' := Aside0.mk H
  clear H
  have p5 : 0 ≤ (0 : Int) := (by omega)
  have q5 : 0 < a0.size := (by have : (0 : Int) < (a0.size : Int) := of_decide_eq_true vC; omega)
  have hx5 : ∀ h : 0 < a0.size, ((a0[0]'h).toNat : Int) = bt a0 0 := bt_at a0 0
  clear p5
  have qi5 : (0 < (a0.size : Int)) = True := eq_true (of_decide_eq_true vC)
  replace q5 := eq_true q5
  go_wp2
  go_meet
  case rel => exact ⟨_, (((bt a0 0) == 45)), vD, H', ⟨by first | omega | exact Nat.le_refl _⟩, ⟨uW⟩⟩
 case rest =>
  clear HC2
  obtain ⟨kq, x16_1, rfl, HA, HJ1, HB⟩ := hcut
  cases kq with
  | zero => exact absurd HA.out (by simp [impl_ParseInt.j0])
  | succ kj1 =>
   have H := HA.out
   clear HA
   simp only [impl_ParseInt.j0] at H
   have HC6 := Aside0.mk H
   clear H
   go_upto_if 16 with (fail)
   go_cut [4, 5] (fun v4 v5 wc => ∃ (kq : Nat) (x4_5 : ByteArray) (x5_5 : Int), v4 = .string x4_5 ∧ v5 = .int .i64 x5_5 ∧ Aside0 (impl_ParseInt.j1 kq a0 x4_5 x5_5 = some (r1, r2)) ∧ Aside0 (kq ≤ kj1) ∧ Aside0 (Below w.heap.size w wc))
   case first =>
    have H := HC6.out
    clear HC6
    by_cases c7 : x16_1 = true
    rotate_left
    ·replace c7 := Bool.eq_false_iff.mpr c7
     subst c7
     try rw [if_neg (show ¬ (false = true) by decide)] at H
     have H' := Aside0.mk H
     clear H
     go_wp2
     go_meet
     case rel => exact ⟨_, (a0), (1), vD, vD, H', ⟨by have := HJ1.out; first | omega | exact Nat.le_refl _⟩, ⟨uW⟩⟩
    subst c7
    try rw [if_pos rfl] at H
    by_cases c8 : 1 ≤ (a0.size : Int)
    rotate_left
    ·rw [if_neg c8] at H
     exact absurd H (by simp)
    rw [if_pos c8] at H
    have c8b0 := eq_true c8
    have c8b1 := decide_eq_true c8
    clear c8
    have H' := Aside0.mk H
    clear H
    go_wp2
    go_meet
    case rel => exact ⟨_, (a0.extract 1 a0.size), ((-1)), vD, vD, H', ⟨by have := HJ1.out; first | omega | exact Nat.le_refl _⟩, ⟨uW⟩⟩
   case rest =>
    clear HC6
    obtain ⟨kq, x4_5, x5_5, rfl, rfl, HA, HJ5, HB⟩ := hcut
    cases kq with
    | zero => exact absurd HA.out (by simp [impl_ParseInt.j1])
    | succ kj5 =>
     have H := HA.out
     clear HA
     simp only [impl_ParseInt.j1] at H
     replace H := Option.bind_eq_some_iff.mp H
     obtain ⟨t561, A90, H⟩ := H
     try dsimp only at H
     have A9 := Aside0.mk A90
     clear A90
     by_cases c10 : t561 = true
     rotate_left
     ·replace c10 := Bool.eq_false_iff.mpr c10
      subst c10
      try rw [if_neg (show ¬ (false = true) by decide)] at H
      simp only [Option.some.injEq, Prod.mk.injEq] at H
      obtain ⟨rfl, rfl⟩ := H
      go_wp2_with (first | ((with_reducible refine uB (f := 55) rfl ?_); refine uL (some 21) Tryd.func55 #[.int .i64 (x4_5.size : Int), .int .i64 1, .int .i64 9] ?_; (with_reducible refine (impl_within.calls (x4_5.size : Int) 1 9 false _ A9.out).mono ?_); rintro e w' ⟨rfl, ⟨nd, rfl⟩⟩; refine ⟨_, rfl, ?_⟩))
      go_ret2
      exact ⟨cq5, uW⟩
     subst c10
     try rw [if_pos rfl] at H
     have H' := Aside0.mk H
     clear H
     go_wp2_with (first | ((with_reducible refine uB (f := 55) rfl ?_); refine uL (some 21) Tryd.func55 #[.int .i64 (x4_5.size : Int), .int .i64 1, .int .i64 9] ?_; (with_reducible refine (impl_within.calls (x4_5.size : Int) 1 9 true _ A9.out).mono ?_); rintro e w' ⟨rfl, ⟨nd, rfl⟩⟩; refine ⟨_, rfl, ?_⟩))
     go_loopg [6, 25] kj5 (fun kq v6 v25 w' => ∃ (x6_3 : Int) (x25_3 : Int), v6 = .int .i64 x6_3 ∧ v25 = .int .i64 x25_3 ∧ Aside0 (impl_ParseInt.l0 kq a0 x4_5 x5_5 x6_3 (x4_5.size : Int) x25_3 = some (r1, r2)) ∧ Aside0 (kq ≤ kj5) ∧ Aside0 (Below w.heap.size w w'))
     case atStart => exact ⟨(0), (0), vD, vD, H', ⟨Nat.le_refl _⟩, ⟨uW⟩⟩
     case round =>
      clear H'
      try clear c10
      obtain ⟨x6_3, x25_3, rfl, rfl, HA, HK3, HB⟩ := hrel
      cases gk with
      | zero => exact absurd HA.out (by simp [impl_ParseInt.l0])
      | succ k3 =>
       have H := HA.out
       clear HA
       simp only [impl_ParseInt.l0] at H
       by_cases c11 : x25_3 < (x4_5.size : Int)
       rotate_left
       ·rw [if_neg c11] at H
        have c11b0 := decide_eq_false c11
        clear c11
        replace H := Option.bind_eq_some_iff.mp H
        obtain ⟨t562, A190, H⟩ := H
        try dsimp only at H
        have A19 := Aside0.mk A190
        clear A190
        go_wp2_with (first | ((with_reducible refine uB (f := 87) rfl ?_); refine uL (some 50) Tryd.func87 #[.int .i64 (wrap64 (x5_5 * x6_3))] ?_; (with_reducible refine (impl_FormatInt.calls (wrap64 (x5_5 * x6_3)) t562 _ ?side1 A19.out).mono ?_); (case side1 => exact cq7); rintro e w22 ⟨rfl, hb⟩; refine ⟨_, rfl, ?_⟩; replace HB := uH HB hb; (try clear hb); refine ?roundEnd))
        case roundEnd =>
        by_cases c20 : t562.toList = a0.toList
        rotate_left
        ·rw [if_neg c20] at H
         have c20b0 : (t562.toList == a0.toList) = false := beq_eq_false_iff_ne.mpr c20
         have c20b1 : (t562.toList != a0.toList) = true := bne_iff_ne.mpr c20
         simp only [Option.some.injEq, Prod.mk.injEq] at H
         obtain ⟨rfl, rfl⟩ := H
         go_wp2
         go_ret2
         exact ⟨cq5, uW⟩
        rw [if_pos c20] at H
        have c20b0 : (t562.toList == a0.toList) = true := beq_iff_eq.mpr c20
        have c20b1 : (t562.toList != a0.toList) = false := bne_eq_false_iff_eq.mpr c20
        clear c20
        simp only [Option.some.injEq, Prod.mk.injEq] at H
        obtain ⟨rfl, rfl⟩ := H
        go_wp2
        go_ret2
        exact ⟨cq5, uW⟩
       rw [if_pos c11] at H
       have c11b0 := decide_eq_true c11
       clear c11
       obtain ⟨c12b0, H⟩ := ifD H
       obtain ⟨c13b0, H⟩ := ifD H
       by_cases c15 : (bt x4_5 x25_3) < 48
       ·rw [if_pos c15] at H
        have c15b0 := decide_eq_true c15
        clear c15
        simp only [Option.some.injEq, Prod.mk.injEq] at H
        obtain ⟨rfl, rfl⟩ := H
        have p14 : 0 ≤ (x25_3 : Int) := of_decide_eq_true vC
        have q14 : x25_3 < (x4_5.size : Int) := of_decide_eq_true vC
        have hx14 := bt_at x4_5 x25_3
        replace p14 := eq_true p14
        replace q14 := eq_true q14
        go_wp2
        go_ret2
        exact ⟨cq5, uW⟩
       rw [if_neg c15] at H
       have c15b0 := decide_eq_false c15
       clear c15
       by_cases c17 : (bt x4_5 x25_3) > 57
       ·rw [if_pos c17] at H
        have c17b0 := decide_eq_true c17
        clear c17
        simp only [Option.some.injEq, Prod.mk.injEq] at H
        obtain ⟨rfl, rfl⟩ := H
        have p14 : 0 ≤ (x25_3 : Int) := of_decide_eq_true vC
        have q14 : x25_3 < (x4_5.size : Int) := of_decide_eq_true vC
        have hx14 := bt_at x4_5 x25_3
        replace p14 := eq_true p14
        replace q14 := eq_true q14
        have p16 : 0 ≤ (x25_3 : Int) := of_decide_eq_true vC
        have q16 : x25_3 < (x4_5.size : Int) := of_decide_eq_true vC
        have hx16 := bt_at x4_5 x25_3
        replace p16 := eq_true p16
        replace q16 := eq_true q16
        go_wp2
        go_ret2
        exact ⟨cq5, uW⟩
       rw [if_neg c17] at H
       have c17b0 := decide_eq_false c17
       clear c17
       have H' := Aside0.mk H
       clear H
       have p14 : 0 ≤ (x25_3 : Int) := of_decide_eq_true vC
       have q14 : x25_3 < (x4_5.size : Int) := of_decide_eq_true vC
       have hx14 := bt_at x4_5 x25_3
       replace p14 := eq_true p14
       replace q14 := eq_true q14
       have p16 : 0 ≤ (x25_3 : Int) := of_decide_eq_true vC
       have q16 : x25_3 < (x4_5.size : Int) := of_decide_eq_true vC
       have hx16 := bt_at x4_5 x25_3
       replace p16 := eq_true p16
       replace q16 := eq_true q16
       have p18 : 0 ≤ (x25_3 : Int) := of_decide_eq_true vC
       have q18 : x25_3 < (x4_5.size : Int) := of_decide_eq_true vC
       have hx18 := bt_at x4_5 x25_3
       replace p18 := eq_true p18
       replace q18 := eq_true q18
       go_wp2
       go_roundg k3
       case measure => have := HJ1.out; have := HJ5.out; have := HK3.out; omega
       case rel => exact ⟨(wrap64 ((wrap64 (10 * x6_3)) + (((bt x4_5 x25_3) - 48) % 256))), (wrap64 (x25_3 + 1)), vD, vD, H', ⟨by have := HJ1.out; have := HJ5.out; have := HK3.out; omega⟩, ⟨uW⟩⟩

/-! ### impl_number: function 72 -/
def impl_number.f (k : Nat) (a0 : ByteArray) : Option (Int) := (impl_ParseInt.f k a0).bind fun bt563 => (if bt563.2 = true then (some bt563.1) else (some (-1)))
theorem impl_number.mono : ∀ a0 k, uA (impl_number.f k a0) (impl_number.f (k + 1) a0) := by
 intro a0 k
 unfold impl_number.f
 repeat' first
   | (with_reducible exact impl_ParseInt.mono _ _)
   | (with_reducible exact uA.refl _)
   | (with_reducible exact uA.none _)
   | (with_reducible refine uA.vA ?_ ?_)
   | (with_reducible refine uA.bind ?_ (fun _ => ?_))
   | exact uA.none _
   | refine uA.vA ?_ ?_
   | refine uA.bind ?_ (fun _ => ?_)
set_option maxHeartbeats 8000000 in
set_option maxRecDepth 100000 in
theorem impl_number.calls (k : Nat) (a0 : ByteArray) (r : Int) (w : World) (hWF : WF w) (h : impl_number.f k a0 = some r) :
  Calls Tryd.prog 72 #[.string a0] w fun e w' => e = .returned (.int .i64 r) ∧ Below w.heap.size w w' := by
 have HB := Aside0.mk (Below.refl w.heap.size w)
 have H : ((impl_ParseInt.f k a0).bind fun bt563 => (if bt563.2 = true then (some bt563.1) else (some (-1)))) = some r := h
 clear h
 replace H := Option.bind_eq_some_iff.mp H
 obtain ⟨⟨t563, t564⟩, A20, H⟩ := H
 try dsimp only at H
 have A2 := Aside0.mk A20
 clear A20
 by_cases c3 : t564 = true
 ·subst c3
  try rw [if_pos rfl] at H
  obtain rfl := Option.some.inj H
  go_enter Tryd.func72, Tryd.ntmps72
  go_wp2_with (first | ((with_reducible refine uB (f := 103) rfl ?_); refine uL (some 7) Tryd.func103 #[.string a0] ?_; (with_reducible refine (impl_ParseInt.calls k a0 t563 true _ ?side1 A2.out).mono ?_); (case side1 => exact cq7); rintro e w4 ⟨rfl, hb⟩; refine ⟨_, rfl, ?_⟩; replace HB := uH HB hb; (try clear hb)))
  go_ret
  exact ⟨cq5, uW⟩
 replace c3 := Bool.eq_false_iff.mpr c3
 subst c3
 try rw [if_neg (show ¬ (false = true) by decide)] at H
 obtain rfl := Option.some.inj H
 go_enter Tryd.func72, Tryd.ntmps72
 go_wp2_with (first | ((with_reducible refine uB (f := 103) rfl ?_); refine uL (some 7) Tryd.func103 #[.string a0] ?_; (with_reducible refine (impl_ParseInt.calls k a0 t563 false _ ?side1 A2.out).mono ?_); (case side1 => exact cq7); rintro e w5 ⟨rfl, hb⟩; refine ⟨_, rfl, ?_⟩; replace HB := uH HB hb; (try clear hb)))
 go_ret
 exact ⟨cq5, uW⟩

/-! ### strings_LastIndexByte: function 96 -/
/-- The last place of a byte. -/
def strings_LastIndexByte.f (a0 : ByteArray) (a1 : Int) : Option Int := if a0.size < 4611686018427387904 then some (Lib.lastIndexByte a0 a1) else none
theorem strings_LastIndexByte.calls (a0 : ByteArray) (a1 : Int) (r : Int) (w : World) (h : strings_LastIndexByte.f a0 a1 = some r) :
    Calls Tryd.prog 96 #[.string a0, .int .u8 a1] w fun e w' => e = .returned (.int .i64 r) ∧ Drawn0 w w' := by
  unfold strings_LastIndexByte.f at h
  by_cases c : a0.size < 4611686018427387904
  · rw [if_pos c] at h
    obtain rfl := Option.some.inj h
    refine (Tryd.strings_LastIndexByte a0 a1 c w).mono ?_
    rintro e w' ⟨rfl, rfl⟩
    exact ⟨rfl, ⟨0, rfl⟩⟩
  · rw [if_neg c] at h
    exact absurd h (by simp)

end Go.Proofs.YtcikahnmiiichaaDoor.K
