/- Go functions as Lean functions, and the proof that the code comes to them: written by a program of this session out of the translation. -/
import Derived.Test.YtcikahnmiiichaaM0
import Derived.Test.YtcikahnmiiichaaM6
namespace Go.Proofs.Ytcikahnmiiichaa.M
open List renaming setIfInBounds_toArray → vO, set_cons_zero → vP, set_cons_succ → vQ, map_toArray → vR
open Go.World renaming block_lt_of_cell? → vU
open Go.RowKit Go.Proofs.YtcikahnmiiichaaW.PrintWords Go.Proofs.YtcikahnmiiichaaW.PrintLast Go.Proofs.YtcikahnmiiichaaW.PrintMore
attribute [local go_sem] max2_int min2_int max_two min_two max_three min_three max_four min_four   -- for this text's walks alone
set_option linter.unusedVariables false
set_option linter.unusedSimpArgs false

/-- A state of type 112 at block g of W; what its slices lead to came in by w0. -/
def IsS112 (w0 W : World) (g : Nat) (f0 : List Int) (f1 : Int) (f2 : Int) : Prop := ∃ A0 c0, W.heap[g]? = some (.cells #[.slice A0 f0.length c0, .int .i64 f1, .int .i64 f2] 112 (0, 0)) ∧ w0.heap.size ≤ g ∧ Kd.C (Kd.int .u8) w0 A0 f0.length f0
theorem IsS112.grown {w0 W : World} {g : Nat} {f0 : List Int} {f1 : Int} {f2 : Int} {W1 : World} {row : Option Nat} (h : IsS112 w0 W g f0 f1 f2) (hw : W.grownBy W1 row) (hne : some g ≠ row) : IsS112 w0 W1 g f0 f1 f2 := by
  obtain ⟨A0, c0, hb, hg, hr0⟩ := h
  exact ⟨A0, c0, blk_grown hb hw hne, hg, hr0⟩
theorem IsS112.own_neN {w0 W : World} {g : Nat} {f0 : List Int} {f1 : Int} {f2 : Int} {α : Type} {d : Kd α} {e : Nat} {base : Nat} {ok : Nat → Prop} {v : Value} {xs : List α} (h : IsS112 w0 W g f0 f1 f2) (ho : Kd.N d e W base ok v xs) (ht : e ≠ 112) : some g ≠ v.ownBlock := by
  obtain ⟨A0, c0, hb, hg, hr0⟩ := h
  exact Kd.N_ne ho hb ht
theorem IsS112.fresh {w0 W : World} {g : Nat} {f0 : List Int} {f1 : Int} {f2 : Int} (h : IsS112 w0 W g f0 f1 f2) : ∀ k, W.heap.size ≤ k → k ≠ g := by
  obtain ⟨A0, c0, hb, hg, hr0⟩ := h
  exact Kd.freshB hb
theorem IsS112.kept {w0 W : World} {g : Nat} {f0 : List Int} {f1 : Int} {f2 : Int} {W1 : World} {S : Nat → Prop} (h : IsS112 w0 W g f0 f1 f2) (hk : Kept W W1 S) (hne : ¬ S g) : IsS112 w0 W1 g f0 f1 f2 := by
  obtain ⟨A0, c0, hb, hg, hr0⟩ := h
  exact ⟨A0, c0, blk_kept hb hk hne, hg, hr0⟩
theorem IsS112.below {w0 W : World} {g : Nat} {f0 : List Int} {f1 : Int} {f2 : Int} {W1 : World} (h : IsS112 w0 W g f0 f1 f2) (hw : Below W.heap.size W W1) : IsS112 w0 W1 g f0 f1 f2 := h.grown (grown_of_below hw none) (by simp)
theorem IsS112.alloc {w0 W : World} {g : Nat} {f0 : List Int} {f1 : Int} {f2 : Int} (h : IsS112 w0 W g f0 f1 f2) (o : Obj) : IsS112 w0 (W.alloc o) g f0 f1 f2 := h.below (below_alloc (Below.refl _ _) o)
theorem IsS112.drewN {w0 W : World} {g : Nat} {f0 : List Int} {f1 : Int} {f2 : Int} (h : IsS112 w0 W g f0 f1 f2) (m : Nat) : IsS112 w0 (W.drewN m) g f0 f1 f2 := h
theorem IsS112.drew {w0 W : World} {g : Nat} {f0 : List Int} {f1 : Int} {f2 : Int} (h : IsS112 w0 W g f0 f1 f2) : IsS112 w0 W.drew g f0 f1 f2 := h
theorem IsS112.at_ {w0 W : World} {g : Nat} {f0 : List Int} {f1 : Int} {f2 : Int} {w' : World} {m : Nat} (hq : W.drewN m = w') (h : IsS112 w0 W g f0 f1 f2) : IsS112 w0 w' g f0 f1 f2 := by subst hq; exact IsS112.drewN h m
theorem IsS112.apart {w0 W : World} {g : Nat} {f0 : List Int} {f1 : Int} {f2 : Int} {α : Type} {d : Kd α} {e : Nat} {base : Nat} {ok : Nat → Prop} {v : Value} {xs : List α} (h : IsS112 w0 W g f0 f1 f2) (ho : d.R e W base ok v xs) (ht : ∀ q, q ∈ e :: d.E → q ≠ 112) : d.R e W base (fun k => ok k ∧ k ≠ g) v xs := by
  obtain ⟨A0, c0, hb, hg, hr0⟩ := h
  exact Kd.uY ho hb ht
theorem IsS112.own_ne {w0 W : World} {g : Nat} {f0 : List Int} {f1 : Int} {f2 : Int} {α : Type} {d : Kd α} {e : Nat} {base : Nat} {ok : Nat → Prop} {v : Value} {xs : List α} (h : IsS112 w0 W g f0 f1 f2) (ho : d.R e W base ok v xs) (ht : e ≠ 112) : some g ≠ v.ownBlock := by
  obtain ⟨A0, c0, hb, hg, hr0⟩ := h
  exact Kd.R_ne ho hb ht
theorem IsS112.apartQ {w0 W : World} {g : Nat} {f0 : List Int} {f1 : Int} {f2 : Int} {α : Type} {d : Kd α} {e : Nat} {base : Nat} {ok : Nat → Prop} {v : Value} {xs : List α} (h : IsS112 w0 W g f0 f1 f2) (ho : d.Q e W base ok v xs) (ht : ∀ q, q ∈ e :: d.E → q ≠ 112) : d.Q e W base (fun k => ok k ∧ k ≠ g) v xs := by
  obtain ⟨A0, c0, hb, hg, hr0⟩ := h
  exact Kd.Q_types ho hb ht
theorem IsS112.own_neQ {w0 W : World} {g : Nat} {f0 : List Int} {f1 : Int} {f2 : Int} {α : Type} {d : Kd α} {e : Nat} {base : Nat} {ok : Nat → Prop} {v : Value} {xs : List α} (h : IsS112 w0 W g f0 f1 f2) (ho : d.Q e W base ok v xs) (ht : e ≠ 112) : some g ≠ v.ownBlock := by
  obtain ⟨A0, c0, hb, hg, hr0⟩ := h
  exact Kd.Q_ne ho hb ht
theorem IsS112.apartS {w0 W : World} {g : Nat} {f0 : List Int} {f1 : Int} {f2 : Int} {α : Type} {d : Kd α} {e : Nat} {base : Nat} {ok : Nat → Prop} {v : Value} {xs : List α} (h : IsS112 w0 W g f0 f1 f2) (ho : d.S e W base ok v xs) (ht : ∀ q, q ∈ e :: d.E → q ≠ 112) : d.S e W base (fun k => ok k ∧ k ≠ g) v xs := by
  obtain ⟨A0, c0, hb, hg, hr0⟩ := h
  exact Kd.S_types ho hb ht
theorem IsS112.own_neS {w0 W : World} {g : Nat} {f0 : List Int} {f1 : Int} {f2 : Int} {α : Type} {d : Kd α} {e : Nat} {base : Nat} {ok : Nat → Prop} {v : Value} {xs : List α} (h : IsS112 w0 W g f0 f1 f2) (ho : d.S e W base ok v xs) (ht : e ≠ 112) : some g ≠ v.ownBlock := by
  obtain ⟨A0, c0, hb, hg, hr0⟩ := h
  exact Kd.S_ne ho hb ht
theorem IsS112.lt {w0 W : World} {g : Nat} {f0 : List Int} {f1 : Int} {f2 : Int} (h : IsS112 w0 W g f0 f1 f2) : g < W.heap.size := by
  obtain ⟨A0, c0, hb, hg, hr0⟩ := h
  exact blk_lt hb
theorem IsS112.ge {w0 W : World} {g : Nat} {f0 : List Int} {f1 : Int} {f2 : Int} (h : IsS112 w0 W g f0 f1 f2) : w0.heap.size ≤ g := by
  obtain ⟨A0, c0, hb, hg, hr0⟩ := h
  exact hg
theorem IsS112.ne_blk {w0 W : World} {g : Nat} {f0 : List Int} {f1 : Int} {f2 : Int} {a : Nat} {cs : Array Value} {t : TypeId} {fr : Nat × Nat} (h : IsS112 w0 W g f0 f1 f2) (hb2 : W.heap[a]? = some (.cells cs t fr)) (ht : t ≠ 112) : g ≠ a := by
  obtain ⟨A0, c0, hb, hg, hr0⟩ := h
  rintro rfl
  rw [hb] at hb2
  injection hb2 with hb2
  injection hb2 with _ ht2
  exact ht ht2.symm
theorem IsS112.far {w0 W : World} {g : Nat} {f0 : List Int} {f1 : Int} {f2 : Int} {p : Addr} (h : IsS112 w0 W g f0 f1 f2) (hne : g ≠ p.block) (u : Value) : IsS112 w0 (W.setCell p u) g f0 f1 f2 := by
  obtain ⟨A0, c0, hb, hg, hr0⟩ := h
  exact ⟨A0, c0, vF hb hne u, hg, hr0⟩
theorem cellS112_0 {W : World} {g : Nat} {A0 : Option Addr} {c0 : Nat} {f0 : List Int} {f1 : Int} {f2 : Int} (h : W.heap[g]? = some (.cells #[.slice A0 f0.length c0, .int .i64 f1, .int .i64 f2] 112 (0, 0))) : W.cell? ⟨g, 0, none⟩ = some (.slice A0 f0.length c0) := (uG h 0).trans rfl
theorem cellS112_1 {W : World} {g : Nat} {A0 : Option Addr} {c0 : Nat} {f0 : List Int} {f1 : Int} {f2 : Int} (h : W.heap[g]? = some (.cells #[.slice A0 f0.length c0, .int .i64 f1, .int .i64 f2] 112 (0, 0))) : W.cell? ⟨g, 1, none⟩ = some (.int .i64 f1) := (uG h 1).trans rfl
theorem IsS112.set_1 {w0 W : World} {g : Nat} {f0 : List Int} {f1 : Int} {f2 : Int} (h : IsS112 w0 W g f0 f1 f2) (x : Int) : IsS112 w0 (W.setCell ⟨g, 1, none⟩ (.int .i64 x)) g f0 x f2 := by
  obtain ⟨A0, c0, hb, hg, hr0⟩ := h
  exact ⟨A0, c0, by simpa using blk_set hb 1 (.int .i64 x), hg, hr0⟩
theorem cellS112_2 {W : World} {g : Nat} {A0 : Option Addr} {c0 : Nat} {f0 : List Int} {f1 : Int} {f2 : Int} (h : W.heap[g]? = some (.cells #[.slice A0 f0.length c0, .int .i64 f1, .int .i64 f2] 112 (0, 0))) : W.cell? ⟨g, 2, none⟩ = some (.int .i64 f2) := (uG h 2).trans rfl
theorem IsS112.set_2 {w0 W : World} {g : Nat} {f0 : List Int} {f1 : Int} {f2 : Int} (h : IsS112 w0 W g f0 f1 f2) (x : Int) : IsS112 w0 (W.setCell ⟨g, 2, none⟩ (.int .i64 x)) g f0 f1 x := by
  obtain ⟨A0, c0, hb, hg, hr0⟩ := h
  exact ⟨A0, c0, by simpa using blk_set hb 2 (.int .i64 x), hg, hr0⟩
theorem IsS112.new (w0 W : World) (A0 : Option Addr) (c0 : Nat) (f0 : List Int) (f1 : Int) (f2 : Int) (hB : Below w0.heap.size w0 W) (hr0 : Kd.C (Kd.int .u8) w0 A0 f0.length f0) : IsS112 w0 (W.alloc (.cells #[.slice A0 f0.length c0, .int .i64 f1, .int .i64 f2] 112)) W.heap.size f0 f1 f2 := ⟨A0, c0, by simpa using heap_alloc_new W _, hB.size, hr0⟩

/-! ### spec_l1New: function 58 -/
def spec_l1New.l0 : Nat → List Int → Int → Int → Option (List Int × Int × Int)
  | 0, _, _, _ => none
  | k + 1, x0, x3, x4 => if x4 < (x0.length : Int) then (if x4 < 4000 then (if 0 ≤ x4 then (spec_l1New.l0 k x0 (Go.bits .and .i64 (wrap64 ((wrap64 ((wrap64 (x3 * 131)) + (wrap64 (rd x0 x4)))) + 7)) 1073741823) (wrap64 (x4 + 1))) else (none)) else (some (x0, 0, x3))) else (some (x0, 0, x3))
def spec_l1New.f (k : Nat) (l0 : List Int) : Option (List Int × Int × Int) := spec_l1New.l0 k l0 (wrap64 (10101 + (l0.length : Int))) 0
theorem spec_l1New.mono_l : ∀ k, (∀ y0 y1 y2, uN (spec_l1New.l0 k y0 y1 y2) (spec_l1New.l0 (k + 1) y0 y1 y2))
  | 0 => fun _ _ _ r h => by simp [spec_l1New.l0] at h
  | k + 1 => by
    have ih0 := spec_l1New.mono_l k
    intro y0 y1 y2
    unfold spec_l1New.l0
    repeat' first
    | (with_reducible exact ih0 _ _ _)
    | (with_reducible exact uN.refl _)
    | (with_reducible exact uN.none _)
    | (with_reducible refine uN.ite ?_ ?_)
    | (with_reducible refine uN.bind ?_ (fun _ => ?_))
    | exact ih0 _ _ _
    | exact uN.none _
    | refine uN.ite ?_ ?_
    | refine uN.bind ?_ (fun _ => ?_)
theorem spec_l1New.mono : ∀ a0 k, uN (spec_l1New.f k a0) (spec_l1New.f (k + 1) a0) := by
  intro a0 k
  have ih0 := spec_l1New.mono_l k
  unfold spec_l1New.f
  repeat' first
      | (with_reducible exact ih0 _ _ _)
      | (with_reducible exact uN.refl _)
      | (with_reducible exact uN.none _)
      | (with_reducible refine uN.ite ?_ ?_)
      | (with_reducible refine uN.bind ?_ (fun _ => ?_))
      | exact ih0 _ _ _
      | exact uN.none _
      | refine uN.ite ?_ ?_
      | refine uN.bind ?_ (fun _ => ?_)
set_option maxHeartbeats 8000000 in
set_option maxRecDepth 100000 in
theorem spec_l1New.calls (k : Nat) (A0 : Option Addr) (c0 : Nat) (l0 : List Int) (r1 : List Int) (r2 : Int) (r3 : Int) (w0 w : World) (hB : Below w0.heap.size w0 w) (hr0 : Kd.C (Kd.int .u8) w0 A0 l0.length l0) (hc0 : l0.length ≤ c0) (h : spec_l1New.f k l0 = some (r1, r2, r3)) :
    Calls Try.prog 58 #[.slice A0 l0.length c0] w fun e w' => ∃ g_ : Nat, e = .returned (.pointer (some ⟨g_, 0, none⟩)) ∧ IsS112 w0 w' g_ r1 r2 r3 ∧ Below w0.heap.size w0 w' ∧ Below w.heap.size w w' := by
  have hu112 := Try.underlying112
  have HR0 := Aside0.mk hr0
  have HC0 := Aside0.mk hc0
  clear hr0 hc0
  have HBW := Aside0.mk (Below.refl w.heap.size w)
  have HW0 := Aside0.mk hB.size
  have HB := Aside0.mk hB
  clear hB
  have H : (spec_l1New.l0 k l0 (wrap64 (10101 + (l0.length : Int))) 0) = some (r1, r2, r3) := h
  clear h
  have H' := Aside0.mk H
  clear H
  go_enter Try.func58, Try.ntmps58
  go_wp2
  go_loopg [3, 4] k (fun kq v3 v4 w' => ∃ (x3_1 : Int) (x4_1 : Int), v3 = .int .i64 x3_1 ∧ v4 = .int .i64 x4_1 ∧ Aside0 (spec_l1New.l0 kq l0 x3_1 x4_1 = some (r1, r2, r3)) ∧ Aside0 (kq ≤ k) ∧ Aside0 (Below w.heap.size w w') ∧ Aside0 (Below w0.heap.size w0 w'))
  case atStart => exact ⟨(wrap64 (10101 + (l0.length : Int))), (0), q43, q43, H', ⟨Nat.le_refl _⟩, ⟨q85⟩, ⟨q28⟩⟩
  case round =>
    clear H'
    obtain ⟨x3_1, x4_1, rfl, rfl, HA, HK1, HBW, HB⟩ := hrel
    cases gk with
    | zero => exact absurd HA.out (by simp [spec_l1New.l0])
    | succ k1 =>
      have H := HA.out
      clear HA
      simp only [spec_l1New.l0] at H
      by_cases c2 : x4_1 < (l0.length : Int)
      rotate_left
      · rw [if_neg c2] at H
        have c2b0 : decide (x4_1 < (l0.length : Int)) = false := decide_eq_false c2
        clear c2
        simp only [Option.some.injEq, Prod.mk.injEq] at H
        obtain ⟨rfl, rfl, rfl⟩ := H
        go_wp2_with (first | ((with_reducible refine uI (N := 31) rfl ?_); refine bxe 31 #[.slice A0 l0.length c0, .int .i64 0, .int .i64 x3_1] 112 ?_; intro gb146 hg w6 hbox hb; have BK146 := Aside0.mk (hbox); have GW146 := tGe HBW hg; have GE146 := Aside0.mk ((Nat.le_trans HW0.out (by rw [hg]; exact (vL q85) : w.heap.size ≤ gb146) : w0.heap.size ≤ gb146)); replace HBW := Aside0.mk (below_step HBW.out hb); replace HB := tBel HB hb; clear hb hbox hg))
        go_ret
        exact ⟨_, rfl, (show IsS112 w0 _ gb146 l0 0 x3_1 from ⟨_, _, by (with_reducible repeat (first | refine uF ?_ _ | refine uB ?_ | refine uE ?_ _)); exact BK146.out, GE146.out, HR0.out⟩), q1, by repeat (first | (with_reducible first | exact HBW.out | apply below_alloc | apply vE | apply vD | refine below_set ?_ GW146.out) | exact HBW.out)⟩
      rw [if_pos c2] at H
      have c2b0 : decide (x4_1 < (l0.length : Int)) = true := decide_eq_true c2
      clear c2
      by_cases c3 : x4_1 < 4000
      · rw [if_pos c3] at H
        have c3b0 : decide (x4_1 < 4000) = true := decide_eq_true c3
        clear c3
        by_cases c4 : 0 ≤ x4_1
        rotate_left
        · rw [if_neg c4] at H
          exact absurd H (by simp)
        rw [if_pos c4] at H
        have c4b0 : decide (0 ≤ x4_1) = true := decide_eq_true c4
        clear c4
        have H' := Aside0.mk H
        clear H
        have p145 : 0 ≤ (x4_1 : Int) := of_decide_eq_true q25
        have q145 : x4_1 < (l0.length : Int) := of_decide_eq_true q25
        obtain ⟨ad145, e145, hx145_0⟩ := Kd.at_int HR0.out x4_1 p145 q145
        cases e145
        replace hx145_0 := pw_cell_below HB.out hx145_0
        replace p145 := eq_true p145
        replace q145 := eq_true q145
        go_wp2
        go_roundg k1
        case measure => have := HK1.out; omega
        case rel => exact ⟨(Go.bits .and .i64 (wrap64 ((wrap64 ((wrap64 (x3_1 * 131)) + (wrap64 (rd l0 x4_1)))) + 7)) 1073741823), (wrap64 (x4_1 + 1)), q43, q43, H', ⟨by have := HK1.out; omega⟩, ⟨q85⟩, ⟨q28⟩⟩
      rw [if_neg c3] at H
      have c3b0 : decide (x4_1 < 4000) = false := decide_eq_false c3
      clear c3
      simp only [Option.some.injEq, Prod.mk.injEq] at H
      obtain ⟨rfl, rfl, rfl⟩ := H
      go_wp2_with (first | ((with_reducible refine uI (N := 31) rfl ?_); refine bxe 31 #[.slice A0 l0.length c0, .int .i64 0, .int .i64 x3_1] 112 ?_; intro gb146 hg w5 hbox hb; have BK146 := Aside0.mk (hbox); have GW146 := tGe HBW hg; have GE146 := Aside0.mk ((Nat.le_trans HW0.out (by rw [hg]; exact (vL q85) : w.heap.size ≤ gb146) : w0.heap.size ≤ gb146)); replace HBW := Aside0.mk (below_step HBW.out hb); replace HB := tBel HB hb; clear hb hbox hg))
      go_ret
      exact ⟨_, rfl, (show IsS112 w0 _ gb146 l0 0 x3_1 from ⟨_, _, by (with_reducible repeat (first | refine uF ?_ _ | refine uB ?_ | refine uE ?_ _)); exact BK146.out, GE146.out, HR0.out⟩), q1, by repeat (first | (with_reducible first | exact HBW.out | apply below_alloc | apply vE | apply vD | refine below_set ?_ GW146.out) | exact HBW.out)⟩

/-! ### spec_l1Byte: function 90 -/
def spec_l1Byte.f (s0_0 : List Int) (s0_1 : Int) (s0_2 : Int) : Option (Int × Int × Int) := if s0_1 < (s0_0.length : Int) then (if 0 ≤ s0_1 then (some (Go.bits .and .i64 (wrap64 ((Go.bits .and .i64 (Go.bits .xor .i64 ((wrap64 ((wrap64 (s0_2 * 6364136223846793005)) + 1442695040888963407)) / 8589934592) ((wrap64 ((wrap64 (s0_2 * 6364136223846793005)) + 1442695040888963407)) / 35184372088832)) 255) + (wrap64 (rd s0_0 s0_1)))) 255, wrap64 (s0_1 + 1), wrap64 ((wrap64 (s0_2 * 6364136223846793005)) + 1442695040888963407))) else (none)) else (some (Go.bits .and .i64 (Go.bits .xor .i64 ((wrap64 ((wrap64 (s0_2 * 6364136223846793005)) + 1442695040888963407)) / 8589934592) ((wrap64 ((wrap64 (s0_2 * 6364136223846793005)) + 1442695040888963407)) / 35184372088832)) 255, s0_1, wrap64 ((wrap64 (s0_2 * 6364136223846793005)) + 1442695040888963407)))
set_option maxHeartbeats 8000000 in
set_option maxRecDepth 100000 in
theorem spec_l1Byte.calls (g : Nat) (s0_0 : List Int) (s0_1 : Int) (s0_2 : Int) (r1 : Int) (r2 : Int) (r3 : Int) (w0 w : World) (hI : IsS112 w0 w g s0_0 s0_1 s0_2) (hB : Below w0.heap.size w0 w) (h : spec_l1Byte.f s0_0 s0_1 s0_2 = some (r1, r2, r3)) :
    Calls Try.prog 90 #[.pointer (some ⟨g, 0, none⟩)] w fun e w' => e = .returned (.int .i64 r1) ∧ IsS112 w0 w' g s0_0 r2 r3 ∧ Below w0.heap.size w0 w' ∧ uX w w' g none := by
  have HI0 := Aside0.mk hI
  have HK := Aside0.mk (uX.refl w g none)
  have HL := Aside0.mk hB.size
  clear hI
  have HW0 := Aside0.mk hB.size
  have HB := Aside0.mk hB
  clear hB
  have H : (if s0_1 < (s0_0.length : Int) then (if 0 ≤ s0_1 then (some (Go.bits .and .i64 (wrap64 ((Go.bits .and .i64 (Go.bits .xor .i64 ((wrap64 ((wrap64 (s0_2 * 6364136223846793005)) + 1442695040888963407)) / 8589934592) ((wrap64 ((wrap64 (s0_2 * 6364136223846793005)) + 1442695040888963407)) / 35184372088832)) 255) + (wrap64 (rd s0_0 s0_1)))) 255, wrap64 (s0_1 + 1), wrap64 ((wrap64 (s0_2 * 6364136223846793005)) + 1442695040888963407))) else (none)) else (some (Go.bits .and .i64 (Go.bits .xor .i64 ((wrap64 ((wrap64 (s0_2 * 6364136223846793005)) + 1442695040888963407)) / 8589934592) ((wrap64 ((wrap64 (s0_2 * 6364136223846793005)) + 1442695040888963407)) / 35184372088832)) 255, s0_1, wrap64 ((wrap64 (s0_2 * 6364136223846793005)) + 1442695040888963407)))) = some (r1, r2, r3) := h
  clear h
  by_cases c2 : s0_1 < (s0_0.length : Int)
  rotate_left
  · rw [if_neg c2] at H
    have c2b0 : decide (s0_1 < (s0_0.length : Int)) = false := decide_eq_false c2
    clear c2
    simp only [Option.some.injEq, Prod.mk.injEq] at H
    obtain ⟨rfl, rfl, rfl⟩ := H
    obtain ⟨ASz5_0, cSz5_0, HGz5, hgz5, HSz5_0⟩ := HI0.out
    have hcz5_0 := cellS112_0 HGz5
    have hcz5_1 := cellS112_1 HGz5
    have hcz5_2 := cellS112_2 HGz5
    have hfz5_1 := vM HGz5 1
    have hfz5_2 := vM HGz5 2
    clear HGz5 hgz5
    go_enter Try.func90, Try.ntmps90
    go_wp2
    repeat (go_quiet (fail); try go_wp2)
    go_ret
    exact ⟨q5, q6, q16, q53⟩
  rw [if_pos c2] at H
  have c2b0 : decide (s0_1 < (s0_0.length : Int)) = true := decide_eq_true c2
  clear c2
  by_cases c3 : 0 ≤ s0_1
  rotate_left
  · rw [if_neg c3] at H
    exact absurd H (by simp)
  rw [if_pos c3] at H
  have c3b0 : decide (0 ≤ s0_1) = true := decide_eq_true c3
  clear c3
  simp only [Option.some.injEq, Prod.mk.injEq] at H
  obtain ⟨rfl, rfl, rfl⟩ := H
  obtain ⟨ASz4_0, cSz4_0, HGz4, hgz4, HSz4_0⟩ := HI0.out
  have hcz4_0 := cellS112_0 HGz4
  have hcz4_1 := cellS112_1 HGz4
  have hcz4_2 := cellS112_2 HGz4
  have hfz4_1 := vM HGz4 1
  have hfz4_2 := vM HGz4 2
  clear HGz4 hgz4
  have p147 : 0 ≤ (s0_1 : Int) := of_decide_eq_true q25
  have q147 : s0_1 < (s0_0.length : Int) := of_decide_eq_true q25
  obtain ⟨ad147, e147, hx147_0⟩ := Kd.at_int HSz4_0 s0_1 p147 q147
  cases e147
  have hn147_0 : ad147.block ≠ g := Nat.ne_of_lt (Nat.lt_of_lt_of_le (by have := vU _ _ hx147_0; first | rwa [add_block] at this | exact this) (IsS112.ge HI0.out))
  replace hx147_0 := pw_cell_below HB.out hx147_0
  replace hx147_0 := (cell_far (p := ⟨g, 2, none⟩) (by first | (rw [add_block]; exact hn147_0) | (show (Addr.add _ _).block ≠ _; rw [add_block]; exact hn147_0) | exact hn147_0) (.int .i64 (wrap64 ((wrap64 (s0_2 * 6364136223846793005)) + 1442695040888963407)))).trans hx147_0
  (try have hy147_0 := fun (n_ : Nat) => (show (((w.drewN n_).setCell ⟨g, 2, none⟩ (.int .i64 (wrap64 ((wrap64 (s0_2 * 6364136223846793005)) + 1442695040888963407))))).cell? _ = some _ from hx147_0))
  clear hn147_0
  replace p147 := eq_true p147
  replace q147 := eq_true q147
  go_enter Try.func90, Try.ntmps90
  go_wp2
  repeat (go_quiet (fail); try go_wp2)
  go_ret
  exact ⟨q5, q6, q16, q53⟩

/-! ### spec_l1Below: function 74 -/
def spec_l1Below.f (s0_0 : List Int) (s0_1 : Int) (s0_2 : Int) (a1 : Int) : Option (Int × Int × Int) := if a1 ≤ 0 then (some (0, s0_1, s0_2)) else (if a1 ≤ 256 then ((spec_l1Byte.f s0_0 s0_1 s0_2).bind fun bt148 => (if a1 = 0 then (none) else (some (Int.tmod bt148.1 a1, bt148.2.1, bt148.2.2)))) else ((spec_l1Byte.f s0_0 s0_1 s0_2).bind fun bt151 => ((spec_l1Byte.f s0_0 bt151.2.1 bt151.2.2).bind fun bt154 => ((spec_l1Byte.f s0_0 bt154.2.1 bt154.2.2).bind fun bt157 => ((spec_l1Byte.f s0_0 bt157.2.1 bt157.2.2).bind fun bt160 => (if a1 = 0 then (none) else (some (Int.tmod (wrap64 ((wrap64 ((wrap64 ((wrap64 (bt151.1 * 16777216)) + (wrap64 (bt154.1 * 65536)))) + (wrap64 (bt157.1 * 256)))) + bt160.1)) a1, bt160.2.1, bt160.2.2))))))))
set_option maxHeartbeats 8000000 in
set_option maxRecDepth 100000 in
theorem spec_l1Below.calls (g : Nat) (s0_0 : List Int) (s0_1 : Int) (s0_2 : Int) (a1 : Int) (r1 : Int) (r2 : Int) (r3 : Int) (w0 w : World) (hI : IsS112 w0 w g s0_0 s0_1 s0_2) (hB : Below w0.heap.size w0 w) (h : spec_l1Below.f s0_0 s0_1 s0_2 a1 = some (r1, r2, r3)) :
    Calls Try.prog 74 #[.pointer (some ⟨g, 0, none⟩), .int .i64 a1] w fun e w' => e = .returned (.int .i64 r1) ∧ IsS112 w0 w' g s0_0 r2 r3 ∧ Below w0.heap.size w0 w' ∧ uX w w' g none := by
  have HI0 := Aside0.mk hI
  have HK := Aside0.mk (uX.refl w g none)
  have HL := Aside0.mk hB.size
  clear hI
  have HW0 := Aside0.mk hB.size
  have HB := Aside0.mk hB
  clear hB
  have H : (if a1 ≤ 0 then (some (0, s0_1, s0_2)) else (if a1 ≤ 256 then ((spec_l1Byte.f s0_0 s0_1 s0_2).bind fun bt148 => (if a1 = 0 then (none) else (some (Int.tmod bt148.1 a1, bt148.2.1, bt148.2.2)))) else ((spec_l1Byte.f s0_0 s0_1 s0_2).bind fun bt151 => ((spec_l1Byte.f s0_0 bt151.2.1 bt151.2.2).bind fun bt154 => ((spec_l1Byte.f s0_0 bt154.2.1 bt154.2.2).bind fun bt157 => ((spec_l1Byte.f s0_0 bt157.2.1 bt157.2.2).bind fun bt160 => (if a1 = 0 then (none) else (some (Int.tmod (wrap64 ((wrap64 ((wrap64 ((wrap64 (bt151.1 * 16777216)) + (wrap64 (bt154.1 * 65536)))) + (wrap64 (bt157.1 * 256)))) + bt160.1)) a1, bt160.2.1, bt160.2.2))))))))) = some (r1, r2, r3) := h
  clear h
  by_cases c3 : a1 ≤ 0
  · rw [if_pos c3] at H
    have c3b0 : decide (a1 ≤ 0) = true := decide_eq_true c3
    clear c3
    simp only [Option.some.injEq, Prod.mk.injEq] at H
    obtain ⟨rfl, rfl, rfl⟩ := H
    go_enter Try.func74, Try.ntmps74
    go_wp2
    go_ret
    exact ⟨q5, q6, q16, q53⟩
  rw [if_neg c3] at H
  have c3b0 : decide (a1 ≤ 0) = false := decide_eq_false c3
  clear c3
  by_cases c4 : a1 ≤ 256
  · rw [if_pos c4] at H
    have c4b0 : decide (a1 ≤ 256) = true := decide_eq_true c4
    clear c4
    replace H := Option.bind_eq_some_iff.mp H
    obtain ⟨⟨t148, t149, t150⟩, A50, H⟩ := H
    try dsimp only at H
    have A5 := Aside0.mk A50
    clear A50
    by_cases c6 : a1 = 0
    · rw [if_pos c6] at H
      exact absurd H (by simp)
    rw [if_neg c6] at H
    have c6b0 : (a1 == 0) = false := beq_eq_false_iff_ne.mpr c6
    have c6b1 : (a1 != 0) = true := bne_iff_ne.mpr c6
    simp only [Option.some.injEq, Prod.mk.injEq] at H
    obtain ⟨rfl, rfl, rfl⟩ := H
    go_enter Try.func74, Try.ntmps74
    go_wp2_with (first | ((with_reducible refine uH (f := 90) rfl ?_); refine vC (some 14) Try.func90 #[.pointer (some ⟨g, 0, none⟩)] ?_; (with_reducible refine (spec_l1Byte.calls g s0_0 s0_1 s0_2 t148 t149 t150 w0 _ ?side1 ?side2 A5.out).mono ?_); (case side1 => exact q6); (case side2 => exact q16); rintro e w7 ⟨rfl, hi, hb, hk⟩; refine ⟨_, rfl, ?_⟩; replace HK := uU HK hk; replace HB := Aside0.mk (hb); replace HI0 := Aside0.mk (hi); (try clear hb); (try clear hb2); (try clear hk); (try clear hi)))
    go_ret
    exact ⟨q5, q6, q16, q53⟩
  rw [if_neg c4] at H
  have c4b0 : decide (a1 ≤ 256) = false := decide_eq_false c4
  clear c4
  replace H := Option.bind_eq_some_iff.mp H
  obtain ⟨⟨t151, t152, t153⟩, A80, H⟩ := H
  try dsimp only at H
  have A8 := Aside0.mk A80
  clear A80
  replace H := Option.bind_eq_some_iff.mp H
  obtain ⟨⟨t154, t155, t156⟩, A90, H⟩ := H
  try dsimp only at H
  have A9 := Aside0.mk A90
  clear A90
  replace H := Option.bind_eq_some_iff.mp H
  obtain ⟨⟨t157, t158, t159⟩, A100, H⟩ := H
  try dsimp only at H
  have A10 := Aside0.mk A100
  clear A100
  replace H := Option.bind_eq_some_iff.mp H
  obtain ⟨⟨t160, t161, t162⟩, A110, H⟩ := H
  try dsimp only at H
  have A11 := Aside0.mk A110
  clear A110
  by_cases c12 : a1 = 0
  · rw [if_pos c12] at H
    exact absurd H (by simp)
  rw [if_neg c12] at H
  have c12b0 : (a1 == 0) = false := beq_eq_false_iff_ne.mpr c12
  have c12b1 : (a1 != 0) = true := bne_iff_ne.mpr c12
  simp only [Option.some.injEq, Prod.mk.injEq] at H
  obtain ⟨rfl, rfl, rfl⟩ := H
  go_enter Try.func74, Try.ntmps74
  go_wp2_with (first | ((with_reducible refine uH (f := 90) rfl ?_); refine vC (some 18) Try.func90 #[.pointer (some ⟨g, 0, none⟩)] ?_; (with_reducible refine (spec_l1Byte.calls g s0_0 s0_1 s0_2 t151 t152 t153 w0 _ ?side1 ?side2 A8.out).mono ?_); (case side1 => exact q6); (case side2 => exact q16); rintro e w13 ⟨rfl, hi, hb, hk⟩; refine ⟨_, rfl, ?_⟩; replace HK := uU HK hk; replace HB := Aside0.mk (hb); replace HI0 := Aside0.mk (hi); (try clear hb); (try clear hb2); (try clear hk); (try clear hi)) | ((with_reducible refine uH (f := 90) rfl ?_); refine vC (some 20) Try.func90 #[.pointer (some ⟨g, 0, none⟩)] ?_; (with_reducible refine (spec_l1Byte.calls g s0_0 t152 t153 t154 t155 t156 w0 _ ?side1 ?side2 A9.out).mono ?_); (case side1 => exact q6); (case side2 => exact q16); rintro e w14 ⟨rfl, hi, hb, hk⟩; refine ⟨_, rfl, ?_⟩; replace HK := uU HK hk; replace HB := Aside0.mk (hb); replace HI0 := Aside0.mk (hi); (try clear hb); (try clear hb2); (try clear hk); (try clear hi)) | ((with_reducible refine uH (f := 90) rfl ?_); refine vC (some 22) Try.func90 #[.pointer (some ⟨g, 0, none⟩)] ?_; (with_reducible refine (spec_l1Byte.calls g s0_0 t155 t156 t157 t158 t159 w0 _ ?side1 ?side2 A10.out).mono ?_); (case side1 => exact q6); (case side2 => exact q16); rintro e w15 ⟨rfl, hi, hb, hk⟩; refine ⟨_, rfl, ?_⟩; replace HK := uU HK hk; replace HB := Aside0.mk (hb); replace HI0 := Aside0.mk (hi); (try clear hb); (try clear hb2); (try clear hk); (try clear hi)) | ((with_reducible refine uH (f := 90) rfl ?_); refine vC (some 24) Try.func90 #[.pointer (some ⟨g, 0, none⟩)] ?_; (with_reducible refine (spec_l1Byte.calls g s0_0 t158 t159 t160 t161 t162 w0 _ ?side1 ?side2 A11.out).mono ?_); (case side1 => exact q6); (case side2 => exact q16); rintro e w16 ⟨rfl, hi, hb, hk⟩; refine ⟨_, rfl, ?_⟩; replace HK := uU HK hk; replace HB := Aside0.mk (hb); replace HI0 := Aside0.mk (hi); (try clear hb); (try clear hb2); (try clear hk); (try clear hi)))
  go_ret
  exact ⟨q5, q6, q16, q53⟩

/-! ### spec_l1PickInt: function 75 -/
def spec_l1PickInt.f (s0_0 : List Int) (s0_1 : Int) (s0_2 : Int) (l1 : List Int) : Option (Int × Int × Int) := (spec_l1Below.f s0_0 s0_1 s0_2 (l1.length : Int)).bind fun bt163 => (if 0 ≤ bt163.1 then (if bt163.1 < (l1.length : Int) then (some (rd l1 bt163.1, bt163.2.1, bt163.2.2)) else (none)) else (none))
set_option maxHeartbeats 8000000 in
set_option maxRecDepth 100000 in
theorem spec_l1PickInt.calls (g : Nat) (s0_0 : List Int) (s0_1 : Int) (s0_2 : Int) (A1 : Option Addr) (c1 : Nat) (l1 : List Int) (r1 : Int) (r2 : Int) (r3 : Int) (w0 w : World) (hI : IsS112 w0 w g s0_0 s0_1 s0_2) (hB : Below w0.heap.size w0 w) (hr1 : Kd.C (Kd.int .i64) w A1 l1.length l1) (hc1 : l1.length ≤ c1) (hf1 : ∀ ad, A1 = some ad → 0 < l1.length → ad.block ≠ g) (h : spec_l1PickInt.f s0_0 s0_1 s0_2 l1 = some (r1, r2, r3)) :
    Calls Try.prog 75 #[.pointer (some ⟨g, 0, none⟩), .slice A1 l1.length c1] w fun e w' => e = .returned (.int .i64 r1) ∧ IsS112 w0 w' g s0_0 r2 r3 ∧ Below w0.heap.size w0 w' ∧ uX w w' g none := by
  have HR1 := Aside0.mk hr1
  have HC1 := Aside0.mk hc1
  clear hr1 hc1
  have HI0 := Aside0.mk hI
  have HK := Aside0.mk (uX.refl w g none)
  have HL := Aside0.mk hB.size
  clear hI
  have HW0 := Aside0.mk hB.size
  have HB := Aside0.mk hB
  clear hB
  have H : ((spec_l1Below.f s0_0 s0_1 s0_2 (l1.length : Int)).bind fun bt163 => (if 0 ≤ bt163.1 then (if bt163.1 < (l1.length : Int) then (some (rd l1 bt163.1, bt163.2.1, bt163.2.2)) else (none)) else (none))) = some (r1, r2, r3) := h
  clear h
  replace H := Option.bind_eq_some_iff.mp H
  obtain ⟨⟨t163, t164, t165⟩, A30, H⟩ := H
  try dsimp only at H
  have A3 := Aside0.mk A30
  clear A30
  by_cases c4 : 0 ≤ t163
  rotate_left
  · rw [if_neg c4] at H
    exact absurd H (by simp)
  rw [if_pos c4] at H
  have c4b0 : decide (0 ≤ t163) = true := decide_eq_true c4
  clear c4
  by_cases c5 : t163 < (l1.length : Int)
  rotate_left
  · rw [if_neg c5] at H
    exact absurd H (by simp)
  rw [if_pos c5] at H
  have c5b0 : decide (t163 < (l1.length : Int)) = true := decide_eq_true c5
  clear c5
  simp only [Option.some.injEq, Prod.mk.injEq] at H
  obtain ⟨rfl, rfl, rfl⟩ := H
  go_enter Try.func75, Try.ntmps75
  go_wp2_with (first | ((with_reducible refine uH (f := 74) rfl ?_); refine vC (some 9) Try.func74 #[.pointer (some ⟨g, 0, none⟩), .int .i64 (l1.length : Int)] ?_; (with_reducible refine (spec_l1Below.calls g s0_0 s0_1 s0_2 (l1.length : Int) t163 t164 t165 w0 _ ?side1 ?side2 A3.out).mono ?_); (case side1 => exact q6); (case side2 => exact q16); rintro e w6 ⟨rfl, hi, hb, hk⟩; refine ⟨_, rfl, ?_⟩; replace HK := uU HK hk; replace HB := Aside0.mk (hb); replace HI0 := Aside0.mk (hi); (try clear hb); (try clear hb2); (try clear hk); (try clear hi); have p166 : 0 ≤ (t163 : Int) := of_decide_eq_true q25; have q166 : t163 < (l1.length : Int) := of_decide_eq_true q25; obtain ⟨ad166, e166, hx166_0⟩ := Kd.at_int HR1.out t163 p166 q166; cases e166; replace hx166_0 := keep_cell HK.out hx166_0 (by first | (rw [add_block]; exact hf1 _ rfl (by omega)) | exact hf1 _ rfl (by omega) | exact hf1 ad166 rfl (by omega)); replace p166 := eq_true p166; replace q166 := eq_true q166))
  go_ret
  exact ⟨q5, q6, q16, q53⟩

/-! ### spec_NewMachine: function 70 -/
def spec_NewMachine.f  : Option (List Int × (List (S49))) := some ((([0, 0, 0] : List Int)), ([] : List (S49)))
set_option maxHeartbeats 8000000 in
set_option maxRecDepth 100000 in
theorem spec_NewMachine.calls  (r1 : List Int) (r2 : List (S49)) (w : World) (h : spec_NewMachine.f  = some (r1, r2)) :
    Calls Try.prog 70 #[] w fun e w' => ∃ v0_ v1_ : Value, e = .returned (.agg #[v0_, v1_]) ∧ Kd.R (Kd.int .i64) 3 w' w.heap.size (fun _ => True) v0_ r1 ∧ Kd.R k49 49 w' w.heap.size (fun _ => True) v1_ r2 ∧ Below w.heap.size w w' := by
  have hu31 := Try.underlying31
  have HB := Aside0.mk (Below.refl w.heap.size w)
  have H : (some ((([0, 0, 0] : List Int)), ([] : List (S49)))) = some (r1, r2) := h
  clear h
  obtain ⟨y168, hy168⟩ : ∃ y_ : List Int, y_ = (([0, 0, 0] : List Int)) := ⟨_, rfl⟩
  replace H : (some (y168, ([] : List (S49)))) = some (r1, r2) := by first | (rw [hy168]; with_reducible exact H) | (have H2_ := (Option.bind_some _ _).symm.trans H; rw [hy168]; with_reducible exact H2_) | (have H2_ := (Option.bind_some _ _).symm.trans H; with_reducible exact H2_) | with_reducible exact H | (rw [hy168]; exact H) | exact H | rfl
  have Ny168 := Aside0.mk hy168
  clear hy168
  simp only [Option.some.injEq, Prod.mk.injEq] at H
  obtain ⟨rfl, rfl⟩ := H
  go_enter Try.func70, Try.ntmps70
  go_wp2_with (first | ((with_reducible refine uI (N := 0) rfl ?_); refine bxe 0 #[.slice none 0 0, .slice none 0 0] 31 ?_; intro gb167 hg w1 hbox hb; have BK167 := Aside0.mk (hbox); have GW167 := tGe HB hg; have GE167 := tGe HB hg; replace HB := tBel HB hb; clear hb hbox hg) | ((with_reducible refine uI (N := 1) rfl ?_); refine Kd.R_lit (Kd.int .i64) _ 3 ?hg (N := 1) ?hd (xs := ([0, 0, 0] : List Int)) (inner := [.int .i64 0, .int .i64 0, .int .i64 0]) (ok := fun _ => True) (okp := fun _ => True) ?hr ?hp (fun _ hk => hk) trivial (Below.refl _ _) (Nat.le_refl _) (by simp) ?_; (case hd => rfl); (case hg => rfl); (case hr => first | (go_simp; done) | (go_simp; rfl)); (case hp => exact (Reps.one (show Kd.M (Kd.int .i64) _ _ _ 0 [.int .i64 0] from rfl) (Reps.one (show Kd.M (Kd.int .i64) _ _ _ 0 [.int .i64 0] from rfl) (Reps.one (show Kd.M (Kd.int .i64) _ _ _ 0 [.int .i64 0] from rfl) (Reps.none _ _))))); intro v169 w2 ho3 hb hg_ hnew_; clear hg_ hnew_; (first | rw [← Ny168.out] at ho3 | (simp only [Int.reduceToNat] at ho3; rw [← Ny168.out] at ho3)); have HO170 := Aside0.mk (Kd.vG ho3 (vL q1)); replace BK167 := uL BK167 hb; replace HB := tBel HB hb; clear hb ho3; obtain ⟨Ao4, co4, eo4⟩ := Kd.uW HO170.out; subst eo4; obtain ⟨hcz5_0, hcz5_1, hfz5_0, hfz5_1⟩ := cz2 BK167))
  refine bodyPost_ret (results_cell_row rfl _ _ gb167 31 #[.slice Ao4 y168.length co4, .slice none 0 0] (0, 0) _ rfl (by (with_reducible repeat (first | refine uF ?_ _ | refine uB ?_ | refine uE ?_ _)); refine uK (cs := #[.slice Ao4 y168.length co4, .slice none 0 0]) ?_ 1 _ rfl; (with_reducible repeat (first | refine uF ?_ _ | refine uB ?_ | refine uE ?_ _)); refine uK (cs := #[.slice none 0 0, .slice none 0 0]) ?_ 0 _ rfl; (with_reducible repeat (first | refine uF ?_ _ | refine uB ?_ | refine uE ?_ _)); exact BK167.out) Try.underlying31 rfl (by kernel_rfl)) rfl ?_
  exact ⟨_, _, q5, by (with_reducible repeat (first | apply Kd.vA | apply Kd.vB | apply Kd.uR)); exact Kd.uJ (Kd.uM (p := ⟨gb167, 1, none⟩) (Kd.uM (p := ⟨gb167, 0, none⟩) (Kd.uY HO170.out BK167.out (by decide)) (fun _ hk => hk.2) (.slice Ao4 y168.length co4)) (fun _ hk => hk.2) (.slice none 0 0)) (fun _ hk => trivial), by first | exact Kd.R_nil _ _ _ _ _ | exact Kd.N_nil _ _ _ _ _ | exact Kd.V_nil _ _ _ _ _ | exact Kd.Q_nil _ _ _ _ _ | exact Kd.S_nil _ _ _ _ _, q1⟩

/-! ### spec_l1Once: function 88 -/
def spec_l1Once.f (s0_0 : List Int) (s0_1 : Int) (s0_2 : Int) (a1 : Int) : Option (Bool × Int × Int) := (spec_l1Below.f s0_0 s0_1 s0_2 a1).bind fun bt171 => (some ((bt171.1 == 0), bt171.2.1, bt171.2.2))
set_option maxHeartbeats 8000000 in
set_option maxRecDepth 100000 in
theorem spec_l1Once.calls (g : Nat) (s0_0 : List Int) (s0_1 : Int) (s0_2 : Int) (a1 : Int) (r1 : Bool) (r2 : Int) (r3 : Int) (w0 w : World) (hI : IsS112 w0 w g s0_0 s0_1 s0_2) (hB : Below w0.heap.size w0 w) (h : spec_l1Once.f s0_0 s0_1 s0_2 a1 = some (r1, r2, r3)) :
    Calls Try.prog 88 #[.pointer (some ⟨g, 0, none⟩), .int .i64 a1] w fun e w' => e = .returned (.bool r1) ∧ IsS112 w0 w' g s0_0 r2 r3 ∧ Below w0.heap.size w0 w' ∧ uX w w' g none := by
  have HI0 := Aside0.mk hI
  have HK := Aside0.mk (uX.refl w g none)
  have HL := Aside0.mk hB.size
  clear hI
  have HW0 := Aside0.mk hB.size
  have HB := Aside0.mk hB
  clear hB
  have H : ((spec_l1Below.f s0_0 s0_1 s0_2 a1).bind fun bt171 => (some ((bt171.1 == 0), bt171.2.1, bt171.2.2))) = some (r1, r2, r3) := h
  clear h
  replace H := Option.bind_eq_some_iff.mp H
  obtain ⟨⟨t171, t172, t173⟩, A30, H⟩ := H
  try dsimp only at H
  have A3 := Aside0.mk A30
  clear A30
  simp only [Option.some.injEq, Prod.mk.injEq] at H
  obtain ⟨rfl, rfl, rfl⟩ := H
  go_enter Try.func88, Try.ntmps88
  go_wp2_with (first | ((with_reducible refine uH (f := 74) rfl ?_); refine vC (some 7) Try.func74 #[.pointer (some ⟨g, 0, none⟩), .int .i64 a1] ?_; (with_reducible refine (spec_l1Below.calls g s0_0 s0_1 s0_2 a1 t171 t172 t173 w0 _ ?side1 ?side2 A3.out).mono ?_); (case side1 => exact q6); (case side2 => exact q16); rintro e w4 ⟨rfl, hi, hb, hk⟩; refine ⟨_, rfl, ?_⟩; replace HK := uU HK hk; replace HB := Aside0.mk (hb); replace HI0 := Aside0.mk (hi); (try clear hb); (try clear hb2); (try clear hk); (try clear hi)))
  go_ret
  exact ⟨q5, q6, q16, q53⟩

/-! ### spec_l3Op: function 85 -/
def spec_l3Op.f (s0_0 : List Int) (s0_1 : Int) (s0_2 : Int) : Option (Int × Int × Int × Int × Int × Int × Int × Int) := (spec_l1Below.f s0_0 s0_1 s0_2 3).bind fun bt175 => ((spec_l1Below.f s0_0 bt175.2.1 bt175.2.2 5).bind fun bt178 => ((spec_l1Below.f s0_0 bt178.2.1 bt178.2.2 3).bind fun bt181 => ((spec_l1Below.f s0_0 bt181.2.1 bt181.2.2 10).bind fun bt184 => ((spec_l1Once.f s0_0 bt184.2.1 bt184.2.2 3).bind fun bt188 => (if bt188.1 = true then ((spec_l1PickInt.f s0_0 bt188.2.1 bt188.2.2 (([0, 0, 1, 5, 9] : List Int))).bind fun bt194 => (some (bt175.1, wrap64 (1 + bt178.1), 2, bt181.1, bt194.1, bt184.1, bt194.2.1, bt194.2.2))) else (some (bt175.1, wrap64 (1 + bt178.1), 1, bt181.1, 0, bt184.1, bt188.2.1, bt188.2.2)))))))
set_option maxHeartbeats 8000000 in
set_option maxRecDepth 100000 in
theorem spec_l3Op.calls (g : Nat) (s0_0 : List Int) (s0_1 : Int) (s0_2 : Int) (r1 : Int) (r2 : Int) (r3 : Int) (r4 : Int) (r5 : Int) (r6 : Int) (r7 : Int) (r8 : Int) (w0 w : World) (hI : IsS112 w0 w g s0_0 s0_1 s0_2) (hB : Below w0.heap.size w0 w) (h : spec_l3Op.f s0_0 s0_1 s0_2 = some (r1, r2, r3, r4, r5, r6, r7, r8)) :
    Calls Try.prog 85 #[.pointer (some ⟨g, 0, none⟩)] w fun e w' => e = .returned (.agg #[.int .i64 r1, .int .i64 r2, .int .i64 r3, .int .i64 r4, .int .i64 r5, .int .i64 r6]) ∧ IsS112 w0 w' g s0_0 r7 r8 ∧ Below w0.heap.size w0 w' ∧ uX w w' g none := by
  have hu37 := Try.underlying37
  have HI0 := Aside0.mk hI
  have HK := Aside0.mk (uX.refl w g none)
  have HL := Aside0.mk hB.size
  clear hI
  have HW0 := Aside0.mk hB.size
  have HB := Aside0.mk hB
  clear hB
  have H : ((spec_l1Below.f s0_0 s0_1 s0_2 3).bind fun bt175 => ((spec_l1Below.f s0_0 bt175.2.1 bt175.2.2 5).bind fun bt178 => ((spec_l1Below.f s0_0 bt178.2.1 bt178.2.2 3).bind fun bt181 => ((spec_l1Below.f s0_0 bt181.2.1 bt181.2.2 10).bind fun bt184 => ((spec_l1Once.f s0_0 bt184.2.1 bt184.2.2 3).bind fun bt188 => (if bt188.1 = true then ((spec_l1PickInt.f s0_0 bt188.2.1 bt188.2.2 (([0, 0, 1, 5, 9] : List Int))).bind fun bt194 => (some (bt175.1, wrap64 (1 + bt178.1), 2, bt181.1, bt194.1, bt184.1, bt194.2.1, bt194.2.2))) else (some (bt175.1, wrap64 (1 + bt178.1), 1, bt181.1, 0, bt184.1, bt188.2.1, bt188.2.2)))))))) = some (r1, r2, r3, r4, r5, r6, r7, r8) := h
  clear h
  replace H := Option.bind_eq_some_iff.mp H
  obtain ⟨⟨t175, t176, t177⟩, A20, H⟩ := H
  try dsimp only at H
  have A2 := Aside0.mk A20
  clear A20
  replace H := Option.bind_eq_some_iff.mp H
  obtain ⟨⟨t178, t179, t180⟩, A30, H⟩ := H
  try dsimp only at H
  have A3 := Aside0.mk A30
  clear A30
  replace H := Option.bind_eq_some_iff.mp H
  obtain ⟨⟨t181, t182, t183⟩, A40, H⟩ := H
  try dsimp only at H
  have A4 := Aside0.mk A40
  clear A40
  replace H := Option.bind_eq_some_iff.mp H
  obtain ⟨⟨t184, t185, t186⟩, A50, H⟩ := H
  try dsimp only at H
  have A5 := Aside0.mk A50
  clear A50
  replace H := Option.bind_eq_some_iff.mp H
  obtain ⟨⟨t188, t189, t190⟩, A60, H⟩ := H
  try dsimp only at H
  have A6 := Aside0.mk A60
  clear A60
  go_enter Try.func85, Try.ntmps85
  go_wp2_with (first | ((with_reducible refine uI (N := 2) rfl ?_); refine bxe 2 #[.int .i64 0, .int .i64 0, .int .i64 0, .int .i64 0, .int .i64 0, .int .i64 0] 37 ?_; intro gb174 hg w27 hbox hb; have BK174 := Aside0.mk (hbox); have GW174 := tKGe HK hg; have GE174 := tKW HW0 HK hg; have NB0_174 := Aside0.mk ((by rw [hg]; exact Nat.ne_of_lt (IsS112.lt (show IsS112 w0 _ g s0_0 s0_1 s0_2 from by repeat (first | (with_reducible first | exact HI0.out | apply IsS112.alloc | apply IsS112.drewN | apply IsS112.drew | apply IsS112.set_1 | apply IsS112.set_2) | exact HI0.out))) : g ≠ gb174)); have NB174_0 := Aside0.mk ((by rw [hg]; exact Nat.ne_of_gt (IsS112.lt (show IsS112 w0 _ g s0_0 s0_1 s0_2 from by repeat (first | (with_reducible first | exact HI0.out | apply IsS112.alloc | apply IsS112.drewN | apply IsS112.drew | apply IsS112.set_1 | apply IsS112.set_2) | exact HI0.out))) : gb174 ≠ g)); replace HI0 := Aside0.mk (IsS112.below q6 hb); replace HK := uU HK (uX.of_below hb g none); replace HB := tBel1 HB hb; clear hb hbox hg; refine ?roundEnd))
  case roundEnd =>
  by_cases c7 : t188 = true
  rotate_left
  · replace c7 := Bool.eq_false_iff.mpr c7
    subst c7
    try rw [if_neg (show ¬ (false = true) by decide)] at H
    simp only [Option.some.injEq, Prod.mk.injEq] at H
    obtain ⟨rfl, rfl, rfl, rfl, rfl, rfl, rfl, rfl⟩ := H
    go_wp2_with (first | ((with_reducible refine uH (f := 74) rfl ?_); refine vC (some 5) Try.func74 #[.pointer (some ⟨g, 0, none⟩), .int .i64 3] ?_; (with_reducible refine (spec_l1Below.calls g s0_0 s0_1 s0_2 3 t175 t176 t177 w0 _ ?side1 ?side2 A2.out).mono ?_); (case side1 => exact q24); (case side2 => exact q0); rintro e w28 ⟨rfl, hi, hb, hk⟩; refine ⟨_, rfl, ?_⟩; replace BK174 := vH BK174 hk NB174_0; replace HK := uU HK hk; replace HB := Aside0.mk (hb); replace HI0 := Aside0.mk (hi); (try clear hb); (try clear hb2); (try clear hk); (try clear hi)) | ((with_reducible refine uH (f := 74) rfl ?_); refine vC (some 7) Try.func74 #[.pointer (some ⟨g, 0, none⟩), .int .i64 5] ?_; (with_reducible refine (spec_l1Below.calls g s0_0 t176 t177 5 t178 t179 t180 w0 _ ?side1 ?side2 A3.out).mono ?_); (case side1 => exact q24); (case side2 => exact q0); rintro e w29 ⟨rfl, hi, hb, hk⟩; refine ⟨_, rfl, ?_⟩; replace BK174 := vH BK174 hk NB174_0; replace HK := uU HK hk; replace HB := Aside0.mk (hb); replace HI0 := Aside0.mk (hi); (try clear hb); (try clear hb2); (try clear hk); (try clear hi)) | ((with_reducible refine uH (f := 74) rfl ?_); refine vC (some 10) Try.func74 #[.pointer (some ⟨g, 0, none⟩), .int .i64 3] ?_; (with_reducible refine (spec_l1Below.calls g s0_0 t179 t180 3 t181 t182 t183 w0 _ ?side1 ?side2 A4.out).mono ?_); (case side1 => exact q24); (case side2 => exact q0); rintro e w30 ⟨rfl, hi, hb, hk⟩; refine ⟨_, rfl, ?_⟩; replace BK174 := vH BK174 hk NB174_0; replace HK := uU HK hk; replace HB := Aside0.mk (hb); replace HI0 := Aside0.mk (hi); (try clear hb); (try clear hb2); (try clear hk); (try clear hi)) | ((with_reducible refine uH (f := 74) rfl ?_); refine vC (some 12) Try.func74 #[.pointer (some ⟨g, 0, none⟩), .int .i64 10] ?_; (with_reducible refine (spec_l1Below.calls g s0_0 t182 t183 10 t184 t185 t186 w0 _ ?side1 ?side2 A5.out).mono ?_); (case side1 => exact q24); (case side2 => exact q0); rintro e w31 ⟨rfl, hi, hb, hk⟩; refine ⟨_, rfl, ?_⟩; replace BK174 := vH BK174 hk NB174_0; replace HK := uU HK hk; replace HB := Aside0.mk (hb); replace HI0 := Aside0.mk (hi); (try clear hb); (try clear hb2); (try clear hk); (try clear hi)) | ((with_reducible refine uI (N := 3) rfl ?_); refine bxe 3 #[.int .i64 0, .int .i64 0, .int .i64 0, .int .i64 0, .int .i64 0, .int .i64 0] 37 ?_; intro gb187 hg w32 hbox hb; have BK187 := Aside0.mk (hbox); have GW187 := tKGe HK hg; have GE187 := tKW HW0 HK hg; have NB174_187 := tNl BK174 hg; have NB187_174 := tNg BK174 hg; have NB0_187 := Aside0.mk ((by rw [hg]; exact Nat.ne_of_lt (IsS112.lt (show IsS112 w0 _ g s0_0 t185 t186 from by repeat (first | (with_reducible first | exact HI0.out | apply IsS112.alloc | apply IsS112.drewN | apply IsS112.drew | apply IsS112.set_1 | apply IsS112.set_2 | refine IsS112.far ?_ NB0_174.out _) | exact HI0.out))) : g ≠ gb187)); have NB187_0 := Aside0.mk ((by rw [hg]; exact Nat.ne_of_gt (IsS112.lt (show IsS112 w0 _ g s0_0 t185 t186 from by repeat (first | (with_reducible first | exact HI0.out | apply IsS112.alloc | apply IsS112.drewN | apply IsS112.drew | apply IsS112.set_1 | apply IsS112.set_2 | refine IsS112.far ?_ NB0_174.out _) | exact HI0.out))) : gb187 ≠ g)); replace HI0 := Aside0.mk (IsS112.below q24 hb); replace BK174 := uL BK174 hb; replace HK := uU HK (uX.of_below hb g none); replace HB := tBel1 HB hb; clear hb hbox hg; have hnb33 := NB187_174.out; have hnc33 := NB174_187.out; have hnb34 := NB187_0.out; have hnc34 := NB0_187.out; obtain ⟨hcz35_0, hcz35_1, hcz35_2, hcz35_3, hcz35_4, hcz35_5, hfz35_0, hfz35_1, hfz35_2, hfz35_3, hfz35_4, hfz35_5⟩ := cz6 BK187) | ((with_reducible refine uH (f := 88) rfl ?_); refine vC (some 15) Try.func88 #[.pointer (some ⟨g, 0, none⟩), .int .i64 3] ?_; (with_reducible refine (spec_l1Once.calls g s0_0 t185 t186 3 false t189 t190 w0 _ ?side1 ?side2 A6.out).mono ?_); (case side1 => exact q45); (case side2 => exact q0); rintro e w36 ⟨rfl, hi, hb, hk⟩; refine ⟨_, rfl, ?_⟩; replace BK174 := tKBlkF BK174 hk NB174_0; replace BK187 := tKBlkP BK187 #[.int .i64 t175, .int .i64 (wrap64 (1 + t178)), .int .i64 1, .int .i64 t181, .int .i64 0, .int .i64 t184] hk NB187_0; replace HK := uU HK hk; replace HB := Aside0.mk (hb); replace HI0 := Aside0.mk (hi); (try clear hb); (try clear hb2); (try clear hk); (try clear hi); obtain ⟨hcz37_0, hcz37_1, hcz37_2, hcz37_3, hcz37_4, hcz37_5, hfz37_0, hfz37_1, hfz37_2, hfz37_3, hfz37_4, hfz37_5⟩ := cz6 BK187; have hnb38 := NB174_0.out; have hnc38 := NB0_174.out; obtain ⟨hcz39_0, hcz39_1, hcz39_2, hcz39_3, hcz39_4, hcz39_5, hfz39_0, hfz39_1, hfz39_2, hfz39_3, hfz39_4, hfz39_5⟩ := cz6 BK174))
    refine bodyPost_ret (results_cell_row rfl _ _ gb174 37 #[.int .i64 t175, .int .i64 (wrap64 (1 + t178)), .int .i64 1, .int .i64 t181, .int .i64 0, .int .i64 t184] (0, 0) _ rfl (by (with_reducible repeat (first | refine uF ?_ _ | refine uB ?_ | refine uE ?_ _)); refine uK (cs := #[.int .i64 t175, .int .i64 (wrap64 (1 + t178)), .int .i64 1, .int .i64 t181, .int .i64 0, .int .i64 0]) ?_ 5 _ rfl; (with_reducible repeat (first | refine uF ?_ _ | refine uB ?_ | refine uE ?_ _)); refine uK (cs := #[.int .i64 t175, .int .i64 (wrap64 (1 + t178)), .int .i64 1, .int .i64 t181, .int .i64 0, .int .i64 0]) ?_ 4 _ rfl; (with_reducible repeat (first | refine uF ?_ _ | refine uB ?_ | refine uE ?_ _)); refine uK (cs := #[.int .i64 t175, .int .i64 (wrap64 (1 + t178)), .int .i64 1, .int .i64 0, .int .i64 0, .int .i64 0]) ?_ 3 _ rfl; (with_reducible repeat (first | refine uF ?_ _ | refine uB ?_ | refine uE ?_ _)); refine uK (cs := #[.int .i64 t175, .int .i64 (wrap64 (1 + t178)), .int .i64 0, .int .i64 0, .int .i64 0, .int .i64 0]) ?_ 2 _ rfl; (with_reducible repeat (first | refine uF ?_ _ | refine uB ?_ | refine uE ?_ _)); refine uK (cs := #[.int .i64 t175, .int .i64 0, .int .i64 0, .int .i64 0, .int .i64 0, .int .i64 0]) ?_ 1 _ rfl; (with_reducible repeat (first | refine uF ?_ _ | refine uB ?_ | refine uE ?_ _)); refine uK (cs := #[.int .i64 0, .int .i64 0, .int .i64 0, .int .i64 0, .int .i64 0, .int .i64 0]) ?_ 0 _ rfl; (with_reducible repeat (first | refine uF ?_ _ | refine uB ?_ | refine uE ?_ _)); exact BK174.out) Try.underlying37 rfl (by kernel_rfl)) rfl ?_
    exact ⟨q5, q45, q0, q2⟩
  subst c7
  try rw [if_pos rfl] at H
  obtain ⟨y191, hy191⟩ : ∃ y_ : List Int, y_ = (([0, 0, 1, 5, 9] : List Int)) := ⟨_, rfl⟩
  replace H : ((spec_l1PickInt.f s0_0 t189 t190 y191).bind fun bt194 => (some (t175, wrap64 (1 + t178), 2, t181, bt194.1, t184, bt194.2.1, bt194.2.2))) = some (r1, r2, r3, r4, r5, r6, r7, r8) := by first | (rw [hy191]; with_reducible exact H) | (have H2_ := (Option.bind_some _ _).symm.trans H; rw [hy191]; with_reducible exact H2_) | (have H2_ := (Option.bind_some _ _).symm.trans H; with_reducible exact H2_) | with_reducible exact H | (rw [hy191]; exact H) | exact H | rfl
  have Ny191 := Aside0.mk hy191
  clear hy191
  replace H := Option.bind_eq_some_iff.mp H
  obtain ⟨⟨t194, t195, t196⟩, A80, H⟩ := H
  try dsimp only at H
  have A8 := Aside0.mk A80
  clear A80
  simp only [Option.some.injEq, Prod.mk.injEq] at H
  obtain ⟨rfl, rfl, rfl, rfl, rfl, rfl, rfl, rfl⟩ := H
  go_wp2_with (first | ((with_reducible refine uH (f := 74) rfl ?_); refine vC (some 5) Try.func74 #[.pointer (some ⟨g, 0, none⟩), .int .i64 3] ?_; (with_reducible refine (spec_l1Below.calls g s0_0 s0_1 s0_2 3 t175 t176 t177 w0 _ ?side1 ?side2 A2.out).mono ?_); (case side1 => exact q24); (case side2 => exact q0); rintro e w10 ⟨rfl, hi, hb, hk⟩; refine ⟨_, rfl, ?_⟩; replace BK174 := vH BK174 hk NB174_0; replace HK := uU HK hk; replace HB := Aside0.mk (hb); replace HI0 := Aside0.mk (hi); (try clear hb); (try clear hb2); (try clear hk); (try clear hi)) | ((with_reducible refine uH (f := 74) rfl ?_); refine vC (some 7) Try.func74 #[.pointer (some ⟨g, 0, none⟩), .int .i64 5] ?_; (with_reducible refine (spec_l1Below.calls g s0_0 t176 t177 5 t178 t179 t180 w0 _ ?side1 ?side2 A3.out).mono ?_); (case side1 => exact q24); (case side2 => exact q0); rintro e w11 ⟨rfl, hi, hb, hk⟩; refine ⟨_, rfl, ?_⟩; replace BK174 := vH BK174 hk NB174_0; replace HK := uU HK hk; replace HB := Aside0.mk (hb); replace HI0 := Aside0.mk (hi); (try clear hb); (try clear hb2); (try clear hk); (try clear hi)) | ((with_reducible refine uH (f := 74) rfl ?_); refine vC (some 10) Try.func74 #[.pointer (some ⟨g, 0, none⟩), .int .i64 3] ?_; (with_reducible refine (spec_l1Below.calls g s0_0 t179 t180 3 t181 t182 t183 w0 _ ?side1 ?side2 A4.out).mono ?_); (case side1 => exact q24); (case side2 => exact q0); rintro e w12 ⟨rfl, hi, hb, hk⟩; refine ⟨_, rfl, ?_⟩; replace BK174 := vH BK174 hk NB174_0; replace HK := uU HK hk; replace HB := Aside0.mk (hb); replace HI0 := Aside0.mk (hi); (try clear hb); (try clear hb2); (try clear hk); (try clear hi)) | ((with_reducible refine uH (f := 74) rfl ?_); refine vC (some 12) Try.func74 #[.pointer (some ⟨g, 0, none⟩), .int .i64 10] ?_; (with_reducible refine (spec_l1Below.calls g s0_0 t182 t183 10 t184 t185 t186 w0 _ ?side1 ?side2 A5.out).mono ?_); (case side1 => exact q24); (case side2 => exact q0); rintro e w13 ⟨rfl, hi, hb, hk⟩; refine ⟨_, rfl, ?_⟩; replace BK174 := vH BK174 hk NB174_0; replace HK := uU HK hk; replace HB := Aside0.mk (hb); replace HI0 := Aside0.mk (hi); (try clear hb); (try clear hb2); (try clear hk); (try clear hi)) | ((with_reducible refine uI (N := 3) rfl ?_); refine bxe 3 #[.int .i64 0, .int .i64 0, .int .i64 0, .int .i64 0, .int .i64 0, .int .i64 0] 37 ?_; intro gb187 hg w14 hbox hb; have BK187 := Aside0.mk (hbox); have GW187 := tKGe HK hg; have GE187 := tKW HW0 HK hg; have NB174_187 := tNl BK174 hg; have NB187_174 := tNg BK174 hg; have NB0_187 := Aside0.mk ((by rw [hg]; exact Nat.ne_of_lt (IsS112.lt (show IsS112 w0 _ g s0_0 t185 t186 from by repeat (first | (with_reducible first | exact HI0.out | apply IsS112.alloc | apply IsS112.drewN | apply IsS112.drew | apply IsS112.set_1 | apply IsS112.set_2 | refine IsS112.far ?_ NB0_174.out _) | exact HI0.out))) : g ≠ gb187)); have NB187_0 := Aside0.mk ((by rw [hg]; exact Nat.ne_of_gt (IsS112.lt (show IsS112 w0 _ g s0_0 t185 t186 from by repeat (first | (with_reducible first | exact HI0.out | apply IsS112.alloc | apply IsS112.drewN | apply IsS112.drew | apply IsS112.set_1 | apply IsS112.set_2 | refine IsS112.far ?_ NB0_174.out _) | exact HI0.out))) : gb187 ≠ g)); replace HI0 := Aside0.mk (IsS112.below q24 hb); replace BK174 := uL BK174 hb; replace HK := uU HK (uX.of_below hb g none); replace HB := tBel1 HB hb; clear hb hbox hg; have hnb15 := NB187_174.out; have hnc15 := NB174_187.out; have hnb16 := NB187_0.out; have hnc16 := NB0_187.out; obtain ⟨hcz17_0, hcz17_1, hcz17_2, hcz17_3, hcz17_4, hcz17_5, hfz17_0, hfz17_1, hfz17_2, hfz17_3, hfz17_4, hfz17_5⟩ := cz6 BK187) | ((with_reducible refine uH (f := 88) rfl ?_); refine vC (some 15) Try.func88 #[.pointer (some ⟨g, 0, none⟩), .int .i64 3] ?_; (with_reducible refine (spec_l1Once.calls g s0_0 t185 t186 3 true t189 t190 w0 _ ?side1 ?side2 A6.out).mono ?_); (case side1 => exact q45); (case side2 => exact q0); rintro e w18 ⟨rfl, hi, hb, hk⟩; refine ⟨_, rfl, ?_⟩; replace BK174 := tKBlkF BK174 hk NB174_0; replace BK187 := tKBlkP BK187 #[.int .i64 t175, .int .i64 (wrap64 (1 + t178)), .int .i64 1, .int .i64 t181, .int .i64 0, .int .i64 t184] hk NB187_0; replace HK := uU HK hk; replace HB := Aside0.mk (hb); replace HI0 := Aside0.mk (hi); (try clear hb); (try clear hb2); (try clear hk); (try clear hi); obtain ⟨hcz19_0, hcz19_1, hcz19_2, hcz19_3, hcz19_4, hcz19_5, hfz19_0, hfz19_1, hfz19_2, hfz19_3, hfz19_4, hfz19_5⟩ := cz6 BK187) | ((with_reducible refine uI (N := 18) rfl ?_); refine Kd.R_lit (Kd.int .i64) _ 3 ?hg (N := 18) ?hd (xs := ([0, 0, 1, 5, 9] : List Int)) (inner := [.int .i64 0, .int .i64 0, .int .i64 1, .int .i64 5, .int .i64 9]) (ok := fun _ => True) (okp := fun _ => True) ?hr ?hp (fun _ hk => hk) trivial (Below.refl _ _) (Nat.le_refl _) (by simp) ?_; (case hd => rfl); (case hg => rfl); (case hr => first | (go_simp; done) | (go_simp; rfl)); (case hp => exact (Reps.one (show Kd.M (Kd.int .i64) _ _ _ 0 [.int .i64 0] from rfl) (Reps.one (show Kd.M (Kd.int .i64) _ _ _ 0 [.int .i64 0] from rfl) (Reps.one (show Kd.M (Kd.int .i64) _ _ _ 1 [.int .i64 1] from rfl) (Reps.one (show Kd.M (Kd.int .i64) _ _ _ 5 [.int .i64 5] from rfl) (Reps.one (show Kd.M (Kd.int .i64) _ _ _ 9 [.int .i64 9] from rfl) (Reps.none _ _))))))); intro v192 w20 ho21 hb hg_ hnew_; clear hg_ hnew_; (first | rw [← Ny191.out] at ho21 | (simp only [Int.reduceToNat] at ho21; rw [← Ny191.out] at ho21)); have HO193 := Aside0.mk (Kd.vG ho21 (vN (w := w) (g := g) (row := none) q2)); replace HI0 := Aside0.mk (IsS112.below (show IsS112 w0 (w18.setCell ⟨gb187, 2, none⟩ (.int .i64 2)) g s0_0 t189 t190 from by repeat (first | (with_reducible first | exact HI0.out | apply IsS112.alloc | apply IsS112.drewN | apply IsS112.drew | apply IsS112.set_1 | apply IsS112.set_2 | refine IsS112.far ?_ NB0_174.out _ | refine IsS112.far ?_ NB0_187.out _) | exact HI0.out)) hb); replace BK174 := tBlkF BK174 hb; replace BK187 := tBlkP BK187 #[.int .i64 t175, .int .i64 (wrap64 (1 + t178)), .int .i64 2, .int .i64 t181, .int .i64 0, .int .i64 t184] hb; replace HK := uU HK (uX.of_below hb g none); replace HB := tBel1 HB hb; clear hb ho21; obtain ⟨Ao22, co22, eo22⟩ := Kd.uW HO193.out; subst eo22) | ((with_reducible refine uH (f := 75) rfl ?_); refine vC (some 19) Try.func75 #[.pointer (some ⟨g, 0, none⟩), .slice Ao22 y191.length co22] ?_; (with_reducible refine (spec_l1PickInt.calls g s0_0 t189 t190 _ _ y191 t194 t195 t196 w0 _ ?side1 ?side2 ?side3 ?side4 ?side5 A8.out).mono ?_); (case side1 => exact q45); (case side2 => exact q0); (case side3 => repeat (first | exact (Kd.uP HO193.out).2.2 | (with_reducible refine Kd.vJ ?_ _) | (with_reducible refine Kd.vK ?_ _) | (with_reducible refine Kd.C_drew ?_))); (case side4 => exact (Kd.uP HO193.out).2.1); (case side5 => exact far_slice (IsS112.own_ne HI0.out HO193.out (by decide))); rintro e w23 ⟨rfl, hi, hb, hk⟩; refine ⟨_, rfl, ?_⟩; replace BK174 := vH BK174 hk NB174_0; replace BK187 := vH BK187 hk NB187_0; replace HO193 := Aside0.mk (Kd.uJ (Kd.vI (IsS112.apart (show IsS112 w0 _ g s0_0 t189 t190 from by repeat (first | (with_reducible first | exact HI0.out | apply IsS112.alloc | apply IsS112.drewN | apply IsS112.drew | apply IsS112.set_1 | apply IsS112.set_2 | refine IsS112.far ?_ NB0_174.out _ | refine IsS112.far ?_ NB0_187.out _) | exact HI0.out)) (rSR HO193.out) (by decide)) hk (fun _ h => h.2)) (fun _ h => h.1)); replace HK := uU HK hk; replace HB := Aside0.mk (hb); replace HI0 := Aside0.mk (hi); (try clear hb); (try clear hb2); (try clear hk); (try clear hi); obtain ⟨hcz24_0, hcz24_1, hcz24_2, hcz24_3, hcz24_4, hcz24_5, hfz24_0, hfz24_1, hfz24_2, hfz24_3, hfz24_4, hfz24_5⟩ := cz6 BK187; have hnb25 := NB174_0.out; have hnc25 := NB0_174.out; obtain ⟨hcz26_0, hcz26_1, hcz26_2, hcz26_3, hcz26_4, hcz26_5, hfz26_0, hfz26_1, hfz26_2, hfz26_3, hfz26_4, hfz26_5⟩ := cz6 BK174))
  refine bodyPost_ret (results_cell_row rfl _ _ gb174 37 #[.int .i64 t175, .int .i64 (wrap64 (1 + t178)), .int .i64 2, .int .i64 t181, .int .i64 t194, .int .i64 t184] (0, 0) _ rfl (by (with_reducible repeat (first | refine uF ?_ _ | refine uB ?_ | refine uE ?_ _)); refine uK (cs := #[.int .i64 t175, .int .i64 (wrap64 (1 + t178)), .int .i64 2, .int .i64 t181, .int .i64 t194, .int .i64 0]) ?_ 5 _ rfl; (with_reducible repeat (first | refine uF ?_ _ | refine uB ?_ | refine uE ?_ _)); refine uK (cs := #[.int .i64 t175, .int .i64 (wrap64 (1 + t178)), .int .i64 2, .int .i64 t181, .int .i64 0, .int .i64 0]) ?_ 4 _ rfl; (with_reducible repeat (first | refine uF ?_ _ | refine uB ?_ | refine uE ?_ _)); refine uK (cs := #[.int .i64 t175, .int .i64 (wrap64 (1 + t178)), .int .i64 2, .int .i64 0, .int .i64 0, .int .i64 0]) ?_ 3 _ rfl; (with_reducible repeat (first | refine uF ?_ _ | refine uB ?_ | refine uE ?_ _)); refine uK (cs := #[.int .i64 t175, .int .i64 (wrap64 (1 + t178)), .int .i64 0, .int .i64 0, .int .i64 0, .int .i64 0]) ?_ 2 _ rfl; (with_reducible repeat (first | refine uF ?_ _ | refine uB ?_ | refine uE ?_ _)); refine uK (cs := #[.int .i64 t175, .int .i64 0, .int .i64 0, .int .i64 0, .int .i64 0, .int .i64 0]) ?_ 1 _ rfl; (with_reducible repeat (first | refine uF ?_ _ | refine uB ?_ | refine uE ?_ _)); refine uK (cs := #[.int .i64 0, .int .i64 0, .int .i64 0, .int .i64 0, .int .i64 0, .int .i64 0]) ?_ 0 _ rfl; (with_reducible repeat (first | refine uF ?_ _ | refine uB ?_ | refine uE ?_ _)); refine vF ?_ NB174_187.out _; (with_reducible repeat (first | refine uF ?_ _ | refine uB ?_ | refine uE ?_ _)); exact BK174.out) Try.underlying37 rfl (by kernel_rfl)) rfl ?_
  exact ⟨q5, q45, q0, q2⟩

/-! ### spec_l4Machine: function 84 -/
def spec_l4Machine.l0 : Nat → Int → List Int → Int → Int → List Int → List (S49) → Option (List Int × (List (S49)) × Int × Int)
  | 0, _, _, _, _, _, _ => none
  | k + 1, x4, x1000, x1001, x1002, x205000, x205001 => if x4 > 0 then ((spec_l3Op.f x1000 x1001 x1002).bind fun bt208 => ((spec_ApplyOp.f k x205000 x205001 bt208.1 bt208.2.1 bt208.2.2.1 bt208.2.2.2.1 bt208.2.2.2.2.1 bt208.2.2.2.2.2.1).bind fun bt216 => (spec_l4Machine.l0 k (wrap64 (x4 - 1)) x1000 bt208.2.2.2.2.2.2.1 bt208.2.2.2.2.2.2.2 bt216.1 bt216.2.1))) else (some (x205000, x205001, x1001, x1002))
def spec_l4Machine.f (k : Nat) (s0_0 : List Int) (s0_1 : Int) (s0_2 : Int) : Option (List Int × (List (S49)) × Int × Int) := (spec_NewMachine.f).bind fun bt198 => ((spec_l1Below.f s0_0 s0_1 s0_2 6).bind fun bt205 => (spec_l4Machine.l0 k bt205.1 s0_0 bt205.2.1 bt205.2.2 bt198.1 bt198.2))
theorem spec_l4Machine.mono_l : ∀ k, (∀ y0 y1 y2 y3 y4 y5, uN (spec_l4Machine.l0 k y0 y1 y2 y3 y4 y5) (spec_l4Machine.l0 (k + 1) y0 y1 y2 y3 y4 y5))
  | 0 => fun _ _ _ _ _ _ r h => by simp [spec_l4Machine.l0] at h
  | k + 1 => by
    have ih0 := spec_l4Machine.mono_l k
    intro y0 y1 y2 y3 y4 y5
    unfold spec_l4Machine.l0
    repeat' first
    | (with_reducible exact ih0 _ _ _ _ _ _)
    | (with_reducible exact spec_ApplyOp.mono _ _ _ _ _ _ _ _ _)
    | (with_reducible exact uN.refl _)
    | (with_reducible exact uN.none _)
    | (with_reducible refine uN.ite ?_ ?_)
    | (with_reducible refine uN.bind ?_ (fun _ => ?_))
    | exact ih0 _ _ _ _ _ _
    | exact spec_ApplyOp.mono _ _ _ _ _ _ _ _ _
    | exact uN.none _
    | refine uN.ite ?_ ?_
    | refine uN.bind ?_ (fun _ => ?_)
theorem spec_l4Machine.mono : ∀ a0 a1 a2 k, uN (spec_l4Machine.f k a0 a1 a2) (spec_l4Machine.f (k + 1) a0 a1 a2) := by
  intro a0 a1 a2 k
  have ih0 := spec_l4Machine.mono_l k
  unfold spec_l4Machine.f
  repeat' first
      | (with_reducible exact ih0 _ _ _ _ _ _)
      | (with_reducible exact spec_ApplyOp.mono _ _ _ _ _ _ _ _ _)
      | (with_reducible exact uN.refl _)
      | (with_reducible exact uN.none _)
      | (with_reducible refine uN.ite ?_ ?_)
      | (with_reducible refine uN.bind ?_ (fun _ => ?_))
      | exact ih0 _ _ _ _ _ _
      | exact spec_ApplyOp.mono _ _ _ _ _ _ _ _ _
      | exact uN.none _
      | refine uN.ite ?_ ?_
      | refine uN.bind ?_ (fun _ => ?_)
def spec_l4Machine.T5 : Bool × List (List Nat × List Nat) := (true, [([], []), ([], []), ([1], [1]), ([0, 2, 2], [0, 2]), ([3], [3]), ([4], [4]), ([4], [4]), ([4], [4]), ([5, 3, 0, 1, 2, 3, 4, 5], [5])])
def spec_l4Machine.B5 : List Nat := [0, 0, 2, 7, 15, 31, 31, 31, 63]
theorem spec_l4Machine.tab5 : rtab .any (opsOf Try.f84 5) = spec_l4Machine.T5 := by kernel_rfl
theorem spec_l4Machine.bits5 : waitsOk spec_l4Machine.T5.2 spec_l4Machine.B5 = true := by kernel_rfl
set_option maxHeartbeats 8000000 in
set_option maxRecDepth 100000 in
theorem spec_l4Machine.calls (k : Nat) (g : Nat) (s0_0 : List Int) (s0_1 : Int) (s0_2 : Int) (r1 : List Int) (r2 : List (S49)) (r3 : Int) (r4 : Int) (w0 w : World) (hI : IsS112 w0 w g s0_0 s0_1 s0_2) (hB : Below w0.heap.size w0 w) (h : spec_l4Machine.f k s0_0 s0_1 s0_2 = some (r1, r2, r3, r4)) :
    Calls Try.prog 84 #[.pointer (some ⟨g, 0, none⟩)] w fun e w' => ∃ v0_ v1_ : Value, e = .returned (.agg #[v0_, v1_]) ∧ Kd.R (Kd.int .i64) 3 w' w.heap.size (fun _ => True) v0_ r1 ∧ Kd.R k49 49 w' w.heap.size (fun _ => True) v1_ r2 ∧ IsS112 w0 w' g s0_0 r3 r4 ∧ Below w0.heap.size w0 w' ∧ uX w w' g none := by
  have hu31 := Try.underlying31
  have HI0 := Aside0.mk hI
  have HK := Aside0.mk (uX.refl w g none)
  have HL := Aside0.mk hB.size
  clear hI
  have HW0 := Aside0.mk hB.size
  have HB := Aside0.mk hB
  clear hB
  have H : ((spec_NewMachine.f).bind fun bt198 => ((spec_l1Below.f s0_0 s0_1 s0_2 6).bind fun bt205 => (spec_l4Machine.l0 k bt205.1 s0_0 bt205.2.1 bt205.2.2 bt198.1 bt198.2))) = some (r1, r2, r3, r4) := h
  clear h
  replace H := Option.bind_eq_some_iff.mp H
  obtain ⟨⟨t198, t201⟩, A20, H⟩ := H
  try dsimp only at H
  have A2 := Aside0.mk A20
  clear A20
  replace H := Option.bind_eq_some_iff.mp H
  obtain ⟨⟨t205, t206, t207⟩, A30, H⟩ := H
  try dsimp only at H
  have A3 := Aside0.mk A30
  clear A30
  have H' := Aside0.mk H
  clear H
  go_enter Try.func84, Try.ntmps84
  go_wp2_with (first | ((with_reducible refine uI (N := 2) rfl ?_); refine bxe 2 #[.slice none 0 0, .slice none 0 0] 31 ?_; intro gb197 hg w4 hbox hb; have BK197 := Aside0.mk (hbox); have GW197 := tKGe HK hg; have GE197 := tKW HW0 HK hg; have NB0_197 := Aside0.mk ((by rw [hg]; exact Nat.ne_of_lt (IsS112.lt (show IsS112 w0 _ g s0_0 s0_1 s0_2 from by repeat (first | (with_reducible first | exact HI0.out | apply IsS112.alloc | apply IsS112.drewN | apply IsS112.drew | apply IsS112.set_1 | apply IsS112.set_2) | exact HI0.out))) : g ≠ gb197)); have NB197_0 := Aside0.mk ((by rw [hg]; exact Nat.ne_of_gt (IsS112.lt (show IsS112 w0 _ g s0_0 s0_1 s0_2 from by repeat (first | (with_reducible first | exact HI0.out | apply IsS112.alloc | apply IsS112.drewN | apply IsS112.drew | apply IsS112.set_1 | apply IsS112.set_2) | exact HI0.out))) : gb197 ≠ g)); replace HI0 := Aside0.mk (IsS112.below q6 hb); replace HK := uU HK (uX.of_below hb g none); replace HB := tBel1 HB hb; clear hb hbox hg) | ((with_reducible refine uH (f := 70) rfl ?_); refine vC (some 5) Try.func70 #[] ?_; (with_reducible refine (spec_NewMachine.calls  t198 t201 _ A2.out).mono ?_); rintro e w5 ⟨v199, v202, rfl, ho0, ho1, hb⟩; refine ⟨_, rfl, ?_⟩; have HO200 := Aside0.mk (Kd.vG ho0 (vN (w := w) (g := g) (row := none) q2)); have HO203 := Aside0.mk (Kd.vG ho1 (vN (w := w) (g := g) (row := none) q2)); replace HI0 := Aside0.mk (IsS112.below (by repeat (first | (with_reducible first | exact HI0.out | apply IsS112.alloc | apply IsS112.drewN | apply IsS112.drew | apply IsS112.set_1 | apply IsS112.set_2 | refine IsS112.far ?_ NB0_197.out _) | exact HI0.out)) hb); replace BK197 := uL BK197 hb; replace HK := uU HK (uX.of_below hb g none); replace HB := tBel1 HB hb; (try clear hb); (try clear hb2); (try clear hk); (try clear hi); (try clear ho0); (try clear ho1)) | ((with_reducible refine uI (N := 3) rfl ?_); refine bxe 3 #[.slice none 0 0, .slice none 0 0] 31 ?_; intro gb204 hg w6 hbox hb; have BK204 := Aside0.mk (hbox); have GW204 := tKGe HK hg; have GE204 := tKW HW0 HK hg; have NB197_204 := tNl BK197 hg; have NB204_197 := tNg BK197 hg; have NB0_204 := Aside0.mk ((by rw [hg]; exact Nat.ne_of_lt (IsS112.lt (show IsS112 w0 _ g s0_0 s0_1 s0_2 from by repeat (first | (with_reducible first | exact HI0.out | apply IsS112.alloc | apply IsS112.drewN | apply IsS112.drew | apply IsS112.set_1 | apply IsS112.set_2 | refine IsS112.far ?_ NB0_197.out _) | exact HI0.out))) : g ≠ gb204)); have NB204_0 := Aside0.mk ((by rw [hg]; exact Nat.ne_of_gt (IsS112.lt (show IsS112 w0 _ g s0_0 s0_1 s0_2 from by repeat (first | (with_reducible first | exact HI0.out | apply IsS112.alloc | apply IsS112.drewN | apply IsS112.drew | apply IsS112.set_1 | apply IsS112.set_2 | refine IsS112.far ?_ NB0_197.out _) | exact HI0.out))) : gb204 ≠ g)); replace HO200 := Kd.tR HO200 hb; replace HO203 := Kd.tR HO203 hb; replace HI0 := Aside0.mk (IsS112.below (by repeat (first | (with_reducible first | exact HI0.out | apply IsS112.alloc | apply IsS112.drewN | apply IsS112.drew | apply IsS112.set_1 | apply IsS112.set_2 | refine IsS112.far ?_ NB0_197.out _) | exact HI0.out)) hb); replace BK197 := uL BK197 hb; replace HK := uU HK (uX.of_below hb g none); replace HB := tBel1 HB hb; clear hb hbox hg; obtain ⟨Ao7, co7, eo7⟩ := Kd.uW HO200.out; subst eo7; have hnb8 := NB204_197.out; have hnc8 := NB197_204.out; have hnb9 := NB204_0.out; have hnc9 := NB0_204.out; obtain ⟨hcz10_0, hcz10_1, hfz10_0, hfz10_1⟩ := cz2 BK204; obtain ⟨Ao11, co11, eo11⟩ := Kd.uW HO203.out; subst eo11) | ((with_reducible refine uH (f := 74) rfl ?_); refine vC (some 7) Try.func74 #[.pointer (some ⟨g, 0, none⟩), .int .i64 6] ?_; (with_reducible refine (spec_l1Below.calls g s0_0 s0_1 s0_2 6 t205 t206 t207 w0 _ ?side1 ?side2 A3.out).mono ?_); (case side1 => exact q41); (case side2 => exact q0); rintro e w12 ⟨rfl, hi, hb, hk⟩; refine ⟨_, rfl, ?_⟩; replace BK197 := tKBlkF BK197 hk NB197_0; replace HO200 := Aside0.mk (Kd.uJ (Kd.vI (IsS112.apart (show IsS112 w0 _ g s0_0 s0_1 s0_2 from by repeat (first | (with_reducible first | exact HI0.out | apply IsS112.alloc | apply IsS112.drewN | apply IsS112.drew | apply IsS112.set_1 | apply IsS112.set_2 | refine IsS112.far ?_ NB0_197.out _ | refine IsS112.far ?_ NB0_204.out _) | exact HI0.out)) (by (with_reducible repeat (first | apply Kd.vA | apply Kd.vB | apply Kd.uR)); exact (Kd.uJ (Kd.uM (p := ⟨gb204, 1, none⟩) (Kd.uM (p := ⟨gb204, 0, none⟩) (Kd.uY HO200.out BK204.out (by decide)) (fun _ hk => hk.2) (.slice Ao7 t198.length co7)) (fun _ hk => hk.2) (.slice Ao11 t201.length co11)) (fun _ h_ => h_.1))) (by decide)) hk (fun _ h => h.2)) (fun _ h => h.1)); replace HO203 := Aside0.mk (Kd.uJ (Kd.vI (IsS112.apart (show IsS112 w0 _ g s0_0 s0_1 s0_2 from by repeat (first | (with_reducible first | exact HI0.out | apply IsS112.alloc | apply IsS112.drewN | apply IsS112.drew | apply IsS112.set_1 | apply IsS112.set_2 | refine IsS112.far ?_ NB0_197.out _ | refine IsS112.far ?_ NB0_204.out _) | exact HI0.out)) (by (with_reducible repeat (first | apply Kd.vA | apply Kd.vB | apply Kd.uR)); exact (Kd.uJ (Kd.uM (p := ⟨gb204, 1, none⟩) (Kd.uM (p := ⟨gb204, 0, none⟩) (Kd.uY HO203.out BK204.out (by decide)) (fun _ hk => hk.2) (.slice Ao7 t198.length co7)) (fun _ hk => hk.2) (.slice Ao11 t201.length co11)) (fun _ h_ => h_.1))) (by decide)) hk (fun _ h => h.2)) (fun _ h => h.1)); replace BK204 := tKBlkP BK204 #[.slice Ao7 t198.length co7, .slice Ao11 t201.length co11] hk NB204_0; replace HK := uU HK hk; replace HB := Aside0.mk (hb); replace HI0 := Aside0.mk (hi); (try clear hb); (try clear hb2); (try clear hk); (try clear hi)))
  go_loopg [4] k (fun kq v4 w' => ∃ (x4_1 : Int) (x1001_1 : Int) (x1002_1 : Int) (x205000_1 : List Int) (x205001_1 : List (S49)) (u205000 : Value) (u205001 : Value), v4 = .int .i64 x4_1 ∧ Aside0 (spec_l4Machine.l0 kq x4_1 s0_0 x1001_1 x1002_1 x205000_1 x205001_1 = some (r1, r2, r3, r4)) ∧ Aside0 (kq ≤ k) ∧ Aside0 (Kd.R (Kd.int .i64) 3 w' w.heap.size (fun _ => True) u205000 x205000_1) ∧ Aside0 (Kd.R k49 49 w' w.heap.size (fun _ => True) u205001 x205001_1) ∧ Aside0 (w'.heap[gb197]? = some (.cells #[(.slice none 0 0), (.slice none 0 0)] 31 (0, 0))) ∧ Aside0 (w'.heap[gb204]? = some (.cells #[u205000, u205001] 31 (0, 0))) ∧ Aside0 (IsS112 w0 w' g s0_0 x1001_1 x1002_1) ∧ Aside0 (uX w w' g none) ∧ Aside0 (Below w0.heap.size w0 w'))
  case atStart => exact ⟨(t205), (t206), (t207), (t198), (t201), (.slice Ao7 t198.length co7), (.slice Ao11 t201.length co11), q43, H', ⟨Nat.le_refl _⟩, ⟨by (with_reducible repeat (first | apply Kd.vA | apply Kd.vB | apply Kd.uR)); exact HO200.out⟩, ⟨by (with_reducible repeat (first | apply Kd.vA | apply Kd.vB | apply Kd.uR)); exact HO203.out⟩, ⟨by (with_reducible repeat (first | refine uF ?_ _ | refine uB ?_ | refine uE ?_ _)); exact BK197.out⟩, ⟨by (with_reducible repeat (first | refine uF ?_ _ | refine uB ?_ | refine uE ?_ _)); exact BK204.out⟩, ⟨q41⟩, ⟨q2⟩, ⟨q0⟩⟩
  case round =>
    clear H'
    try clear p2
    try clear c7
    try clear c8
    try clear c9
    try clear hcz10_0
    try clear hcz10_1
    try clear hfz10_0
    try clear hfz10_1
    obtain ⟨x4_1, x1001_1, x1002_1, x205000_1, x205001_1, u205000, u205001, rfl, HA, HK1, HO_205000, HO_205001, BK197, BK204, HI0, HK, HB⟩ := hrel
    cases gk with
    | zero => exact absurd HA.out (by simp [spec_l4Machine.l0])
    | succ k1 =>
      have H := HA.out
      clear HA
      simp only [spec_l4Machine.l0] at H
      by_cases c13 : x4_1 > 0
      rotate_left
      · rw [if_neg c13] at H
        have c13b0 : decide (0 < x4_1) = false := decide_eq_false c13
        clear c13
        simp only [Option.some.injEq, Prod.mk.injEq] at H
        obtain ⟨rfl, rfl, rfl, rfl⟩ := H
        have hnb25 := NB204_197.out
        have hnc25 := NB197_204.out
        have hnb26 := NB204_0.out
        have hnc26 := NB0_204.out
        obtain ⟨hcz27_0, hcz27_1, hfz27_0, hfz27_1⟩ := cz2 BK204
        obtain ⟨Ao28, co28, eo28⟩ := Kd.uW HO_205000.out
        subst eo28
        have hnb29 := NB197_0.out
        have hnc29 := NB0_197.out
        obtain ⟨hcz30_0, hcz30_1, hfz30_0, hfz30_1⟩ := cz2 BK197
        obtain ⟨Ao31, co31, eo31⟩ := Kd.uW HO_205001.out
        subst eo31
        go_wp2
        refine bodyPost_ret (results_cell_row rfl _ _ gb197 31 #[.slice Ao28 x205000_1.length co28, .slice Ao31 x205001_1.length co31] (0, 0) _ rfl (by (with_reducible repeat (first | refine uF ?_ _ | refine uB ?_ | refine uE ?_ _)); refine uK (cs := #[.slice Ao28 x205000_1.length co28, .slice none 0 0]) ?_ 1 _ rfl; (with_reducible repeat (first | refine uF ?_ _ | refine uB ?_ | refine uE ?_ _)); refine uK (cs := #[.slice none 0 0, .slice none 0 0]) ?_ 0 _ rfl; (with_reducible repeat (first | refine uF ?_ _ | refine uB ?_ | refine uE ?_ _)); exact BK197.out) Try.underlying31 rfl (by kernel_rfl)) rfl ?_
        exact ⟨_, _, q5, by (with_reducible repeat (first | apply Kd.vA | apply Kd.vB | apply Kd.uR)); exact Kd.uJ (Kd.uM (p := ⟨gb197, 1, none⟩) (Kd.uM (p := ⟨gb197, 0, none⟩) (Kd.uY HO_205000.out BK197.out (by decide)) (fun _ hk => hk.2) (.slice Ao28 x205000_1.length co28)) (fun _ hk => hk.2) (.slice Ao31 x205001_1.length co31)) (fun _ hk => trivial), by (with_reducible repeat (first | apply Kd.vA | apply Kd.vB | apply Kd.uR)); exact Kd.uJ (Kd.uM (p := ⟨gb197, 1, none⟩) (Kd.uM (p := ⟨gb197, 0, none⟩) (Kd.uY HO_205001.out BK197.out (by decide)) (fun _ hk => hk.2) (.slice Ao28 x205000_1.length co28)) (fun _ hk => hk.2) (.slice Ao31 x205001_1.length co31)) (fun _ hk => trivial), q41, q0, q2⟩
      rw [if_pos c13] at H
      have c13b0 : decide (0 < x4_1) = true := decide_eq_true c13
      clear c13
      replace H := Option.bind_eq_some_iff.mp H
      obtain ⟨⟨t208, t209, t210, t211, t212, t213, t214, t215⟩, A140, H⟩ := H
      try dsimp only at H
      have A14 := Aside0.mk A140
      clear A140
      replace H := Option.bind_eq_some_iff.mp H
      obtain ⟨⟨t216, t219, t222, t223, t224⟩, A150, H⟩ := H
      try dsimp only at H
      have A15 := Aside0.mk A150
      clear A150
      have H' := Aside0.mk H
      clear H
      try go_wp2
      replace HO_205000 := Aside0.mk (Kd.uR HO_205000.out)
      replace HO_205001 := Aside0.mk (Kd.uR HO_205001.out)
      replace BK197 := Aside0.mk (uB BK197.out)
      replace BK204 := Aside0.mk (uB BK204.out)
      replace HI0 := Aside0.mk (IsS112.drew HI0.out)
      replace HK := Aside0.mk (keep_drew HK.out)
      replace HB := Aside0.mk (vD HB.out)
      refine start_ (n := 9) (S := fun w' => w'.cell? ⟨gb204, 0, none⟩ = some (u205000) ∧ w'.cell? ⟨gb204, 1, none⟩ = some (u205001)) (ds := [8]) tb30 (by kernel_rfl) rfl rfl ⟨(uG BK204.out 0).trans rfl, (uG BK204.out 1).trans rfl⟩ (fun hHeld => ?_); refine with_tabW spec_l4Machine.tab5 spec_l4Machine.bits5 (fun HT_ HW_ => ?_)
      generalize wr.drew = w16 at HO_205000 HO_205001 BK197 BK204 HI0 HK HB hHeld ⊢
      refine uA (i := 1) (N := some 14) (v := ?_) (a' := ?_) #[false, true, false, false, false, false, false, false, false] rfl rfl (uQ HT_.out (by kernel_rfl)) (fun _ _ _ h => h) (Or.inl ⟨by rfl, ?_⟩) ?_ ?_
      rotate_left
      · intro w'
        go_simp
        with_reducible rfl
      rotate_left
      · simp only [Act.put, vO, vP, vQ, uC, uD]
        rfl
      refine take_ (i := 0) (N := some 13) (v := ?_) (a' := ?_) #[true, true, false, false, false, false, false, false, false] rfl rfl (take_ofW HT_.out HW_.out (by kernel_rfl)) (fun _ _ _ h => h) (Or.inl ⟨by rfl, ?_⟩) hHeld ?_ ?_
      rotate_left
      · rintro w' ⟨s0, s1⟩
        go_simp
        with_reducible rfl
      rotate_left
      · simp only [Act.put, vO, vP, vQ, uC, uD]
        rfl
      refine one_ (i := 2) (N := some 15) #[true, true, true, false, false, false, false, false, false] rfl rfl (one_of HT_.out (by kernel_rfl)) (by decide) (fun K hK => ?_)
      refine goes_ Try.func85 (by kernel_rfl) rfl #[.pointer (some ⟨g, 0, none⟩)] (by rfl) rfl rfl q17 ?_
      with_reducible refine (spec_l3Op.calls g s0_0 x1001_1 x1002_1 t208 t209 t210 t211 t212 t213 t214 t215 w0 _ ?side1 ?side2 A14.out).mono ?_
      (case side1 => exact q41)
      (case side2 => exact q0)
      rintro e w17 ⟨rfl, hi, hb, hk⟩
      refine ⟨_, rfl, ?_⟩
      replace HO_205000 := Aside0.mk (Kd.uJ (Kd.vI (IsS112.apart (show IsS112 w0 _ g s0_0 x1001_1 x1002_1 from by repeat (first | (with_reducible first | exact HI0.out | apply IsS112.alloc | apply IsS112.drewN | apply IsS112.drew | apply IsS112.set_1 | apply IsS112.set_2 | refine IsS112.far ?_ NB0_197.out _ | refine IsS112.far ?_ NB0_204.out _) | exact HI0.out)) (rSR HO_205000.out) (by decide)) hk (fun _ h => h.2)) (fun _ h => h.1))
      replace HO_205001 := Aside0.mk (Kd.uJ (Kd.vI (IsS112.apart (show IsS112 w0 _ g s0_0 x1001_1 x1002_1 from by repeat (first | (with_reducible first | exact HI0.out | apply IsS112.alloc | apply IsS112.drewN | apply IsS112.drew | apply IsS112.set_1 | apply IsS112.set_2 | refine IsS112.far ?_ NB0_197.out _ | refine IsS112.far ?_ NB0_204.out _) | exact HI0.out)) (rSR HO_205001.out) (by decide)) hk (fun _ h => h.2)) (fun _ h => h.1))
      replace BK197 := vH BK197 hk NB197_0
      replace BK204 := vH BK204 hk NB204_0
      replace HK := uU HK hk
      replace HB := Aside0.mk (hb)
      replace HI0 := Aside0.mk (hi)
      (try clear hb)
      (try clear hb2)
      (try clear hk)
      (try clear hi)
      obtain ⟨Ao18, co18, eo18⟩ := Kd.uW HO_205000.out
      (first | subst eo18 | (injection eo18 with f1_ f2_ f3_; have f4_ := f1_.symm; have f5_ := f3_.symm; clear f1_ f2_ f3_; subst f4_; subst f5_))
      obtain ⟨Ao19, co19, eo19⟩ := Kd.uW HO_205001.out
      (first | subst eo19 | (injection eo19 with f1_ f2_ f3_; have f4_ := f1_.symm; have f5_ := f3_.symm; clear f1_ f2_ f3_; subst f4_; subst f5_))
      refine hK.out _ _ ⟨(uG BK204.out 0).trans rfl, (uG BK204.out 1).trans rfl⟩ (fun hHeld => ?_)
      clear hK K
      refine uZ (a' := ?_) ?_ ?_
      rotate_left
      · show Act.put _ (some 15) _ = _
        simp only [Act.put, vO, vP, vQ, uC, uD]
        rfl
      refine one_ (i := 3) (N := some 16) #[true, true, true, true, false, false, false, false, false] rfl rfl (one_of HT_.out (by kernel_rfl)) (by decide) (fun K hK => ?_)
      refine goes_ Try.func9 (by kernel_rfl) rfl #[.agg #[.slice Ao18 x205000_1.length co18, .slice Ao19 x205001_1.length co19], .agg #[.int .i64 t208, .int .i64 t209, .int .i64 t210, .int .i64 t211, .int .i64 t212, .int .i64 t213]] (by rfl) rfl rfl q17 ?_
      with_reducible refine (spec_ApplyOp.calls k1 _ _ x205000_1 _ _ x205001_1 t208 t209 t210 t211 t212 t213 t216 t219 t222 t223 t224 _ ?side1 ?side2 ?side3 ?side4 A15.out).mono ?_
      (case side1 => repeat (first | exact (Kd.uP HO_205000.out).2.2 | (with_reducible refine Kd.vJ ?_ _) | (with_reducible refine Kd.vK ?_ _) | (with_reducible refine Kd.C_drew ?_)))
      (case side2 => exact (Kd.uP HO_205000.out).2.1)
      (case side3 => repeat (first | exact (Kd.uP HO_205001.out).2.2 | (with_reducible refine Kd.vJ ?_ _) | (with_reducible refine Kd.vK ?_ _) | (with_reducible refine Kd.C_drew ?_)))
      (case side4 => exact (Kd.uP HO_205001.out).2.1)
      rintro e w20 ⟨v217, v220, rfl, ho0, ho1, hb⟩
      refine ⟨_, rfl, ?_⟩
      have HO218 := Aside0.mk (Kd.vG (Kd.R_new' ho0 (Kd.R_lt (rSR HO_205000.out))) (vN (w := w) (g := g) (row := none) q2))
      have HO221 := Aside0.mk (Kd.vG (Kd.R_new' ho1 (Kd.R_lt (rSR HO_205001.out))) (vN (w := w) (g := g) (row := none) q2))
      replace HO_205000 := Aside0.mk (Kd.R_elder' (rSR HO_205000.out) (Kd.R_base ho0) hb)
      replace HO_205001 := Aside0.mk (Kd.R_elder' (rSR HO_205001.out) (Kd.R_base ho1) hb)
      replace BK197 := uL BK197 hb
      replace BK204 := uL BK204 hb
      replace HI0 := Aside0.mk (IsS112.below q41 hb)
      replace HK := uU HK (uX.of_below hb g none)
      replace HB := tBel1 HB hb
      (try clear hb)
      (try clear hb2)
      (try clear hk)
      (try clear hi)
      (try clear ho0)
      (try clear ho1)
      obtain ⟨Ao21, co21, eo21⟩ := Kd.uW HO218.out
      (first | subst eo21 | (injection eo21 with f1_ f2_ f3_; have f4_ := f1_.symm; have f5_ := f3_.symm; clear f1_ f2_ f3_; subst f4_; subst f5_))
      obtain ⟨Ao23, co23, eo23⟩ := Kd.uW HO221.out
      (first | subst eo23 | (injection eo23 with f1_ f2_ f3_; have f4_ := f1_.symm; have f5_ := f3_.symm; clear f1_ f2_ f3_; subst f4_; subst f5_))
      refine hK.out _ _ ⟨(uG BK204.out 0).trans rfl, (uG BK204.out 1).trans rfl⟩ (fun hHeld => ?_)
      clear hK K
      refine uZ (a' := ?_) ?_ ?_
      rotate_left
      · show Act.put _ (some 16) _ = _
        simp only [Act.put, vO, vP, vQ, uC, uD]
        rfl
      refine uA (i := 4) (N := some 12) (v := ?_) (a' := ?_) tb40 rfl rfl (uQ HT_.out (by kernel_rfl)) (fun _ _ _ h => h) (Or.inl ⟨by rfl, ?_⟩) ?_ ?_
      rotate_left
      · intro w'
        go_simp
        with_reducible rfl
      rotate_left
      · simp only [Act.put, vO, vP, vQ, uC, uD]
        rfl
      refine uA (i := 5) (N := some 17) (v := ?_) (a' := ?_) tb25 rfl rfl (uQ HT_.out (by kernel_rfl)) (fun _ _ _ h => h) (Or.inl ⟨by rfl, ?_⟩) ?_ ?_
      rotate_left
      · intro w'
        go_simp
        with_reducible rfl
      rotate_left
      · simp only [Act.put, vO, vP, vQ, uC, uD]
        rfl
      refine uA (i := 6) (N := some 18) (v := ?_) (a' := ?_) tb46 rfl rfl (uQ HT_.out (by kernel_rfl)) (fun _ _ _ h => h) (Or.inl ⟨by rfl, ?_⟩) ?_ ?_
      rotate_left
      · intro w'
        go_simp
        with_reducible rfl
      rotate_left
      · simp only [Act.put, vO, vP, vQ, uC, uD]
        rfl
      refine uA (i := 7) (N := some 19) (v := ?_) (a' := ?_) tb48 rfl rfl (uQ HT_.out (by kernel_rfl)) (fun _ _ _ h => h) (Or.inl ⟨by rfl, ?_⟩) ?_ ?_
      rotate_left
      · intro w'
        go_simp
        with_reducible rfl
      rotate_left
      · simp only [Act.put, vO, vP, vQ, uC, uD]
        rfl
      refine last_ (i := 8) (N := none) tb51 rfl rfl (one_of HT_.out (by kernel_rfl)) (by decide) (fun K hK => ?_)
      have hs22 : w20.cell? ⟨gb204, 0, none⟩ = some (.slice Ao18 x205000_1.length co18) := (uG BK204.out 0).trans rfl
      have hfs22 := vM BK204.out 0
      have hns22_0 := NB197_204.out
      have hms22_0 := NB204_197.out
      have hs24 : w20.cell? ⟨gb204, 1, none⟩ = some (.slice Ao19 x205001_1.length co19) := (uG BK204.out 1).trans rfl
      have hfs24 := vM BK204.out 1
      have hns24_0 := NB197_204.out
      have hms24_0 := NB204_197.out
      refine skip_ (w1 := ?_) (by rfl) rfl ?_ ?_
      rotate_left
      · go_simp
        rfl
      refine hK.out _ _ ?_
      clear hK K
      refine done_ (done_of HT_.out (by kernel_rfl)) ?_
      try go_wp2
      go_roundg k1
      case measure => have := HK1.out; omega
      case rel => exact ⟨(wrap64 (x4_1 - 1)), (t214), (t215), (t216), (t219), (.slice Ao21 t216.length co21), (.slice Ao23 t219.length co23), q43, H', ⟨by have := HK1.out; omega⟩, ⟨by (with_reducible repeat (first | apply Kd.vA | apply Kd.vB | apply Kd.uR)); exact Kd.uJ (Kd.uM (p := ⟨gb204, 1, none⟩) (Kd.uM (p := ⟨gb204, 0, none⟩) (Kd.uY HO218.out BK204.out (by decide)) (fun _ hk => hk.2) (.slice Ao21 t216.length co21)) (fun _ hk => hk.2) (.slice Ao23 t219.length co23)) (fun _ hk => trivial)⟩, ⟨by (with_reducible repeat (first | apply Kd.vA | apply Kd.vB | apply Kd.uR)); exact Kd.uJ (Kd.uM (p := ⟨gb204, 1, none⟩) (Kd.uM (p := ⟨gb204, 0, none⟩) (Kd.uY HO221.out BK204.out (by decide)) (fun _ hk => hk.2) (.slice Ao21 t216.length co21)) (fun _ hk => hk.2) (.slice Ao23 t219.length co23)) (fun _ hk => trivial)⟩, ⟨by (with_reducible repeat (first | refine uF ?_ _ | refine uB ?_ | refine uE ?_ _)); refine vF ?_ NB197_204.out _; (with_reducible repeat (first | refine uF ?_ _ | refine uB ?_ | refine uE ?_ _)); refine vF ?_ NB197_204.out _; (with_reducible repeat (first | refine uF ?_ _ | refine uB ?_ | refine uE ?_ _)); exact BK197.out⟩, ⟨by (with_reducible repeat (first | refine uF ?_ _ | refine uB ?_ | refine uE ?_ _)); refine uK (cs := #[.slice Ao21 t216.length co21, .slice Ao19 x205001_1.length co19]) ?_ 1 _ rfl; (with_reducible repeat (first | refine uF ?_ _ | refine uB ?_ | refine uE ?_ _)); refine uK (cs := #[.slice Ao18 x205000_1.length co18, .slice Ao19 x205001_1.length co19]) ?_ 0 _ rfl; (with_reducible repeat (first | refine uF ?_ _ | refine uB ?_ | refine uE ?_ _)); exact BK204.out⟩, ⟨q41⟩, ⟨q2⟩, ⟨q0⟩⟩

end Go.Proofs.Ytcikahnmiiichaa.M
