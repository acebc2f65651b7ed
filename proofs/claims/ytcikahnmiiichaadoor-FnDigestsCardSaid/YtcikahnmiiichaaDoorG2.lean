/- Go functions as Lean functions, and the proof that the code comes to them: written by a program of this session out of the translation. -/
import Derived.Test.YtcikahnmiiichaaDoorG0
namespace Go.Proofs.YtcikahnmiiichaaDoor.G
open List renaming setIfInBounds_toArray → uY, set_cons_zero → uZ, set_cons_succ → vA
open Go.World renaming block_lt_of_cell? → vE
open Go.Proofs.YtcikahnmiiichaaDoor.Given
open Go.RowKit Go.Proofs.YtcikahnmiiichaaDoorW.PrintWords Go.Proofs.YtcikahnmiiichaaDoorW.PrintLast Go.Proofs.YtcikahnmiiichaaDoorW.PrintMore
attribute [local go_sem] max2_int min2_int max_two min_two max_three min_three max_four min_four   -- for this text's walks alone
set_option linter.unusedVariables false
set_option linter.unusedSimpArgs false

/-! ### laws_big: function 7 -/
def laws_big.f (l0 : List Int) : Option (Bool) := some (decide ((l0.length : Int) > 1048576))
set_option maxHeartbeats 8000000 in
set_option maxRecDepth 100000 in
theorem laws_big.calls (A0 : Option Addr) (c0 : Nat) (l0 : List Int) (r : Bool) (w : World) (hr0 : Kd.C (Kd.int .u8) w A0 l0.length l0) (hc0 : l0.length ≤ c0) (h : laws_big.f l0 = some r) :
    Calls Tryd.prog 7 #[.slice A0 l0.length c0] w fun e w' => e = .returned (.bool r) ∧ Drawn0 w w' := by
  have HR0 := Aside0.mk hr0
  have HC0 := Aside0.mk hc0
  clear hr0 hc0
  have H : (some (decide ((l0.length : Int) > 1048576))) = some r := h
  clear h
  obtain rfl := Option.some.inj H
  go_enter Tryd.func7, Tryd.ntmps7
  go_wp2
  go_ret
  exact ⟨q10, q33⟩

/-- A state of type 110 at block g of W; what its slices lead to came in by w0. -/
def IsS110 (w0 W : World) (g : Nat) (f0 : List Int) (f1 : Int) (f2 : Int) : Prop := ∃ A0 c0, W.heap[g]? = some (.cells #[.slice A0 f0.length c0, .int .i64 f1, .int .i64 f2] 110 (0, 0)) ∧ w0.heap.size ≤ g ∧ Kd.C (Kd.int .u8) w0 A0 f0.length f0
theorem IsS110.grown {w0 W : World} {g : Nat} {f0 : List Int} {f1 : Int} {f2 : Int} {W1 : World} {row : Option Nat} (h : IsS110 w0 W g f0 f1 f2) (hw : W.grownBy W1 row) (hne : some g ≠ row) : IsS110 w0 W1 g f0 f1 f2 := by
  obtain ⟨A0, c0, hb, hg, hr0⟩ := h
  exact ⟨A0, c0, blk_grown hb hw hne, hg, hr0⟩
theorem IsS110.own_neN {w0 W : World} {g : Nat} {f0 : List Int} {f1 : Int} {f2 : Int} {α : Type} {d : Kd α} {e : Nat} {base : Nat} {ok : Nat → Prop} {v : Value} {xs : List α} (h : IsS110 w0 W g f0 f1 f2) (ho : Kd.N d e W base ok v xs) (ht : e ≠ 110) : some g ≠ v.ownBlock := by
  obtain ⟨A0, c0, hb, hg, hr0⟩ := h
  exact Kd.N_ne ho hb ht
theorem IsS110.fresh {w0 W : World} {g : Nat} {f0 : List Int} {f1 : Int} {f2 : Int} (h : IsS110 w0 W g f0 f1 f2) : ∀ k, W.heap.size ≤ k → k ≠ g := by
  obtain ⟨A0, c0, hb, hg, hr0⟩ := h
  exact Kd.freshB hb
theorem IsS110.kept {w0 W : World} {g : Nat} {f0 : List Int} {f1 : Int} {f2 : Int} {W1 : World} {S : Nat → Prop} (h : IsS110 w0 W g f0 f1 f2) (hk : Kept W W1 S) (hne : ¬ S g) : IsS110 w0 W1 g f0 f1 f2 := by
  obtain ⟨A0, c0, hb, hg, hr0⟩ := h
  exact ⟨A0, c0, blk_kept hb hk hne, hg, hr0⟩
theorem IsS110.below {w0 W : World} {g : Nat} {f0 : List Int} {f1 : Int} {f2 : Int} {W1 : World} (h : IsS110 w0 W g f0 f1 f2) (hw : Below W.heap.size W W1) : IsS110 w0 W1 g f0 f1 f2 := h.grown (grown_of_below hw none) (by simp)
theorem IsS110.alloc {w0 W : World} {g : Nat} {f0 : List Int} {f1 : Int} {f2 : Int} (h : IsS110 w0 W g f0 f1 f2) (o : Obj) : IsS110 w0 (W.alloc o) g f0 f1 f2 := h.below (below_alloc (Below.refl _ _) o)
theorem IsS110.drewN {w0 W : World} {g : Nat} {f0 : List Int} {f1 : Int} {f2 : Int} (h : IsS110 w0 W g f0 f1 f2) (m : Nat) : IsS110 w0 (W.drewN m) g f0 f1 f2 := h
theorem IsS110.drew {w0 W : World} {g : Nat} {f0 : List Int} {f1 : Int} {f2 : Int} (h : IsS110 w0 W g f0 f1 f2) : IsS110 w0 W.drew g f0 f1 f2 := h
theorem IsS110.at_ {w0 W : World} {g : Nat} {f0 : List Int} {f1 : Int} {f2 : Int} {w' : World} {m : Nat} (hq : W.drewN m = w') (h : IsS110 w0 W g f0 f1 f2) : IsS110 w0 w' g f0 f1 f2 := by subst hq; exact IsS110.drewN h m
theorem IsS110.apart {w0 W : World} {g : Nat} {f0 : List Int} {f1 : Int} {f2 : Int} {α : Type} {d : Kd α} {e : Nat} {base : Nat} {ok : Nat → Prop} {v : Value} {xs : List α} (h : IsS110 w0 W g f0 f1 f2) (ho : d.R e W base ok v xs) (ht : ∀ q, q ∈ e :: d.E → q ≠ 110) : d.R e W base (fun k => ok k ∧ k ≠ g) v xs := by
  obtain ⟨A0, c0, hb, hg, hr0⟩ := h
  exact Kd.R_types ho hb ht
theorem IsS110.own_ne {w0 W : World} {g : Nat} {f0 : List Int} {f1 : Int} {f2 : Int} {α : Type} {d : Kd α} {e : Nat} {base : Nat} {ok : Nat → Prop} {v : Value} {xs : List α} (h : IsS110 w0 W g f0 f1 f2) (ho : d.R e W base ok v xs) (ht : e ≠ 110) : some g ≠ v.ownBlock := by
  obtain ⟨A0, c0, hb, hg, hr0⟩ := h
  exact Kd.R_ne ho hb ht
theorem IsS110.apartQ {w0 W : World} {g : Nat} {f0 : List Int} {f1 : Int} {f2 : Int} {α : Type} {d : Kd α} {e : Nat} {base : Nat} {ok : Nat → Prop} {v : Value} {xs : List α} (h : IsS110 w0 W g f0 f1 f2) (ho : d.Q e W base ok v xs) (ht : ∀ q, q ∈ e :: d.E → q ≠ 110) : d.Q e W base (fun k => ok k ∧ k ≠ g) v xs := by
  obtain ⟨A0, c0, hb, hg, hr0⟩ := h
  exact Kd.Q_types ho hb ht
theorem IsS110.own_neQ {w0 W : World} {g : Nat} {f0 : List Int} {f1 : Int} {f2 : Int} {α : Type} {d : Kd α} {e : Nat} {base : Nat} {ok : Nat → Prop} {v : Value} {xs : List α} (h : IsS110 w0 W g f0 f1 f2) (ho : d.Q e W base ok v xs) (ht : e ≠ 110) : some g ≠ v.ownBlock := by
  obtain ⟨A0, c0, hb, hg, hr0⟩ := h
  exact Kd.Q_ne ho hb ht
theorem IsS110.apartS {w0 W : World} {g : Nat} {f0 : List Int} {f1 : Int} {f2 : Int} {α : Type} {d : Kd α} {e : Nat} {base : Nat} {ok : Nat → Prop} {v : Value} {xs : List α} (h : IsS110 w0 W g f0 f1 f2) (ho : d.S e W base ok v xs) (ht : ∀ q, q ∈ e :: d.E → q ≠ 110) : d.S e W base (fun k => ok k ∧ k ≠ g) v xs := by
  obtain ⟨A0, c0, hb, hg, hr0⟩ := h
  exact Kd.S_types ho hb ht
theorem IsS110.own_neS {w0 W : World} {g : Nat} {f0 : List Int} {f1 : Int} {f2 : Int} {α : Type} {d : Kd α} {e : Nat} {base : Nat} {ok : Nat → Prop} {v : Value} {xs : List α} (h : IsS110 w0 W g f0 f1 f2) (ho : d.S e W base ok v xs) (ht : e ≠ 110) : some g ≠ v.ownBlock := by
  obtain ⟨A0, c0, hb, hg, hr0⟩ := h
  exact Kd.S_ne ho hb ht
theorem IsS110.lt {w0 W : World} {g : Nat} {f0 : List Int} {f1 : Int} {f2 : Int} (h : IsS110 w0 W g f0 f1 f2) : g < W.heap.size := by
  obtain ⟨A0, c0, hb, hg, hr0⟩ := h
  exact blk_lt hb
theorem IsS110.ge {w0 W : World} {g : Nat} {f0 : List Int} {f1 : Int} {f2 : Int} (h : IsS110 w0 W g f0 f1 f2) : w0.heap.size ≤ g := by
  obtain ⟨A0, c0, hb, hg, hr0⟩ := h
  exact hg
theorem IsS110.ne_blk {w0 W : World} {g : Nat} {f0 : List Int} {f1 : Int} {f2 : Int} {a : Nat} {cs : Array Value} {t : TypeId} {fr : Nat × Nat} (h : IsS110 w0 W g f0 f1 f2) (hb2 : W.heap[a]? = some (.cells cs t fr)) (ht : t ≠ 110) : g ≠ a := by
  obtain ⟨A0, c0, hb, hg, hr0⟩ := h
  rintro rfl
  rw [hb] at hb2
  injection hb2 with hb2
  injection hb2 with _ ht2
  exact ht ht2.symm
theorem IsS110.far {w0 W : World} {g : Nat} {f0 : List Int} {f1 : Int} {f2 : Int} {p : Addr} (h : IsS110 w0 W g f0 f1 f2) (hne : g ≠ p.block) (u : Value) : IsS110 w0 (W.setCell p u) g f0 f1 f2 := by
  obtain ⟨A0, c0, hb, hg, hr0⟩ := h
  exact ⟨A0, c0, blk_far hb hne u, hg, hr0⟩
theorem cellS110_0 {W : World} {g : Nat} {A0 : Option Addr} {c0 : Nat} {f0 : List Int} {f1 : Int} {f2 : Int} (h : W.heap[g]? = some (.cells #[.slice A0 f0.length c0, .int .i64 f1, .int .i64 f2] 110 (0, 0))) : W.cell? ⟨g, 0, none⟩ = some (.slice A0 f0.length c0) := (uA h 0).trans rfl
theorem cellS110_1 {W : World} {g : Nat} {A0 : Option Addr} {c0 : Nat} {f0 : List Int} {f1 : Int} {f2 : Int} (h : W.heap[g]? = some (.cells #[.slice A0 f0.length c0, .int .i64 f1, .int .i64 f2] 110 (0, 0))) : W.cell? ⟨g, 1, none⟩ = some (.int .i64 f1) := (uA h 1).trans rfl
theorem IsS110.set_1 {w0 W : World} {g : Nat} {f0 : List Int} {f1 : Int} {f2 : Int} (h : IsS110 w0 W g f0 f1 f2) (x : Int) : IsS110 w0 (W.setCell ⟨g, 1, none⟩ (.int .i64 x)) g f0 x f2 := by
  obtain ⟨A0, c0, hb, hg, hr0⟩ := h
  exact ⟨A0, c0, by simpa using blk_set hb 1 (.int .i64 x), hg, hr0⟩
theorem cellS110_2 {W : World} {g : Nat} {A0 : Option Addr} {c0 : Nat} {f0 : List Int} {f1 : Int} {f2 : Int} (h : W.heap[g]? = some (.cells #[.slice A0 f0.length c0, .int .i64 f1, .int .i64 f2] 110 (0, 0))) : W.cell? ⟨g, 2, none⟩ = some (.int .i64 f2) := (uA h 2).trans rfl
theorem IsS110.set_2 {w0 W : World} {g : Nat} {f0 : List Int} {f1 : Int} {f2 : Int} (h : IsS110 w0 W g f0 f1 f2) (x : Int) : IsS110 w0 (W.setCell ⟨g, 2, none⟩ (.int .i64 x)) g f0 f1 x := by
  obtain ⟨A0, c0, hb, hg, hr0⟩ := h
  exact ⟨A0, c0, by simpa using blk_set hb 2 (.int .i64 x), hg, hr0⟩
theorem IsS110.new (w0 W : World) (A0 : Option Addr) (c0 : Nat) (f0 : List Int) (f1 : Int) (f2 : Int) (hB : Below w0.heap.size w0 W) (hr0 : Kd.C (Kd.int .u8) w0 A0 f0.length f0) : IsS110 w0 (W.alloc (.cells #[.slice A0 f0.length c0, .int .i64 f1, .int .i64 f2] 110)) W.heap.size f0 f1 f2 := ⟨A0, c0, by simpa using heap_alloc_new W _, hB.size, hr0⟩

theorem IsS110.tgr {w0 W W1 W2 : World} {g : Nat} {f0 : List Int} {f1 : Int} {f2 : Int} {row : Option Nat} (h : Aside0 (IsS110 w0 W g f0 f1 f2)) (hg : W1.grownBy W2 row) (hne : some g ≠ row) (hs : IsS110 w0 W g f0 f1 f2 → IsS110 w0 W1 g f0 f1 f2 := by (intro x_; repeat (first | (with_reducible first | exact x_ | apply IsS110.alloc | apply IsS110.drewN | apply IsS110.drew | refine IsS110.far ?_ (Aside0.out (by assumption)) _) | exact x_))) : Aside0 (IsS110 w0 W2 g f0 f1 f2) := ⟨IsS110.grown (hs h.out) hg hne⟩
/-! ### spec_l1New: function 50 -/
def spec_l1New.l0 : Nat → List Int → Int → Int → Option (List Int × Int × Int)
  | 0, _, _, _ => none
  | k + 1, x0, x3, x4 => if x4 < (x0.length : Int) then (if x4 < 4000 then (if 0 ≤ x4 then (spec_l1New.l0 k x0 (Go.bits .and .i64 (wrap64 ((wrap64 ((wrap64 (x3 * 131)) + (wrap64 (rd x0 x4)))) + 7)) 1073741823) (wrap64 (x4 + 1))) else (none)) else (some (x0, 0, x3))) else (some (x0, 0, x3))
def spec_l1New.f (k : Nat) (l0 : List Int) : Option (List Int × Int × Int) := spec_l1New.l0 k l0 (wrap64 (10101 + (l0.length : Int))) 0
theorem spec_l1New.mono_l : ∀ k, (∀ y0 y1 y2, uF (spec_l1New.l0 k y0 y1 y2) (spec_l1New.l0 (k + 1) y0 y1 y2))
  | 0 => fun _ _ _ r h => by simp [spec_l1New.l0] at h
  | k + 1 => by
    have ih0 := spec_l1New.mono_l k
    intro y0 y1 y2
    unfold spec_l1New.l0
    repeat' first
    | (with_reducible exact ih0 _ _ _)
    | (with_reducible exact uF.refl _)
    | (with_reducible exact uF.none _)
    | (with_reducible refine uF.ite ?_ ?_)
    | (with_reducible refine uF.bind ?_ (fun _ => ?_))
    | exact ih0 _ _ _
    | exact uF.none _
    | refine uF.ite ?_ ?_
    | refine uF.bind ?_ (fun _ => ?_)
theorem spec_l1New.mono : ∀ a0 k, uF (spec_l1New.f k a0) (spec_l1New.f (k + 1) a0) := by
  intro a0 k
  have ih0 := spec_l1New.mono_l k
  unfold spec_l1New.f
  repeat' first
      | (with_reducible exact ih0 _ _ _)
      | (with_reducible exact uF.refl _)
      | (with_reducible exact uF.none _)
      | (with_reducible refine uF.ite ?_ ?_)
      | (with_reducible refine uF.bind ?_ (fun _ => ?_))
      | exact ih0 _ _ _
      | exact uF.none _
      | refine uF.ite ?_ ?_
      | refine uF.bind ?_ (fun _ => ?_)
set_option maxHeartbeats 8000000 in
set_option maxRecDepth 100000 in
theorem spec_l1New.calls (k : Nat) (A0 : Option Addr) (c0 : Nat) (l0 : List Int) (r1 : List Int) (r2 : Int) (r3 : Int) (w0 w : World) (hB : Below w0.heap.size w0 w) (hr0 : Kd.C (Kd.int .u8) w0 A0 l0.length l0) (hc0 : l0.length ≤ c0) (h : spec_l1New.f k l0 = some (r1, r2, r3)) :
    Calls Tryd.prog 50 #[.slice A0 l0.length c0] w fun e w' => ∃ g_ : Nat, e = .returned (.pointer (some ⟨g_, 0, none⟩)) ∧ IsS110 w0 w' g_ r1 r2 r3 ∧ Below w0.heap.size w0 w' ∧ Below w.heap.size w w' := by
  have hu110 := Tryd.underlying110
  have HR0 := Aside0.mk hr0
  have HC0 := Aside0.mk hc0
  clear hr0 hc0
  have HBW := Aside0.mk (Below.refl w.heap.size w)
  have HW0 := Aside0.mk hB.size
  have HB := Aside0.mk hB
  clear hB
  have H : (spec_l1New.l0 k l0 (wrap64 (10101 + (l0.length : Int))) 0) = some (r1, r2, r3) := h
  clear h
  have H' := Aside0.mk H
  clear H
  go_enter Tryd.func50, Tryd.ntmps50
  go_wp2
  go_loopg [3, 4] k (fun kq v3 v4 w' => ∃ (x3_1 : Int) (x4_1 : Int), v3 = .int .i64 x3_1 ∧ v4 = .int .i64 x4_1 ∧ Aside0 (spec_l1New.l0 kq l0 x3_1 x4_1 = some (r1, r2, r3)) ∧ Aside0 (kq ≤ k) ∧ Aside0 (Below w.heap.size w w') ∧ Aside0 (Below w0.heap.size w0 w'))
  case atStart => exact ⟨(wrap64 (10101 + (l0.length : Int))), (0), q10, q10, H', ⟨Nat.le_refl _⟩, ⟨q52⟩, ⟨q0⟩⟩
  case round =>
    clear H'
    obtain ⟨x3_1, x4_1, rfl, rfl, HA, HK1, HBW, HB⟩ := hrel
    cases gk with
    | zero => exact absurd HA.out (by simp [spec_l1New.l0])
    | succ k1 =>
      have H := HA.out
      clear HA
      simp only [spec_l1New.l0] at H
      by_cases c2 : x4_1 < (l0.length : Int)
      rotate_left
      · rw [if_neg c2] at H
        have c2b0 : decide (x4_1 < (l0.length : Int)) = false := decide_eq_false c2
        clear c2
        simp only [Option.some.injEq, Prod.mk.injEq] at H
        obtain ⟨rfl, rfl, rfl⟩ := H
        go_wp2_with (first | ((with_reducible refine uR (N := 31) rfl ?_); refine bxe 31 #[.slice A0 l0.length c0, .int .i64 0, .int .i64 x3_1] 110 ?_; intro gb102 hg w6 hbox hb; have BK102 := Aside0.mk (hbox); have GW102 := tGe HBW hg; have GE102 := Aside0.mk ((Nat.le_trans HW0.out (by rw [hg]; exact (uU q52) : w.heap.size ≤ gb102) : w0.heap.size ≤ gb102)); replace HBW := Aside0.mk (below_step HBW.out hb); replace HB := uQ HB hb; clear hb hbox hg))
        go_ret
        exact ⟨_, rfl, (show IsS110 w0 _ gb102 l0 0 x3_1 from ⟨_, _, by (with_reducible repeat (first | refine uH ?_ _ | refine uI ?_ | refine uG ?_ _)); exact BK102.out, GE102.out, HR0.out⟩), q3, by repeat (first | (with_reducible first | exact HBW.out | apply below_alloc | apply pw_below_drewN | apply below_drew1 | refine below_set ?_ GW102.out) | exact HBW.out)⟩
      rw [if_pos c2] at H
      have c2b0 : decide (x4_1 < (l0.length : Int)) = true := decide_eq_true c2
      clear c2
      by_cases c3 : x4_1 < 4000
      · rw [if_pos c3] at H
        have c3b0 : decide (x4_1 < 4000) = true := decide_eq_true c3
        clear c3
        by_cases c4 : 0 ≤ x4_1
        rotate_left
        · rw [if_neg c4] at H
          exact absurd H (by simp)
        rw [if_pos c4] at H
        have c4b0 : decide (0 ≤ x4_1) = true := decide_eq_true c4
        clear c4
        have H' := Aside0.mk H
        clear H
        have p101 : 0 ≤ (x4_1 : Int) := of_decide_eq_true q9
        have q101 : x4_1 < (l0.length : Int) := of_decide_eq_true q9
        obtain ⟨ad101, e101, hx101_0⟩ := Kd.at_int HR0.out x4_1 p101 q101
        cases e101
        replace hx101_0 := uJ HB.out hx101_0
        replace p101 := eq_true p101
        replace q101 := eq_true q101
        go_wp2
        go_roundg k1
        case measure => have := HK1.out; omega
        case rel => exact ⟨(Go.bits .and .i64 (wrap64 ((wrap64 ((wrap64 (x3_1 * 131)) + (wrap64 (rd l0 x4_1)))) + 7)) 1073741823), (wrap64 (x4_1 + 1)), q10, q10, H', ⟨by have := HK1.out; omega⟩, ⟨q52⟩, ⟨q0⟩⟩
      rw [if_neg c3] at H
      have c3b0 : decide (x4_1 < 4000) = false := decide_eq_false c3
      clear c3
      simp only [Option.some.injEq, Prod.mk.injEq] at H
      obtain ⟨rfl, rfl, rfl⟩ := H
      go_wp2_with (first | ((with_reducible refine uR (N := 31) rfl ?_); refine bxe 31 #[.slice A0 l0.length c0, .int .i64 0, .int .i64 x3_1] 110 ?_; intro gb102 hg w5 hbox hb; have BK102 := Aside0.mk (hbox); have GW102 := tGe HBW hg; have GE102 := Aside0.mk ((Nat.le_trans HW0.out (by rw [hg]; exact (uU q52) : w.heap.size ≤ gb102) : w0.heap.size ≤ gb102)); replace HBW := Aside0.mk (below_step HBW.out hb); replace HB := uQ HB hb; clear hb hbox hg))
      go_ret
      exact ⟨_, rfl, (show IsS110 w0 _ gb102 l0 0 x3_1 from ⟨_, _, by (with_reducible repeat (first | refine uH ?_ _ | refine uI ?_ | refine uG ?_ _)); exact BK102.out, GE102.out, HR0.out⟩), q3, by repeat (first | (with_reducible first | exact HBW.out | apply below_alloc | apply pw_below_drewN | apply below_drew1 | refine below_set ?_ GW102.out) | exact HBW.out)⟩

/-! ### spec_l1Byte: function 94 -/
def spec_l1Byte.f (s0_0 : List Int) (s0_1 : Int) (s0_2 : Int) : Option (Int × Int × Int) := if s0_1 < (s0_0.length : Int) then (if 0 ≤ s0_1 then (some (Go.bits .and .i64 (wrap64 ((Go.bits .and .i64 (Go.bits .xor .i64 ((wrap64 ((wrap64 (s0_2 * 6364136223846793005)) + 1442695040888963407)) / 8589934592) ((wrap64 ((wrap64 (s0_2 * 6364136223846793005)) + 1442695040888963407)) / 35184372088832)) 255) + (wrap64 (rd s0_0 s0_1)))) 255, wrap64 (s0_1 + 1), wrap64 ((wrap64 (s0_2 * 6364136223846793005)) + 1442695040888963407))) else (none)) else (some (Go.bits .and .i64 (Go.bits .xor .i64 ((wrap64 ((wrap64 (s0_2 * 6364136223846793005)) + 1442695040888963407)) / 8589934592) ((wrap64 ((wrap64 (s0_2 * 6364136223846793005)) + 1442695040888963407)) / 35184372088832)) 255, s0_1, wrap64 ((wrap64 (s0_2 * 6364136223846793005)) + 1442695040888963407)))
set_option maxHeartbeats 8000000 in
set_option maxRecDepth 100000 in
theorem spec_l1Byte.calls (g : Nat) (s0_0 : List Int) (s0_1 : Int) (s0_2 : Int) (r1 : Int) (r2 : Int) (r3 : Int) (w0 w : World) (hI : IsS110 w0 w g s0_0 s0_1 s0_2) (hB : Below w0.heap.size w0 w) (h : spec_l1Byte.f s0_0 s0_1 s0_2 = some (r1, r2, r3)) :
    Calls Tryd.prog 94 #[.pointer (some ⟨g, 0, none⟩)] w fun e w' => e = .returned (.int .i64 r1) ∧ IsS110 w0 w' g s0_0 r2 r3 ∧ Below w0.heap.size w0 w' ∧ uP w w' g none := by
  have HI0 := Aside0.mk hI
  have HK := Aside0.mk (uP.refl w g none)
  have HL := Aside0.mk hB.size
  clear hI
  have HW0 := Aside0.mk hB.size
  have HB := Aside0.mk hB
  clear hB
  have H : (if s0_1 < (s0_0.length : Int) then (if 0 ≤ s0_1 then (some (Go.bits .and .i64 (wrap64 ((Go.bits .and .i64 (Go.bits .xor .i64 ((wrap64 ((wrap64 (s0_2 * 6364136223846793005)) + 1442695040888963407)) / 8589934592) ((wrap64 ((wrap64 (s0_2 * 6364136223846793005)) + 1442695040888963407)) / 35184372088832)) 255) + (wrap64 (rd s0_0 s0_1)))) 255, wrap64 (s0_1 + 1), wrap64 ((wrap64 (s0_2 * 6364136223846793005)) + 1442695040888963407))) else (none)) else (some (Go.bits .and .i64 (Go.bits .xor .i64 ((wrap64 ((wrap64 (s0_2 * 6364136223846793005)) + 1442695040888963407)) / 8589934592) ((wrap64 ((wrap64 (s0_2 * 6364136223846793005)) + 1442695040888963407)) / 35184372088832)) 255, s0_1, wrap64 ((wrap64 (s0_2 * 6364136223846793005)) + 1442695040888963407)))) = some (r1, r2, r3) := h
  clear h
  by_cases c2 : s0_1 < (s0_0.length : Int)
  rotate_left
  · rw [if_neg c2] at H
    have c2b0 : decide (s0_1 < (s0_0.length : Int)) = false := decide_eq_false c2
    clear c2
    simp only [Option.some.injEq, Prod.mk.injEq] at H
    obtain ⟨rfl, rfl, rfl⟩ := H
    obtain ⟨ASz5_0, cSz5_0, HGz5, hgz5, HSz5_0⟩ := HI0.out
    have hcz5_0 := cellS110_0 HGz5
    have hcz5_1 := cellS110_1 HGz5
    have hcz5_2 := cellS110_2 HGz5
    have hfz5_1 := blk_frozen HGz5 1
    have hfz5_2 := blk_frozen HGz5 2
    clear HGz5 hgz5
    go_enter Tryd.func94, Tryd.ntmps94
    go_wp2
    repeat (go_quiet (fail); try go_wp2)
    go_ret
    exact ⟨q2, q4, q6, q12⟩
  rw [if_pos c2] at H
  have c2b0 : decide (s0_1 < (s0_0.length : Int)) = true := decide_eq_true c2
  clear c2
  by_cases c3 : 0 ≤ s0_1
  rotate_left
  · rw [if_neg c3] at H
    exact absurd H (by simp)
  rw [if_pos c3] at H
  have c3b0 : decide (0 ≤ s0_1) = true := decide_eq_true c3
  clear c3
  simp only [Option.some.injEq, Prod.mk.injEq] at H
  obtain ⟨rfl, rfl, rfl⟩ := H
  obtain ⟨ASz4_0, cSz4_0, HGz4, hgz4, HSz4_0⟩ := HI0.out
  have hcz4_0 := cellS110_0 HGz4
  have hcz4_1 := cellS110_1 HGz4
  have hcz4_2 := cellS110_2 HGz4
  have hfz4_1 := blk_frozen HGz4 1
  have hfz4_2 := blk_frozen HGz4 2
  clear HGz4 hgz4
  have p103 : 0 ≤ (s0_1 : Int) := of_decide_eq_true q9
  have q103 : s0_1 < (s0_0.length : Int) := of_decide_eq_true q9
  obtain ⟨ad103, e103, hx103_0⟩ := Kd.at_int HSz4_0 s0_1 p103 q103
  cases e103
  have hn103_0 : ad103.block ≠ g := Nat.ne_of_lt (Nat.lt_of_lt_of_le (by have := vE _ _ hx103_0; first | rwa [add_block] at this | exact this) (IsS110.ge HI0.out))
  replace hx103_0 := uJ HB.out hx103_0
  replace hx103_0 := (cell_far (p := ⟨g, 2, none⟩) (by first | (rw [add_block]; exact hn103_0) | (show (Addr.add _ _).block ≠ _; rw [add_block]; exact hn103_0) | exact hn103_0) (.int .i64 (wrap64 ((wrap64 (s0_2 * 6364136223846793005)) + 1442695040888963407)))).trans hx103_0
  (try have hy103_0 := fun (n_ : Nat) => (show (((w.drewN n_).setCell ⟨g, 2, none⟩ (.int .i64 (wrap64 ((wrap64 (s0_2 * 6364136223846793005)) + 1442695040888963407))))).cell? _ = some _ from hx103_0))
  clear hn103_0
  replace p103 := eq_true p103
  replace q103 := eq_true q103
  go_enter Tryd.func94, Tryd.ntmps94
  go_wp2
  repeat (go_quiet (fail); try go_wp2)
  go_ret
  exact ⟨q2, q4, q6, q12⟩

/-! ### spec_l1Below: function 52 -/
def spec_l1Below.f (s0_0 : List Int) (s0_1 : Int) (s0_2 : Int) (a1 : Int) : Option (Int × Int × Int) := if a1 ≤ 0 then (some (0, s0_1, s0_2)) else (if a1 ≤ 256 then ((spec_l1Byte.f s0_0 s0_1 s0_2).bind fun bt104 => (if a1 = 0 then (none) else (some (Int.tmod bt104.1 a1, bt104.2.1, bt104.2.2)))) else ((spec_l1Byte.f s0_0 s0_1 s0_2).bind fun bt107 => ((spec_l1Byte.f s0_0 bt107.2.1 bt107.2.2).bind fun bt110 => ((spec_l1Byte.f s0_0 bt110.2.1 bt110.2.2).bind fun bt113 => ((spec_l1Byte.f s0_0 bt113.2.1 bt113.2.2).bind fun bt116 => (if a1 = 0 then (none) else (some (Int.tmod (wrap64 ((wrap64 ((wrap64 ((wrap64 (bt107.1 * 16777216)) + (wrap64 (bt110.1 * 65536)))) + (wrap64 (bt113.1 * 256)))) + bt116.1)) a1, bt116.2.1, bt116.2.2))))))))
set_option maxHeartbeats 8000000 in
set_option maxRecDepth 100000 in
theorem spec_l1Below.calls (g : Nat) (s0_0 : List Int) (s0_1 : Int) (s0_2 : Int) (a1 : Int) (r1 : Int) (r2 : Int) (r3 : Int) (w0 w : World) (hI : IsS110 w0 w g s0_0 s0_1 s0_2) (hB : Below w0.heap.size w0 w) (h : spec_l1Below.f s0_0 s0_1 s0_2 a1 = some (r1, r2, r3)) :
    Calls Tryd.prog 52 #[.pointer (some ⟨g, 0, none⟩), .int .i64 a1] w fun e w' => e = .returned (.int .i64 r1) ∧ IsS110 w0 w' g s0_0 r2 r3 ∧ Below w0.heap.size w0 w' ∧ uP w w' g none := by
  have HI0 := Aside0.mk hI
  have HK := Aside0.mk (uP.refl w g none)
  have HL := Aside0.mk hB.size
  clear hI
  have HW0 := Aside0.mk hB.size
  have HB := Aside0.mk hB
  clear hB
  have H : (if a1 ≤ 0 then (some (0, s0_1, s0_2)) else (if a1 ≤ 256 then ((spec_l1Byte.f s0_0 s0_1 s0_2).bind fun bt104 => (if a1 = 0 then (none) else (some (Int.tmod bt104.1 a1, bt104.2.1, bt104.2.2)))) else ((spec_l1Byte.f s0_0 s0_1 s0_2).bind fun bt107 => ((spec_l1Byte.f s0_0 bt107.2.1 bt107.2.2).bind fun bt110 => ((spec_l1Byte.f s0_0 bt110.2.1 bt110.2.2).bind fun bt113 => ((spec_l1Byte.f s0_0 bt113.2.1 bt113.2.2).bind fun bt116 => (if a1 = 0 then (none) else (some (Int.tmod (wrap64 ((wrap64 ((wrap64 ((wrap64 (bt107.1 * 16777216)) + (wrap64 (bt110.1 * 65536)))) + (wrap64 (bt113.1 * 256)))) + bt116.1)) a1, bt116.2.1, bt116.2.2))))))))) = some (r1, r2, r3) := h
  clear h
  by_cases c3 : a1 ≤ 0
  · rw [if_pos c3] at H
    have c3b0 : decide (a1 ≤ 0) = true := decide_eq_true c3
    clear c3
    simp only [Option.some.injEq, Prod.mk.injEq] at H
    obtain ⟨rfl, rfl, rfl⟩ := H
    go_enter Tryd.func52, Tryd.ntmps52
    go_wp2
    go_ret
    exact ⟨q2, q4, q6, q12⟩
  rw [if_neg c3] at H
  have c3b0 : decide (a1 ≤ 0) = false := decide_eq_false c3
  clear c3
  by_cases c4 : a1 ≤ 256
  · rw [if_pos c4] at H
    have c4b0 : decide (a1 ≤ 256) = true := decide_eq_true c4
    clear c4
    replace H := Option.bind_eq_some_iff.mp H
    obtain ⟨⟨t104, t105, t106⟩, A50, H⟩ := H
    try dsimp only at H
    have A5 := Aside0.mk A50
    clear A50
    by_cases c6 : a1 = 0
    · rw [if_pos c6] at H
      exact absurd H (by simp)
    rw [if_neg c6] at H
    have c6b0 : (a1 == 0) = false := beq_eq_false_iff_ne.mpr c6
    have c6b1 : (a1 != 0) = true := bne_iff_ne.mpr c6
    simp only [Option.some.injEq, Prod.mk.injEq] at H
    obtain ⟨rfl, rfl, rfl⟩ := H
    go_enter Tryd.func52, Tryd.ntmps52
    go_wp2_with (first | ((with_reducible refine uE (f := 94) rfl ?_); refine uL (some 14) Tryd.func94 #[.pointer (some ⟨g, 0, none⟩)] ?_; (with_reducible refine (spec_l1Byte.calls g s0_0 s0_1 s0_2 t104 t105 t106 w0 _ ?side1 ?side2 A5.out).mono ?_); (case side1 => exact q4); (case side2 => exact q6); rintro e w7 ⟨rfl, hi, hb, hk⟩; refine ⟨_, rfl, ?_⟩; replace HK := uO HK hk; replace HB := Aside0.mk (hb); replace HI0 := Aside0.mk (hi); (try clear hb); (try clear hb2); (try clear hk); (try clear hi)))
    go_ret
    exact ⟨q2, q4, q6, q12⟩
  rw [if_neg c4] at H
  have c4b0 : decide (a1 ≤ 256) = false := decide_eq_false c4
  clear c4
  replace H := Option.bind_eq_some_iff.mp H
  obtain ⟨⟨t107, t108, t109⟩, A80, H⟩ := H
  try dsimp only at H
  have A8 := Aside0.mk A80
  clear A80
  replace H := Option.bind_eq_some_iff.mp H
  obtain ⟨⟨t110, t111, t112⟩, A90, H⟩ := H
  try dsimp only at H
  have A9 := Aside0.mk A90
  clear A90
  replace H := Option.bind_eq_some_iff.mp H
  obtain ⟨⟨t113, t114, t115⟩, A100, H⟩ := H
  try dsimp only at H
  have A10 := Aside0.mk A100
  clear A100
  replace H := Option.bind_eq_some_iff.mp H
  obtain ⟨⟨t116, t117, t118⟩, A110, H⟩ := H
  try dsimp only at H
  have A11 := Aside0.mk A110
  clear A110
  by_cases c12 : a1 = 0
  · rw [if_pos c12] at H
    exact absurd H (by simp)
  rw [if_neg c12] at H
  have c12b0 : (a1 == 0) = false := beq_eq_false_iff_ne.mpr c12
  have c12b1 : (a1 != 0) = true := bne_iff_ne.mpr c12
  simp only [Option.some.injEq, Prod.mk.injEq] at H
  obtain ⟨rfl, rfl, rfl⟩ := H
  go_enter Tryd.func52, Tryd.ntmps52
  go_wp2_with (first | ((with_reducible refine uE (f := 94) rfl ?_); refine uL (some 18) Tryd.func94 #[.pointer (some ⟨g, 0, none⟩)] ?_; (with_reducible refine (spec_l1Byte.calls g s0_0 s0_1 s0_2 t107 t108 t109 w0 _ ?side1 ?side2 A8.out).mono ?_); (case side1 => exact q4); (case side2 => exact q6); rintro e w13 ⟨rfl, hi, hb, hk⟩; refine ⟨_, rfl, ?_⟩; replace HK := uO HK hk; replace HB := Aside0.mk (hb); replace HI0 := Aside0.mk (hi); (try clear hb); (try clear hb2); (try clear hk); (try clear hi)) | ((with_reducible refine uE (f := 94) rfl ?_); refine uL (some 20) Tryd.func94 #[.pointer (some ⟨g, 0, none⟩)] ?_; (with_reducible refine (spec_l1Byte.calls g s0_0 t108 t109 t110 t111 t112 w0 _ ?side1 ?side2 A9.out).mono ?_); (case side1 => exact q4); (case side2 => exact q6); rintro e w14 ⟨rfl, hi, hb, hk⟩; refine ⟨_, rfl, ?_⟩; replace HK := uO HK hk; replace HB := Aside0.mk (hb); replace HI0 := Aside0.mk (hi); (try clear hb); (try clear hb2); (try clear hk); (try clear hi)) | ((with_reducible refine uE (f := 94) rfl ?_); refine uL (some 22) Tryd.func94 #[.pointer (some ⟨g, 0, none⟩)] ?_; (with_reducible refine (spec_l1Byte.calls g s0_0 t111 t112 t113 t114 t115 w0 _ ?side1 ?side2 A10.out).mono ?_); (case side1 => exact q4); (case side2 => exact q6); rintro e w15 ⟨rfl, hi, hb, hk⟩; refine ⟨_, rfl, ?_⟩; replace HK := uO HK hk; replace HB := Aside0.mk (hb); replace HI0 := Aside0.mk (hi); (try clear hb); (try clear hb2); (try clear hk); (try clear hi)) | ((with_reducible refine uE (f := 94) rfl ?_); refine uL (some 24) Tryd.func94 #[.pointer (some ⟨g, 0, none⟩)] ?_; (with_reducible refine (spec_l1Byte.calls g s0_0 t114 t115 t116 t117 t118 w0 _ ?side1 ?side2 A11.out).mono ?_); (case side1 => exact q4); (case side2 => exact q6); rintro e w16 ⟨rfl, hi, hb, hk⟩; refine ⟨_, rfl, ?_⟩; replace HK := uO HK hk; replace HB := Aside0.mk (hb); replace HI0 := Aside0.mk (hi); (try clear hb); (try clear hb2); (try clear hk); (try clear hi)))
  go_ret
  exact ⟨q2, q4, q6, q12⟩

/-! ### spec_l1PickInt: function 54 -/
def spec_l1PickInt.f (s0_0 : List Int) (s0_1 : Int) (s0_2 : Int) (l1 : List Int) : Option (Int × Int × Int) := (spec_l1Below.f s0_0 s0_1 s0_2 (l1.length : Int)).bind fun bt119 => (if 0 ≤ bt119.1 then (if bt119.1 < (l1.length : Int) then (some (rd l1 bt119.1, bt119.2.1, bt119.2.2)) else (none)) else (none))
set_option maxHeartbeats 8000000 in
set_option maxRecDepth 100000 in
theorem spec_l1PickInt.calls (g : Nat) (s0_0 : List Int) (s0_1 : Int) (s0_2 : Int) (A1 : Option Addr) (c1 : Nat) (l1 : List Int) (r1 : Int) (r2 : Int) (r3 : Int) (w0 w : World) (hI : IsS110 w0 w g s0_0 s0_1 s0_2) (hB : Below w0.heap.size w0 w) (hr1 : Kd.C (Kd.int .i64) w A1 l1.length l1) (hc1 : l1.length ≤ c1) (hf1 : ∀ ad, A1 = some ad → 0 < l1.length → ad.block ≠ g) (h : spec_l1PickInt.f s0_0 s0_1 s0_2 l1 = some (r1, r2, r3)) :
    Calls Tryd.prog 54 #[.pointer (some ⟨g, 0, none⟩), .slice A1 l1.length c1] w fun e w' => e = .returned (.int .i64 r1) ∧ IsS110 w0 w' g s0_0 r2 r3 ∧ Below w0.heap.size w0 w' ∧ uP w w' g none := by
  have HR1 := Aside0.mk hr1
  have HC1 := Aside0.mk hc1
  clear hr1 hc1
  have HI0 := Aside0.mk hI
  have HK := Aside0.mk (uP.refl w g none)
  have HL := Aside0.mk hB.size
  clear hI
  have HW0 := Aside0.mk hB.size
  have HB := Aside0.mk hB
  clear hB
  have H : ((spec_l1Below.f s0_0 s0_1 s0_2 (l1.length : Int)).bind fun bt119 => (if 0 ≤ bt119.1 then (if bt119.1 < (l1.length : Int) then (some (rd l1 bt119.1, bt119.2.1, bt119.2.2)) else (none)) else (none))) = some (r1, r2, r3) := h
  clear h
  replace H := Option.bind_eq_some_iff.mp H
  obtain ⟨⟨t119, t120, t121⟩, A30, H⟩ := H
  try dsimp only at H
  have A3 := Aside0.mk A30
  clear A30
  by_cases c4 : 0 ≤ t119
  rotate_left
  · rw [if_neg c4] at H
    exact absurd H (by simp)
  rw [if_pos c4] at H
  have c4b0 : decide (0 ≤ t119) = true := decide_eq_true c4
  clear c4
  by_cases c5 : t119 < (l1.length : Int)
  rotate_left
  · rw [if_neg c5] at H
    exact absurd H (by simp)
  rw [if_pos c5] at H
  have c5b0 : decide (t119 < (l1.length : Int)) = true := decide_eq_true c5
  clear c5
  simp only [Option.some.injEq, Prod.mk.injEq] at H
  obtain ⟨rfl, rfl, rfl⟩ := H
  go_enter Tryd.func54, Tryd.ntmps54
  go_wp2_with (first | ((with_reducible refine uE (f := 52) rfl ?_); refine uL (some 9) Tryd.func52 #[.pointer (some ⟨g, 0, none⟩), .int .i64 (l1.length : Int)] ?_; (with_reducible refine (spec_l1Below.calls g s0_0 s0_1 s0_2 (l1.length : Int) t119 t120 t121 w0 _ ?side1 ?side2 A3.out).mono ?_); (case side1 => exact q4); (case side2 => exact q6); rintro e w6 ⟨rfl, hi, hb, hk⟩; refine ⟨_, rfl, ?_⟩; replace HK := uO HK hk; replace HB := Aside0.mk (hb); replace HI0 := Aside0.mk (hi); (try clear hb); (try clear hb2); (try clear hk); (try clear hi); have p122 : 0 ≤ (t119 : Int) := of_decide_eq_true q9; have q122 : t119 < (l1.length : Int) := of_decide_eq_true q9; obtain ⟨ad122, e122, hx122_0⟩ := Kd.at_int HR1.out t119 p122 q122; cases e122; replace hx122_0 := keep_cell HK.out hx122_0 (by first | (rw [add_block]; exact hf1 _ rfl (by omega)) | exact hf1 _ rfl (by omega) | exact hf1 ad122 rfl (by omega)); replace p122 := eq_true p122; replace q122 := eq_true q122))
  go_ret
  exact ⟨q2, q4, q6, q12⟩

/-! ### spec_l1Once: function 53 -/
def spec_l1Once.f (s0_0 : List Int) (s0_1 : Int) (s0_2 : Int) (a1 : Int) : Option (Bool × Int × Int) := (spec_l1Below.f s0_0 s0_1 s0_2 a1).bind fun bt123 => (some ((bt123.1 == 0), bt123.2.1, bt123.2.2))
set_option maxHeartbeats 8000000 in
set_option maxRecDepth 100000 in
theorem spec_l1Once.calls (g : Nat) (s0_0 : List Int) (s0_1 : Int) (s0_2 : Int) (a1 : Int) (r1 : Bool) (r2 : Int) (r3 : Int) (w0 w : World) (hI : IsS110 w0 w g s0_0 s0_1 s0_2) (hB : Below w0.heap.size w0 w) (h : spec_l1Once.f s0_0 s0_1 s0_2 a1 = some (r1, r2, r3)) :
    Calls Tryd.prog 53 #[.pointer (some ⟨g, 0, none⟩), .int .i64 a1] w fun e w' => e = .returned (.bool r1) ∧ IsS110 w0 w' g s0_0 r2 r3 ∧ Below w0.heap.size w0 w' ∧ uP w w' g none := by
  have HI0 := Aside0.mk hI
  have HK := Aside0.mk (uP.refl w g none)
  have HL := Aside0.mk hB.size
  clear hI
  have HW0 := Aside0.mk hB.size
  have HB := Aside0.mk hB
  clear hB
  have H : ((spec_l1Below.f s0_0 s0_1 s0_2 a1).bind fun bt123 => (some ((bt123.1 == 0), bt123.2.1, bt123.2.2))) = some (r1, r2, r3) := h
  clear h
  replace H := Option.bind_eq_some_iff.mp H
  obtain ⟨⟨t123, t124, t125⟩, A30, H⟩ := H
  try dsimp only at H
  have A3 := Aside0.mk A30
  clear A30
  simp only [Option.some.injEq, Prod.mk.injEq] at H
  obtain ⟨rfl, rfl, rfl⟩ := H
  go_enter Tryd.func53, Tryd.ntmps53
  go_wp2_with (first | ((with_reducible refine uE (f := 52) rfl ?_); refine uL (some 7) Tryd.func52 #[.pointer (some ⟨g, 0, none⟩), .int .i64 a1] ?_; (with_reducible refine (spec_l1Below.calls g s0_0 s0_1 s0_2 a1 t123 t124 t125 w0 _ ?side1 ?side2 A3.out).mono ?_); (case side1 => exact q4); (case side2 => exact q6); rintro e w4 ⟨rfl, hi, hb, hk⟩; refine ⟨_, rfl, ?_⟩; replace HK := uO HK hk; replace HB := Aside0.mk (hb); replace HI0 := Aside0.mk (hi); (try clear hb); (try clear hb2); (try clear hk); (try clear hi)))
  go_ret
  exact ⟨q2, q4, q6, q12⟩

/-! ### spec_l3Op: function 85 -/
def spec_l3Op.f (s0_0 : List Int) (s0_1 : Int) (s0_2 : Int) : Option (Int × Int × Int × Int × Int × Int × Int × Int) := (spec_l1Below.f s0_0 s0_1 s0_2 3).bind fun bt127 => ((spec_l1Below.f s0_0 bt127.2.1 bt127.2.2 5).bind fun bt130 => ((spec_l1Below.f s0_0 bt130.2.1 bt130.2.2 3).bind fun bt133 => ((spec_l1Below.f s0_0 bt133.2.1 bt133.2.2 10).bind fun bt136 => ((spec_l1Once.f s0_0 bt136.2.1 bt136.2.2 3).bind fun bt140 => (if bt140.1 = true then ((spec_l1PickInt.f s0_0 bt140.2.1 bt140.2.2 (([0, 0, 1, 5, 9] : List Int))).bind fun bt146 => (some (bt127.1, wrap64 (1 + bt130.1), 2, bt133.1, bt146.1, bt136.1, bt146.2.1, bt146.2.2))) else (some (bt127.1, wrap64 (1 + bt130.1), 1, bt133.1, 0, bt136.1, bt140.2.1, bt140.2.2)))))))
set_option maxHeartbeats 8000000 in
set_option maxRecDepth 100000 in
theorem spec_l3Op.calls (g : Nat) (s0_0 : List Int) (s0_1 : Int) (s0_2 : Int) (r1 : Int) (r2 : Int) (r3 : Int) (r4 : Int) (r5 : Int) (r6 : Int) (r7 : Int) (r8 : Int) (w0 w : World) (hI : IsS110 w0 w g s0_0 s0_1 s0_2) (hB : Below w0.heap.size w0 w) (h : spec_l3Op.f s0_0 s0_1 s0_2 = some (r1, r2, r3, r4, r5, r6, r7, r8)) :
    Calls Tryd.prog 85 #[.pointer (some ⟨g, 0, none⟩)] w fun e w' => e = .returned (.agg #[.int .i64 r1, .int .i64 r2, .int .i64 r3, .int .i64 r4, .int .i64 r5, .int .i64 r6]) ∧ IsS110 w0 w' g s0_0 r7 r8 ∧ Below w0.heap.size w0 w' ∧ uP w w' g none := by
  have hu64 := Tryd.underlying64
  have HI0 := Aside0.mk hI
  have HK := Aside0.mk (uP.refl w g none)
  have HL := Aside0.mk hB.size
  clear hI
  have HW0 := Aside0.mk hB.size
  have HB := Aside0.mk hB
  clear hB
  have H : ((spec_l1Below.f s0_0 s0_1 s0_2 3).bind fun bt127 => ((spec_l1Below.f s0_0 bt127.2.1 bt127.2.2 5).bind fun bt130 => ((spec_l1Below.f s0_0 bt130.2.1 bt130.2.2 3).bind fun bt133 => ((spec_l1Below.f s0_0 bt133.2.1 bt133.2.2 10).bind fun bt136 => ((spec_l1Once.f s0_0 bt136.2.1 bt136.2.2 3).bind fun bt140 => (if bt140.1 = true then ((spec_l1PickInt.f s0_0 bt140.2.1 bt140.2.2 (([0, 0, 1, 5, 9] : List Int))).bind fun bt146 => (some (bt127.1, wrap64 (1 + bt130.1), 2, bt133.1, bt146.1, bt136.1, bt146.2.1, bt146.2.2))) else (some (bt127.1, wrap64 (1 + bt130.1), 1, bt133.1, 0, bt136.1, bt140.2.1, bt140.2.2)))))))) = some (r1, r2, r3, r4, r5, r6, r7, r8) := h
  clear h
  replace H := Option.bind_eq_some_iff.mp H
  obtain ⟨⟨t127, t128, t129⟩, A20, H⟩ := H
  try dsimp only at H
  have A2 := Aside0.mk A20
  clear A20
  replace H := Option.bind_eq_some_iff.mp H
  obtain ⟨⟨t130, t131, t132⟩, A30, H⟩ := H
  try dsimp only at H
  have A3 := Aside0.mk A30
  clear A30
  replace H := Option.bind_eq_some_iff.mp H
  obtain ⟨⟨t133, t134, t135⟩, A40, H⟩ := H
  try dsimp only at H
  have A4 := Aside0.mk A40
  clear A40
  replace H := Option.bind_eq_some_iff.mp H
  obtain ⟨⟨t136, t137, t138⟩, A50, H⟩ := H
  try dsimp only at H
  have A5 := Aside0.mk A50
  clear A50
  replace H := Option.bind_eq_some_iff.mp H
  obtain ⟨⟨t140, t141, t142⟩, A60, H⟩ := H
  try dsimp only at H
  have A6 := Aside0.mk A60
  clear A60
  go_enter Tryd.func85, Tryd.ntmps85
  go_wp2_with (first | ((with_reducible refine uR (N := 2) rfl ?_); refine bxe 2 #[.int .i64 0, .int .i64 0, .int .i64 0, .int .i64 0, .int .i64 0, .int .i64 0] 64 ?_; intro gb126 hg w27 hbox hb; have BK126 := Aside0.mk (hbox); have GW126 := tKGe HK hg; have GE126 := tKW HW0 HK hg; have NB0_126 := Aside0.mk ((by rw [hg]; exact Nat.ne_of_lt (IsS110.lt (show IsS110 w0 _ g s0_0 s0_1 s0_2 from by repeat (first | (with_reducible first | exact HI0.out | apply IsS110.alloc | apply IsS110.drewN | apply IsS110.drew | apply IsS110.set_1 | apply IsS110.set_2) | exact HI0.out))) : g ≠ gb126)); have NB126_0 := Aside0.mk ((by rw [hg]; exact Nat.ne_of_gt (IsS110.lt (show IsS110 w0 _ g s0_0 s0_1 s0_2 from by repeat (first | (with_reducible first | exact HI0.out | apply IsS110.alloc | apply IsS110.drewN | apply IsS110.drew | apply IsS110.set_1 | apply IsS110.set_2) | exact HI0.out))) : gb126 ≠ g)); replace HI0 := Aside0.mk (IsS110.below q4 hb); replace HK := uO HK (uP.of_below hb g none); replace HB := tBel2 HB hb; clear hb hbox hg; refine ?roundEnd))
  case roundEnd =>
  by_cases c7 : t140 = true
  rotate_left
  · replace c7 := Bool.eq_false_iff.mpr c7
    subst c7
    try rw [if_neg (show ¬ (false = true) by decide)] at H
    simp only [Option.some.injEq, Prod.mk.injEq] at H
    obtain ⟨rfl, rfl, rfl, rfl, rfl, rfl, rfl, rfl⟩ := H
    go_wp2_with (first | ((with_reducible refine uE (f := 52) rfl ?_); refine uL (some 5) Tryd.func52 #[.pointer (some ⟨g, 0, none⟩), .int .i64 3] ?_; (with_reducible refine (spec_l1Below.calls g s0_0 s0_1 s0_2 3 t127 t128 t129 w0 _ ?side1 ?side2 A2.out).mono ?_); (case side1 => exact q17); (case side2 => exact q1); rintro e w28 ⟨rfl, hi, hb, hk⟩; refine ⟨_, rfl, ?_⟩; replace BK126 := tKBlk BK126 hk NB126_0; replace HK := uO HK hk; replace HB := Aside0.mk (hb); replace HI0 := Aside0.mk (hi); (try clear hb); (try clear hb2); (try clear hk); (try clear hi)) | ((with_reducible refine uE (f := 52) rfl ?_); refine uL (some 7) Tryd.func52 #[.pointer (some ⟨g, 0, none⟩), .int .i64 5] ?_; (with_reducible refine (spec_l1Below.calls g s0_0 t128 t129 5 t130 t131 t132 w0 _ ?side1 ?side2 A3.out).mono ?_); (case side1 => exact q17); (case side2 => exact q1); rintro e w29 ⟨rfl, hi, hb, hk⟩; refine ⟨_, rfl, ?_⟩; replace BK126 := tKBlk BK126 hk NB126_0; replace HK := uO HK hk; replace HB := Aside0.mk (hb); replace HI0 := Aside0.mk (hi); (try clear hb); (try clear hb2); (try clear hk); (try clear hi)) | ((with_reducible refine uE (f := 52) rfl ?_); refine uL (some 10) Tryd.func52 #[.pointer (some ⟨g, 0, none⟩), .int .i64 3] ?_; (with_reducible refine (spec_l1Below.calls g s0_0 t131 t132 3 t133 t134 t135 w0 _ ?side1 ?side2 A4.out).mono ?_); (case side1 => exact q17); (case side2 => exact q1); rintro e w30 ⟨rfl, hi, hb, hk⟩; refine ⟨_, rfl, ?_⟩; replace BK126 := tKBlk BK126 hk NB126_0; replace HK := uO HK hk; replace HB := Aside0.mk (hb); replace HI0 := Aside0.mk (hi); (try clear hb); (try clear hb2); (try clear hk); (try clear hi)) | ((with_reducible refine uE (f := 52) rfl ?_); refine uL (some 12) Tryd.func52 #[.pointer (some ⟨g, 0, none⟩), .int .i64 10] ?_; (with_reducible refine (spec_l1Below.calls g s0_0 t134 t135 10 t136 t137 t138 w0 _ ?side1 ?side2 A5.out).mono ?_); (case side1 => exact q17); (case side2 => exact q1); rintro e w31 ⟨rfl, hi, hb, hk⟩; refine ⟨_, rfl, ?_⟩; replace BK126 := tKBlk BK126 hk NB126_0; replace HK := uO HK hk; replace HB := Aside0.mk (hb); replace HI0 := Aside0.mk (hi); (try clear hb); (try clear hb2); (try clear hk); (try clear hi)) | ((with_reducible refine uR (N := 3) rfl ?_); refine bxe 3 #[.int .i64 0, .int .i64 0, .int .i64 0, .int .i64 0, .int .i64 0, .int .i64 0] 64 ?_; intro gb139 hg w32 hbox hb; have BK139 := Aside0.mk (hbox); have GW139 := tKGe HK hg; have GE139 := tKW HW0 HK hg; have NB126_139 := tNl BK126 hg; have NB139_126 := tNg BK126 hg; have NB0_139 := Aside0.mk ((by rw [hg]; exact Nat.ne_of_lt (IsS110.lt (show IsS110 w0 _ g s0_0 t137 t138 from by repeat (first | (with_reducible first | exact HI0.out | apply IsS110.alloc | apply IsS110.drewN | apply IsS110.drew | apply IsS110.set_1 | apply IsS110.set_2 | refine IsS110.far ?_ NB0_126.out _) | exact HI0.out))) : g ≠ gb139)); have NB139_0 := Aside0.mk ((by rw [hg]; exact Nat.ne_of_gt (IsS110.lt (show IsS110 w0 _ g s0_0 t137 t138 from by repeat (first | (with_reducible first | exact HI0.out | apply IsS110.alloc | apply IsS110.drewN | apply IsS110.drew | apply IsS110.set_1 | apply IsS110.set_2 | refine IsS110.far ?_ NB0_126.out _) | exact HI0.out))) : gb139 ≠ g)); replace HI0 := Aside0.mk (IsS110.below q17 hb); replace BK126 := tBlk BK126 hb; replace HK := uO HK (uP.of_below hb g none); replace HB := tBel2 HB hb; clear hb hbox hg; have hnb33 := NB139_126.out; have hnc33 := NB126_139.out; have hnb34 := NB139_0.out; have hnc34 := NB0_139.out; obtain ⟨hcz35_0, hcz35_1, hcz35_2, hcz35_3, hcz35_4, hcz35_5, hfz35_0, hfz35_1, hfz35_2, hfz35_3, hfz35_4, hfz35_5⟩ := cz6 BK139) | ((with_reducible refine uE (f := 53) rfl ?_); refine uL (some 15) Tryd.func53 #[.pointer (some ⟨g, 0, none⟩), .int .i64 3] ?_; (with_reducible refine (spec_l1Once.calls g s0_0 t137 t138 3 false t141 t142 w0 _ ?side1 ?side2 A6.out).mono ?_); (case side1 => exact q32); (case side2 => exact q1); rintro e w36 ⟨rfl, hi, hb, hk⟩; refine ⟨_, rfl, ?_⟩; replace BK126 := tKBlkF BK126 hk NB126_0; replace BK139 := tKBlkP BK139 #[.int .i64 t127, .int .i64 (wrap64 (1 + t130)), .int .i64 1, .int .i64 t133, .int .i64 0, .int .i64 t136] hk NB139_0; replace HK := uO HK hk; replace HB := Aside0.mk (hb); replace HI0 := Aside0.mk (hi); (try clear hb); (try clear hb2); (try clear hk); (try clear hi); obtain ⟨hcz37_0, hcz37_1, hcz37_2, hcz37_3, hcz37_4, hcz37_5, hfz37_0, hfz37_1, hfz37_2, hfz37_3, hfz37_4, hfz37_5⟩ := cz6 BK139; have hnb38 := NB126_0.out; have hnc38 := NB0_126.out; obtain ⟨hcz39_0, hcz39_1, hcz39_2, hcz39_3, hcz39_4, hcz39_5, hfz39_0, hfz39_1, hfz39_2, hfz39_3, hfz39_4, hfz39_5⟩ := cz6 BK126))
    refine bodyPost_ret (results_cell_row rfl _ _ gb126 64 #[.int .i64 t127, .int .i64 (wrap64 (1 + t130)), .int .i64 1, .int .i64 t133, .int .i64 0, .int .i64 t136] (0, 0) _ rfl (by (with_reducible repeat (first | refine uH ?_ _ | refine uI ?_ | refine uG ?_ _)); refine uN (cs := #[.int .i64 t127, .int .i64 (wrap64 (1 + t130)), .int .i64 1, .int .i64 t133, .int .i64 0, .int .i64 0]) ?_ 5 _ rfl; (with_reducible repeat (first | refine uH ?_ _ | refine uI ?_ | refine uG ?_ _)); refine uN (cs := #[.int .i64 t127, .int .i64 (wrap64 (1 + t130)), .int .i64 1, .int .i64 t133, .int .i64 0, .int .i64 0]) ?_ 4 _ rfl; (with_reducible repeat (first | refine uH ?_ _ | refine uI ?_ | refine uG ?_ _)); refine uN (cs := #[.int .i64 t127, .int .i64 (wrap64 (1 + t130)), .int .i64 1, .int .i64 0, .int .i64 0, .int .i64 0]) ?_ 3 _ rfl; (with_reducible repeat (first | refine uH ?_ _ | refine uI ?_ | refine uG ?_ _)); refine uN (cs := #[.int .i64 t127, .int .i64 (wrap64 (1 + t130)), .int .i64 0, .int .i64 0, .int .i64 0, .int .i64 0]) ?_ 2 _ rfl; (with_reducible repeat (first | refine uH ?_ _ | refine uI ?_ | refine uG ?_ _)); refine uN (cs := #[.int .i64 t127, .int .i64 0, .int .i64 0, .int .i64 0, .int .i64 0, .int .i64 0]) ?_ 1 _ rfl; (with_reducible repeat (first | refine uH ?_ _ | refine uI ?_ | refine uG ?_ _)); refine uN (cs := #[.int .i64 0, .int .i64 0, .int .i64 0, .int .i64 0, .int .i64 0, .int .i64 0]) ?_ 0 _ rfl; (with_reducible repeat (first | refine uH ?_ _ | refine uI ?_ | refine uG ?_ _)); exact BK126.out) Tryd.underlying64 rfl (by kernel_rfl)) rfl ?_
    exact ⟨q2, q32, q1, q7⟩
  subst c7
  try rw [if_pos rfl] at H
  obtain ⟨y143, hy143⟩ : ∃ y_ : List Int, y_ = (([0, 0, 1, 5, 9] : List Int)) := ⟨_, rfl⟩
  replace H : ((spec_l1PickInt.f s0_0 t141 t142 y143).bind fun bt146 => (some (t127, wrap64 (1 + t130), 2, t133, bt146.1, t136, bt146.2.1, bt146.2.2))) = some (r1, r2, r3, r4, r5, r6, r7, r8) := by first | (rw [hy143]; with_reducible exact H) | (have H2_ := (Option.bind_some _ _).symm.trans H; rw [hy143]; with_reducible exact H2_) | (have H2_ := (Option.bind_some _ _).symm.trans H; with_reducible exact H2_) | with_reducible exact H | (rw [hy143]; exact H) | exact H | rfl
  have Ny143 := Aside0.mk hy143
  clear hy143
  replace H := Option.bind_eq_some_iff.mp H
  obtain ⟨⟨t146, t147, t148⟩, A80, H⟩ := H
  try dsimp only at H
  have A8 := Aside0.mk A80
  clear A80
  simp only [Option.some.injEq, Prod.mk.injEq] at H
  obtain ⟨rfl, rfl, rfl, rfl, rfl, rfl, rfl, rfl⟩ := H
  go_wp2_with (first | ((with_reducible refine uE (f := 52) rfl ?_); refine uL (some 5) Tryd.func52 #[.pointer (some ⟨g, 0, none⟩), .int .i64 3] ?_; (with_reducible refine (spec_l1Below.calls g s0_0 s0_1 s0_2 3 t127 t128 t129 w0 _ ?side1 ?side2 A2.out).mono ?_); (case side1 => exact q17); (case side2 => exact q1); rintro e w10 ⟨rfl, hi, hb, hk⟩; refine ⟨_, rfl, ?_⟩; replace BK126 := tKBlk BK126 hk NB126_0; replace HK := uO HK hk; replace HB := Aside0.mk (hb); replace HI0 := Aside0.mk (hi); (try clear hb); (try clear hb2); (try clear hk); (try clear hi)) | ((with_reducible refine uE (f := 52) rfl ?_); refine uL (some 7) Tryd.func52 #[.pointer (some ⟨g, 0, none⟩), .int .i64 5] ?_; (with_reducible refine (spec_l1Below.calls g s0_0 t128 t129 5 t130 t131 t132 w0 _ ?side1 ?side2 A3.out).mono ?_); (case side1 => exact q17); (case side2 => exact q1); rintro e w11 ⟨rfl, hi, hb, hk⟩; refine ⟨_, rfl, ?_⟩; replace BK126 := tKBlk BK126 hk NB126_0; replace HK := uO HK hk; replace HB := Aside0.mk (hb); replace HI0 := Aside0.mk (hi); (try clear hb); (try clear hb2); (try clear hk); (try clear hi)) | ((with_reducible refine uE (f := 52) rfl ?_); refine uL (some 10) Tryd.func52 #[.pointer (some ⟨g, 0, none⟩), .int .i64 3] ?_; (with_reducible refine (spec_l1Below.calls g s0_0 t131 t132 3 t133 t134 t135 w0 _ ?side1 ?side2 A4.out).mono ?_); (case side1 => exact q17); (case side2 => exact q1); rintro e w12 ⟨rfl, hi, hb, hk⟩; refine ⟨_, rfl, ?_⟩; replace BK126 := tKBlk BK126 hk NB126_0; replace HK := uO HK hk; replace HB := Aside0.mk (hb); replace HI0 := Aside0.mk (hi); (try clear hb); (try clear hb2); (try clear hk); (try clear hi)) | ((with_reducible refine uE (f := 52) rfl ?_); refine uL (some 12) Tryd.func52 #[.pointer (some ⟨g, 0, none⟩), .int .i64 10] ?_; (with_reducible refine (spec_l1Below.calls g s0_0 t134 t135 10 t136 t137 t138 w0 _ ?side1 ?side2 A5.out).mono ?_); (case side1 => exact q17); (case side2 => exact q1); rintro e w13 ⟨rfl, hi, hb, hk⟩; refine ⟨_, rfl, ?_⟩; replace BK126 := tKBlk BK126 hk NB126_0; replace HK := uO HK hk; replace HB := Aside0.mk (hb); replace HI0 := Aside0.mk (hi); (try clear hb); (try clear hb2); (try clear hk); (try clear hi)) | ((with_reducible refine uR (N := 3) rfl ?_); refine bxe 3 #[.int .i64 0, .int .i64 0, .int .i64 0, .int .i64 0, .int .i64 0, .int .i64 0] 64 ?_; intro gb139 hg w14 hbox hb; have BK139 := Aside0.mk (hbox); have GW139 := tKGe HK hg; have GE139 := tKW HW0 HK hg; have NB126_139 := tNl BK126 hg; have NB139_126 := tNg BK126 hg; have NB0_139 := Aside0.mk ((by rw [hg]; exact Nat.ne_of_lt (IsS110.lt (show IsS110 w0 _ g s0_0 t137 t138 from by repeat (first | (with_reducible first | exact HI0.out | apply IsS110.alloc | apply IsS110.drewN | apply IsS110.drew | apply IsS110.set_1 | apply IsS110.set_2 | refine IsS110.far ?_ NB0_126.out _) | exact HI0.out))) : g ≠ gb139)); have NB139_0 := Aside0.mk ((by rw [hg]; exact Nat.ne_of_gt (IsS110.lt (show IsS110 w0 _ g s0_0 t137 t138 from by repeat (first | (with_reducible first | exact HI0.out | apply IsS110.alloc | apply IsS110.drewN | apply IsS110.drew | apply IsS110.set_1 | apply IsS110.set_2 | refine IsS110.far ?_ NB0_126.out _) | exact HI0.out))) : gb139 ≠ g)); replace HI0 := Aside0.mk (IsS110.below q17 hb); replace BK126 := tBlk BK126 hb; replace HK := uO HK (uP.of_below hb g none); replace HB := tBel2 HB hb; clear hb hbox hg; have hnb15 := NB139_126.out; have hnc15 := NB126_139.out; have hnb16 := NB139_0.out; have hnc16 := NB0_139.out; obtain ⟨hcz17_0, hcz17_1, hcz17_2, hcz17_3, hcz17_4, hcz17_5, hfz17_0, hfz17_1, hfz17_2, hfz17_3, hfz17_4, hfz17_5⟩ := cz6 BK139) | ((with_reducible refine uE (f := 53) rfl ?_); refine uL (some 15) Tryd.func53 #[.pointer (some ⟨g, 0, none⟩), .int .i64 3] ?_; (with_reducible refine (spec_l1Once.calls g s0_0 t137 t138 3 true t141 t142 w0 _ ?side1 ?side2 A6.out).mono ?_); (case side1 => exact q32); (case side2 => exact q1); rintro e w18 ⟨rfl, hi, hb, hk⟩; refine ⟨_, rfl, ?_⟩; replace BK126 := tKBlkF BK126 hk NB126_0; replace BK139 := tKBlkP BK139 #[.int .i64 t127, .int .i64 (wrap64 (1 + t130)), .int .i64 1, .int .i64 t133, .int .i64 0, .int .i64 t136] hk NB139_0; replace HK := uO HK hk; replace HB := Aside0.mk (hb); replace HI0 := Aside0.mk (hi); (try clear hb); (try clear hb2); (try clear hk); (try clear hi); obtain ⟨hcz19_0, hcz19_1, hcz19_2, hcz19_3, hcz19_4, hcz19_5, hfz19_0, hfz19_1, hfz19_2, hfz19_3, hfz19_4, hfz19_5⟩ := cz6 BK139) | ((with_reducible refine uR (N := 18) rfl ?_); refine Kd.R_lit (Kd.int .i64) _ 3 ?hg (N := 18) ?hd (xs := ([0, 0, 1, 5, 9] : List Int)) (inner := [.int .i64 0, .int .i64 0, .int .i64 1, .int .i64 5, .int .i64 9]) (ok := fun _ => True) (okp := fun _ => True) ?hr ?hp (fun _ hk => hk) trivial (Below.refl _ _) (Nat.le_refl _) (by simp) ?_; (case hd => rfl); (case hg => rfl); (case hr => first | (go_simp; done) | (go_simp; rfl)); (case hp => exact (Reps.one (show Kd.M (Kd.int .i64) _ _ _ 0 [.int .i64 0] from rfl) (Reps.one (show Kd.M (Kd.int .i64) _ _ _ 0 [.int .i64 0] from rfl) (Reps.one (show Kd.M (Kd.int .i64) _ _ _ 1 [.int .i64 1] from rfl) (Reps.one (show Kd.M (Kd.int .i64) _ _ _ 5 [.int .i64 5] from rfl) (Reps.one (show Kd.M (Kd.int .i64) _ _ _ 9 [.int .i64 9] from rfl) (Reps.none _ _))))))); intro v144 w20 ho21 hb hg_ hnew_; clear hg_ hnew_; (first | rw [← Ny143.out] at ho21 | (simp only [Int.reduceToNat] at ho21; rw [← Ny143.out] at ho21)); have HO145 := Aside0.mk (Kd.uX ho21 (keep_size (w := w) (g := g) (row := none) q7)); replace HI0 := Aside0.mk (IsS110.below (show IsS110 w0 (w18.setCell ⟨gb139, 2, none⟩ (.int .i64 2)) g s0_0 t141 t142 from by repeat (first | (with_reducible first | exact HI0.out | apply IsS110.alloc | apply IsS110.drewN | apply IsS110.drew | apply IsS110.set_1 | apply IsS110.set_2 | refine IsS110.far ?_ NB0_126.out _ | refine IsS110.far ?_ NB0_139.out _) | exact HI0.out)) hb); replace BK126 := tBlkF BK126 hb; replace BK139 := tBlkP BK139 #[.int .i64 t127, .int .i64 (wrap64 (1 + t130)), .int .i64 2, .int .i64 t133, .int .i64 0, .int .i64 t136] hb; replace HK := uO HK (uP.of_below hb g none); replace HB := tBel2 HB hb; clear hb ho21; obtain ⟨Ao22, co22, eo22⟩ := Kd.R_slice HO145.out; subst eo22) | ((with_reducible refine uE (f := 54) rfl ?_); refine uL (some 19) Tryd.func54 #[.pointer (some ⟨g, 0, none⟩), .slice Ao22 y143.length co22] ?_; (with_reducible refine (spec_l1PickInt.calls g s0_0 t141 t142 _ _ y143 t146 t147 t148 w0 _ ?side1 ?side2 ?side3 ?side4 ?side5 A8.out).mono ?_); (case side1 => exact q32); (case side2 => exact q1); (case side3 => repeat (first | exact (Kd.uM HO145.out).2.2 | (with_reducible refine Kd.C_alloc ?_ _) | (with_reducible refine Kd.C_drewN ?_ _) | (with_reducible refine Kd.C_drew ?_))); (case side4 => exact (Kd.uM HO145.out).2.1); (case side5 => exact far_slice (IsS110.own_ne HI0.out HO145.out (by decide))); rintro e w23 ⟨rfl, hi, hb, hk⟩; refine ⟨_, rfl, ?_⟩; replace BK126 := tKBlk BK126 hk NB126_0; replace BK139 := tKBlk BK139 hk NB139_0; replace HO145 := Aside0.mk (Kd.uV (Kd.R_keep (IsS110.apart (show IsS110 w0 _ g s0_0 t141 t142 from by repeat (first | (with_reducible first | exact HI0.out | apply IsS110.alloc | apply IsS110.drewN | apply IsS110.drew | apply IsS110.set_1 | apply IsS110.set_2 | refine IsS110.far ?_ NB0_126.out _ | refine IsS110.far ?_ NB0_139.out _) | exact HI0.out)) (rSR HO145.out) (by decide)) hk (fun _ h => h.2)) (fun _ h => h.1)); replace HK := uO HK hk; replace HB := Aside0.mk (hb); replace HI0 := Aside0.mk (hi); (try clear hb); (try clear hb2); (try clear hk); (try clear hi); obtain ⟨hcz24_0, hcz24_1, hcz24_2, hcz24_3, hcz24_4, hcz24_5, hfz24_0, hfz24_1, hfz24_2, hfz24_3, hfz24_4, hfz24_5⟩ := cz6 BK139; have hnb25 := NB126_0.out; have hnc25 := NB0_126.out; obtain ⟨hcz26_0, hcz26_1, hcz26_2, hcz26_3, hcz26_4, hcz26_5, hfz26_0, hfz26_1, hfz26_2, hfz26_3, hfz26_4, hfz26_5⟩ := cz6 BK126))
  refine bodyPost_ret (results_cell_row rfl _ _ gb126 64 #[.int .i64 t127, .int .i64 (wrap64 (1 + t130)), .int .i64 2, .int .i64 t133, .int .i64 t146, .int .i64 t136] (0, 0) _ rfl (by (with_reducible repeat (first | refine uH ?_ _ | refine uI ?_ | refine uG ?_ _)); refine uN (cs := #[.int .i64 t127, .int .i64 (wrap64 (1 + t130)), .int .i64 2, .int .i64 t133, .int .i64 t146, .int .i64 0]) ?_ 5 _ rfl; (with_reducible repeat (first | refine uH ?_ _ | refine uI ?_ | refine uG ?_ _)); refine uN (cs := #[.int .i64 t127, .int .i64 (wrap64 (1 + t130)), .int .i64 2, .int .i64 t133, .int .i64 0, .int .i64 0]) ?_ 4 _ rfl; (with_reducible repeat (first | refine uH ?_ _ | refine uI ?_ | refine uG ?_ _)); refine uN (cs := #[.int .i64 t127, .int .i64 (wrap64 (1 + t130)), .int .i64 2, .int .i64 0, .int .i64 0, .int .i64 0]) ?_ 3 _ rfl; (with_reducible repeat (first | refine uH ?_ _ | refine uI ?_ | refine uG ?_ _)); refine uN (cs := #[.int .i64 t127, .int .i64 (wrap64 (1 + t130)), .int .i64 0, .int .i64 0, .int .i64 0, .int .i64 0]) ?_ 2 _ rfl; (with_reducible repeat (first | refine uH ?_ _ | refine uI ?_ | refine uG ?_ _)); refine uN (cs := #[.int .i64 t127, .int .i64 0, .int .i64 0, .int .i64 0, .int .i64 0, .int .i64 0]) ?_ 1 _ rfl; (with_reducible repeat (first | refine uH ?_ _ | refine uI ?_ | refine uG ?_ _)); refine uN (cs := #[.int .i64 0, .int .i64 0, .int .i64 0, .int .i64 0, .int .i64 0, .int .i64 0]) ?_ 0 _ rfl; (with_reducible repeat (first | refine uH ?_ _ | refine uI ?_ | refine uG ?_ _)); refine blk_far ?_ NB126_139.out _; (with_reducible repeat (first | refine uH ?_ _ | refine uI ?_ | refine uG ?_ _)); exact BK126.out) Tryd.underlying64 rfl (by kernel_rfl)) rfl ?_
  exact ⟨q2, q32, q1, q7⟩

/-! ### spec_l5Log: function 92 -/
def spec_l5Log.l0 : Nat → List (S66) → Int → Int → List Int → Int → Int → Option ((List (S66)) × Int × Int)
  | 0, _, _, _, _, _, _ => none
  | k + 1, x3, x4, x5, x1000, x1001, x1002 => if x5 > 0 then ((spec_l1Once.f x1000 x1001 x1002 3).bind fun bt155 => (if bt155.1 = true then ((spec_l3Op.f x1000 bt155.2.1 bt155.2.2).bind fun bt158 => (if x3.length < 2513169434916 then (spec_l5Log.l0 k (x3 ++ [(⟨wrap64 (x4 + 1), (⟨bt158.1, bt158.2.1, bt158.2.2.1, bt158.2.2.2.1, bt158.2.2.2.2.1, bt158.2.2.2.2.2.1⟩ : S64)⟩ : S66)]) (wrap64 (x4 + 1)) (wrap64 (x5 - 1)) x1000 bt158.2.2.2.2.2.2.1 bt158.2.2.2.2.2.2.2) else (none))) else ((spec_l3Op.f x1000 bt155.2.1 bt155.2.2).bind fun bt170 => (if x3.length < 2513169434916 then (spec_l5Log.l0 k (x3 ++ [(⟨x4, (⟨bt170.1, bt170.2.1, bt170.2.2.1, bt170.2.2.2.1, bt170.2.2.2.2.1, bt170.2.2.2.2.2.1⟩ : S64)⟩ : S66)]) x4 (wrap64 (x5 - 1)) x1000 bt170.2.2.2.2.2.2.1 bt170.2.2.2.2.2.2.2) else (none))))) else (some (x3, x1001, x1002))
def spec_l5Log.f (k : Nat) (s0_0 : List Int) (s0_1 : Int) (s0_2 : Int) : Option ((List (S66)) × Int × Int) := (spec_l1Below.f s0_0 s0_1 s0_2 7).bind fun bt152 => (spec_l5Log.l0 k (([] : List (S66))) 1 bt152.1 s0_0 bt152.2.1 bt152.2.2)
theorem spec_l5Log.mono_l : ∀ k, (∀ y0 y1 y2 y3 y4 y5, uF (spec_l5Log.l0 k y0 y1 y2 y3 y4 y5) (spec_l5Log.l0 (k + 1) y0 y1 y2 y3 y4 y5))
  | 0 => fun _ _ _ _ _ _ r h => by simp [spec_l5Log.l0] at h
  | k + 1 => by
    have ih0 := spec_l5Log.mono_l k
    intro y0 y1 y2 y3 y4 y5
    unfold spec_l5Log.l0
    repeat' first
    | (with_reducible exact ih0 _ _ _ _ _ _)
    | (with_reducible exact uF.refl _)
    | (with_reducible exact uF.none _)
    | (with_reducible refine uF.ite ?_ ?_)
    | (with_reducible refine uF.bind ?_ (fun _ => ?_))
    | exact ih0 _ _ _ _ _ _
    | exact uF.none _
    | refine uF.ite ?_ ?_
    | refine uF.bind ?_ (fun _ => ?_)
theorem spec_l5Log.mono : ∀ a0 a1 a2 k, uF (spec_l5Log.f k a0 a1 a2) (spec_l5Log.f (k + 1) a0 a1 a2) := by
  intro a0 a1 a2 k
  have ih0 := spec_l5Log.mono_l k
  unfold spec_l5Log.f
  repeat' first
      | (with_reducible exact ih0 _ _ _ _ _ _)
      | (with_reducible exact uF.refl _)
      | (with_reducible exact uF.none _)
      | (with_reducible refine uF.ite ?_ ?_)
      | (with_reducible refine uF.bind ?_ (fun _ => ?_))
      | exact ih0 _ _ _ _ _ _
      | exact uF.none _
      | refine uF.ite ?_ ?_
      | refine uF.bind ?_ (fun _ => ?_)
set_option maxHeartbeats 8000000 in
set_option maxRecDepth 100000 in
theorem spec_l5Log.calls (k : Nat) (g : Nat) (s0_0 : List Int) (s0_1 : Int) (s0_2 : Int) (r1 : List (S66)) (r2 : Int) (r3 : Int) (w0 w : World) (hI : IsS110 w0 w g s0_0 s0_1 s0_2) (hB : Below w0.heap.size w0 w) (h : spec_l5Log.f k s0_0 s0_1 s0_2 = some (r1, r2, r3)) :
    Calls Tryd.prog 92 #[.pointer (some ⟨g, 0, none⟩)] w fun e w' => ∃ v0_ : Value, e = .returned (v0_) ∧ Kd.R k66 66 w' w.heap.size (fun _ => True) v0_ r1 ∧ IsS110 w0 w' g s0_0 r2 r3 ∧ Below w0.heap.size w0 w' ∧ uP w w' g none := by
  have hu64 := Tryd.underlying64
  have hu66 := Tryd.underlying66
  have HI0 := Aside0.mk hI
  have HK := Aside0.mk (uP.refl w g none)
  have HL := Aside0.mk hB.size
  clear hI
  have HW0 := Aside0.mk hB.size
  have HB := Aside0.mk hB
  clear hB
  have H : ((spec_l1Below.f s0_0 s0_1 s0_2 7).bind fun bt152 => (spec_l5Log.l0 k (([] : List (S66))) 1 bt152.1 s0_0 bt152.2.1 bt152.2.2)) = some (r1, r2, r3) := h
  clear h
  obtain ⟨y149, hy149⟩ : ∃ y_ : List (S66), y_ = (([] : List (S66))) := ⟨_, rfl⟩
  replace H : ((spec_l1Below.f s0_0 s0_1 s0_2 7).bind fun bt152 => (spec_l5Log.l0 k y149 1 bt152.1 s0_0 bt152.2.1 bt152.2.2)) = some (r1, r2, r3) := by first | (rw [hy149]; with_reducible exact H) | (have H2_ := (Option.bind_some _ _).symm.trans H; rw [hy149]; with_reducible exact H2_) | (have H2_ := (Option.bind_some _ _).symm.trans H; with_reducible exact H2_) | with_reducible exact H | (rw [hy149]; exact H) | exact H | rfl
  have Ny149 := Aside0.mk hy149
  clear hy149
  replace H := Option.bind_eq_some_iff.mp H
  obtain ⟨⟨t152, t153, t154⟩, A20, H⟩ := H
  try dsimp only at H
  have A2 := Aside0.mk A20
  clear A20
  have H' := Aside0.mk H
  clear H
  go_enter Tryd.func92, Tryd.ntmps92
  go_wp2_with (first | ((with_reducible refine uR (N := 7) rfl ?_); refine Kd.R_lit k66 _ 66 ?hg (N := 7) ?hd (xs := ([] : List (S66))) (inner := []) (ok := fun _ => True) (okp := fun _ => True) ?hr ?hp (fun _ hk => hk) trivial (Below.refl _ _) (Nat.le_refl _) (by simp) ?_; (case hd => rfl); (case hg => rfl); (case hr => first | (go_simp; done) | (go_simp; rfl)); (case hp => exact (Reps.none _ _)); intro v150 w3 ho4 hb hg_ hnew_; clear hg_ hnew_; (first | rw [← Ny149.out] at ho4 | (simp only [Int.reduceToNat] at ho4; rw [← Ny149.out] at ho4)); have HO151 := Aside0.mk (Kd.uX ho4 (keep_size (w := w) (g := g) (row := none) q12)); replace HI0 := Aside0.mk (IsS110.below q4 hb); replace HK := uO HK (uP.of_below hb g none); replace HB := tBel2 HB hb; clear hb ho4) | ((with_reducible refine uE (f := 52) rfl ?_); refine uL (some 9) Tryd.func52 #[.pointer (some ⟨g, 0, none⟩), .int .i64 7] ?_; (with_reducible refine (spec_l1Below.calls g s0_0 s0_1 s0_2 7 t152 t153 t154 w0 _ ?side1 ?side2 A2.out).mono ?_); (case side1 => exact q4); (case side2 => exact q6); rintro e w5 ⟨rfl, hi, hb, hk⟩; refine ⟨_, rfl, ?_⟩; replace HO151 := Aside0.mk (Kd.uV (Kd.R_keep (IsS110.apart (show IsS110 w0 _ g s0_0 s0_1 s0_2 from by repeat (first | (with_reducible first | exact HI0.out | apply IsS110.alloc | apply IsS110.drewN | apply IsS110.drew | apply IsS110.set_1 | apply IsS110.set_2) | exact HI0.out)) (rSR HO151.out) (by decide)) hk (fun _ h => h.2)) (fun _ h => h.1)); replace HK := uO HK hk; replace HB := Aside0.mk (hb); replace HI0 := Aside0.mk (hi); (try clear hb); (try clear hb2); (try clear hk); (try clear hi)))
  go_loopg [3, 4, 5] k (fun kq v3 v4 v5 w' => ∃ (x3_1 : List (S66)) (x4_1 : Int) (x5_1 : Int) (x1001_1 : Int) (x1002_1 : Int), v4 = .int .i64 x4_1 ∧ v5 = .int .i64 x5_1 ∧ Aside0 (spec_l5Log.l0 kq x3_1 x4_1 x5_1 s0_0 x1001_1 x1002_1 = some (r1, r2, r3)) ∧ Aside0 (kq ≤ k) ∧ Aside0 (Kd.R k66 66 w' w.heap.size (fun _ => True) v3 x3_1) ∧ Aside0 (IsS110 w0 w' g s0_0 x1001_1 x1002_1) ∧ Aside0 (uP w w' g none) ∧ Aside0 (Below w0.heap.size w0 w'))
  case atStart => exact ⟨(y149), (1), (t152), (t153), (t154), q10, q10, H', ⟨Nat.le_refl _⟩, ⟨by (with_reducible repeat (first | apply Kd.uT | apply Kd.uS | apply Kd.uW)); exact HO151.out⟩, ⟨q4⟩, ⟨q12⟩, ⟨q6⟩⟩
  case round =>
    clear H'
    try clear p2
    try clear c5
    obtain ⟨x3_1, x4_1, x5_1, x1001_1, x1002_1, rfl, rfl, HA, HK1, HO_3, HI0, HK, HB⟩ := hrel
    cases gk with
    | zero => exact absurd HA.out (by simp [spec_l5Log.l0])
    | succ k1 =>
      have H := HA.out
      clear HA
      simp only [spec_l5Log.l0] at H
      by_cases c6 : x5_1 > 0
      rotate_left
      · rw [if_neg c6] at H
        have c6b0 : decide (0 < x5_1) = false := decide_eq_false c6
        clear c6
        simp only [Option.some.injEq, Prod.mk.injEq] at H
        obtain ⟨rfl, rfl, rfl⟩ := H
        go_wp2
        go_ret
        exact ⟨_, q2, q55, q4, q6, q12⟩
      rw [if_pos c6] at H
      have c6b0 : decide (0 < x5_1) = true := decide_eq_true c6
      clear c6
      replace H := Option.bind_eq_some_iff.mp H
      obtain ⟨⟨t155, t156, t157⟩, A70, H⟩ := H
      try dsimp only at H
      have A7 := Aside0.mk A70
      clear A70
      by_cases c8 : t155 = true
      rotate_left
      · replace c8 := Bool.eq_false_iff.mpr c8
        subst c8
        try rw [if_neg (show ¬ (false = true) by decide)] at H
        replace H := Option.bind_eq_some_iff.mp H
        obtain ⟨⟨t170, t171, t172, t173, t174, t175, t176, t177⟩, A170, H⟩ := H
        try dsimp only at H
        have A17 := Aside0.mk A170
        clear A170
        by_cases c18 : x3_1.length < 2513169434916
        rotate_left
        · rw [if_neg c18] at H
          exact absurd H (by simp)
        rw [if_pos c18] at H
        have LMc18 := Aside0.mk c18
        clear c18
        obtain ⟨y178, hy178⟩ : ∃ y_ : List (S66), y_ = (x3_1 ++ [(⟨x4_1, (⟨t170, t171, t172, t173, t174, t175⟩ : S64)⟩ : S66)]) := ⟨_, rfl⟩
        replace H : (spec_l5Log.l0 k1 y178 x4_1 (wrap64 (x5_1 - 1)) s0_0 t176 t177) = some (r1, r2, r3) := by first | (rw [hy178]; with_reducible exact H) | (have H2_ := (Option.bind_some _ _).symm.trans H; rw [hy178]; with_reducible exact H2_) | (have H2_ := (Option.bind_some _ _).symm.trans H; with_reducible exact H2_) | with_reducible exact H | (rw [hy178]; exact H) | exact H | rfl
        have Ny178 := Aside0.mk hy178
        clear hy178
        have H' := Aside0.mk H
        clear H
        go_wp2_with (first | ((with_reducible refine uE (f := 53) rfl ?_); refine uL (some 15) Tryd.func53 #[.pointer (some ⟨g, 0, none⟩), .int .i64 3] ?_; (with_reducible refine (spec_l1Once.calls g s0_0 x1001_1 x1002_1 3 false t156 t157 w0 _ ?side1 ?side2 A7.out).mono ?_); (case side1 => exact q4); (case side2 => exact q6); rintro e w19 ⟨rfl, hi, hb, hk⟩; refine ⟨_, rfl, ?_⟩; replace HO_3 := Aside0.mk (Kd.uV (Kd.R_keep (IsS110.apart (show IsS110 w0 _ g s0_0 x1001_1 x1002_1 from by repeat (first | (with_reducible first | exact HI0.out | apply IsS110.alloc | apply IsS110.drewN | apply IsS110.drew | apply IsS110.set_1 | apply IsS110.set_2) | exact HI0.out)) (rSR HO_3.out) (by decide)) hk (fun _ h => h.2)) (fun _ h => h.1)); replace HK := uO HK hk; replace HB := Aside0.mk (hb); replace HI0 := Aside0.mk (hi); (try clear hb); (try clear hb2); (try clear hk); (try clear hi)) | ((with_reducible refine uE (f := 85) rfl ?_); refine uL (some 19) Tryd.func85 #[.pointer (some ⟨g, 0, none⟩)] ?_; (with_reducible refine (spec_l3Op.calls g s0_0 t156 t157 t170 t171 t172 t173 t174 t175 t176 t177 w0 _ ?side1 ?side2 A17.out).mono ?_); (case side1 => exact q4); (case side2 => exact q6); rintro e w20 ⟨rfl, hi, hb, hk⟩; refine ⟨_, rfl, ?_⟩; replace HO_3 := Aside0.mk (Kd.uV (Kd.R_keep (IsS110.apart (show IsS110 w0 _ g s0_0 t156 t157 from by repeat (first | (with_reducible first | exact HI0.out | apply IsS110.alloc | apply IsS110.drewN | apply IsS110.drew | apply IsS110.set_1 | apply IsS110.set_2) | exact HI0.out)) (rSR HO_3.out) (by decide)) hk (fun _ h => h.2)) (fun _ h => h.1)); replace HK := uO HK hk; replace HB := Aside0.mk (hb); replace HI0 := Aside0.mk (hi); (try clear hb); (try clear hb2); (try clear hk); (try clear hi)) | ((with_reducible refine uR (N := 6) rfl ?_); refine bxe 6 #[.int .i64 0, .int .i64 0, .int .i64 0, .int .i64 0, .int .i64 0, .int .i64 0] 64 ?_; intro gb166 hg w21 hbox hb; have BK166 := Aside0.mk (hbox); have GW166 := tKGe HK hg; have GE166 := tKW HW0 HK hg; have NB0_166 := Aside0.mk ((by rw [hg]; exact Nat.ne_of_lt (IsS110.lt (show IsS110 w0 _ g s0_0 t176 t177 from by repeat (first | (with_reducible first | exact HI0.out | apply IsS110.alloc | apply IsS110.drewN | apply IsS110.drew | apply IsS110.set_1 | apply IsS110.set_2) | exact HI0.out))) : g ≠ gb166)); have NB166_0 := Aside0.mk ((by rw [hg]; exact Nat.ne_of_gt (IsS110.lt (show IsS110 w0 _ g s0_0 t176 t177 from by repeat (first | (with_reducible first | exact HI0.out | apply IsS110.alloc | apply IsS110.drewN | apply IsS110.drew | apply IsS110.set_1 | apply IsS110.set_2) | exact HI0.out))) : gb166 ≠ g)); replace HO_3 := Kd.tR HO_3 hb; replace HI0 := Aside0.mk (IsS110.below q4 hb); replace HK := uO HK (uP.of_below hb g none); replace HB := tBel2 HB hb; clear hb hbox hg; have hnb22 := NB166_0.out; have hnc22 := NB0_166.out; obtain ⟨hcz23_0, hcz23_1, hcz23_2, hcz23_3, hcz23_4, hcz23_5, hfz23_0, hfz23_1, hfz23_2, hfz23_3, hfz23_4, hfz23_5⟩ := cz6 BK166) | ((with_reducible refine gate_builtin (b := .append) (xs := #[.tmp 20, .tmp 24]) rfl ?_); at_builtin; refine Kd.R_append k66 w.heap.size rfl (.tmp 20) (.tmp 24) 24 66 (.agg #[(.int .i64 0), (.int .i64 0), (.int .i64 0), (.int .i64 0), (.int .i64 0), (.int .i64 0), (.int .i64 0)]) 56 rfl Tryd.underlying24 info66 rfl (by decide) (by omega) u3 x3_1 (⟨x4_1, (⟨t170, t171, t172, t173, t174, t175⟩ : S64)⟩ : S66) [.int .i64 x4_1, .int .i64 t170, .int .i64 t171, .int .i64 t172, .int .i64 t173, .int .i64 t174, .int .i64 t175] (fun _ => True) (fun _ => False) rfl (by first | (go_simp; done) | (go_simp; rfl)) ?aP (fun _ hk => hk.elim) ?aF ?aO (Below.refl _ _) ?aS ?aL ?_; (case aP => exact k66_mkM _ _ _ (⟨x4_1, (⟨t170, t171, t172, t173, t174, t175⟩ : S64)⟩ : S66)); (case aF => exact (fun _ _ => trivial)); (case aO => exact (by (with_reducible repeat (first | apply Kd.uT | apply Kd.uS | apply Kd.uW)); exact Kd.uV (Kd.R_far (p := ⟨gb166, 5, none⟩) (Kd.R_far (p := ⟨gb166, 4, none⟩) (Kd.R_far (p := ⟨gb166, 3, none⟩) (Kd.R_far (p := ⟨gb166, 2, none⟩) (Kd.R_far (p := ⟨gb166, 1, none⟩) (Kd.R_far (p := ⟨gb166, 0, none⟩) (Kd.R_types HO_3.out BK166.out (by decide)) (fun _ hk => hk.2) (.int .i64 t170)) (fun _ hk => hk.2) (.int .i64 t171)) (fun _ hk => hk.2) (.int .i64 t172)) (fun _ hk => hk.2) (.int .i64 t173)) (fun _ hk => hk.2) (.int .i64 t174)) (fun _ hk => hk.2) (.int .i64 t175)) (fun _ hk => trivial))); (case aS => exact q35); (case aL => have := LMc18.out; omega); intro v179 w24 ho hb hg hat; rw [← Ny178.out] at ho; have n0_ := IsS110.tgr HI0 hg (IsS110.own_ne HI0.out HO_3.out (by decide)); have n1_ := tGrP BK166 #[.int .i64 t170, .int .i64 t171, .int .i64 t172, .int .i64 t173, .int .i64 t174, .int .i64 t175] hg (Kd.R_ne HO_3.out BK166.out (by decide)); have n2_ := Aside0.mk (below_weaken q1 HL.out hb); have n3_ := Aside0.mk (uP.trans q7 (uP.of_grown hg g) (Kd.R_base2 HO_3.out)); have n4_ := Aside0.mk (ho); clear HI0; clear BK166; clear HB; clear HK; clear HO_3; have HI0 := n0_; have BK166 := n1_; have HB := n2_; have HK := n3_; have HO180 := n4_; clear n0_ n1_ n2_ n3_ n4_; clear ho hb hg hat))
        go_roundg k1
        case measure => have := HK1.out; omega
        case rel => exact ⟨(y178), (x4_1), (wrap64 (x5_1 - 1)), (t176), (t177), q10, q10, H', ⟨by have := HK1.out; omega⟩, ⟨by (with_reducible repeat (first | apply Kd.uT | apply Kd.uS | apply Kd.uW)); exact HO180.out⟩, ⟨by repeat (first | (with_reducible first | exact HI0.out | apply IsS110.alloc | apply IsS110.drewN | apply IsS110.drew | apply IsS110.set_1 | apply IsS110.set_2 | refine IsS110.far ?_ NB0_166.out _) | exact HI0.out)⟩, ⟨q7⟩, ⟨q1⟩⟩
      subst c8
      try rw [if_pos rfl] at H
      replace H := Option.bind_eq_some_iff.mp H
      obtain ⟨⟨t158, t159, t160, t161, t162, t163, t164, t165⟩, A90, H⟩ := H
      try dsimp only at H
      have A9 := Aside0.mk A90
      clear A90
      by_cases c10 : x3_1.length < 2513169434916
      rotate_left
      · rw [if_neg c10] at H
        exact absurd H (by simp)
      rw [if_pos c10] at H
      have LMc10 := Aside0.mk c10
      clear c10
      obtain ⟨y167, hy167⟩ : ∃ y_ : List (S66), y_ = (x3_1 ++ [(⟨wrap64 (x4_1 + 1), (⟨t158, t159, t160, t161, t162, t163⟩ : S64)⟩ : S66)]) := ⟨_, rfl⟩
      replace H : (spec_l5Log.l0 k1 y167 (wrap64 (x4_1 + 1)) (wrap64 (x5_1 - 1)) s0_0 t164 t165) = some (r1, r2, r3) := by first | (rw [hy167]; with_reducible exact H) | (have H2_ := (Option.bind_some _ _).symm.trans H; rw [hy167]; with_reducible exact H2_) | (have H2_ := (Option.bind_some _ _).symm.trans H; with_reducible exact H2_) | with_reducible exact H | (rw [hy167]; exact H) | exact H | rfl
      have Ny167 := Aside0.mk hy167
      clear hy167
      have H' := Aside0.mk H
      clear H
      go_wp2_with (first | ((with_reducible refine uE (f := 53) rfl ?_); refine uL (some 15) Tryd.func53 #[.pointer (some ⟨g, 0, none⟩), .int .i64 3] ?_; (with_reducible refine (spec_l1Once.calls g s0_0 x1001_1 x1002_1 3 true t156 t157 w0 _ ?side1 ?side2 A7.out).mono ?_); (case side1 => exact q4); (case side2 => exact q6); rintro e w11 ⟨rfl, hi, hb, hk⟩; refine ⟨_, rfl, ?_⟩; replace HO_3 := Aside0.mk (Kd.uV (Kd.R_keep (IsS110.apart (show IsS110 w0 _ g s0_0 x1001_1 x1002_1 from by repeat (first | (with_reducible first | exact HI0.out | apply IsS110.alloc | apply IsS110.drewN | apply IsS110.drew | apply IsS110.set_1 | apply IsS110.set_2) | exact HI0.out)) (rSR HO_3.out) (by decide)) hk (fun _ h => h.2)) (fun _ h => h.1)); replace HK := uO HK hk; replace HB := Aside0.mk (hb); replace HI0 := Aside0.mk (hi); (try clear hb); (try clear hb2); (try clear hk); (try clear hi)) | ((with_reducible refine uE (f := 85) rfl ?_); refine uL (some 19) Tryd.func85 #[.pointer (some ⟨g, 0, none⟩)] ?_; (with_reducible refine (spec_l3Op.calls g s0_0 t156 t157 t158 t159 t160 t161 t162 t163 t164 t165 w0 _ ?side1 ?side2 A9.out).mono ?_); (case side1 => exact q4); (case side2 => exact q6); rintro e w12 ⟨rfl, hi, hb, hk⟩; refine ⟨_, rfl, ?_⟩; replace HO_3 := Aside0.mk (Kd.uV (Kd.R_keep (IsS110.apart (show IsS110 w0 _ g s0_0 t156 t157 from by repeat (first | (with_reducible first | exact HI0.out | apply IsS110.alloc | apply IsS110.drewN | apply IsS110.drew | apply IsS110.set_1 | apply IsS110.set_2) | exact HI0.out)) (rSR HO_3.out) (by decide)) hk (fun _ h => h.2)) (fun _ h => h.1)); replace HK := uO HK hk; replace HB := Aside0.mk (hb); replace HI0 := Aside0.mk (hi); (try clear hb); (try clear hb2); (try clear hk); (try clear hi)) | ((with_reducible refine uR (N := 6) rfl ?_); refine bxe 6 #[.int .i64 0, .int .i64 0, .int .i64 0, .int .i64 0, .int .i64 0, .int .i64 0] 64 ?_; intro gb166 hg w13 hbox hb; have BK166 := Aside0.mk (hbox); have GW166 := tKGe HK hg; have GE166 := tKW HW0 HK hg; have NB0_166 := Aside0.mk ((by rw [hg]; exact Nat.ne_of_lt (IsS110.lt (show IsS110 w0 _ g s0_0 t164 t165 from by repeat (first | (with_reducible first | exact HI0.out | apply IsS110.alloc | apply IsS110.drewN | apply IsS110.drew | apply IsS110.set_1 | apply IsS110.set_2) | exact HI0.out))) : g ≠ gb166)); have NB166_0 := Aside0.mk ((by rw [hg]; exact Nat.ne_of_gt (IsS110.lt (show IsS110 w0 _ g s0_0 t164 t165 from by repeat (first | (with_reducible first | exact HI0.out | apply IsS110.alloc | apply IsS110.drewN | apply IsS110.drew | apply IsS110.set_1 | apply IsS110.set_2) | exact HI0.out))) : gb166 ≠ g)); replace HO_3 := Kd.tR HO_3 hb; replace HI0 := Aside0.mk (IsS110.below q4 hb); replace HK := uO HK (uP.of_below hb g none); replace HB := tBel2 HB hb; clear hb hbox hg; have hnb14 := NB166_0.out; have hnc14 := NB0_166.out; obtain ⟨hcz15_0, hcz15_1, hcz15_2, hcz15_3, hcz15_4, hcz15_5, hfz15_0, hfz15_1, hfz15_2, hfz15_3, hfz15_4, hfz15_5⟩ := cz6 BK166) | ((with_reducible refine gate_builtin (b := .append) (xs := #[.tmp 20, .tmp 24]) rfl ?_); at_builtin; refine Kd.R_append k66 w.heap.size rfl (.tmp 20) (.tmp 24) 24 66 (.agg #[(.int .i64 0), (.int .i64 0), (.int .i64 0), (.int .i64 0), (.int .i64 0), (.int .i64 0), (.int .i64 0)]) 56 rfl Tryd.underlying24 info66 rfl (by decide) (by omega) u3 x3_1 (⟨wrap64 (x4_1 + 1), (⟨t158, t159, t160, t161, t162, t163⟩ : S64)⟩ : S66) [.int .i64 (wrap64 (x4_1 + 1)), .int .i64 t158, .int .i64 t159, .int .i64 t160, .int .i64 t161, .int .i64 t162, .int .i64 t163] (fun _ => True) (fun _ => False) rfl (by first | (go_simp; done) | (go_simp; rfl)) ?aP (fun _ hk => hk.elim) ?aF ?aO (Below.refl _ _) ?aS ?aL ?_; (case aP => exact k66_mkM _ _ _ (⟨wrap64 (x4_1 + 1), (⟨t158, t159, t160, t161, t162, t163⟩ : S64)⟩ : S66)); (case aF => exact (fun _ _ => trivial)); (case aO => exact (by (with_reducible repeat (first | apply Kd.uT | apply Kd.uS | apply Kd.uW)); exact Kd.uV (Kd.R_far (p := ⟨gb166, 5, none⟩) (Kd.R_far (p := ⟨gb166, 4, none⟩) (Kd.R_far (p := ⟨gb166, 3, none⟩) (Kd.R_far (p := ⟨gb166, 2, none⟩) (Kd.R_far (p := ⟨gb166, 1, none⟩) (Kd.R_far (p := ⟨gb166, 0, none⟩) (Kd.R_types HO_3.out BK166.out (by decide)) (fun _ hk => hk.2) (.int .i64 t158)) (fun _ hk => hk.2) (.int .i64 t159)) (fun _ hk => hk.2) (.int .i64 t160)) (fun _ hk => hk.2) (.int .i64 t161)) (fun _ hk => hk.2) (.int .i64 t162)) (fun _ hk => hk.2) (.int .i64 t163)) (fun _ hk => trivial))); (case aS => exact q35); (case aL => have := LMc10.out; omega); intro v168 w16 ho hb hg hat; rw [← Ny167.out] at ho; have n0_ := IsS110.tgr HI0 hg (IsS110.own_ne HI0.out HO_3.out (by decide)); have n1_ := tGrP BK166 #[.int .i64 t158, .int .i64 t159, .int .i64 t160, .int .i64 t161, .int .i64 t162, .int .i64 t163] hg (Kd.R_ne HO_3.out BK166.out (by decide)); have n2_ := Aside0.mk (below_weaken q1 HL.out hb); have n3_ := Aside0.mk (uP.trans q7 (uP.of_grown hg g) (Kd.R_base2 HO_3.out)); have n4_ := Aside0.mk (ho); clear HI0; clear BK166; clear HB; clear HK; clear HO_3; have HI0 := n0_; have BK166 := n1_; have HB := n2_; have HK := n3_; have HO169 := n4_; clear n0_ n1_ n2_ n3_ n4_; clear ho hb hg hat))
      go_roundg k1
      case measure => have := HK1.out; omega
      case rel => exact ⟨(y167), (wrap64 (x4_1 + 1)), (wrap64 (x5_1 - 1)), (t164), (t165), q10, q10, H', ⟨by have := HK1.out; omega⟩, ⟨by (with_reducible repeat (first | apply Kd.uT | apply Kd.uS | apply Kd.uW)); exact HO169.out⟩, ⟨by repeat (first | (with_reducible first | exact HI0.out | apply IsS110.alloc | apply IsS110.drewN | apply IsS110.drew | apply IsS110.set_1 | apply IsS110.set_2 | refine IsS110.far ?_ NB0_166.out _) | exact HI0.out)⟩, ⟨q7⟩, ⟨q1⟩⟩

/-! ### spec_l3Any: function 93 -/
def spec_l3Any.f (s0_0 : List Int) (s0_1 : Int) (s0_2 : Int) : Option (Int × Int × Int × Int × Int × Int × Int × Int) := (spec_l3Op.f s0_0 s0_1 s0_2).bind fun bt182 => ((spec_l1Below.f s0_0 bt182.2.2.2.2.2.2.1 bt182.2.2.2.2.2.2.2 14).bind fun bt191 => (if bt191.1 = 0 then ((spec_l1PickInt.f s0_0 bt191.2.1 bt191.2.2 (([(-1), 2, 3] : List Int))).bind fun bt197 => (some (bt197.1, bt182.2.1, bt182.2.2.1, bt182.2.2.2.1, bt182.2.2.2.2.1, bt182.2.2.2.2.2.1, bt197.2.1, bt197.2.2))) else (if bt191.1 = 1 then ((spec_l1PickInt.f s0_0 bt191.2.1 bt191.2.2 (([0, 99, 100] : List Int))).bind fun bt203 => (some (bt182.1, bt203.1, bt182.2.2.1, bt182.2.2.2.1, bt182.2.2.2.2.1, bt182.2.2.2.2.2.1, bt203.2.1, bt203.2.2))) else (if bt191.1 = 2 then ((spec_l1Below.f s0_0 bt191.2.1 bt191.2.2 4).bind fun bt206 => (some (bt182.1, bt182.2.1, bt206.1, bt182.2.2.2.1, bt182.2.2.2.2.1, bt182.2.2.2.2.2.1, bt206.2.1, bt206.2.2))) else (if bt191.1 = 3 then ((spec_l1PickInt.f s0_0 bt191.2.1 bt191.2.2 (([(-1), 3] : List Int))).bind fun bt212 => (some (bt182.1, bt182.2.1, bt182.2.2.1, bt212.1, bt182.2.2.2.2.1, bt182.2.2.2.2.2.1, bt212.2.1, bt212.2.2))) else (if bt191.1 = 4 then ((spec_l1PickInt.f s0_0 bt191.2.1 bt191.2.2 (([(-1), 9, 10] : List Int))).bind fun bt218 => (some (bt182.1, bt182.2.1, bt182.2.2.1, bt182.2.2.2.1, bt182.2.2.2.2.1, bt218.1, bt218.2.1, bt218.2.2))) else (if bt191.1 = 5 then ((spec_l1PickInt.f s0_0 bt191.2.1 bt191.2.2 (([(-1), 0, 9, 10] : List Int))).bind fun bt224 => (some (bt182.1, bt182.2.1, bt182.2.2.1, bt182.2.2.2.1, bt224.1, bt182.2.2.2.2.2.1, bt224.2.1, bt224.2.2))) else (some (bt182.1, bt182.2.1, bt182.2.2.1, bt182.2.2.2.1, bt182.2.2.2.2.1, bt182.2.2.2.2.2.1, bt191.2.1, bt191.2.2)))))))))
set_option maxHeartbeats 8000000 in
set_option maxRecDepth 100000 in
theorem spec_l3Any.calls (g : Nat) (s0_0 : List Int) (s0_1 : Int) (s0_2 : Int) (r1 : Int) (r2 : Int) (r3 : Int) (r4 : Int) (r5 : Int) (r6 : Int) (r7 : Int) (r8 : Int) (w0 w : World) (hI : IsS110 w0 w g s0_0 s0_1 s0_2) (hB : Below w0.heap.size w0 w) (h : spec_l3Any.f s0_0 s0_1 s0_2 = some (r1, r2, r3, r4, r5, r6, r7, r8)) :
    Calls Tryd.prog 93 #[.pointer (some ⟨g, 0, none⟩)] w fun e w' => e = .returned (.agg #[.int .i64 r1, .int .i64 r2, .int .i64 r3, .int .i64 r4, .int .i64 r5, .int .i64 r6]) ∧ IsS110 w0 w' g s0_0 r7 r8 ∧ Below w0.heap.size w0 w' ∧ uP w w' g none := by
  have hu64 := Tryd.underlying64
  have HI0 := Aside0.mk hI
  have HK := Aside0.mk (uP.refl w g none)
  have HL := Aside0.mk hB.size
  clear hI
  have HW0 := Aside0.mk hB.size
  have HB := Aside0.mk hB
  clear hB
  have H : ((spec_l3Op.f s0_0 s0_1 s0_2).bind fun bt182 => ((spec_l1Below.f s0_0 bt182.2.2.2.2.2.2.1 bt182.2.2.2.2.2.2.2 14).bind fun bt191 => (if bt191.1 = 0 then ((spec_l1PickInt.f s0_0 bt191.2.1 bt191.2.2 (([(-1), 2, 3] : List Int))).bind fun bt197 => (some (bt197.1, bt182.2.1, bt182.2.2.1, bt182.2.2.2.1, bt182.2.2.2.2.1, bt182.2.2.2.2.2.1, bt197.2.1, bt197.2.2))) else (if bt191.1 = 1 then ((spec_l1PickInt.f s0_0 bt191.2.1 bt191.2.2 (([0, 99, 100] : List Int))).bind fun bt203 => (some (bt182.1, bt203.1, bt182.2.2.1, bt182.2.2.2.1, bt182.2.2.2.2.1, bt182.2.2.2.2.2.1, bt203.2.1, bt203.2.2))) else (if bt191.1 = 2 then ((spec_l1Below.f s0_0 bt191.2.1 bt191.2.2 4).bind fun bt206 => (some (bt182.1, bt182.2.1, bt206.1, bt182.2.2.2.1, bt182.2.2.2.2.1, bt182.2.2.2.2.2.1, bt206.2.1, bt206.2.2))) else (if bt191.1 = 3 then ((spec_l1PickInt.f s0_0 bt191.2.1 bt191.2.2 (([(-1), 3] : List Int))).bind fun bt212 => (some (bt182.1, bt182.2.1, bt182.2.2.1, bt212.1, bt182.2.2.2.2.1, bt182.2.2.2.2.2.1, bt212.2.1, bt212.2.2))) else (if bt191.1 = 4 then ((spec_l1PickInt.f s0_0 bt191.2.1 bt191.2.2 (([(-1), 9, 10] : List Int))).bind fun bt218 => (some (bt182.1, bt182.2.1, bt182.2.2.1, bt182.2.2.2.1, bt182.2.2.2.2.1, bt218.1, bt218.2.1, bt218.2.2))) else (if bt191.1 = 5 then ((spec_l1PickInt.f s0_0 bt191.2.1 bt191.2.2 (([(-1), 0, 9, 10] : List Int))).bind fun bt224 => (some (bt182.1, bt182.2.1, bt182.2.2.1, bt182.2.2.2.1, bt224.1, bt182.2.2.2.2.2.1, bt224.2.1, bt224.2.2))) else (some (bt182.1, bt182.2.1, bt182.2.2.1, bt182.2.2.2.1, bt182.2.2.2.2.1, bt182.2.2.2.2.2.1, bt191.2.1, bt191.2.2)))))))))) = some (r1, r2, r3, r4, r5, r6, r7, r8) := h
  clear h
  replace H := Option.bind_eq_some_iff.mp H
  obtain ⟨⟨t182, t183, t184, t185, t186, t187, t188, t189⟩, A20, H⟩ := H
  try dsimp only at H
  have A2 := Aside0.mk A20
  clear A20
  replace H := Option.bind_eq_some_iff.mp H
  obtain ⟨⟨t191, t192, t193⟩, A30, H⟩ := H
  try dsimp only at H
  have A3 := Aside0.mk A30
  clear A30
  go_enter Tryd.func93, Tryd.ntmps93
  go_wp2_with (first | ((with_reducible refine uR (N := 2) rfl ?_); refine bxe 2 #[.int .i64 0, .int .i64 0, .int .i64 0, .int .i64 0, .int .i64 0, .int .i64 0] 64 ?_; intro gb181 hg w6 hbox hb; have BK181 := Aside0.mk (hbox); have GW181 := tKGe HK hg; have GE181 := tKW HW0 HK hg; have NB0_181 := Aside0.mk ((by rw [hg]; exact Nat.ne_of_lt (IsS110.lt (show IsS110 w0 _ g s0_0 s0_1 s0_2 from by repeat (first | (with_reducible first | exact HI0.out | apply IsS110.alloc | apply IsS110.drewN | apply IsS110.drew | apply IsS110.set_1 | apply IsS110.set_2) | exact HI0.out))) : g ≠ gb181)); have NB181_0 := Aside0.mk ((by rw [hg]; exact Nat.ne_of_gt (IsS110.lt (show IsS110 w0 _ g s0_0 s0_1 s0_2 from by repeat (first | (with_reducible first | exact HI0.out | apply IsS110.alloc | apply IsS110.drewN | apply IsS110.drew | apply IsS110.set_1 | apply IsS110.set_2) | exact HI0.out))) : gb181 ≠ g)); replace HI0 := Aside0.mk (IsS110.below q4 hb); replace HK := uO HK (uP.of_below hb g none); replace HB := tBel2 HB hb; clear hb hbox hg; refine ?roundEnd))
  case roundEnd =>
  by_cases c4 : t191 = 0
  · rw [if_pos c4] at H
    have c4b0 : (t191 == 0) = true := beq_iff_eq.mpr c4
    have c4b1 : (t191 != 0) = false := bne_eq_false_iff_eq.mpr c4
    clear c4
    obtain ⟨y194, hy194⟩ : ∃ y_ : List Int, y_ = (([(-1), 2, 3] : List Int)) := ⟨_, rfl⟩
    replace H : ((spec_l1PickInt.f s0_0 t192 t193 y194).bind fun bt197 => (some (bt197.1, t183, t184, t185, t186, t187, bt197.2.1, bt197.2.2))) = some (r1, r2, r3, r4, r5, r6, r7, r8) := by first | (rw [hy194]; with_reducible exact H) | (have H2_ := (Option.bind_some _ _).symm.trans H; rw [hy194]; with_reducible exact H2_) | (have H2_ := (Option.bind_some _ _).symm.trans H; with_reducible exact H2_) | with_reducible exact H | (rw [hy194]; exact H) | exact H | rfl
    have Ny194 := Aside0.mk hy194
    clear hy194
    replace H := Option.bind_eq_some_iff.mp H
    obtain ⟨⟨t197, t198, t199⟩, A50, H⟩ := H
    try dsimp only at H
    have A5 := Aside0.mk A50
    clear A50
    simp only [Option.some.injEq, Prod.mk.injEq] at H
    obtain ⟨rfl, rfl, rfl, rfl, rfl, rfl, rfl, rfl⟩ := H
    go_wp2_with (first | ((with_reducible refine uE (f := 85) rfl ?_); refine uL (some 5) Tryd.func85 #[.pointer (some ⟨g, 0, none⟩)] ?_; (with_reducible refine (spec_l3Op.calls g s0_0 s0_1 s0_2 t182 t183 t184 t185 t186 t187 t188 t189 w0 _ ?side1 ?side2 A2.out).mono ?_); (case side1 => exact q11); (case side2 => exact q1); rintro e w7 ⟨rfl, hi, hb, hk⟩; refine ⟨_, rfl, ?_⟩; replace BK181 := tKBlk BK181 hk NB181_0; replace HK := uO HK hk; replace HB := Aside0.mk (hb); replace HI0 := Aside0.mk (hi); (try clear hb); (try clear hb2); (try clear hk); (try clear hi)) | ((with_reducible refine uR (N := 3) rfl ?_); refine bxe 3 #[.int .i64 0, .int .i64 0, .int .i64 0, .int .i64 0, .int .i64 0, .int .i64 0] 64 ?_; intro gb190 hg w8 hbox hb; have BK190 := Aside0.mk (hbox); have GW190 := tKGe HK hg; have GE190 := tKW HW0 HK hg; have NB181_190 := tNl BK181 hg; have NB190_181 := tNg BK181 hg; have NB0_190 := Aside0.mk ((by rw [hg]; exact Nat.ne_of_lt (IsS110.lt (show IsS110 w0 _ g s0_0 t188 t189 from by repeat (first | (with_reducible first | exact HI0.out | apply IsS110.alloc | apply IsS110.drewN | apply IsS110.drew | apply IsS110.set_1 | apply IsS110.set_2 | refine IsS110.far ?_ NB0_181.out _) | exact HI0.out))) : g ≠ gb190)); have NB190_0 := Aside0.mk ((by rw [hg]; exact Nat.ne_of_gt (IsS110.lt (show IsS110 w0 _ g s0_0 t188 t189 from by repeat (first | (with_reducible first | exact HI0.out | apply IsS110.alloc | apply IsS110.drewN | apply IsS110.drew | apply IsS110.set_1 | apply IsS110.set_2 | refine IsS110.far ?_ NB0_181.out _) | exact HI0.out))) : gb190 ≠ g)); replace HI0 := Aside0.mk (IsS110.below q11 hb); replace BK181 := tBlk BK181 hb; replace HK := uO HK (uP.of_below hb g none); replace HB := tBel2 HB hb; clear hb hbox hg; have hnb9 := NB190_181.out; have hnc9 := NB181_190.out; have hnb10 := NB190_0.out; have hnc10 := NB0_190.out; obtain ⟨hcz11_0, hcz11_1, hcz11_2, hcz11_3, hcz11_4, hcz11_5, hfz11_0, hfz11_1, hfz11_2, hfz11_3, hfz11_4, hfz11_5⟩ := cz6 BK190) | ((with_reducible refine uE (f := 52) rfl ?_); refine uL (some 7) Tryd.func52 #[.pointer (some ⟨g, 0, none⟩), .int .i64 14] ?_; (with_reducible refine (spec_l1Below.calls g s0_0 t188 t189 14 t191 t192 t193 w0 _ ?side1 ?side2 A3.out).mono ?_); (case side1 => exact q5); (case side2 => exact q1); rintro e w12 ⟨rfl, hi, hb, hk⟩; refine ⟨_, rfl, ?_⟩; replace BK181 := tKBlkF BK181 hk NB181_0; replace BK190 := tKBlkP BK190 #[.int .i64 t182, .int .i64 t183, .int .i64 t184, .int .i64 t185, .int .i64 t186, .int .i64 t187] hk NB190_0; replace HK := uO HK hk; replace HB := Aside0.mk (hb); replace HI0 := Aside0.mk (hi); (try clear hb); (try clear hb2); (try clear hk); (try clear hi)) | ((with_reducible refine uR (N := 11) rfl ?_); refine Kd.R_lit (Kd.int .i64) _ 3 ?hg (N := 11) ?hd (xs := ([(-1), 2, 3] : List Int)) (inner := [.int .i64 (-1), .int .i64 2, .int .i64 3]) (ok := fun _ => True) (okp := fun _ => True) ?hr ?hp (fun _ hk => hk) trivial (Below.refl _ _) (Nat.le_refl _) (by simp) ?_; (case hd => rfl); (case hg => rfl); (case hr => first | (go_simp; done) | (go_simp; rfl)); (case hp => exact (Reps.one (show Kd.M (Kd.int .i64) _ _ _ (-1) [.int .i64 (-1)] from rfl) (Reps.one (show Kd.M (Kd.int .i64) _ _ _ 2 [.int .i64 2] from rfl) (Reps.one (show Kd.M (Kd.int .i64) _ _ _ 3 [.int .i64 3] from rfl) (Reps.none _ _))))); intro v195 w13 ho14 hb hg_ hnew_; clear hg_ hnew_; (first | rw [← Ny194.out] at ho14 | (simp only [Int.reduceToNat] at ho14; rw [← Ny194.out] at ho14)); have HO196 := Aside0.mk (Kd.uX ho14 (keep_size (w := w) (g := g) (row := none) q7)); replace HI0 := Aside0.mk (IsS110.below q5 hb); replace BK181 := tBlk BK181 hb; replace BK190 := tBlk BK190 hb; replace HK := uO HK (uP.of_below hb g none); replace HB := tBel2 HB hb; clear hb ho14; obtain ⟨Ao15, co15, eo15⟩ := Kd.R_slice HO196.out; subst eo15) | ((with_reducible refine uE (f := 54) rfl ?_); refine uL (some 12) Tryd.func54 #[.pointer (some ⟨g, 0, none⟩), .slice Ao15 y194.length co15] ?_; (with_reducible refine (spec_l1PickInt.calls g s0_0 t192 t193 _ _ y194 t197 t198 t199 w0 _ ?side1 ?side2 ?side3 ?side4 ?side5 A5.out).mono ?_); (case side1 => exact q5); (case side2 => exact q1); (case side3 => repeat (first | exact (Kd.uM HO196.out).2.2 | (with_reducible refine Kd.C_alloc ?_ _) | (with_reducible refine Kd.C_drewN ?_ _) | (with_reducible refine Kd.C_drew ?_))); (case side4 => exact (Kd.uM HO196.out).2.1); (case side5 => exact far_slice (IsS110.own_ne HI0.out HO196.out (by decide))); rintro e w16 ⟨rfl, hi, hb, hk⟩; refine ⟨_, rfl, ?_⟩; replace BK181 := tKBlk BK181 hk NB181_0; replace BK190 := tKBlk BK190 hk NB190_0; replace HO196 := Aside0.mk (Kd.uV (Kd.R_keep (IsS110.apart (show IsS110 w0 _ g s0_0 t192 t193 from by repeat (first | (with_reducible first | exact HI0.out | apply IsS110.alloc | apply IsS110.drewN | apply IsS110.drew | apply IsS110.set_1 | apply IsS110.set_2 | refine IsS110.far ?_ NB0_181.out _ | refine IsS110.far ?_ NB0_190.out _) | exact HI0.out)) (rSR HO196.out) (by decide)) hk (fun _ h => h.2)) (fun _ h => h.1)); replace HK := uO HK hk; replace HB := Aside0.mk (hb); replace HI0 := Aside0.mk (hi); (try clear hb); (try clear hb2); (try clear hk); (try clear hi); obtain ⟨hcz17_0, hcz17_1, hcz17_2, hcz17_3, hcz17_4, hcz17_5, hfz17_0, hfz17_1, hfz17_2, hfz17_3, hfz17_4, hfz17_5⟩ := cz6 BK190; have hnb18 := NB181_0.out; have hnc18 := NB0_181.out; obtain ⟨hcz19_0, hcz19_1, hcz19_2, hcz19_3, hcz19_4, hcz19_5, hfz19_0, hfz19_1, hfz19_2, hfz19_3, hfz19_4, hfz19_5⟩ := cz6 BK181))
    refine bodyPost_ret (results_cell_row rfl _ _ gb181 64 #[.int .i64 t197, .int .i64 t183, .int .i64 t184, .int .i64 t185, .int .i64 t186, .int .i64 t187] (0, 0) _ rfl (by (with_reducible repeat (first | refine uH ?_ _ | refine uI ?_ | refine uG ?_ _)); refine uN (cs := #[.int .i64 t197, .int .i64 t183, .int .i64 t184, .int .i64 t185, .int .i64 t186, .int .i64 0]) ?_ 5 _ rfl; (with_reducible repeat (first | refine uH ?_ _ | refine uI ?_ | refine uG ?_ _)); refine uN (cs := #[.int .i64 t197, .int .i64 t183, .int .i64 t184, .int .i64 t185, .int .i64 0, .int .i64 0]) ?_ 4 _ rfl; (with_reducible repeat (first | refine uH ?_ _ | refine uI ?_ | refine uG ?_ _)); refine uN (cs := #[.int .i64 t197, .int .i64 t183, .int .i64 t184, .int .i64 0, .int .i64 0, .int .i64 0]) ?_ 3 _ rfl; (with_reducible repeat (first | refine uH ?_ _ | refine uI ?_ | refine uG ?_ _)); refine uN (cs := #[.int .i64 t197, .int .i64 t183, .int .i64 0, .int .i64 0, .int .i64 0, .int .i64 0]) ?_ 2 _ rfl; (with_reducible repeat (first | refine uH ?_ _ | refine uI ?_ | refine uG ?_ _)); refine uN (cs := #[.int .i64 t197, .int .i64 0, .int .i64 0, .int .i64 0, .int .i64 0, .int .i64 0]) ?_ 1 _ rfl; (with_reducible repeat (first | refine uH ?_ _ | refine uI ?_ | refine uG ?_ _)); refine uN (cs := #[.int .i64 0, .int .i64 0, .int .i64 0, .int .i64 0, .int .i64 0, .int .i64 0]) ?_ 0 _ rfl; (with_reducible repeat (first | refine uH ?_ _ | refine uI ?_ | refine uG ?_ _)); refine blk_far ?_ NB181_190.out _; (with_reducible repeat (first | refine uH ?_ _ | refine uI ?_ | refine uG ?_ _)); exact BK181.out) Tryd.underlying64 rfl (by kernel_rfl)) rfl ?_
    exact ⟨q2, q5, q1, q7⟩
  rw [if_neg c4] at H
  have c4b0 : (t191 == 0) = false := beq_eq_false_iff_ne.mpr c4
  have c4b1 : (t191 != 0) = true := bne_iff_ne.mpr c4
  by_cases c20 : t191 = 1
  · rw [if_pos c20] at H
    have c20b0 : (t191 == 1) = true := beq_iff_eq.mpr c20
    have c20b1 : (t191 != 1) = false := bne_eq_false_iff_eq.mpr c20
    clear c20
    obtain ⟨y200, hy200⟩ : ∃ y_ : List Int, y_ = (([0, 99, 100] : List Int)) := ⟨_, rfl⟩
    replace H : ((spec_l1PickInt.f s0_0 t192 t193 y200).bind fun bt203 => (some (t182, bt203.1, t184, t185, t186, t187, bt203.2.1, bt203.2.2))) = some (r1, r2, r3, r4, r5, r6, r7, r8) := by first | (rw [hy200]; with_reducible exact H) | (have H2_ := (Option.bind_some _ _).symm.trans H; rw [hy200]; with_reducible exact H2_) | (have H2_ := (Option.bind_some _ _).symm.trans H; with_reducible exact H2_) | with_reducible exact H | (rw [hy200]; exact H) | exact H | rfl
    have Ny200 := Aside0.mk hy200
    clear hy200
    replace H := Option.bind_eq_some_iff.mp H
    obtain ⟨⟨t203, t204, t205⟩, A210, H⟩ := H
    try dsimp only at H
    have A21 := Aside0.mk A210
    clear A210
    simp only [Option.some.injEq, Prod.mk.injEq] at H
    obtain ⟨rfl, rfl, rfl, rfl, rfl, rfl, rfl, rfl⟩ := H
    go_wp2_with (first | ((with_reducible refine uE (f := 85) rfl ?_); refine uL (some 5) Tryd.func85 #[.pointer (some ⟨g, 0, none⟩)] ?_; (with_reducible refine (spec_l3Op.calls g s0_0 s0_1 s0_2 t182 t183 t184 t185 t186 t187 t188 t189 w0 _ ?side1 ?side2 A2.out).mono ?_); (case side1 => exact q11); (case side2 => exact q1); rintro e w23 ⟨rfl, hi, hb, hk⟩; refine ⟨_, rfl, ?_⟩; replace BK181 := tKBlk BK181 hk NB181_0; replace HK := uO HK hk; replace HB := Aside0.mk (hb); replace HI0 := Aside0.mk (hi); (try clear hb); (try clear hb2); (try clear hk); (try clear hi)) | ((with_reducible refine uR (N := 3) rfl ?_); refine bxe 3 #[.int .i64 0, .int .i64 0, .int .i64 0, .int .i64 0, .int .i64 0, .int .i64 0] 64 ?_; intro gb190 hg w24 hbox hb; have BK190 := Aside0.mk (hbox); have GW190 := tKGe HK hg; have GE190 := tKW HW0 HK hg; have NB181_190 := tNl BK181 hg; have NB190_181 := tNg BK181 hg; have NB0_190 := Aside0.mk ((by rw [hg]; exact Nat.ne_of_lt (IsS110.lt (show IsS110 w0 _ g s0_0 t188 t189 from by repeat (first | (with_reducible first | exact HI0.out | apply IsS110.alloc | apply IsS110.drewN | apply IsS110.drew | apply IsS110.set_1 | apply IsS110.set_2 | refine IsS110.far ?_ NB0_181.out _) | exact HI0.out))) : g ≠ gb190)); have NB190_0 := Aside0.mk ((by rw [hg]; exact Nat.ne_of_gt (IsS110.lt (show IsS110 w0 _ g s0_0 t188 t189 from by repeat (first | (with_reducible first | exact HI0.out | apply IsS110.alloc | apply IsS110.drewN | apply IsS110.drew | apply IsS110.set_1 | apply IsS110.set_2 | refine IsS110.far ?_ NB0_181.out _) | exact HI0.out))) : gb190 ≠ g)); replace HI0 := Aside0.mk (IsS110.below q11 hb); replace BK181 := tBlk BK181 hb; replace HK := uO HK (uP.of_below hb g none); replace HB := tBel2 HB hb; clear hb hbox hg; have hnb25 := NB190_181.out; have hnc25 := NB181_190.out; have hnb26 := NB190_0.out; have hnc26 := NB0_190.out; obtain ⟨hcz27_0, hcz27_1, hcz27_2, hcz27_3, hcz27_4, hcz27_5, hfz27_0, hfz27_1, hfz27_2, hfz27_3, hfz27_4, hfz27_5⟩ := cz6 BK190) | ((with_reducible refine uE (f := 52) rfl ?_); refine uL (some 7) Tryd.func52 #[.pointer (some ⟨g, 0, none⟩), .int .i64 14] ?_; (with_reducible refine (spec_l1Below.calls g s0_0 t188 t189 14 t191 t192 t193 w0 _ ?side1 ?side2 A3.out).mono ?_); (case side1 => exact q5); (case side2 => exact q1); rintro e w28 ⟨rfl, hi, hb, hk⟩; refine ⟨_, rfl, ?_⟩; replace BK181 := tKBlkF BK181 hk NB181_0; replace BK190 := tKBlkP BK190 #[.int .i64 t182, .int .i64 t183, .int .i64 t184, .int .i64 t185, .int .i64 t186, .int .i64 t187] hk NB190_0; replace HK := uO HK hk; replace HB := Aside0.mk (hb); replace HI0 := Aside0.mk (hi); (try clear hb); (try clear hb2); (try clear hk); (try clear hi)) | ((with_reducible refine uR (N := 17) rfl ?_); refine Kd.R_lit (Kd.int .i64) _ 3 ?hg (N := 17) ?hd (xs := ([0, 99, 100] : List Int)) (inner := [.int .i64 0, .int .i64 99, .int .i64 100]) (ok := fun _ => True) (okp := fun _ => True) ?hr ?hp (fun _ hk => hk) trivial (Below.refl _ _) (Nat.le_refl _) (by simp) ?_; (case hd => rfl); (case hg => rfl); (case hr => first | (go_simp; done) | (go_simp; rfl)); (case hp => exact (Reps.one (show Kd.M (Kd.int .i64) _ _ _ 0 [.int .i64 0] from rfl) (Reps.one (show Kd.M (Kd.int .i64) _ _ _ 99 [.int .i64 99] from rfl) (Reps.one (show Kd.M (Kd.int .i64) _ _ _ 100 [.int .i64 100] from rfl) (Reps.none _ _))))); intro v201 w29 ho30 hb hg_ hnew_; clear hg_ hnew_; (first | rw [← Ny200.out] at ho30 | (simp only [Int.reduceToNat] at ho30; rw [← Ny200.out] at ho30)); have HO202 := Aside0.mk (Kd.uX ho30 (keep_size (w := w) (g := g) (row := none) q7)); replace HI0 := Aside0.mk (IsS110.below q5 hb); replace BK181 := tBlk BK181 hb; replace BK190 := tBlk BK190 hb; replace HK := uO HK (uP.of_below hb g none); replace HB := tBel2 HB hb; clear hb ho30; obtain ⟨Ao31, co31, eo31⟩ := Kd.R_slice HO202.out; subst eo31) | ((with_reducible refine uE (f := 54) rfl ?_); refine uL (some 18) Tryd.func54 #[.pointer (some ⟨g, 0, none⟩), .slice Ao31 y200.length co31] ?_; (with_reducible refine (spec_l1PickInt.calls g s0_0 t192 t193 _ _ y200 t203 t204 t205 w0 _ ?side1 ?side2 ?side3 ?side4 ?side5 A21.out).mono ?_); (case side1 => exact q5); (case side2 => exact q1); (case side3 => repeat (first | exact (Kd.uM HO202.out).2.2 | (with_reducible refine Kd.C_alloc ?_ _) | (with_reducible refine Kd.C_drewN ?_ _) | (with_reducible refine Kd.C_drew ?_))); (case side4 => exact (Kd.uM HO202.out).2.1); (case side5 => exact far_slice (IsS110.own_ne HI0.out HO202.out (by decide))); rintro e w32 ⟨rfl, hi, hb, hk⟩; refine ⟨_, rfl, ?_⟩; replace BK181 := tKBlk BK181 hk NB181_0; replace BK190 := tKBlk BK190 hk NB190_0; replace HO202 := Aside0.mk (Kd.uV (Kd.R_keep (IsS110.apart (show IsS110 w0 _ g s0_0 t192 t193 from by repeat (first | (with_reducible first | exact HI0.out | apply IsS110.alloc | apply IsS110.drewN | apply IsS110.drew | apply IsS110.set_1 | apply IsS110.set_2 | refine IsS110.far ?_ NB0_181.out _ | refine IsS110.far ?_ NB0_190.out _) | exact HI0.out)) (rSR HO202.out) (by decide)) hk (fun _ h => h.2)) (fun _ h => h.1)); replace HK := uO HK hk; replace HB := Aside0.mk (hb); replace HI0 := Aside0.mk (hi); (try clear hb); (try clear hb2); (try clear hk); (try clear hi); obtain ⟨hcz33_0, hcz33_1, hcz33_2, hcz33_3, hcz33_4, hcz33_5, hfz33_0, hfz33_1, hfz33_2, hfz33_3, hfz33_4, hfz33_5⟩ := cz6 BK190; have hnb34 := NB181_0.out; have hnc34 := NB0_181.out; obtain ⟨hcz35_0, hcz35_1, hcz35_2, hcz35_3, hcz35_4, hcz35_5, hfz35_0, hfz35_1, hfz35_2, hfz35_3, hfz35_4, hfz35_5⟩ := cz6 BK181))
    refine bodyPost_ret (results_cell_row rfl _ _ gb181 64 #[.int .i64 t182, .int .i64 t203, .int .i64 t184, .int .i64 t185, .int .i64 t186, .int .i64 t187] (0, 0) _ rfl (by (with_reducible repeat (first | refine uH ?_ _ | refine uI ?_ | refine uG ?_ _)); refine uN (cs := #[.int .i64 t182, .int .i64 t203, .int .i64 t184, .int .i64 t185, .int .i64 t186, .int .i64 0]) ?_ 5 _ rfl; (with_reducible repeat (first | refine uH ?_ _ | refine uI ?_ | refine uG ?_ _)); refine uN (cs := #[.int .i64 t182, .int .i64 t203, .int .i64 t184, .int .i64 t185, .int .i64 0, .int .i64 0]) ?_ 4 _ rfl; (with_reducible repeat (first | refine uH ?_ _ | refine uI ?_ | refine uG ?_ _)); refine uN (cs := #[.int .i64 t182, .int .i64 t203, .int .i64 t184, .int .i64 0, .int .i64 0, .int .i64 0]) ?_ 3 _ rfl; (with_reducible repeat (first | refine uH ?_ _ | refine uI ?_ | refine uG ?_ _)); refine uN (cs := #[.int .i64 t182, .int .i64 t203, .int .i64 0, .int .i64 0, .int .i64 0, .int .i64 0]) ?_ 2 _ rfl; (with_reducible repeat (first | refine uH ?_ _ | refine uI ?_ | refine uG ?_ _)); refine uN (cs := #[.int .i64 t182, .int .i64 0, .int .i64 0, .int .i64 0, .int .i64 0, .int .i64 0]) ?_ 1 _ rfl; (with_reducible repeat (first | refine uH ?_ _ | refine uI ?_ | refine uG ?_ _)); refine uN (cs := #[.int .i64 0, .int .i64 0, .int .i64 0, .int .i64 0, .int .i64 0, .int .i64 0]) ?_ 0 _ rfl; (with_reducible repeat (first | refine uH ?_ _ | refine uI ?_ | refine uG ?_ _)); refine blk_far ?_ NB181_190.out _; (with_reducible repeat (first | refine uH ?_ _ | refine uI ?_ | refine uG ?_ _)); exact BK181.out) Tryd.underlying64 rfl (by kernel_rfl)) rfl ?_
    exact ⟨q2, q5, q1, q7⟩
  rw [if_neg c20] at H
  have c20b0 : (t191 == 1) = false := beq_eq_false_iff_ne.mpr c20
  have c20b1 : (t191 != 1) = true := bne_iff_ne.mpr c20
  by_cases c36 : t191 = 2
  · rw [if_pos c36] at H
    have c36b0 : (t191 == 2) = true := beq_iff_eq.mpr c36
    have c36b1 : (t191 != 2) = false := bne_eq_false_iff_eq.mpr c36
    clear c36
    replace H := Option.bind_eq_some_iff.mp H
    obtain ⟨⟨t206, t207, t208⟩, A370, H⟩ := H
    try dsimp only at H
    have A37 := Aside0.mk A370
    clear A370
    simp only [Option.some.injEq, Prod.mk.injEq] at H
    obtain ⟨rfl, rfl, rfl, rfl, rfl, rfl, rfl, rfl⟩ := H
    go_wp2_with (first | ((with_reducible refine uE (f := 85) rfl ?_); refine uL (some 5) Tryd.func85 #[.pointer (some ⟨g, 0, none⟩)] ?_; (with_reducible refine (spec_l3Op.calls g s0_0 s0_1 s0_2 t182 t183 t184 t185 t186 t187 t188 t189 w0 _ ?side1 ?side2 A2.out).mono ?_); (case side1 => exact q11); (case side2 => exact q1); rintro e w39 ⟨rfl, hi, hb, hk⟩; refine ⟨_, rfl, ?_⟩; replace BK181 := tKBlk BK181 hk NB181_0; replace HK := uO HK hk; replace HB := Aside0.mk (hb); replace HI0 := Aside0.mk (hi); (try clear hb); (try clear hb2); (try clear hk); (try clear hi)) | ((with_reducible refine uR (N := 3) rfl ?_); refine bxe 3 #[.int .i64 0, .int .i64 0, .int .i64 0, .int .i64 0, .int .i64 0, .int .i64 0] 64 ?_; intro gb190 hg w40 hbox hb; have BK190 := Aside0.mk (hbox); have GW190 := tKGe HK hg; have GE190 := tKW HW0 HK hg; have NB181_190 := tNl BK181 hg; have NB190_181 := tNg BK181 hg; have NB0_190 := Aside0.mk ((by rw [hg]; exact Nat.ne_of_lt (IsS110.lt (show IsS110 w0 _ g s0_0 t188 t189 from by repeat (first | (with_reducible first | exact HI0.out | apply IsS110.alloc | apply IsS110.drewN | apply IsS110.drew | apply IsS110.set_1 | apply IsS110.set_2 | refine IsS110.far ?_ NB0_181.out _) | exact HI0.out))) : g ≠ gb190)); have NB190_0 := Aside0.mk ((by rw [hg]; exact Nat.ne_of_gt (IsS110.lt (show IsS110 w0 _ g s0_0 t188 t189 from by repeat (first | (with_reducible first | exact HI0.out | apply IsS110.alloc | apply IsS110.drewN | apply IsS110.drew | apply IsS110.set_1 | apply IsS110.set_2 | refine IsS110.far ?_ NB0_181.out _) | exact HI0.out))) : gb190 ≠ g)); replace HI0 := Aside0.mk (IsS110.below q11 hb); replace BK181 := tBlk BK181 hb; replace HK := uO HK (uP.of_below hb g none); replace HB := tBel2 HB hb; clear hb hbox hg; have hnb41 := NB190_181.out; have hnc41 := NB181_190.out; have hnb42 := NB190_0.out; have hnc42 := NB0_190.out; obtain ⟨hcz43_0, hcz43_1, hcz43_2, hcz43_3, hcz43_4, hcz43_5, hfz43_0, hfz43_1, hfz43_2, hfz43_3, hfz43_4, hfz43_5⟩ := cz6 BK190) | ((with_reducible refine uE (f := 52) rfl ?_); refine uL (some 7) Tryd.func52 #[.pointer (some ⟨g, 0, none⟩), .int .i64 14] ?_; (with_reducible refine (spec_l1Below.calls g s0_0 t188 t189 14 t191 t192 t193 w0 _ ?side1 ?side2 A3.out).mono ?_); (case side1 => exact q5); (case side2 => exact q1); rintro e w44 ⟨rfl, hi, hb, hk⟩; refine ⟨_, rfl, ?_⟩; replace BK181 := tKBlkF BK181 hk NB181_0; replace BK190 := tKBlkP BK190 #[.int .i64 t182, .int .i64 t183, .int .i64 t184, .int .i64 t185, .int .i64 t186, .int .i64 t187] hk NB190_0; replace HK := uO HK hk; replace HB := Aside0.mk (hb); replace HI0 := Aside0.mk (hi); (try clear hb); (try clear hb2); (try clear hk); (try clear hi)) | ((with_reducible refine uE (f := 52) rfl ?_); refine uL (some 23) Tryd.func52 #[.pointer (some ⟨g, 0, none⟩), .int .i64 4] ?_; (with_reducible refine (spec_l1Below.calls g s0_0 t192 t193 4 t206 t207 t208 w0 _ ?side1 ?side2 A37.out).mono ?_); (case side1 => exact q5); (case side2 => exact q1); rintro e w45 ⟨rfl, hi, hb, hk⟩; refine ⟨_, rfl, ?_⟩; replace BK181 := tKBlk BK181 hk NB181_0; replace BK190 := tKBlk BK190 hk NB190_0; replace HK := uO HK hk; replace HB := Aside0.mk (hb); replace HI0 := Aside0.mk (hi); (try clear hb); (try clear hb2); (try clear hk); (try clear hi); obtain ⟨hcz46_0, hcz46_1, hcz46_2, hcz46_3, hcz46_4, hcz46_5, hfz46_0, hfz46_1, hfz46_2, hfz46_3, hfz46_4, hfz46_5⟩ := cz6 BK190; have hnb47 := NB181_0.out; have hnc47 := NB0_181.out; obtain ⟨hcz48_0, hcz48_1, hcz48_2, hcz48_3, hcz48_4, hcz48_5, hfz48_0, hfz48_1, hfz48_2, hfz48_3, hfz48_4, hfz48_5⟩ := cz6 BK181))
    refine bodyPost_ret (results_cell_row rfl _ _ gb181 64 #[.int .i64 t182, .int .i64 t183, .int .i64 t206, .int .i64 t185, .int .i64 t186, .int .i64 t187] (0, 0) _ rfl (by (with_reducible repeat (first | refine uH ?_ _ | refine uI ?_ | refine uG ?_ _)); refine uN (cs := #[.int .i64 t182, .int .i64 t183, .int .i64 t206, .int .i64 t185, .int .i64 t186, .int .i64 0]) ?_ 5 _ rfl; (with_reducible repeat (first | refine uH ?_ _ | refine uI ?_ | refine uG ?_ _)); refine uN (cs := #[.int .i64 t182, .int .i64 t183, .int .i64 t206, .int .i64 t185, .int .i64 0, .int .i64 0]) ?_ 4 _ rfl; (with_reducible repeat (first | refine uH ?_ _ | refine uI ?_ | refine uG ?_ _)); refine uN (cs := #[.int .i64 t182, .int .i64 t183, .int .i64 t206, .int .i64 0, .int .i64 0, .int .i64 0]) ?_ 3 _ rfl; (with_reducible repeat (first | refine uH ?_ _ | refine uI ?_ | refine uG ?_ _)); refine uN (cs := #[.int .i64 t182, .int .i64 t183, .int .i64 0, .int .i64 0, .int .i64 0, .int .i64 0]) ?_ 2 _ rfl; (with_reducible repeat (first | refine uH ?_ _ | refine uI ?_ | refine uG ?_ _)); refine uN (cs := #[.int .i64 t182, .int .i64 0, .int .i64 0, .int .i64 0, .int .i64 0, .int .i64 0]) ?_ 1 _ rfl; (with_reducible repeat (first | refine uH ?_ _ | refine uI ?_ | refine uG ?_ _)); refine uN (cs := #[.int .i64 0, .int .i64 0, .int .i64 0, .int .i64 0, .int .i64 0, .int .i64 0]) ?_ 0 _ rfl; (with_reducible repeat (first | refine uH ?_ _ | refine uI ?_ | refine uG ?_ _)); refine blk_far ?_ NB181_190.out _; (with_reducible repeat (first | refine uH ?_ _ | refine uI ?_ | refine uG ?_ _)); exact BK181.out) Tryd.underlying64 rfl (by kernel_rfl)) rfl ?_
    exact ⟨q2, q5, q1, q7⟩
  rw [if_neg c36] at H
  have c36b0 : (t191 == 2) = false := beq_eq_false_iff_ne.mpr c36
  have c36b1 : (t191 != 2) = true := bne_iff_ne.mpr c36
  by_cases c49 : t191 = 3
  · rw [if_pos c49] at H
    have c49b0 : (t191 == 3) = true := beq_iff_eq.mpr c49
    have c49b1 : (t191 != 3) = false := bne_eq_false_iff_eq.mpr c49
    clear c49
    obtain ⟨y209, hy209⟩ : ∃ y_ : List Int, y_ = (([(-1), 3] : List Int)) := ⟨_, rfl⟩
    replace H : ((spec_l1PickInt.f s0_0 t192 t193 y209).bind fun bt212 => (some (t182, t183, t184, bt212.1, t186, t187, bt212.2.1, bt212.2.2))) = some (r1, r2, r3, r4, r5, r6, r7, r8) := by first | (rw [hy209]; with_reducible exact H) | (have H2_ := (Option.bind_some _ _).symm.trans H; rw [hy209]; with_reducible exact H2_) | (have H2_ := (Option.bind_some _ _).symm.trans H; with_reducible exact H2_) | with_reducible exact H | (rw [hy209]; exact H) | exact H | rfl
    have Ny209 := Aside0.mk hy209
    clear hy209
    replace H := Option.bind_eq_some_iff.mp H
    obtain ⟨⟨t212, t213, t214⟩, A500, H⟩ := H
    try dsimp only at H
    have A50 := Aside0.mk A500
    clear A500
    simp only [Option.some.injEq, Prod.mk.injEq] at H
    obtain ⟨rfl, rfl, rfl, rfl, rfl, rfl, rfl, rfl⟩ := H
    go_wp2_with (first | ((with_reducible refine uE (f := 85) rfl ?_); refine uL (some 5) Tryd.func85 #[.pointer (some ⟨g, 0, none⟩)] ?_; (with_reducible refine (spec_l3Op.calls g s0_0 s0_1 s0_2 t182 t183 t184 t185 t186 t187 t188 t189 w0 _ ?side1 ?side2 A2.out).mono ?_); (case side1 => exact q11); (case side2 => exact q1); rintro e w52 ⟨rfl, hi, hb, hk⟩; refine ⟨_, rfl, ?_⟩; replace BK181 := tKBlk BK181 hk NB181_0; replace HK := uO HK hk; replace HB := Aside0.mk (hb); replace HI0 := Aside0.mk (hi); (try clear hb); (try clear hb2); (try clear hk); (try clear hi)) | ((with_reducible refine uR (N := 3) rfl ?_); refine bxe 3 #[.int .i64 0, .int .i64 0, .int .i64 0, .int .i64 0, .int .i64 0, .int .i64 0] 64 ?_; intro gb190 hg w53 hbox hb; have BK190 := Aside0.mk (hbox); have GW190 := tKGe HK hg; have GE190 := tKW HW0 HK hg; have NB181_190 := tNl BK181 hg; have NB190_181 := tNg BK181 hg; have NB0_190 := Aside0.mk ((by rw [hg]; exact Nat.ne_of_lt (IsS110.lt (show IsS110 w0 _ g s0_0 t188 t189 from by repeat (first | (with_reducible first | exact HI0.out | apply IsS110.alloc | apply IsS110.drewN | apply IsS110.drew | apply IsS110.set_1 | apply IsS110.set_2 | refine IsS110.far ?_ NB0_181.out _) | exact HI0.out))) : g ≠ gb190)); have NB190_0 := Aside0.mk ((by rw [hg]; exact Nat.ne_of_gt (IsS110.lt (show IsS110 w0 _ g s0_0 t188 t189 from by repeat (first | (with_reducible first | exact HI0.out | apply IsS110.alloc | apply IsS110.drewN | apply IsS110.drew | apply IsS110.set_1 | apply IsS110.set_2 | refine IsS110.far ?_ NB0_181.out _) | exact HI0.out))) : gb190 ≠ g)); replace HI0 := Aside0.mk (IsS110.below q11 hb); replace BK181 := tBlk BK181 hb; replace HK := uO HK (uP.of_below hb g none); replace HB := tBel2 HB hb; clear hb hbox hg; have hnb54 := NB190_181.out; have hnc54 := NB181_190.out; have hnb55 := NB190_0.out; have hnc55 := NB0_190.out; obtain ⟨hcz56_0, hcz56_1, hcz56_2, hcz56_3, hcz56_4, hcz56_5, hfz56_0, hfz56_1, hfz56_2, hfz56_3, hfz56_4, hfz56_5⟩ := cz6 BK190) | ((with_reducible refine uE (f := 52) rfl ?_); refine uL (some 7) Tryd.func52 #[.pointer (some ⟨g, 0, none⟩), .int .i64 14] ?_; (with_reducible refine (spec_l1Below.calls g s0_0 t188 t189 14 t191 t192 t193 w0 _ ?side1 ?side2 A3.out).mono ?_); (case side1 => exact q5); (case side2 => exact q1); rintro e w57 ⟨rfl, hi, hb, hk⟩; refine ⟨_, rfl, ?_⟩; replace BK181 := tKBlkF BK181 hk NB181_0; replace BK190 := tKBlkP BK190 #[.int .i64 t182, .int .i64 t183, .int .i64 t184, .int .i64 t185, .int .i64 t186, .int .i64 t187] hk NB190_0; replace HK := uO HK hk; replace HB := Aside0.mk (hb); replace HI0 := Aside0.mk (hi); (try clear hb); (try clear hb2); (try clear hk); (try clear hi)) | ((with_reducible refine uR (N := 28) rfl ?_); refine Kd.R_lit (Kd.int .i64) _ 3 ?hg (N := 28) ?hd (xs := ([(-1), 3] : List Int)) (inner := [.int .i64 (-1), .int .i64 3]) (ok := fun _ => True) (okp := fun _ => True) ?hr ?hp (fun _ hk => hk) trivial (Below.refl _ _) (Nat.le_refl _) (by simp) ?_; (case hd => rfl); (case hg => rfl); (case hr => first | (go_simp; done) | (go_simp; rfl)); (case hp => exact (Reps.one (show Kd.M (Kd.int .i64) _ _ _ (-1) [.int .i64 (-1)] from rfl) (Reps.one (show Kd.M (Kd.int .i64) _ _ _ 3 [.int .i64 3] from rfl) (Reps.none _ _)))); intro v210 w58 ho59 hb hg_ hnew_; clear hg_ hnew_; (first | rw [← Ny209.out] at ho59 | (simp only [Int.reduceToNat] at ho59; rw [← Ny209.out] at ho59)); have HO211 := Aside0.mk (Kd.uX ho59 (keep_size (w := w) (g := g) (row := none) q7)); replace HI0 := Aside0.mk (IsS110.below q5 hb); replace BK181 := tBlk BK181 hb; replace BK190 := tBlk BK190 hb; replace HK := uO HK (uP.of_below hb g none); replace HB := tBel2 HB hb; clear hb ho59; obtain ⟨Ao60, co60, eo60⟩ := Kd.R_slice HO211.out; subst eo60) | ((with_reducible refine uE (f := 54) rfl ?_); refine uL (some 29) Tryd.func54 #[.pointer (some ⟨g, 0, none⟩), .slice Ao60 y209.length co60] ?_; (with_reducible refine (spec_l1PickInt.calls g s0_0 t192 t193 _ _ y209 t212 t213 t214 w0 _ ?side1 ?side2 ?side3 ?side4 ?side5 A50.out).mono ?_); (case side1 => exact q5); (case side2 => exact q1); (case side3 => repeat (first | exact (Kd.uM HO211.out).2.2 | (with_reducible refine Kd.C_alloc ?_ _) | (with_reducible refine Kd.C_drewN ?_ _) | (with_reducible refine Kd.C_drew ?_))); (case side4 => exact (Kd.uM HO211.out).2.1); (case side5 => exact far_slice (IsS110.own_ne HI0.out HO211.out (by decide))); rintro e w61 ⟨rfl, hi, hb, hk⟩; refine ⟨_, rfl, ?_⟩; replace BK181 := tKBlk BK181 hk NB181_0; replace BK190 := tKBlk BK190 hk NB190_0; replace HO211 := Aside0.mk (Kd.uV (Kd.R_keep (IsS110.apart (show IsS110 w0 _ g s0_0 t192 t193 from by repeat (first | (with_reducible first | exact HI0.out | apply IsS110.alloc | apply IsS110.drewN | apply IsS110.drew | apply IsS110.set_1 | apply IsS110.set_2 | refine IsS110.far ?_ NB0_181.out _ | refine IsS110.far ?_ NB0_190.out _) | exact HI0.out)) (rSR HO211.out) (by decide)) hk (fun _ h => h.2)) (fun _ h => h.1)); replace HK := uO HK hk; replace HB := Aside0.mk (hb); replace HI0 := Aside0.mk (hi); (try clear hb); (try clear hb2); (try clear hk); (try clear hi); obtain ⟨hcz62_0, hcz62_1, hcz62_2, hcz62_3, hcz62_4, hcz62_5, hfz62_0, hfz62_1, hfz62_2, hfz62_3, hfz62_4, hfz62_5⟩ := cz6 BK190; have hnb63 := NB181_0.out; have hnc63 := NB0_181.out; obtain ⟨hcz64_0, hcz64_1, hcz64_2, hcz64_3, hcz64_4, hcz64_5, hfz64_0, hfz64_1, hfz64_2, hfz64_3, hfz64_4, hfz64_5⟩ := cz6 BK181))
    refine bodyPost_ret (results_cell_row rfl _ _ gb181 64 #[.int .i64 t182, .int .i64 t183, .int .i64 t184, .int .i64 t212, .int .i64 t186, .int .i64 t187] (0, 0) _ rfl (by (with_reducible repeat (first | refine uH ?_ _ | refine uI ?_ | refine uG ?_ _)); refine uN (cs := #[.int .i64 t182, .int .i64 t183, .int .i64 t184, .int .i64 t212, .int .i64 t186, .int .i64 0]) ?_ 5 _ rfl; (with_reducible repeat (first | refine uH ?_ _ | refine uI ?_ | refine uG ?_ _)); refine uN (cs := #[.int .i64 t182, .int .i64 t183, .int .i64 t184, .int .i64 t212, .int .i64 0, .int .i64 0]) ?_ 4 _ rfl; (with_reducible repeat (first | refine uH ?_ _ | refine uI ?_ | refine uG ?_ _)); refine uN (cs := #[.int .i64 t182, .int .i64 t183, .int .i64 t184, .int .i64 0, .int .i64 0, .int .i64 0]) ?_ 3 _ rfl; (with_reducible repeat (first | refine uH ?_ _ | refine uI ?_ | refine uG ?_ _)); refine uN (cs := #[.int .i64 t182, .int .i64 t183, .int .i64 0, .int .i64 0, .int .i64 0, .int .i64 0]) ?_ 2 _ rfl; (with_reducible repeat (first | refine uH ?_ _ | refine uI ?_ | refine uG ?_ _)); refine uN (cs := #[.int .i64 t182, .int .i64 0, .int .i64 0, .int .i64 0, .int .i64 0, .int .i64 0]) ?_ 1 _ rfl; (with_reducible repeat (first | refine uH ?_ _ | refine uI ?_ | refine uG ?_ _)); refine uN (cs := #[.int .i64 0, .int .i64 0, .int .i64 0, .int .i64 0, .int .i64 0, .int .i64 0]) ?_ 0 _ rfl; (with_reducible repeat (first | refine uH ?_ _ | refine uI ?_ | refine uG ?_ _)); refine blk_far ?_ NB181_190.out _; (with_reducible repeat (first | refine uH ?_ _ | refine uI ?_ | refine uG ?_ _)); exact BK181.out) Tryd.underlying64 rfl (by kernel_rfl)) rfl ?_
    exact ⟨q2, q5, q1, q7⟩
  rw [if_neg c49] at H
  have c49b0 : (t191 == 3) = false := beq_eq_false_iff_ne.mpr c49
  have c49b1 : (t191 != 3) = true := bne_iff_ne.mpr c49
  by_cases c65 : t191 = 4
  · rw [if_pos c65] at H
    have c65b0 : (t191 == 4) = true := beq_iff_eq.mpr c65
    have c65b1 : (t191 != 4) = false := bne_eq_false_iff_eq.mpr c65
    clear c65
    obtain ⟨y215, hy215⟩ : ∃ y_ : List Int, y_ = (([(-1), 9, 10] : List Int)) := ⟨_, rfl⟩
    replace H : ((spec_l1PickInt.f s0_0 t192 t193 y215).bind fun bt218 => (some (t182, t183, t184, t185, t186, bt218.1, bt218.2.1, bt218.2.2))) = some (r1, r2, r3, r4, r5, r6, r7, r8) := by first | (rw [hy215]; with_reducible exact H) | (have H2_ := (Option.bind_some _ _).symm.trans H; rw [hy215]; with_reducible exact H2_) | (have H2_ := (Option.bind_some _ _).symm.trans H; with_reducible exact H2_) | with_reducible exact H | (rw [hy215]; exact H) | exact H | rfl
    have Ny215 := Aside0.mk hy215
    clear hy215
    replace H := Option.bind_eq_some_iff.mp H
    obtain ⟨⟨t218, t219, t220⟩, A660, H⟩ := H
    try dsimp only at H
    have A66 := Aside0.mk A660
    clear A660
    simp only [Option.some.injEq, Prod.mk.injEq] at H
    obtain ⟨rfl, rfl, rfl, rfl, rfl, rfl, rfl, rfl⟩ := H
    go_wp2_with (first | ((with_reducible refine uE (f := 85) rfl ?_); refine uL (some 5) Tryd.func85 #[.pointer (some ⟨g, 0, none⟩)] ?_; (with_reducible refine (spec_l3Op.calls g s0_0 s0_1 s0_2 t182 t183 t184 t185 t186 t187 t188 t189 w0 _ ?side1 ?side2 A2.out).mono ?_); (case side1 => exact q11); (case side2 => exact q1); rintro e w68 ⟨rfl, hi, hb, hk⟩; refine ⟨_, rfl, ?_⟩; replace BK181 := tKBlk BK181 hk NB181_0; replace HK := uO HK hk; replace HB := Aside0.mk (hb); replace HI0 := Aside0.mk (hi); (try clear hb); (try clear hb2); (try clear hk); (try clear hi)) | ((with_reducible refine uR (N := 3) rfl ?_); refine bxe 3 #[.int .i64 0, .int .i64 0, .int .i64 0, .int .i64 0, .int .i64 0, .int .i64 0] 64 ?_; intro gb190 hg w69 hbox hb; have BK190 := Aside0.mk (hbox); have GW190 := tKGe HK hg; have GE190 := tKW HW0 HK hg; have NB181_190 := tNl BK181 hg; have NB190_181 := tNg BK181 hg; have NB0_190 := Aside0.mk ((by rw [hg]; exact Nat.ne_of_lt (IsS110.lt (show IsS110 w0 _ g s0_0 t188 t189 from by repeat (first | (with_reducible first | exact HI0.out | apply IsS110.alloc | apply IsS110.drewN | apply IsS110.drew | apply IsS110.set_1 | apply IsS110.set_2 | refine IsS110.far ?_ NB0_181.out _) | exact HI0.out))) : g ≠ gb190)); have NB190_0 := Aside0.mk ((by rw [hg]; exact Nat.ne_of_gt (IsS110.lt (show IsS110 w0 _ g s0_0 t188 t189 from by repeat (first | (with_reducible first | exact HI0.out | apply IsS110.alloc | apply IsS110.drewN | apply IsS110.drew | apply IsS110.set_1 | apply IsS110.set_2 | refine IsS110.far ?_ NB0_181.out _) | exact HI0.out))) : gb190 ≠ g)); replace HI0 := Aside0.mk (IsS110.below q11 hb); replace BK181 := tBlk BK181 hb; replace HK := uO HK (uP.of_below hb g none); replace HB := tBel2 HB hb; clear hb hbox hg; have hnb70 := NB190_181.out; have hnc70 := NB181_190.out; have hnb71 := NB190_0.out; have hnc71 := NB0_190.out; obtain ⟨hcz72_0, hcz72_1, hcz72_2, hcz72_3, hcz72_4, hcz72_5, hfz72_0, hfz72_1, hfz72_2, hfz72_3, hfz72_4, hfz72_5⟩ := cz6 BK190) | ((with_reducible refine uE (f := 52) rfl ?_); refine uL (some 7) Tryd.func52 #[.pointer (some ⟨g, 0, none⟩), .int .i64 14] ?_; (with_reducible refine (spec_l1Below.calls g s0_0 t188 t189 14 t191 t192 t193 w0 _ ?side1 ?side2 A3.out).mono ?_); (case side1 => exact q5); (case side2 => exact q1); rintro e w73 ⟨rfl, hi, hb, hk⟩; refine ⟨_, rfl, ?_⟩; replace BK181 := tKBlkF BK181 hk NB181_0; replace BK190 := tKBlkP BK190 #[.int .i64 t182, .int .i64 t183, .int .i64 t184, .int .i64 t185, .int .i64 t186, .int .i64 t187] hk NB190_0; replace HK := uO HK hk; replace HB := Aside0.mk (hb); replace HI0 := Aside0.mk (hi); (try clear hb); (try clear hb2); (try clear hk); (try clear hi)) | ((with_reducible refine uR (N := 34) rfl ?_); refine Kd.R_lit (Kd.int .i64) _ 3 ?hg (N := 34) ?hd (xs := ([(-1), 9, 10] : List Int)) (inner := [.int .i64 (-1), .int .i64 9, .int .i64 10]) (ok := fun _ => True) (okp := fun _ => True) ?hr ?hp (fun _ hk => hk) trivial (Below.refl _ _) (Nat.le_refl _) (by simp) ?_; (case hd => rfl); (case hg => rfl); (case hr => first | (go_simp; done) | (go_simp; rfl)); (case hp => exact (Reps.one (show Kd.M (Kd.int .i64) _ _ _ (-1) [.int .i64 (-1)] from rfl) (Reps.one (show Kd.M (Kd.int .i64) _ _ _ 9 [.int .i64 9] from rfl) (Reps.one (show Kd.M (Kd.int .i64) _ _ _ 10 [.int .i64 10] from rfl) (Reps.none _ _))))); intro v216 w74 ho75 hb hg_ hnew_; clear hg_ hnew_; (first | rw [← Ny215.out] at ho75 | (simp only [Int.reduceToNat] at ho75; rw [← Ny215.out] at ho75)); have HO217 := Aside0.mk (Kd.uX ho75 (keep_size (w := w) (g := g) (row := none) q7)); replace HI0 := Aside0.mk (IsS110.below q5 hb); replace BK181 := tBlk BK181 hb; replace BK190 := tBlk BK190 hb; replace HK := uO HK (uP.of_below hb g none); replace HB := tBel2 HB hb; clear hb ho75; obtain ⟨Ao76, co76, eo76⟩ := Kd.R_slice HO217.out; subst eo76) | ((with_reducible refine uE (f := 54) rfl ?_); refine uL (some 35) Tryd.func54 #[.pointer (some ⟨g, 0, none⟩), .slice Ao76 y215.length co76] ?_; (with_reducible refine (spec_l1PickInt.calls g s0_0 t192 t193 _ _ y215 t218 t219 t220 w0 _ ?side1 ?side2 ?side3 ?side4 ?side5 A66.out).mono ?_); (case side1 => exact q5); (case side2 => exact q1); (case side3 => repeat (first | exact (Kd.uM HO217.out).2.2 | (with_reducible refine Kd.C_alloc ?_ _) | (with_reducible refine Kd.C_drewN ?_ _) | (with_reducible refine Kd.C_drew ?_))); (case side4 => exact (Kd.uM HO217.out).2.1); (case side5 => exact far_slice (IsS110.own_ne HI0.out HO217.out (by decide))); rintro e w77 ⟨rfl, hi, hb, hk⟩; refine ⟨_, rfl, ?_⟩; replace BK181 := tKBlk BK181 hk NB181_0; replace BK190 := tKBlk BK190 hk NB190_0; replace HO217 := Aside0.mk (Kd.uV (Kd.R_keep (IsS110.apart (show IsS110 w0 _ g s0_0 t192 t193 from by repeat (first | (with_reducible first | exact HI0.out | apply IsS110.alloc | apply IsS110.drewN | apply IsS110.drew | apply IsS110.set_1 | apply IsS110.set_2 | refine IsS110.far ?_ NB0_181.out _ | refine IsS110.far ?_ NB0_190.out _) | exact HI0.out)) (rSR HO217.out) (by decide)) hk (fun _ h => h.2)) (fun _ h => h.1)); replace HK := uO HK hk; replace HB := Aside0.mk (hb); replace HI0 := Aside0.mk (hi); (try clear hb); (try clear hb2); (try clear hk); (try clear hi); obtain ⟨hcz78_0, hcz78_1, hcz78_2, hcz78_3, hcz78_4, hcz78_5, hfz78_0, hfz78_1, hfz78_2, hfz78_3, hfz78_4, hfz78_5⟩ := cz6 BK190; have hnb79 := NB181_0.out; have hnc79 := NB0_181.out; obtain ⟨hcz80_0, hcz80_1, hcz80_2, hcz80_3, hcz80_4, hcz80_5, hfz80_0, hfz80_1, hfz80_2, hfz80_3, hfz80_4, hfz80_5⟩ := cz6 BK181))
    refine bodyPost_ret (results_cell_row rfl _ _ gb181 64 #[.int .i64 t182, .int .i64 t183, .int .i64 t184, .int .i64 t185, .int .i64 t186, .int .i64 t218] (0, 0) _ rfl (by (with_reducible repeat (first | refine uH ?_ _ | refine uI ?_ | refine uG ?_ _)); refine uN (cs := #[.int .i64 t182, .int .i64 t183, .int .i64 t184, .int .i64 t185, .int .i64 t186, .int .i64 0]) ?_ 5 _ rfl; (with_reducible repeat (first | refine uH ?_ _ | refine uI ?_ | refine uG ?_ _)); refine uN (cs := #[.int .i64 t182, .int .i64 t183, .int .i64 t184, .int .i64 t185, .int .i64 0, .int .i64 0]) ?_ 4 _ rfl; (with_reducible repeat (first | refine uH ?_ _ | refine uI ?_ | refine uG ?_ _)); refine uN (cs := #[.int .i64 t182, .int .i64 t183, .int .i64 t184, .int .i64 0, .int .i64 0, .int .i64 0]) ?_ 3 _ rfl; (with_reducible repeat (first | refine uH ?_ _ | refine uI ?_ | refine uG ?_ _)); refine uN (cs := #[.int .i64 t182, .int .i64 t183, .int .i64 0, .int .i64 0, .int .i64 0, .int .i64 0]) ?_ 2 _ rfl; (with_reducible repeat (first | refine uH ?_ _ | refine uI ?_ | refine uG ?_ _)); refine uN (cs := #[.int .i64 t182, .int .i64 0, .int .i64 0, .int .i64 0, .int .i64 0, .int .i64 0]) ?_ 1 _ rfl; (with_reducible repeat (first | refine uH ?_ _ | refine uI ?_ | refine uG ?_ _)); refine uN (cs := #[.int .i64 0, .int .i64 0, .int .i64 0, .int .i64 0, .int .i64 0, .int .i64 0]) ?_ 0 _ rfl; (with_reducible repeat (first | refine uH ?_ _ | refine uI ?_ | refine uG ?_ _)); refine blk_far ?_ NB181_190.out _; (with_reducible repeat (first | refine uH ?_ _ | refine uI ?_ | refine uG ?_ _)); exact BK181.out) Tryd.underlying64 rfl (by kernel_rfl)) rfl ?_
    exact ⟨q2, q5, q1, q7⟩
  rw [if_neg c65] at H
  have c65b0 : (t191 == 4) = false := beq_eq_false_iff_ne.mpr c65
  have c65b1 : (t191 != 4) = true := bne_iff_ne.mpr c65
  by_cases c81 : t191 = 5
  rotate_left
  · rw [if_neg c81] at H
    have c81b0 : (t191 == 5) = false := beq_eq_false_iff_ne.mpr c81
    have c81b1 : (t191 != 5) = true := bne_iff_ne.mpr c81
    simp only [Option.some.injEq, Prod.mk.injEq] at H
    obtain ⟨rfl, rfl, rfl, rfl, rfl, rfl, rfl, rfl⟩ := H
    go_wp2_with (first | ((with_reducible refine uE (f := 85) rfl ?_); refine uL (some 5) Tryd.func85 #[.pointer (some ⟨g, 0, none⟩)] ?_; (with_reducible refine (spec_l3Op.calls g s0_0 s0_1 s0_2 t182 t183 t184 t185 t186 t187 t188 t189 w0 _ ?side1 ?side2 A2.out).mono ?_); (case side1 => exact q11); (case side2 => exact q1); rintro e w98 ⟨rfl, hi, hb, hk⟩; refine ⟨_, rfl, ?_⟩; replace BK181 := tKBlk BK181 hk NB181_0; replace HK := uO HK hk; replace HB := Aside0.mk (hb); replace HI0 := Aside0.mk (hi); (try clear hb); (try clear hb2); (try clear hk); (try clear hi)) | ((with_reducible refine uR (N := 3) rfl ?_); refine bxe 3 #[.int .i64 0, .int .i64 0, .int .i64 0, .int .i64 0, .int .i64 0, .int .i64 0] 64 ?_; intro gb190 hg w99 hbox hb; have BK190 := Aside0.mk (hbox); have GW190 := tKGe HK hg; have GE190 := tKW HW0 HK hg; have NB181_190 := tNl BK181 hg; have NB190_181 := tNg BK181 hg; have NB0_190 := Aside0.mk ((by rw [hg]; exact Nat.ne_of_lt (IsS110.lt (show IsS110 w0 _ g s0_0 t188 t189 from by repeat (first | (with_reducible first | exact HI0.out | apply IsS110.alloc | apply IsS110.drewN | apply IsS110.drew | apply IsS110.set_1 | apply IsS110.set_2 | refine IsS110.far ?_ NB0_181.out _) | exact HI0.out))) : g ≠ gb190)); have NB190_0 := Aside0.mk ((by rw [hg]; exact Nat.ne_of_gt (IsS110.lt (show IsS110 w0 _ g s0_0 t188 t189 from by repeat (first | (with_reducible first | exact HI0.out | apply IsS110.alloc | apply IsS110.drewN | apply IsS110.drew | apply IsS110.set_1 | apply IsS110.set_2 | refine IsS110.far ?_ NB0_181.out _) | exact HI0.out))) : gb190 ≠ g)); replace HI0 := Aside0.mk (IsS110.below q11 hb); replace BK181 := tBlk BK181 hb; replace HK := uO HK (uP.of_below hb g none); replace HB := tBel2 HB hb; clear hb hbox hg; have hnb100 := NB190_181.out; have hnc100 := NB181_190.out; have hnb101 := NB190_0.out; have hnc101 := NB0_190.out; obtain ⟨hcz102_0, hcz102_1, hcz102_2, hcz102_3, hcz102_4, hcz102_5, hfz102_0, hfz102_1, hfz102_2, hfz102_3, hfz102_4, hfz102_5⟩ := cz6 BK190) | ((with_reducible refine uE (f := 52) rfl ?_); refine uL (some 7) Tryd.func52 #[.pointer (some ⟨g, 0, none⟩), .int .i64 14] ?_; (with_reducible refine (spec_l1Below.calls g s0_0 t188 t189 14 t191 t192 t193 w0 _ ?side1 ?side2 A3.out).mono ?_); (case side1 => exact q5); (case side2 => exact q1); rintro e w103 ⟨rfl, hi, hb, hk⟩; refine ⟨_, rfl, ?_⟩; replace BK181 := tKBlkF BK181 hk NB181_0; replace BK190 := tKBlkP BK190 #[.int .i64 t182, .int .i64 t183, .int .i64 t184, .int .i64 t185, .int .i64 t186, .int .i64 t187] hk NB190_0; replace HK := uO HK hk; replace HB := Aside0.mk (hb); replace HI0 := Aside0.mk (hi); (try clear hb); (try clear hb2); (try clear hk); (try clear hi); obtain ⟨hcz104_0, hcz104_1, hcz104_2, hcz104_3, hcz104_4, hcz104_5, hfz104_0, hfz104_1, hfz104_2, hfz104_3, hfz104_4, hfz104_5⟩ := cz6 BK190; have hnb105 := NB181_0.out; have hnc105 := NB0_181.out; obtain ⟨hcz106_0, hcz106_1, hcz106_2, hcz106_3, hcz106_4, hcz106_5, hfz106_0, hfz106_1, hfz106_2, hfz106_3, hfz106_4, hfz106_5⟩ := cz6 BK181))
    refine bodyPost_ret (results_cell_row rfl _ _ gb181 64 #[.int .i64 t182, .int .i64 t183, .int .i64 t184, .int .i64 t185, .int .i64 t186, .int .i64 t187] (0, 0) _ rfl (by (with_reducible repeat (first | refine uH ?_ _ | refine uI ?_ | refine uG ?_ _)); refine uN (cs := #[.int .i64 t182, .int .i64 t183, .int .i64 t184, .int .i64 t185, .int .i64 t186, .int .i64 0]) ?_ 5 _ rfl; (with_reducible repeat (first | refine uH ?_ _ | refine uI ?_ | refine uG ?_ _)); refine uN (cs := #[.int .i64 t182, .int .i64 t183, .int .i64 t184, .int .i64 t185, .int .i64 0, .int .i64 0]) ?_ 4 _ rfl; (with_reducible repeat (first | refine uH ?_ _ | refine uI ?_ | refine uG ?_ _)); refine uN (cs := #[.int .i64 t182, .int .i64 t183, .int .i64 t184, .int .i64 0, .int .i64 0, .int .i64 0]) ?_ 3 _ rfl; (with_reducible repeat (first | refine uH ?_ _ | refine uI ?_ | refine uG ?_ _)); refine uN (cs := #[.int .i64 t182, .int .i64 t183, .int .i64 0, .int .i64 0, .int .i64 0, .int .i64 0]) ?_ 2 _ rfl; (with_reducible repeat (first | refine uH ?_ _ | refine uI ?_ | refine uG ?_ _)); refine uN (cs := #[.int .i64 t182, .int .i64 0, .int .i64 0, .int .i64 0, .int .i64 0, .int .i64 0]) ?_ 1 _ rfl; (with_reducible repeat (first | refine uH ?_ _ | refine uI ?_ | refine uG ?_ _)); refine uN (cs := #[.int .i64 0, .int .i64 0, .int .i64 0, .int .i64 0, .int .i64 0, .int .i64 0]) ?_ 0 _ rfl; (with_reducible repeat (first | refine uH ?_ _ | refine uI ?_ | refine uG ?_ _)); exact BK181.out) Tryd.underlying64 rfl (by kernel_rfl)) rfl ?_
    exact ⟨q2, q5, q1, q7⟩
  rw [if_pos c81] at H
  have c81b0 : (t191 == 5) = true := beq_iff_eq.mpr c81
  have c81b1 : (t191 != 5) = false := bne_eq_false_iff_eq.mpr c81
  clear c81
  obtain ⟨y221, hy221⟩ : ∃ y_ : List Int, y_ = (([(-1), 0, 9, 10] : List Int)) := ⟨_, rfl⟩
  replace H : ((spec_l1PickInt.f s0_0 t192 t193 y221).bind fun bt224 => (some (t182, t183, t184, t185, bt224.1, t187, bt224.2.1, bt224.2.2))) = some (r1, r2, r3, r4, r5, r6, r7, r8) := by first | (rw [hy221]; with_reducible exact H) | (have H2_ := (Option.bind_some _ _).symm.trans H; rw [hy221]; with_reducible exact H2_) | (have H2_ := (Option.bind_some _ _).symm.trans H; with_reducible exact H2_) | with_reducible exact H | (rw [hy221]; exact H) | exact H | rfl
  have Ny221 := Aside0.mk hy221
  clear hy221
  replace H := Option.bind_eq_some_iff.mp H
  obtain ⟨⟨t224, t225, t226⟩, A820, H⟩ := H
  try dsimp only at H
  have A82 := Aside0.mk A820
  clear A820
  simp only [Option.some.injEq, Prod.mk.injEq] at H
  obtain ⟨rfl, rfl, rfl, rfl, rfl, rfl, rfl, rfl⟩ := H
  go_wp2_with (first | ((with_reducible refine uE (f := 85) rfl ?_); refine uL (some 5) Tryd.func85 #[.pointer (some ⟨g, 0, none⟩)] ?_; (with_reducible refine (spec_l3Op.calls g s0_0 s0_1 s0_2 t182 t183 t184 t185 t186 t187 t188 t189 w0 _ ?side1 ?side2 A2.out).mono ?_); (case side1 => exact q11); (case side2 => exact q1); rintro e w84 ⟨rfl, hi, hb, hk⟩; refine ⟨_, rfl, ?_⟩; replace BK181 := tKBlk BK181 hk NB181_0; replace HK := uO HK hk; replace HB := Aside0.mk (hb); replace HI0 := Aside0.mk (hi); (try clear hb); (try clear hb2); (try clear hk); (try clear hi)) | ((with_reducible refine uR (N := 3) rfl ?_); refine bxe 3 #[.int .i64 0, .int .i64 0, .int .i64 0, .int .i64 0, .int .i64 0, .int .i64 0] 64 ?_; intro gb190 hg w85 hbox hb; have BK190 := Aside0.mk (hbox); have GW190 := tKGe HK hg; have GE190 := tKW HW0 HK hg; have NB181_190 := tNl BK181 hg; have NB190_181 := tNg BK181 hg; have NB0_190 := Aside0.mk ((by rw [hg]; exact Nat.ne_of_lt (IsS110.lt (show IsS110 w0 _ g s0_0 t188 t189 from by repeat (first | (with_reducible first | exact HI0.out | apply IsS110.alloc | apply IsS110.drewN | apply IsS110.drew | apply IsS110.set_1 | apply IsS110.set_2 | refine IsS110.far ?_ NB0_181.out _) | exact HI0.out))) : g ≠ gb190)); have NB190_0 := Aside0.mk ((by rw [hg]; exact Nat.ne_of_gt (IsS110.lt (show IsS110 w0 _ g s0_0 t188 t189 from by repeat (first | (with_reducible first | exact HI0.out | apply IsS110.alloc | apply IsS110.drewN | apply IsS110.drew | apply IsS110.set_1 | apply IsS110.set_2 | refine IsS110.far ?_ NB0_181.out _) | exact HI0.out))) : gb190 ≠ g)); replace HI0 := Aside0.mk (IsS110.below q11 hb); replace BK181 := tBlk BK181 hb; replace HK := uO HK (uP.of_below hb g none); replace HB := tBel2 HB hb; clear hb hbox hg; have hnb86 := NB190_181.out; have hnc86 := NB181_190.out; have hnb87 := NB190_0.out; have hnc87 := NB0_190.out; obtain ⟨hcz88_0, hcz88_1, hcz88_2, hcz88_3, hcz88_4, hcz88_5, hfz88_0, hfz88_1, hfz88_2, hfz88_3, hfz88_4, hfz88_5⟩ := cz6 BK190) | ((with_reducible refine uE (f := 52) rfl ?_); refine uL (some 7) Tryd.func52 #[.pointer (some ⟨g, 0, none⟩), .int .i64 14] ?_; (with_reducible refine (spec_l1Below.calls g s0_0 t188 t189 14 t191 t192 t193 w0 _ ?side1 ?side2 A3.out).mono ?_); (case side1 => exact q5); (case side2 => exact q1); rintro e w89 ⟨rfl, hi, hb, hk⟩; refine ⟨_, rfl, ?_⟩; replace BK181 := tKBlkF BK181 hk NB181_0; replace BK190 := tKBlkP BK190 #[.int .i64 t182, .int .i64 t183, .int .i64 t184, .int .i64 t185, .int .i64 t186, .int .i64 t187] hk NB190_0; replace HK := uO HK hk; replace HB := Aside0.mk (hb); replace HI0 := Aside0.mk (hi); (try clear hb); (try clear hb2); (try clear hk); (try clear hi)) | ((with_reducible refine uR (N := 40) rfl ?_); refine Kd.R_lit (Kd.int .i64) _ 3 ?hg (N := 40) ?hd (xs := ([(-1), 0, 9, 10] : List Int)) (inner := [.int .i64 (-1), .int .i64 0, .int .i64 9, .int .i64 10]) (ok := fun _ => True) (okp := fun _ => True) ?hr ?hp (fun _ hk => hk) trivial (Below.refl _ _) (Nat.le_refl _) (by simp) ?_; (case hd => rfl); (case hg => rfl); (case hr => first | (go_simp; done) | (go_simp; rfl)); (case hp => exact (Reps.one (show Kd.M (Kd.int .i64) _ _ _ (-1) [.int .i64 (-1)] from rfl) (Reps.one (show Kd.M (Kd.int .i64) _ _ _ 0 [.int .i64 0] from rfl) (Reps.one (show Kd.M (Kd.int .i64) _ _ _ 9 [.int .i64 9] from rfl) (Reps.one (show Kd.M (Kd.int .i64) _ _ _ 10 [.int .i64 10] from rfl) (Reps.none _ _)))))); intro v222 w90 ho91 hb hg_ hnew_; clear hg_ hnew_; (first | rw [← Ny221.out] at ho91 | (simp only [Int.reduceToNat] at ho91; rw [← Ny221.out] at ho91)); have HO223 := Aside0.mk (Kd.uX ho91 (keep_size (w := w) (g := g) (row := none) q7)); replace HI0 := Aside0.mk (IsS110.below q5 hb); replace BK181 := tBlk BK181 hb; replace BK190 := tBlk BK190 hb; replace HK := uO HK (uP.of_below hb g none); replace HB := tBel2 HB hb; clear hb ho91; obtain ⟨Ao92, co92, eo92⟩ := Kd.R_slice HO223.out; subst eo92) | ((with_reducible refine uE (f := 54) rfl ?_); refine uL (some 41) Tryd.func54 #[.pointer (some ⟨g, 0, none⟩), .slice Ao92 y221.length co92] ?_; (with_reducible refine (spec_l1PickInt.calls g s0_0 t192 t193 _ _ y221 t224 t225 t226 w0 _ ?side1 ?side2 ?side3 ?side4 ?side5 A82.out).mono ?_); (case side1 => exact q5); (case side2 => exact q1); (case side3 => repeat (first | exact (Kd.uM HO223.out).2.2 | (with_reducible refine Kd.C_alloc ?_ _) | (with_reducible refine Kd.C_drewN ?_ _) | (with_reducible refine Kd.C_drew ?_))); (case side4 => exact (Kd.uM HO223.out).2.1); (case side5 => exact far_slice (IsS110.own_ne HI0.out HO223.out (by decide))); rintro e w93 ⟨rfl, hi, hb, hk⟩; refine ⟨_, rfl, ?_⟩; replace BK181 := tKBlk BK181 hk NB181_0; replace BK190 := tKBlk BK190 hk NB190_0; replace HO223 := Aside0.mk (Kd.uV (Kd.R_keep (IsS110.apart (show IsS110 w0 _ g s0_0 t192 t193 from by repeat (first | (with_reducible first | exact HI0.out | apply IsS110.alloc | apply IsS110.drewN | apply IsS110.drew | apply IsS110.set_1 | apply IsS110.set_2 | refine IsS110.far ?_ NB0_181.out _ | refine IsS110.far ?_ NB0_190.out _) | exact HI0.out)) (rSR HO223.out) (by decide)) hk (fun _ h => h.2)) (fun _ h => h.1)); replace HK := uO HK hk; replace HB := Aside0.mk (hb); replace HI0 := Aside0.mk (hi); (try clear hb); (try clear hb2); (try clear hk); (try clear hi); obtain ⟨hcz94_0, hcz94_1, hcz94_2, hcz94_3, hcz94_4, hcz94_5, hfz94_0, hfz94_1, hfz94_2, hfz94_3, hfz94_4, hfz94_5⟩ := cz6 BK190; have hnb95 := NB181_0.out; have hnc95 := NB0_181.out; obtain ⟨hcz96_0, hcz96_1, hcz96_2, hcz96_3, hcz96_4, hcz96_5, hfz96_0, hfz96_1, hfz96_2, hfz96_3, hfz96_4, hfz96_5⟩ := cz6 BK181))
  refine bodyPost_ret (results_cell_row rfl _ _ gb181 64 #[.int .i64 t182, .int .i64 t183, .int .i64 t184, .int .i64 t185, .int .i64 t224, .int .i64 t187] (0, 0) _ rfl (by (with_reducible repeat (first | refine uH ?_ _ | refine uI ?_ | refine uG ?_ _)); refine uN (cs := #[.int .i64 t182, .int .i64 t183, .int .i64 t184, .int .i64 t185, .int .i64 t224, .int .i64 0]) ?_ 5 _ rfl; (with_reducible repeat (first | refine uH ?_ _ | refine uI ?_ | refine uG ?_ _)); refine uN (cs := #[.int .i64 t182, .int .i64 t183, .int .i64 t184, .int .i64 t185, .int .i64 0, .int .i64 0]) ?_ 4 _ rfl; (with_reducible repeat (first | refine uH ?_ _ | refine uI ?_ | refine uG ?_ _)); refine uN (cs := #[.int .i64 t182, .int .i64 t183, .int .i64 t184, .int .i64 0, .int .i64 0, .int .i64 0]) ?_ 3 _ rfl; (with_reducible repeat (first | refine uH ?_ _ | refine uI ?_ | refine uG ?_ _)); refine uN (cs := #[.int .i64 t182, .int .i64 t183, .int .i64 0, .int .i64 0, .int .i64 0, .int .i64 0]) ?_ 2 _ rfl; (with_reducible repeat (first | refine uH ?_ _ | refine uI ?_ | refine uG ?_ _)); refine uN (cs := #[.int .i64 t182, .int .i64 0, .int .i64 0, .int .i64 0, .int .i64 0, .int .i64 0]) ?_ 1 _ rfl; (with_reducible repeat (first | refine uH ?_ _ | refine uI ?_ | refine uG ?_ _)); refine uN (cs := #[.int .i64 0, .int .i64 0, .int .i64 0, .int .i64 0, .int .i64 0, .int .i64 0]) ?_ 0 _ rfl; (with_reducible repeat (first | refine uH ?_ _ | refine uI ?_ | refine uG ?_ _)); refine blk_far ?_ NB181_190.out _; (with_reducible repeat (first | refine uH ?_ _ | refine uI ?_ | refine uG ?_ _)); exact BK181.out) Tryd.underlying64 rfl (by kernel_rfl)) rfl ?_
  exact ⟨q2, q5, q1, q7⟩

end Go.Proofs.YtcikahnmiiichaaDoor.G
