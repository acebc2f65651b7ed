/- Go functions as Lean functions, and the proof that the code comes to them: written by a program of this session out of the translation. -/
import Derived.Test.YtcikahnmiiichaaN0
namespace Go.Proofs.Ytcikahnmiiichaa.N
open List renaming setIfInBounds_toArray → yA, set_cons_zero → yB, set_cons_succ → yC, map_toArray → yD
open Go.World renaming block_lt_of_cell? → yG
open Go.RowKit Go.Proofs.YtcikahnmiiichaaW.PrintWords Go.Proofs.YtcikahnmiiichaaW.PrintLast Go.Proofs.YtcikahnmiiichaaW.PrintMore
attribute [local go_sem] max2_int min2_int max_two min_two vX vY max_four min_four   -- for this text's walks alone
set_option linter.unusedVariables false
set_option linter.unusedSimpArgs false

/-- A state of type 112 at block g of W; what its slices lead to came in by w0. -/
def IsS112 (w0 W : World) (g : Nat) (f0 : List Int) (f1 : Int) (f2 : Int) : Prop := ∃ A0 c0, W.heap[g]? = some (.cells #[.slice A0 f0.length c0, .int .i64 f1, .int .i64 f2] 112 (0, 0)) ∧ w0.heap.size ≤ g ∧ Kd.C (Kd.int .u8) w0 A0 f0.length f0
theorem IsS112.grown {w0 W : World} {g : Nat} {f0 : List Int} {f1 : Int} {f2 : Int} {W1 : World} {row : Option Nat} (h : IsS112 w0 W g f0 f1 f2) (hw : W.grownBy W1 row) (hne : some g ≠ row) : IsS112 w0 W1 g f0 f1 f2 := by
  obtain ⟨A0, c0, hb, hg, hr0⟩ := h
  exact ⟨A0, c0, blk_grown hb hw hne, hg, hr0⟩
theorem IsS112.own_neN {w0 W : World} {g : Nat} {f0 : List Int} {f1 : Int} {f2 : Int} {α : Type} {d : Kd α} {e : Nat} {base : Nat} {ok : Nat → Prop} {v : Value} {xs : List α} (h : IsS112 w0 W g f0 f1 f2) (ho : Kd.N d e W base ok v xs) (ht : e ≠ 112) : some g ≠ v.ownBlock := by
  obtain ⟨A0, c0, hb, hg, hr0⟩ := h
  exact Kd.N_ne ho hb ht
theorem IsS112.fresh {w0 W : World} {g : Nat} {f0 : List Int} {f1 : Int} {f2 : Int} (h : IsS112 w0 W g f0 f1 f2) : ∀ k, W.heap.size ≤ k → k ≠ g := by
  obtain ⟨A0, c0, hb, hg, hr0⟩ := h
  exact Kd.freshB hb
theorem IsS112.kept {w0 W : World} {g : Nat} {f0 : List Int} {f1 : Int} {f2 : Int} {W1 : World} {S : Nat → Prop} (h : IsS112 w0 W g f0 f1 f2) (hk : Kept W W1 S) (hne : ¬ S g) : IsS112 w0 W1 g f0 f1 f2 := by
  obtain ⟨A0, c0, hb, hg, hr0⟩ := h
  exact ⟨A0, c0, blk_kept hb hk hne, hg, hr0⟩
theorem IsS112.below {w0 W : World} {g : Nat} {f0 : List Int} {f1 : Int} {f2 : Int} {W1 : World} (h : IsS112 w0 W g f0 f1 f2) (hw : Below W.heap.size W W1) : IsS112 w0 W1 g f0 f1 f2 := h.grown (grown_of_below hw none) (by simp)
theorem IsS112.alloc {w0 W : World} {g : Nat} {f0 : List Int} {f1 : Int} {f2 : Int} (h : IsS112 w0 W g f0 f1 f2) (o : Obj) : IsS112 w0 (W.alloc o) g f0 f1 f2 := h.below (below_alloc (Below.refl _ _) o)
theorem IsS112.drewN {w0 W : World} {g : Nat} {f0 : List Int} {f1 : Int} {f2 : Int} (h : IsS112 w0 W g f0 f1 f2) (m : Nat) : IsS112 w0 (W.drewN m) g f0 f1 f2 := h
theorem IsS112.drew {w0 W : World} {g : Nat} {f0 : List Int} {f1 : Int} {f2 : Int} (h : IsS112 w0 W g f0 f1 f2) : IsS112 w0 W.drew g f0 f1 f2 := h
theorem IsS112.at_ {w0 W : World} {g : Nat} {f0 : List Int} {f1 : Int} {f2 : Int} {w' : World} {m : Nat} (hq : W.drewN m = w') (h : IsS112 w0 W g f0 f1 f2) : IsS112 w0 w' g f0 f1 f2 := by subst hq; exact IsS112.drewN h m
theorem IsS112.apart {w0 W : World} {g : Nat} {f0 : List Int} {f1 : Int} {f2 : Int} {α : Type} {d : Kd α} {e : Nat} {base : Nat} {ok : Nat → Prop} {v : Value} {xs : List α} (h : IsS112 w0 W g f0 f1 f2) (ho : d.R e W base ok v xs) (ht : ∀ q, q ∈ e :: d.E → q ≠ 112) : d.R e W base (fun k => ok k ∧ k ≠ g) v xs := by
  obtain ⟨A0, c0, hb, hg, hr0⟩ := h
  exact Kd.vG ho hb ht
theorem IsS112.own_ne {w0 W : World} {g : Nat} {f0 : List Int} {f1 : Int} {f2 : Int} {α : Type} {d : Kd α} {e : Nat} {base : Nat} {ok : Nat → Prop} {v : Value} {xs : List α} (h : IsS112 w0 W g f0 f1 f2) (ho : d.R e W base ok v xs) (ht : e ≠ 112) : some g ≠ v.ownBlock := by
  obtain ⟨A0, c0, hb, hg, hr0⟩ := h
  exact Kd.R_ne ho hb ht
theorem IsS112.apartQ {w0 W : World} {g : Nat} {f0 : List Int} {f1 : Int} {f2 : Int} {α : Type} {d : Kd α} {e : Nat} {base : Nat} {ok : Nat → Prop} {v : Value} {xs : List α} (h : IsS112 w0 W g f0 f1 f2) (ho : d.Q e W base ok v xs) (ht : ∀ q, q ∈ e :: d.E → q ≠ 112) : d.Q e W base (fun k => ok k ∧ k ≠ g) v xs := by
  obtain ⟨A0, c0, hb, hg, hr0⟩ := h
  exact Kd.Q_types ho hb ht
theorem IsS112.own_neQ {w0 W : World} {g : Nat} {f0 : List Int} {f1 : Int} {f2 : Int} {α : Type} {d : Kd α} {e : Nat} {base : Nat} {ok : Nat → Prop} {v : Value} {xs : List α} (h : IsS112 w0 W g f0 f1 f2) (ho : d.Q e W base ok v xs) (ht : e ≠ 112) : some g ≠ v.ownBlock := by
  obtain ⟨A0, c0, hb, hg, hr0⟩ := h
  exact Kd.Q_ne ho hb ht
theorem IsS112.apartS {w0 W : World} {g : Nat} {f0 : List Int} {f1 : Int} {f2 : Int} {α : Type} {d : Kd α} {e : Nat} {base : Nat} {ok : Nat → Prop} {v : Value} {xs : List α} (h : IsS112 w0 W g f0 f1 f2) (ho : d.S e W base ok v xs) (ht : ∀ q, q ∈ e :: d.E → q ≠ 112) : d.S e W base (fun k => ok k ∧ k ≠ g) v xs := by
  obtain ⟨A0, c0, hb, hg, hr0⟩ := h
  exact Kd.S_types ho hb ht
theorem IsS112.own_neS {w0 W : World} {g : Nat} {f0 : List Int} {f1 : Int} {f2 : Int} {α : Type} {d : Kd α} {e : Nat} {base : Nat} {ok : Nat → Prop} {v : Value} {xs : List α} (h : IsS112 w0 W g f0 f1 f2) (ho : d.S e W base ok v xs) (ht : e ≠ 112) : some g ≠ v.ownBlock := by
  obtain ⟨A0, c0, hb, hg, hr0⟩ := h
  exact Kd.S_ne ho hb ht
theorem IsS112.lt {w0 W : World} {g : Nat} {f0 : List Int} {f1 : Int} {f2 : Int} (h : IsS112 w0 W g f0 f1 f2) : g < W.heap.size := by
  obtain ⟨A0, c0, hb, hg, hr0⟩ := h
  exact blk_lt hb
theorem IsS112.ge {w0 W : World} {g : Nat} {f0 : List Int} {f1 : Int} {f2 : Int} (h : IsS112 w0 W g f0 f1 f2) : w0.heap.size ≤ g := by
  obtain ⟨A0, c0, hb, hg, hr0⟩ := h
  exact hg
theorem IsS112.ne_blk {w0 W : World} {g : Nat} {f0 : List Int} {f1 : Int} {f2 : Int} {a : Nat} {cs : Array Value} {t : TypeId} {fr : Nat × Nat} (h : IsS112 w0 W g f0 f1 f2) (hb2 : W.heap[a]? = some (.cells cs t fr)) (ht : t ≠ 112) : g ≠ a := by
  obtain ⟨A0, c0, hb, hg, hr0⟩ := h
  rintro rfl
  rw [hb] at hb2
  injection hb2 with hb2
  injection hb2 with _ ht2
  exact ht ht2.symm
theorem IsS112.far {w0 W : World} {g : Nat} {f0 : List Int} {f1 : Int} {f2 : Int} {p : Addr} (h : IsS112 w0 W g f0 f1 f2) (hne : g ≠ p.block) (u : Value) : IsS112 w0 (W.setCell p u) g f0 f1 f2 := by
  obtain ⟨A0, c0, hb, hg, hr0⟩ := h
  exact ⟨A0, c0, vO hb hne u, hg, hr0⟩
theorem cellS112_0 {W : World} {g : Nat} {A0 : Option Addr} {c0 : Nat} {f0 : List Int} {f1 : Int} {f2 : Int} (h : W.heap[g]? = some (.cells #[.slice A0 f0.length c0, .int .i64 f1, .int .i64 f2] 112 (0, 0))) : W.cell? ⟨g, 0, none⟩ = some (.slice A0 f0.length c0) := (uB h 0).trans rfl
theorem cellS112_1 {W : World} {g : Nat} {A0 : Option Addr} {c0 : Nat} {f0 : List Int} {f1 : Int} {f2 : Int} (h : W.heap[g]? = some (.cells #[.slice A0 f0.length c0, .int .i64 f1, .int .i64 f2] 112 (0, 0))) : W.cell? ⟨g, 1, none⟩ = some (.int .i64 f1) := (uB h 1).trans rfl
theorem IsS112.set_1 {w0 W : World} {g : Nat} {f0 : List Int} {f1 : Int} {f2 : Int} (h : IsS112 w0 W g f0 f1 f2) (x : Int) : IsS112 w0 (W.setCell ⟨g, 1, none⟩ (.int .i64 x)) g f0 x f2 := by
  obtain ⟨A0, c0, hb, hg, hr0⟩ := h
  exact ⟨A0, c0, by simpa using blk_set hb 1 (.int .i64 x), hg, hr0⟩
theorem cellS112_2 {W : World} {g : Nat} {A0 : Option Addr} {c0 : Nat} {f0 : List Int} {f1 : Int} {f2 : Int} (h : W.heap[g]? = some (.cells #[.slice A0 f0.length c0, .int .i64 f1, .int .i64 f2] 112 (0, 0))) : W.cell? ⟨g, 2, none⟩ = some (.int .i64 f2) := (uB h 2).trans rfl
theorem IsS112.set_2 {w0 W : World} {g : Nat} {f0 : List Int} {f1 : Int} {f2 : Int} (h : IsS112 w0 W g f0 f1 f2) (x : Int) : IsS112 w0 (W.setCell ⟨g, 2, none⟩ (.int .i64 x)) g f0 f1 x := by
  obtain ⟨A0, c0, hb, hg, hr0⟩ := h
  exact ⟨A0, c0, by simpa using blk_set hb 2 (.int .i64 x), hg, hr0⟩
theorem IsS112.new (w0 W : World) (A0 : Option Addr) (c0 : Nat) (f0 : List Int) (f1 : Int) (f2 : Int) (hB : Below w0.heap.size w0 W) (hr0 : Kd.C (Kd.int .u8) w0 A0 f0.length f0) : IsS112 w0 (W.alloc (.cells #[.slice A0 f0.length c0, .int .i64 f1, .int .i64 f2] 112)) W.heap.size f0 f1 f2 := ⟨A0, c0, by simpa using heap_alloc_new W _, hB.size, hr0⟩

theorem IsS112.tgr {w0 W W1 W2 : World} {g : Nat} {f0 : List Int} {f1 : Int} {f2 : Int} {row : Option Nat} (h : Aside0 (IsS112 w0 W g f0 f1 f2)) (hg : W1.grownBy W2 row) (hne : some g ≠ row) (hs : IsS112 w0 W g f0 f1 f2 → IsS112 w0 W1 g f0 f1 f2 := by (intro x_; repeat (first | (with_reducible first | exact x_ | apply IsS112.alloc | apply IsS112.drewN | apply IsS112.drew | refine IsS112.far ?_ (Aside0.out (by assumption)) _) | exact x_))) : Aside0 (IsS112 w0 W2 g f0 f1 f2) := ⟨IsS112.grown (hs h.out) hg hne⟩
/-! ### spec_l1New: function 58 -/
def spec_l1New.l0 : Nat → List Int → Int → Int → Option (List Int × Int × Int)
  | 0, _, _, _ => none
  | k + 1, x0, x3, x4 => if x4 < (x0.length : Int) then (if x4 < 4000 then (if 0 ≤ x4 then (spec_l1New.l0 k x0 (Go.bits .and .i64 (wrap64 ((wrap64 ((wrap64 (x3 * 131)) + (wrap64 (rd x0 x4)))) + 7)) 1073741823) (wrap64 (x4 + 1))) else (none)) else (some (x0, 0, x3))) else (some (x0, 0, x3))
def spec_l1New.f (k : Nat) (l0 : List Int) : Option (List Int × Int × Int) := spec_l1New.l0 k l0 (wrap64 (10101 + (l0.length : Int))) 0
theorem spec_l1New.mono_l : ∀ k, (∀ y0 y1 y2, uI (spec_l1New.l0 k y0 y1 y2) (spec_l1New.l0 (k + 1) y0 y1 y2))
  | 0 => fun _ _ _ r h => by simp [spec_l1New.l0] at h
  | k + 1 => by
    have ih0 := spec_l1New.mono_l k
    intro y0 y1 y2
    unfold spec_l1New.l0
    repeat' first
    | (with_reducible exact ih0 _ _ _)
    | (with_reducible exact uI.refl _)
    | (with_reducible exact uI.none _)
    | (with_reducible refine uI.ite ?_ ?_)
    | (with_reducible refine uI.bind ?_ (fun _ => ?_))
    | exact ih0 _ _ _
    | exact uI.none _
    | refine uI.ite ?_ ?_
    | refine uI.bind ?_ (fun _ => ?_)
theorem spec_l1New.mono : ∀ a0 k, uI (spec_l1New.f k a0) (spec_l1New.f (k + 1) a0) := by
  intro a0 k
  have ih0 := spec_l1New.mono_l k
  unfold spec_l1New.f
  repeat' first
      | (with_reducible exact ih0 _ _ _)
      | (with_reducible exact uI.refl _)
      | (with_reducible exact uI.none _)
      | (with_reducible refine uI.ite ?_ ?_)
      | (with_reducible refine uI.bind ?_ (fun _ => ?_))
      | exact ih0 _ _ _
      | exact uI.none _
      | refine uI.ite ?_ ?_
      | refine uI.bind ?_ (fun _ => ?_)
set_option maxHeartbeats 8000000 in
set_option maxRecDepth 100000 in
theorem spec_l1New.calls (k : Nat) (A0 : Option Addr) (c0 : Nat) (l0 : List Int) (r1 : List Int) (r2 : Int) (r3 : Int) (w0 w : World) (hB : Below w0.heap.size w0 w) (hr0 : Kd.C (Kd.int .u8) w0 A0 l0.length l0) (hc0 : l0.length ≤ c0) (h : spec_l1New.f k l0 = some (r1, r2, r3)) :
    Calls Try.prog 58 #[.slice A0 l0.length c0] w fun e w' => ∃ g_ : Nat, e = .returned (.pointer (some ⟨g_, 0, none⟩)) ∧ IsS112 w0 w' g_ r1 r2 r3 ∧ Below w0.heap.size w0 w' ∧ Below w.heap.size w w' := by
  have hu112 := Try.underlying112
  have HR0 := Aside0.mk hr0
  have HC0 := Aside0.mk hc0
  clear hr0 hc0
  have HBW := Aside0.mk (Below.refl w.heap.size w)
  have HW0 := Aside0.mk hB.size
  have HB := Aside0.mk hB
  clear hB
  have H : (spec_l1New.l0 k l0 (wrap64 (10101 + (l0.length : Int))) 0) = some (r1, r2, r3) := h
  clear h
  have H' := Aside0.mk H
  clear H
  go_enter Try.func58, Try.ntmps58
  go_wp2
  go_loopg [3, 4] k (fun kq v3 v4 w' => ∃ (x3_1 : Int) (x4_1 : Int), v3 = .int .i64 x3_1 ∧ v4 = .int .i64 x4_1 ∧ Aside0 (spec_l1New.l0 kq l0 x3_1 x4_1 = some (r1, r2, r3)) ∧ Aside0 (kq ≤ k) ∧ Aside0 (Below w.heap.size w w') ∧ Aside0 (Below w0.heap.size w0 w'))
  case atStart => exact ⟨(wrap64 (10101 + (l0.length : Int))), (0), cq15, cq15, H', ⟨Nat.le_refl _⟩, ⟨cq102⟩, ⟨cq9⟩⟩
  case round =>
    clear H'
    obtain ⟨x3_1, x4_1, rfl, rfl, HA, HK1, HBW, HB⟩ := hrel
    cases gk with
    | zero => exact absurd HA.out (by simp [spec_l1New.l0])
    | succ k1 =>
      have H := HA.out
      clear HA
      simp only [spec_l1New.l0] at H
      by_cases c2 : x4_1 < (l0.length : Int)
      rotate_left
      · rw [if_neg c2] at H
        have c2b0 := decide_eq_false c2
        clear c2
        simp only [Option.some.injEq, Prod.mk.injEq] at H
        obtain ⟨rfl, rfl, rfl⟩ := H
        go_wp2_with (first | ((with_reducible refine uJ (N := 31) rfl ?_); refine bxe 31 #[.slice A0 l0.length c0, .int .i64 0, .int .i64 x3_1] 112 ?_; intro gb255 hg w6 hbox hb; have BK255 := Aside0.mk (hbox); have GW255 := tGe HBW hg; have GE255 := Aside0.mk ((Nat.le_trans HW0.out (by rw [hg]; exact (uO cq102) : w.heap.size ≤ gb255) : w0.heap.size ≤ gb255)); replace HBW := Aside0.mk (below_step HBW.out hb); replace HB := vB HB hb; clear hb hbox hg))
        go_ret
        exact ⟨_, rfl, (show IsS112 w0 _ gb255 l0 0 x3_1 from ⟨_, _, by (with_reducible repeat (first | refine uC ?_ _ | refine uE ?_ | refine uD ?_ _)); exact BK255.out, GE255.out, HR0.out⟩), vA, by repeat (first | (with_reducible first | exact HBW.out | apply below_alloc | apply vH | apply vM | refine below_set ?_ GW255.out) | exact HBW.out)⟩
      rw [if_pos c2] at H
      have c2b0 := decide_eq_true c2
      clear c2
      by_cases c3 : x4_1 < 4000
      · rw [if_pos c3] at H
        have c3b0 := decide_eq_true c3
        clear c3
        obtain ⟨c4b0, H⟩ := ifD H
        have H' := Aside0.mk H
        clear H
        have p254 : 0 ≤ (x4_1 : Int) := of_decide_eq_true cq12
        have q254 : x4_1 < (l0.length : Int) := of_decide_eq_true cq12
        obtain ⟨ad254, e254, hx254_0⟩ := Kd.at_int HR0.out x4_1 p254 q254
        cases e254
        replace hx254_0 := uT HB.out hx254_0
        replace p254 := eq_true p254
        replace q254 := eq_true q254
        go_wp2
        go_roundg k1
        case measure => have := HK1.out; omega
        case rel => exact ⟨(Go.bits .and .i64 (wrap64 ((wrap64 ((wrap64 (x3_1 * 131)) + (wrap64 (rd l0 x4_1)))) + 7)) 1073741823), (wrap64 (x4_1 + 1)), cq15, cq15, H', ⟨by have := HK1.out; omega⟩, ⟨cq102⟩, ⟨cq9⟩⟩
      rw [if_neg c3] at H
      have c3b0 := decide_eq_false c3
      clear c3
      simp only [Option.some.injEq, Prod.mk.injEq] at H
      obtain ⟨rfl, rfl, rfl⟩ := H
      go_wp2_with (first | ((with_reducible refine uJ (N := 31) rfl ?_); refine bxe 31 #[.slice A0 l0.length c0, .int .i64 0, .int .i64 x3_1] 112 ?_; intro gb255 hg w5 hbox hb; have BK255 := Aside0.mk (hbox); have GW255 := tGe HBW hg; have GE255 := Aside0.mk ((Nat.le_trans HW0.out (by rw [hg]; exact (uO cq102) : w.heap.size ≤ gb255) : w0.heap.size ≤ gb255)); replace HBW := Aside0.mk (below_step HBW.out hb); replace HB := vB HB hb; clear hb hbox hg))
      go_ret
      exact ⟨_, rfl, (show IsS112 w0 _ gb255 l0 0 x3_1 from ⟨_, _, by (with_reducible repeat (first | refine uC ?_ _ | refine uE ?_ | refine uD ?_ _)); exact BK255.out, GE255.out, HR0.out⟩), vA, by repeat (first | (with_reducible first | exact HBW.out | apply below_alloc | apply vH | apply vM | refine below_set ?_ GW255.out) | exact HBW.out)⟩

/-! ### spec_l1Byte: function 90 -/
def spec_l1Byte.f (s0_0 : List Int) (s0_1 : Int) (s0_2 : Int) : Option (Int × Int × Int) := if s0_1 < (s0_0.length : Int) then (if 0 ≤ s0_1 then (some (Go.bits .and .i64 (wrap64 ((Go.bits .and .i64 (Go.bits .xor .i64 ((wrap64 ((wrap64 (s0_2 * 6364136223846793005)) + 1442695040888963407)) / 8589934592) ((wrap64 ((wrap64 (s0_2 * 6364136223846793005)) + 1442695040888963407)) / 35184372088832)) 255) + (wrap64 (rd s0_0 s0_1)))) 255, wrap64 (s0_1 + 1), wrap64 ((wrap64 (s0_2 * 6364136223846793005)) + 1442695040888963407))) else (none)) else (some (Go.bits .and .i64 (Go.bits .xor .i64 ((wrap64 ((wrap64 (s0_2 * 6364136223846793005)) + 1442695040888963407)) / 8589934592) ((wrap64 ((wrap64 (s0_2 * 6364136223846793005)) + 1442695040888963407)) / 35184372088832)) 255, s0_1, wrap64 ((wrap64 (s0_2 * 6364136223846793005)) + 1442695040888963407)))
set_option maxHeartbeats 8000000 in
set_option maxRecDepth 100000 in
theorem spec_l1Byte.calls (g : Nat) (s0_0 : List Int) (s0_1 : Int) (s0_2 : Int) (r1 : Int) (r2 : Int) (r3 : Int) (w0 w : World) (hI : IsS112 w0 w g s0_0 s0_1 s0_2) (hB : Below w0.heap.size w0 w) (h : spec_l1Byte.f s0_0 s0_1 s0_2 = some (r1, r2, r3)) :
    Calls Try.prog 90 #[.pointer (some ⟨g, 0, none⟩)] w fun e w' => e = .returned (.int .i64 r1) ∧ IsS112 w0 w' g s0_0 r2 r3 ∧ Below w0.heap.size w0 w' ∧ vP w w' g none := by
  have HI0 := Aside0.mk hI
  have HK := Aside0.mk (vP.refl w g none)
  have HL := Aside0.mk hB.size
  clear hI
  have HW0 := Aside0.mk hB.size
  have HB := Aside0.mk hB
  clear hB
  have H : (if s0_1 < (s0_0.length : Int) then (if 0 ≤ s0_1 then (some (Go.bits .and .i64 (wrap64 ((Go.bits .and .i64 (Go.bits .xor .i64 ((wrap64 ((wrap64 (s0_2 * 6364136223846793005)) + 1442695040888963407)) / 8589934592) ((wrap64 ((wrap64 (s0_2 * 6364136223846793005)) + 1442695040888963407)) / 35184372088832)) 255) + (wrap64 (rd s0_0 s0_1)))) 255, wrap64 (s0_1 + 1), wrap64 ((wrap64 (s0_2 * 6364136223846793005)) + 1442695040888963407))) else (none)) else (some (Go.bits .and .i64 (Go.bits .xor .i64 ((wrap64 ((wrap64 (s0_2 * 6364136223846793005)) + 1442695040888963407)) / 8589934592) ((wrap64 ((wrap64 (s0_2 * 6364136223846793005)) + 1442695040888963407)) / 35184372088832)) 255, s0_1, wrap64 ((wrap64 (s0_2 * 6364136223846793005)) + 1442695040888963407)))) = some (r1, r2, r3) := h
  clear h
  by_cases c2 : s0_1 < (s0_0.length : Int)
  rotate_left
  · rw [if_neg c2] at H
    have c2b0 := decide_eq_false c2
    clear c2
    simp only [Option.some.injEq, Prod.mk.injEq] at H
    obtain ⟨rfl, rfl, rfl⟩ := H
    obtain ⟨ASz5_0, cSz5_0, HGz5, hgz5, HSz5_0⟩ := HI0.out
    have hcz5_0 := cellS112_0 HGz5
    have hcz5_1 := cellS112_1 HGz5
    have hcz5_2 := cellS112_2 HGz5
    have hfz5_1 := vK HGz5 1
    have hfz5_2 := vK HGz5 2
    clear HGz5 hgz5
    go_enter Try.func90, Try.ntmps90
    go_wp2
    repeat (go_quiet (fail); try go_wp2)
    go_ret
    exact ⟨cq3, cq2, cq5, cq14⟩
  rw [if_pos c2] at H
  have c2b0 := decide_eq_true c2
  clear c2
  obtain ⟨c3b0, H⟩ := ifD H
  simp only [Option.some.injEq, Prod.mk.injEq] at H
  obtain ⟨rfl, rfl, rfl⟩ := H
  obtain ⟨ASz4_0, cSz4_0, HGz4, hgz4, HSz4_0⟩ := HI0.out
  have hcz4_0 := cellS112_0 HGz4
  have hcz4_1 := cellS112_1 HGz4
  have hcz4_2 := cellS112_2 HGz4
  have hfz4_1 := vK HGz4 1
  have hfz4_2 := vK HGz4 2
  clear HGz4 hgz4
  have p256 : 0 ≤ (s0_1 : Int) := of_decide_eq_true cq12
  have q256 : s0_1 < (s0_0.length : Int) := of_decide_eq_true cq12
  obtain ⟨ad256, e256, hx256_0⟩ := Kd.at_int HSz4_0 s0_1 p256 q256
  cases e256
  have hn256_0 : ad256.block ≠ g := Nat.ne_of_lt (Nat.lt_of_lt_of_le (by have := yG _ _ hx256_0; first | rwa [uA] at this | exact this) (IsS112.ge HI0.out))
  replace hx256_0 := uT HB.out hx256_0
  replace hx256_0 := (uU (p := ⟨g, 2, none⟩) (by first | (rw [uA]; exact hn256_0) | (show (Addr.add _ _).block ≠ _; rw [uA]; exact hn256_0) | exact hn256_0) (.int .i64 (wrap64 ((wrap64 (s0_2 * 6364136223846793005)) + 1442695040888963407)))).trans hx256_0
  (try have hy256_0 := fun (n_ : Nat) => (show (((w.drewN n_).setCell ⟨g, 2, none⟩ (.int .i64 (wrap64 ((wrap64 (s0_2 * 6364136223846793005)) + 1442695040888963407))))).cell? _ = some _ from hx256_0))
  clear hn256_0
  replace p256 := eq_true p256
  replace q256 := eq_true q256
  go_enter Try.func90, Try.ntmps90
  go_wp2
  repeat (go_quiet (fail); try go_wp2)
  go_ret
  exact ⟨cq3, cq2, cq5, cq14⟩

/-! ### spec_l1Below: function 74 -/
def spec_l1Below.f (s0_0 : List Int) (s0_1 : Int) (s0_2 : Int) (a1 : Int) : Option (Int × Int × Int) := if a1 ≤ 0 then (some (0, s0_1, s0_2)) else (if a1 ≤ 256 then ((spec_l1Byte.f s0_0 s0_1 s0_2).bind fun bt257 => (if a1 = 0 then (none) else (some (Int.tmod bt257.1 a1, bt257.2.1, bt257.2.2)))) else ((spec_l1Byte.f s0_0 s0_1 s0_2).bind fun bt260 => ((spec_l1Byte.f s0_0 bt260.2.1 bt260.2.2).bind fun bt263 => ((spec_l1Byte.f s0_0 bt263.2.1 bt263.2.2).bind fun bt266 => ((spec_l1Byte.f s0_0 bt266.2.1 bt266.2.2).bind fun bt269 => (if a1 = 0 then (none) else (some (Int.tmod (wrap64 ((wrap64 ((wrap64 ((wrap64 (bt260.1 * 16777216)) + (wrap64 (bt263.1 * 65536)))) + (wrap64 (bt266.1 * 256)))) + bt269.1)) a1, bt269.2.1, bt269.2.2))))))))
set_option maxHeartbeats 8000000 in
set_option maxRecDepth 100000 in
theorem spec_l1Below.calls (g : Nat) (s0_0 : List Int) (s0_1 : Int) (s0_2 : Int) (a1 : Int) (r1 : Int) (r2 : Int) (r3 : Int) (w0 w : World) (hI : IsS112 w0 w g s0_0 s0_1 s0_2) (hB : Below w0.heap.size w0 w) (h : spec_l1Below.f s0_0 s0_1 s0_2 a1 = some (r1, r2, r3)) :
    Calls Try.prog 74 #[.pointer (some ⟨g, 0, none⟩), .int .i64 a1] w fun e w' => e = .returned (.int .i64 r1) ∧ IsS112 w0 w' g s0_0 r2 r3 ∧ Below w0.heap.size w0 w' ∧ vP w w' g none := by
  have HI0 := Aside0.mk hI
  have HK := Aside0.mk (vP.refl w g none)
  have HL := Aside0.mk hB.size
  clear hI
  have HW0 := Aside0.mk hB.size
  have HB := Aside0.mk hB
  clear hB
  have H : (if a1 ≤ 0 then (some (0, s0_1, s0_2)) else (if a1 ≤ 256 then ((spec_l1Byte.f s0_0 s0_1 s0_2).bind fun bt257 => (if a1 = 0 then (none) else (some (Int.tmod bt257.1 a1, bt257.2.1, bt257.2.2)))) else ((spec_l1Byte.f s0_0 s0_1 s0_2).bind fun bt260 => ((spec_l1Byte.f s0_0 bt260.2.1 bt260.2.2).bind fun bt263 => ((spec_l1Byte.f s0_0 bt263.2.1 bt263.2.2).bind fun bt266 => ((spec_l1Byte.f s0_0 bt266.2.1 bt266.2.2).bind fun bt269 => (if a1 = 0 then (none) else (some (Int.tmod (wrap64 ((wrap64 ((wrap64 ((wrap64 (bt260.1 * 16777216)) + (wrap64 (bt263.1 * 65536)))) + (wrap64 (bt266.1 * 256)))) + bt269.1)) a1, bt269.2.1, bt269.2.2))))))))) = some (r1, r2, r3) := h
  clear h
  by_cases c3 : a1 ≤ 0
  · rw [if_pos c3] at H
    have c3b0 := decide_eq_true c3
    clear c3
    simp only [Option.some.injEq, Prod.mk.injEq] at H
    obtain ⟨rfl, rfl, rfl⟩ := H
    go_enter Try.func74, Try.ntmps74
    go_wp2
    go_ret
    exact ⟨cq3, cq2, cq5, cq14⟩
  rw [if_neg c3] at H
  have c3b0 := decide_eq_false c3
  clear c3
  by_cases c4 : a1 ≤ 256
  · rw [if_pos c4] at H
    have c4b0 := decide_eq_true c4
    clear c4
    replace H := Option.bind_eq_some_iff.mp H
    obtain ⟨⟨t257, t258, t259⟩, A50, H⟩ := H
    try dsimp only at H
    have A5 := Aside0.mk A50
    clear A50
    by_cases c6 : a1 = 0
    · rw [if_pos c6] at H
      exact absurd H (by simp)
    rw [if_neg c6] at H
    have c6b0 := beq_eq_false_iff_ne.mpr c6
    have c6b1 := bne_iff_ne.mpr c6
    simp only [Option.some.injEq, Prod.mk.injEq] at H
    obtain ⟨rfl, rfl, rfl⟩ := H
    go_enter Try.func74, Try.ntmps74
    go_wp2_with (first | ((with_reducible refine uF (f := 90) rfl ?_); refine uX (some 14) Try.func90 #[.pointer (some ⟨g, 0, none⟩)] ?_; (with_reducible refine (spec_l1Byte.calls g s0_0 s0_1 s0_2 t257 t258 t259 w0 _ ?side1 ?side2 A5.out).mono ?_); (case side1 => exact cq2); (case side2 => exact cq5); rintro e w7 ⟨rfl, hi, hb, hk⟩; refine ⟨_, rfl, ?_⟩; replace HK := vJ HK hk; replace HB := Aside0.mk (hb); replace HI0 := Aside0.mk (hi); (try clear hb); (try clear hk); (try clear hi)))
    go_ret
    exact ⟨cq3, cq2, cq5, cq14⟩
  rw [if_neg c4] at H
  have c4b0 := decide_eq_false c4
  clear c4
  replace H := Option.bind_eq_some_iff.mp H
  obtain ⟨⟨t260, t261, t262⟩, A80, H⟩ := H
  try dsimp only at H
  have A8 := Aside0.mk A80
  clear A80
  replace H := Option.bind_eq_some_iff.mp H
  obtain ⟨⟨t263, t264, t265⟩, A90, H⟩ := H
  try dsimp only at H
  have A9 := Aside0.mk A90
  clear A90
  replace H := Option.bind_eq_some_iff.mp H
  obtain ⟨⟨t266, t267, t268⟩, A100, H⟩ := H
  try dsimp only at H
  have A10 := Aside0.mk A100
  clear A100
  replace H := Option.bind_eq_some_iff.mp H
  obtain ⟨⟨t269, t270, t271⟩, A110, H⟩ := H
  try dsimp only at H
  have A11 := Aside0.mk A110
  clear A110
  by_cases c12 : a1 = 0
  · rw [if_pos c12] at H
    exact absurd H (by simp)
  rw [if_neg c12] at H
  have c12b0 := beq_eq_false_iff_ne.mpr c12
  have c12b1 := bne_iff_ne.mpr c12
  simp only [Option.some.injEq, Prod.mk.injEq] at H
  obtain ⟨rfl, rfl, rfl⟩ := H
  go_enter Try.func74, Try.ntmps74
  go_wp2_with (first | ((with_reducible refine uF (f := 90) rfl ?_); refine uX (some 18) Try.func90 #[.pointer (some ⟨g, 0, none⟩)] ?_; (with_reducible refine (spec_l1Byte.calls g s0_0 s0_1 s0_2 t260 t261 t262 w0 _ ?side1 ?side2 A8.out).mono ?_); (case side1 => exact cq2); (case side2 => exact cq5); rintro e w13 ⟨rfl, hi, hb, hk⟩; refine ⟨_, rfl, ?_⟩; replace HK := vJ HK hk; replace HB := Aside0.mk (hb); replace HI0 := Aside0.mk (hi); (try clear hb); (try clear hk); (try clear hi)) | ((with_reducible refine uF (f := 90) rfl ?_); refine uX (some 20) Try.func90 #[.pointer (some ⟨g, 0, none⟩)] ?_; (with_reducible refine (spec_l1Byte.calls g s0_0 t261 t262 t263 t264 t265 w0 _ ?side1 ?side2 A9.out).mono ?_); (case side1 => exact cq2); (case side2 => exact cq5); rintro e w14 ⟨rfl, hi, hb, hk⟩; refine ⟨_, rfl, ?_⟩; replace HK := vJ HK hk; replace HB := Aside0.mk (hb); replace HI0 := Aside0.mk (hi); (try clear hb); (try clear hk); (try clear hi)) | ((with_reducible refine uF (f := 90) rfl ?_); refine uX (some 22) Try.func90 #[.pointer (some ⟨g, 0, none⟩)] ?_; (with_reducible refine (spec_l1Byte.calls g s0_0 t264 t265 t266 t267 t268 w0 _ ?side1 ?side2 A10.out).mono ?_); (case side1 => exact cq2); (case side2 => exact cq5); rintro e w15 ⟨rfl, hi, hb, hk⟩; refine ⟨_, rfl, ?_⟩; replace HK := vJ HK hk; replace HB := Aside0.mk (hb); replace HI0 := Aside0.mk (hi); (try clear hb); (try clear hk); (try clear hi)) | ((with_reducible refine uF (f := 90) rfl ?_); refine uX (some 24) Try.func90 #[.pointer (some ⟨g, 0, none⟩)] ?_; (with_reducible refine (spec_l1Byte.calls g s0_0 t267 t268 t269 t270 t271 w0 _ ?side1 ?side2 A11.out).mono ?_); (case side1 => exact cq2); (case side2 => exact cq5); rintro e w16 ⟨rfl, hi, hb, hk⟩; refine ⟨_, rfl, ?_⟩; replace HK := vJ HK hk; replace HB := Aside0.mk (hb); replace HI0 := Aside0.mk (hi); (try clear hb); (try clear hk); (try clear hi)))
  go_ret
  exact ⟨cq3, cq2, cq5, cq14⟩

/-! ### spec_l1PickInt: function 75 -/
def spec_l1PickInt.f (s0_0 : List Int) (s0_1 : Int) (s0_2 : Int) (l1 : List Int) : Option (Int × Int × Int) := (spec_l1Below.f s0_0 s0_1 s0_2 (l1.length : Int)).bind fun bt272 => (if 0 ≤ bt272.1 then (if bt272.1 < (l1.length : Int) then (some (rd l1 bt272.1, bt272.2.1, bt272.2.2)) else (none)) else (none))
set_option maxHeartbeats 8000000 in
set_option maxRecDepth 100000 in
theorem spec_l1PickInt.calls (g : Nat) (s0_0 : List Int) (s0_1 : Int) (s0_2 : Int) (A1 : Option Addr) (c1 : Nat) (l1 : List Int) (r1 : Int) (r2 : Int) (r3 : Int) (w0 w : World) (hI : IsS112 w0 w g s0_0 s0_1 s0_2) (hB : Below w0.heap.size w0 w) (hr1 : Kd.C (Kd.int .i64) w A1 l1.length l1) (hc1 : l1.length ≤ c1) (hf1 : ∀ ad, A1 = some ad → 0 < l1.length → ad.block ≠ g) (h : spec_l1PickInt.f s0_0 s0_1 s0_2 l1 = some (r1, r2, r3)) :
    Calls Try.prog 75 #[.pointer (some ⟨g, 0, none⟩), .slice A1 l1.length c1] w fun e w' => e = .returned (.int .i64 r1) ∧ IsS112 w0 w' g s0_0 r2 r3 ∧ Below w0.heap.size w0 w' ∧ vP w w' g none := by
  have HR1 := Aside0.mk hr1
  have HC1 := Aside0.mk hc1
  clear hr1 hc1
  have HI0 := Aside0.mk hI
  have HK := Aside0.mk (vP.refl w g none)
  have HL := Aside0.mk hB.size
  clear hI
  have HW0 := Aside0.mk hB.size
  have HB := Aside0.mk hB
  clear hB
  have H : ((spec_l1Below.f s0_0 s0_1 s0_2 (l1.length : Int)).bind fun bt272 => (if 0 ≤ bt272.1 then (if bt272.1 < (l1.length : Int) then (some (rd l1 bt272.1, bt272.2.1, bt272.2.2)) else (none)) else (none))) = some (r1, r2, r3) := h
  clear h
  replace H := Option.bind_eq_some_iff.mp H
  obtain ⟨⟨t272, t273, t274⟩, A30, H⟩ := H
  try dsimp only at H
  have A3 := Aside0.mk A30
  clear A30
  obtain ⟨c4b0, H⟩ := ifD H
  obtain ⟨c5b0, H⟩ := ifD H
  simp only [Option.some.injEq, Prod.mk.injEq] at H
  obtain ⟨rfl, rfl, rfl⟩ := H
  go_enter Try.func75, Try.ntmps75
  go_wp2_with (first | ((with_reducible refine uF (f := 74) rfl ?_); refine uX (some 9) Try.func74 #[.pointer (some ⟨g, 0, none⟩), .int .i64 (l1.length : Int)] ?_; (with_reducible refine (spec_l1Below.calls g s0_0 s0_1 s0_2 (l1.length : Int) t272 t273 t274 w0 _ ?side1 ?side2 A3.out).mono ?_); (case side1 => exact cq2); (case side2 => exact cq5); rintro e w6 ⟨rfl, hi, hb, hk⟩; refine ⟨_, rfl, ?_⟩; replace HK := vJ HK hk; replace HB := Aside0.mk (hb); replace HI0 := Aside0.mk (hi); (try clear hb); (try clear hk); (try clear hi); have p275 : 0 ≤ (t272 : Int) := of_decide_eq_true cq12; have q275 : t272 < (l1.length : Int) := of_decide_eq_true cq12; obtain ⟨ad275, e275, hx275_0⟩ := Kd.at_int HR1.out t272 p275 q275; cases e275; replace hx275_0 := keep_cell HK.out hx275_0 (by first | (rw [uA]; exact hf1 _ rfl (by omega)) | exact hf1 _ rfl (by omega) | exact hf1 ad275 rfl (by omega)); replace p275 := eq_true p275; replace q275 := eq_true q275))
  go_ret
  exact ⟨cq3, cq2, cq5, cq14⟩

/-! ### spec_l1Once: function 88 -/
def spec_l1Once.f (s0_0 : List Int) (s0_1 : Int) (s0_2 : Int) (a1 : Int) : Option (Bool × Int × Int) := (spec_l1Below.f s0_0 s0_1 s0_2 a1).bind fun bt276 => (some ((bt276.1 == 0), bt276.2.1, bt276.2.2))
set_option maxHeartbeats 8000000 in
set_option maxRecDepth 100000 in
theorem spec_l1Once.calls (g : Nat) (s0_0 : List Int) (s0_1 : Int) (s0_2 : Int) (a1 : Int) (r1 : Bool) (r2 : Int) (r3 : Int) (w0 w : World) (hI : IsS112 w0 w g s0_0 s0_1 s0_2) (hB : Below w0.heap.size w0 w) (h : spec_l1Once.f s0_0 s0_1 s0_2 a1 = some (r1, r2, r3)) :
    Calls Try.prog 88 #[.pointer (some ⟨g, 0, none⟩), .int .i64 a1] w fun e w' => e = .returned (.bool r1) ∧ IsS112 w0 w' g s0_0 r2 r3 ∧ Below w0.heap.size w0 w' ∧ vP w w' g none := by
  have HI0 := Aside0.mk hI
  have HK := Aside0.mk (vP.refl w g none)
  have HL := Aside0.mk hB.size
  clear hI
  have HW0 := Aside0.mk hB.size
  have HB := Aside0.mk hB
  clear hB
  have H : ((spec_l1Below.f s0_0 s0_1 s0_2 a1).bind fun bt276 => (some ((bt276.1 == 0), bt276.2.1, bt276.2.2))) = some (r1, r2, r3) := h
  clear h
  replace H := Option.bind_eq_some_iff.mp H
  obtain ⟨⟨t276, t277, t278⟩, A30, H⟩ := H
  try dsimp only at H
  have A3 := Aside0.mk A30
  clear A30
  simp only [Option.some.injEq, Prod.mk.injEq] at H
  obtain ⟨rfl, rfl, rfl⟩ := H
  go_enter Try.func88, Try.ntmps88
  go_wp2_with (first | ((with_reducible refine uF (f := 74) rfl ?_); refine uX (some 7) Try.func74 #[.pointer (some ⟨g, 0, none⟩), .int .i64 a1] ?_; (with_reducible refine (spec_l1Below.calls g s0_0 s0_1 s0_2 a1 t276 t277 t278 w0 _ ?side1 ?side2 A3.out).mono ?_); (case side1 => exact cq2); (case side2 => exact cq5); rintro e w4 ⟨rfl, hi, hb, hk⟩; refine ⟨_, rfl, ?_⟩; replace HK := vJ HK hk; replace HB := Aside0.mk (hb); replace HI0 := Aside0.mk (hi); (try clear hb); (try clear hk); (try clear hi)))
  go_ret
  exact ⟨cq3, cq2, cq5, cq14⟩

/-! ### spec_l3Op: function 85 -/
def spec_l3Op.f (s0_0 : List Int) (s0_1 : Int) (s0_2 : Int) : Option (Int × Int × Int × Int × Int × Int × Int × Int) := (spec_l1Below.f s0_0 s0_1 s0_2 3).bind fun bt280 => ((spec_l1Below.f s0_0 bt280.2.1 bt280.2.2 5).bind fun bt283 => ((spec_l1Below.f s0_0 bt283.2.1 bt283.2.2 3).bind fun bt286 => ((spec_l1Below.f s0_0 bt286.2.1 bt286.2.2 10).bind fun bt289 => ((spec_l1Once.f s0_0 bt289.2.1 bt289.2.2 3).bind fun bt293 => (if bt293.1 = true then ((spec_l1PickInt.f s0_0 bt293.2.1 bt293.2.2 (([0, 0, 1, 5, 9] : List Int))).bind fun bt299 => (some (bt280.1, wrap64 (1 + bt283.1), 2, bt286.1, bt299.1, bt289.1, bt299.2.1, bt299.2.2))) else (some (bt280.1, wrap64 (1 + bt283.1), 1, bt286.1, 0, bt289.1, bt293.2.1, bt293.2.2)))))))
set_option maxHeartbeats 8000000 in
set_option maxRecDepth 100000 in
theorem spec_l3Op.calls (g : Nat) (s0_0 : List Int) (s0_1 : Int) (s0_2 : Int) (r1 : Int) (r2 : Int) (r3 : Int) (r4 : Int) (r5 : Int) (r6 : Int) (r7 : Int) (r8 : Int) (w0 w : World) (hI : IsS112 w0 w g s0_0 s0_1 s0_2) (hB : Below w0.heap.size w0 w) (h : spec_l3Op.f s0_0 s0_1 s0_2 = some (r1, r2, r3, r4, r5, r6, r7, r8)) :
    Calls Try.prog 85 #[.pointer (some ⟨g, 0, none⟩)] w fun e w' => e = .returned (.agg #[.int .i64 r1, .int .i64 r2, .int .i64 r3, .int .i64 r4, .int .i64 r5, .int .i64 r6]) ∧ IsS112 w0 w' g s0_0 r7 r8 ∧ Below w0.heap.size w0 w' ∧ vP w w' g none := by
  have hu37 := Try.underlying37
  have HI0 := Aside0.mk hI
  have HK := Aside0.mk (vP.refl w g none)
  have HL := Aside0.mk hB.size
  clear hI
  have HW0 := Aside0.mk hB.size
  have HB := Aside0.mk hB
  clear hB
  have H : ((spec_l1Below.f s0_0 s0_1 s0_2 3).bind fun bt280 => ((spec_l1Below.f s0_0 bt280.2.1 bt280.2.2 5).bind fun bt283 => ((spec_l1Below.f s0_0 bt283.2.1 bt283.2.2 3).bind fun bt286 => ((spec_l1Below.f s0_0 bt286.2.1 bt286.2.2 10).bind fun bt289 => ((spec_l1Once.f s0_0 bt289.2.1 bt289.2.2 3).bind fun bt293 => (if bt293.1 = true then ((spec_l1PickInt.f s0_0 bt293.2.1 bt293.2.2 (([0, 0, 1, 5, 9] : List Int))).bind fun bt299 => (some (bt280.1, wrap64 (1 + bt283.1), 2, bt286.1, bt299.1, bt289.1, bt299.2.1, bt299.2.2))) else (some (bt280.1, wrap64 (1 + bt283.1), 1, bt286.1, 0, bt289.1, bt293.2.1, bt293.2.2)))))))) = some (r1, r2, r3, r4, r5, r6, r7, r8) := h
  clear h
  replace H := Option.bind_eq_some_iff.mp H
  obtain ⟨⟨t280, t281, t282⟩, A20, H⟩ := H
  try dsimp only at H
  have A2 := Aside0.mk A20
  clear A20
  replace H := Option.bind_eq_some_iff.mp H
  obtain ⟨⟨t283, t284, t285⟩, A30, H⟩ := H
  try dsimp only at H
  have A3 := Aside0.mk A30
  clear A30
  replace H := Option.bind_eq_some_iff.mp H
  obtain ⟨⟨t286, t287, t288⟩, A40, H⟩ := H
  try dsimp only at H
  have A4 := Aside0.mk A40
  clear A40
  replace H := Option.bind_eq_some_iff.mp H
  obtain ⟨⟨t289, t290, t291⟩, A50, H⟩ := H
  try dsimp only at H
  have A5 := Aside0.mk A50
  clear A50
  replace H := Option.bind_eq_some_iff.mp H
  obtain ⟨⟨t293, t294, t295⟩, A60, H⟩ := H
  try dsimp only at H
  have A6 := Aside0.mk A60
  clear A60
  go_enter Try.func85, Try.ntmps85
  go_wp2_with (first | ((with_reducible refine uJ (N := 2) rfl ?_); refine bxe 2 #[.int .i64 0, .int .i64 0, .int .i64 0, .int .i64 0, .int .i64 0, .int .i64 0] 37 ?_; intro gb279 hg w27 hbox hb; have BK279 := Aside0.mk (hbox); have GW279 := tKGe HK hg; have GE279 := tKW HW0 HK hg; have NB0_279 := Aside0.mk ((by rw [hg]; exact Nat.ne_of_lt (IsS112.lt (show IsS112 w0 _ g s0_0 s0_1 s0_2 from by repeat (first | (with_reducible first | exact HI0.out | apply IsS112.alloc | apply IsS112.drewN | apply IsS112.drew | apply IsS112.set_1 | apply IsS112.set_2) | exact HI0.out))) : g ≠ gb279)); have NB279_0 := Aside0.mk ((by rw [hg]; exact Nat.ne_of_gt (IsS112.lt (show IsS112 w0 _ g s0_0 s0_1 s0_2 from by repeat (first | (with_reducible first | exact HI0.out | apply IsS112.alloc | apply IsS112.drewN | apply IsS112.drew | apply IsS112.set_1 | apply IsS112.set_2) | exact HI0.out))) : gb279 ≠ g)); replace HI0 := Aside0.mk (IsS112.below cq2 hb); replace HK := vJ HK (vP.of_below hb g none); replace HB := tBel1 HB hb; clear hb hbox hg; refine ?roundEnd))
  case roundEnd =>
  by_cases c7 : t293 = true
  rotate_left
  · replace c7 := Bool.eq_false_iff.mpr c7
    subst c7
    try rw [if_neg (show ¬ (false = true) by decide)] at H
    simp only [Option.some.injEq, Prod.mk.injEq] at H
    obtain ⟨rfl, rfl, rfl, rfl, rfl, rfl, rfl, rfl⟩ := H
    go_wp2_with (first | ((with_reducible refine uF (f := 74) rfl ?_); refine uX (some 5) Try.func74 #[.pointer (some ⟨g, 0, none⟩), .int .i64 3] ?_; (with_reducible refine (spec_l1Below.calls g s0_0 s0_1 s0_2 3 t280 t281 t282 w0 _ ?side1 ?side2 A2.out).mono ?_); (case side1 => exact cq20); (case side2 => exact cq1); rintro e w28 ⟨rfl, hi, hb, hk⟩; refine ⟨_, rfl, ?_⟩; replace BK279 := tKBlk BK279 hk NB279_0; replace HK := vJ HK hk; replace HB := Aside0.mk (hb); replace HI0 := Aside0.mk (hi); (try clear hb); (try clear hk); (try clear hi)) | ((with_reducible refine uF (f := 74) rfl ?_); refine uX (some 7) Try.func74 #[.pointer (some ⟨g, 0, none⟩), .int .i64 5] ?_; (with_reducible refine (spec_l1Below.calls g s0_0 t281 t282 5 t283 t284 t285 w0 _ ?side1 ?side2 A3.out).mono ?_); (case side1 => exact cq20); (case side2 => exact cq1); rintro e w29 ⟨rfl, hi, hb, hk⟩; refine ⟨_, rfl, ?_⟩; replace BK279 := tKBlk BK279 hk NB279_0; replace HK := vJ HK hk; replace HB := Aside0.mk (hb); replace HI0 := Aside0.mk (hi); (try clear hb); (try clear hk); (try clear hi)) | ((with_reducible refine uF (f := 74) rfl ?_); refine uX (some 10) Try.func74 #[.pointer (some ⟨g, 0, none⟩), .int .i64 3] ?_; (with_reducible refine (spec_l1Below.calls g s0_0 t284 t285 3 t286 t287 t288 w0 _ ?side1 ?side2 A4.out).mono ?_); (case side1 => exact cq20); (case side2 => exact cq1); rintro e w30 ⟨rfl, hi, hb, hk⟩; refine ⟨_, rfl, ?_⟩; replace BK279 := tKBlk BK279 hk NB279_0; replace HK := vJ HK hk; replace HB := Aside0.mk (hb); replace HI0 := Aside0.mk (hi); (try clear hb); (try clear hk); (try clear hi)) | ((with_reducible refine uF (f := 74) rfl ?_); refine uX (some 12) Try.func74 #[.pointer (some ⟨g, 0, none⟩), .int .i64 10] ?_; (with_reducible refine (spec_l1Below.calls g s0_0 t287 t288 10 t289 t290 t291 w0 _ ?side1 ?side2 A5.out).mono ?_); (case side1 => exact cq20); (case side2 => exact cq1); rintro e w31 ⟨rfl, hi, hb, hk⟩; refine ⟨_, rfl, ?_⟩; replace BK279 := tKBlk BK279 hk NB279_0; replace HK := vJ HK hk; replace HB := Aside0.mk (hb); replace HI0 := Aside0.mk (hi); (try clear hb); (try clear hk); (try clear hi)) | ((with_reducible refine uJ (N := 3) rfl ?_); refine bxe 3 #[.int .i64 0, .int .i64 0, .int .i64 0, .int .i64 0, .int .i64 0, .int .i64 0] 37 ?_; intro gb292 hg w32 hbox hb; have BK292 := Aside0.mk (hbox); have GW292 := tKGe HK hg; have GE292 := tKW HW0 HK hg; have NB279_292 := tNl BK279 hg; have NB292_279 := tNg BK279 hg; have NB0_292 := Aside0.mk ((by rw [hg]; exact Nat.ne_of_lt (IsS112.lt (show IsS112 w0 _ g s0_0 t290 t291 from by repeat (first | (with_reducible first | exact HI0.out | apply IsS112.alloc | apply IsS112.drewN | apply IsS112.drew | apply IsS112.set_1 | apply IsS112.set_2 | refine IsS112.far ?_ NB0_279.out _) | exact HI0.out))) : g ≠ gb292)); have NB292_0 := Aside0.mk ((by rw [hg]; exact Nat.ne_of_gt (IsS112.lt (show IsS112 w0 _ g s0_0 t290 t291 from by repeat (first | (with_reducible first | exact HI0.out | apply IsS112.alloc | apply IsS112.drewN | apply IsS112.drew | apply IsS112.set_1 | apply IsS112.set_2 | refine IsS112.far ?_ NB0_279.out _) | exact HI0.out))) : gb292 ≠ g)); replace HI0 := Aside0.mk (IsS112.below cq20 hb); replace BK279 := uP BK279 hb; replace HK := vJ HK (vP.of_below hb g none); replace HB := tBel1 HB hb; clear hb hbox hg; have hnb33 := NB292_279.out; have hnc33 := NB279_292.out; have hnb34 := NB292_0.out; have hnc34 := NB0_292.out; obtain ⟨hcz35_0, hcz35_1, hcz35_2, hcz35_3, hcz35_4, hcz35_5, hfz35_0, hfz35_1, hfz35_2, hfz35_3, hfz35_4, hfz35_5⟩ := cz6 BK292) | ((with_reducible refine uF (f := 88) rfl ?_); refine uX (some 15) Try.func88 #[.pointer (some ⟨g, 0, none⟩), .int .i64 3] ?_; (with_reducible refine (spec_l1Once.calls g s0_0 t290 t291 3 false t294 t295 w0 _ ?side1 ?side2 A6.out).mono ?_); (case side1 => exact cq44); (case side2 => exact cq1); rintro e w36 ⟨rfl, hi, hb, hk⟩; refine ⟨_, rfl, ?_⟩; replace BK279 := tKBlkF BK279 hk NB279_0; replace BK292 := tKBlkP BK292 #[.int .i64 t280, .int .i64 (wrap64 (1 + t283)), .int .i64 1, .int .i64 t286, .int .i64 0, .int .i64 t289] hk NB292_0; replace HK := vJ HK hk; replace HB := Aside0.mk (hb); replace HI0 := Aside0.mk (hi); (try clear hb); (try clear hk); (try clear hi); obtain ⟨hcz37_0, hcz37_1, hcz37_2, hcz37_3, hcz37_4, hcz37_5, hfz37_0, hfz37_1, hfz37_2, hfz37_3, hfz37_4, hfz37_5⟩ := cz6 BK292; have hnb38 := NB279_0.out; have hnc38 := NB0_279.out; obtain ⟨hcz39_0, hcz39_1, hcz39_2, hcz39_3, hcz39_4, hcz39_5, hfz39_0, hfz39_1, hfz39_2, hfz39_3, hfz39_4, hfz39_5⟩ := cz6 BK279))
    refine bodyPost_ret (results_cell_row rfl _ _ gb279 37 #[.int .i64 t280, .int .i64 (wrap64 (1 + t283)), .int .i64 1, .int .i64 t286, .int .i64 0, .int .i64 t289] (0, 0) _ rfl (by (with_reducible repeat (first | refine uC ?_ _ | refine uE ?_ | refine uD ?_ _)); refine uL (cs := #[.int .i64 t280, .int .i64 (wrap64 (1 + t283)), .int .i64 1, .int .i64 t286, .int .i64 0, .int .i64 0]) ?_ 5 _ rfl; (with_reducible repeat (first | refine uC ?_ _ | refine uE ?_ | refine uD ?_ _)); refine uL (cs := #[.int .i64 t280, .int .i64 (wrap64 (1 + t283)), .int .i64 1, .int .i64 t286, .int .i64 0, .int .i64 0]) ?_ 4 _ rfl; (with_reducible repeat (first | refine uC ?_ _ | refine uE ?_ | refine uD ?_ _)); refine uL (cs := #[.int .i64 t280, .int .i64 (wrap64 (1 + t283)), .int .i64 1, .int .i64 0, .int .i64 0, .int .i64 0]) ?_ 3 _ rfl; (with_reducible repeat (first | refine uC ?_ _ | refine uE ?_ | refine uD ?_ _)); refine uL (cs := #[.int .i64 t280, .int .i64 (wrap64 (1 + t283)), .int .i64 0, .int .i64 0, .int .i64 0, .int .i64 0]) ?_ 2 _ rfl; (with_reducible repeat (first | refine uC ?_ _ | refine uE ?_ | refine uD ?_ _)); refine uL (cs := #[.int .i64 t280, .int .i64 0, .int .i64 0, .int .i64 0, .int .i64 0, .int .i64 0]) ?_ 1 _ rfl; (with_reducible repeat (first | refine uC ?_ _ | refine uE ?_ | refine uD ?_ _)); refine uL (cs := #[.int .i64 0, .int .i64 0, .int .i64 0, .int .i64 0, .int .i64 0, .int .i64 0]) ?_ 0 _ rfl; (with_reducible repeat (first | refine uC ?_ _ | refine uE ?_ | refine uD ?_ _)); exact BK279.out) Try.underlying37 rfl (by kernel_rfl)) rfl ?_
    exact ⟨cq3, cq44, cq1, cq8⟩
  subst c7
  try rw [if_pos rfl] at H
  obtain ⟨y296, hy296⟩ : ∃ y_ : List Int, y_ = (([0, 0, 1, 5, 9] : List Int)) := ⟨_, rfl⟩
  replace H : ((spec_l1PickInt.f s0_0 t294 t295 y296).bind fun bt299 => (some (t280, wrap64 (1 + t283), 2, t286, bt299.1, t289, bt299.2.1, bt299.2.2))) = some (r1, r2, r3, r4, r5, r6, r7, r8) := rpl hy296 H
  have Ny296 := Aside0.mk hy296
  clear hy296
  replace H := Option.bind_eq_some_iff.mp H
  obtain ⟨⟨t299, t300, t301⟩, A80, H⟩ := H
  try dsimp only at H
  have A8 := Aside0.mk A80
  clear A80
  simp only [Option.some.injEq, Prod.mk.injEq] at H
  obtain ⟨rfl, rfl, rfl, rfl, rfl, rfl, rfl, rfl⟩ := H
  go_wp2_with (first | ((with_reducible refine uF (f := 74) rfl ?_); refine uX (some 5) Try.func74 #[.pointer (some ⟨g, 0, none⟩), .int .i64 3] ?_; (with_reducible refine (spec_l1Below.calls g s0_0 s0_1 s0_2 3 t280 t281 t282 w0 _ ?side1 ?side2 A2.out).mono ?_); (case side1 => exact cq20); (case side2 => exact cq1); rintro e w10 ⟨rfl, hi, hb, hk⟩; refine ⟨_, rfl, ?_⟩; replace BK279 := tKBlk BK279 hk NB279_0; replace HK := vJ HK hk; replace HB := Aside0.mk (hb); replace HI0 := Aside0.mk (hi); (try clear hb); (try clear hk); (try clear hi)) | ((with_reducible refine uF (f := 74) rfl ?_); refine uX (some 7) Try.func74 #[.pointer (some ⟨g, 0, none⟩), .int .i64 5] ?_; (with_reducible refine (spec_l1Below.calls g s0_0 t281 t282 5 t283 t284 t285 w0 _ ?side1 ?side2 A3.out).mono ?_); (case side1 => exact cq20); (case side2 => exact cq1); rintro e w11 ⟨rfl, hi, hb, hk⟩; refine ⟨_, rfl, ?_⟩; replace BK279 := tKBlk BK279 hk NB279_0; replace HK := vJ HK hk; replace HB := Aside0.mk (hb); replace HI0 := Aside0.mk (hi); (try clear hb); (try clear hk); (try clear hi)) | ((with_reducible refine uF (f := 74) rfl ?_); refine uX (some 10) Try.func74 #[.pointer (some ⟨g, 0, none⟩), .int .i64 3] ?_; (with_reducible refine (spec_l1Below.calls g s0_0 t284 t285 3 t286 t287 t288 w0 _ ?side1 ?side2 A4.out).mono ?_); (case side1 => exact cq20); (case side2 => exact cq1); rintro e w12 ⟨rfl, hi, hb, hk⟩; refine ⟨_, rfl, ?_⟩; replace BK279 := tKBlk BK279 hk NB279_0; replace HK := vJ HK hk; replace HB := Aside0.mk (hb); replace HI0 := Aside0.mk (hi); (try clear hb); (try clear hk); (try clear hi)) | ((with_reducible refine uF (f := 74) rfl ?_); refine uX (some 12) Try.func74 #[.pointer (some ⟨g, 0, none⟩), .int .i64 10] ?_; (with_reducible refine (spec_l1Below.calls g s0_0 t287 t288 10 t289 t290 t291 w0 _ ?side1 ?side2 A5.out).mono ?_); (case side1 => exact cq20); (case side2 => exact cq1); rintro e w13 ⟨rfl, hi, hb, hk⟩; refine ⟨_, rfl, ?_⟩; replace BK279 := tKBlk BK279 hk NB279_0; replace HK := vJ HK hk; replace HB := Aside0.mk (hb); replace HI0 := Aside0.mk (hi); (try clear hb); (try clear hk); (try clear hi)) | ((with_reducible refine uJ (N := 3) rfl ?_); refine bxe 3 #[.int .i64 0, .int .i64 0, .int .i64 0, .int .i64 0, .int .i64 0, .int .i64 0] 37 ?_; intro gb292 hg w14 hbox hb; have BK292 := Aside0.mk (hbox); have GW292 := tKGe HK hg; have GE292 := tKW HW0 HK hg; have NB279_292 := tNl BK279 hg; have NB292_279 := tNg BK279 hg; have NB0_292 := Aside0.mk ((by rw [hg]; exact Nat.ne_of_lt (IsS112.lt (show IsS112 w0 _ g s0_0 t290 t291 from by repeat (first | (with_reducible first | exact HI0.out | apply IsS112.alloc | apply IsS112.drewN | apply IsS112.drew | apply IsS112.set_1 | apply IsS112.set_2 | refine IsS112.far ?_ NB0_279.out _) | exact HI0.out))) : g ≠ gb292)); have NB292_0 := Aside0.mk ((by rw [hg]; exact Nat.ne_of_gt (IsS112.lt (show IsS112 w0 _ g s0_0 t290 t291 from by repeat (first | (with_reducible first | exact HI0.out | apply IsS112.alloc | apply IsS112.drewN | apply IsS112.drew | apply IsS112.set_1 | apply IsS112.set_2 | refine IsS112.far ?_ NB0_279.out _) | exact HI0.out))) : gb292 ≠ g)); replace HI0 := Aside0.mk (IsS112.below cq20 hb); replace BK279 := uP BK279 hb; replace HK := vJ HK (vP.of_below hb g none); replace HB := tBel1 HB hb; clear hb hbox hg; have hnb15 := NB292_279.out; have hnc15 := NB279_292.out; have hnb16 := NB292_0.out; have hnc16 := NB0_292.out; obtain ⟨hcz17_0, hcz17_1, hcz17_2, hcz17_3, hcz17_4, hcz17_5, hfz17_0, hfz17_1, hfz17_2, hfz17_3, hfz17_4, hfz17_5⟩ := cz6 BK292) | ((with_reducible refine uF (f := 88) rfl ?_); refine uX (some 15) Try.func88 #[.pointer (some ⟨g, 0, none⟩), .int .i64 3] ?_; (with_reducible refine (spec_l1Once.calls g s0_0 t290 t291 3 true t294 t295 w0 _ ?side1 ?side2 A6.out).mono ?_); (case side1 => exact cq44); (case side2 => exact cq1); rintro e w18 ⟨rfl, hi, hb, hk⟩; refine ⟨_, rfl, ?_⟩; replace BK279 := tKBlkF BK279 hk NB279_0; replace BK292 := tKBlkP BK292 #[.int .i64 t280, .int .i64 (wrap64 (1 + t283)), .int .i64 1, .int .i64 t286, .int .i64 0, .int .i64 t289] hk NB292_0; replace HK := vJ HK hk; replace HB := Aside0.mk (hb); replace HI0 := Aside0.mk (hi); (try clear hb); (try clear hk); (try clear hi); obtain ⟨hcz19_0, hcz19_1, hcz19_2, hcz19_3, hcz19_4, hcz19_5, hfz19_0, hfz19_1, hfz19_2, hfz19_3, hfz19_4, hfz19_5⟩ := cz6 BK292) | ((with_reducible refine uJ (N := 18) rfl ?_); refine Kd.R_lit (Kd.int .i64) _ 3 ?hg (N := 18) ?hd (xs := ([0, 0, 1, 5, 9] : List Int)) (inner := [.int .i64 0, .int .i64 0, .int .i64 1, .int .i64 5, .int .i64 9]) (ok := fun _ => True) (okp := fun _ => True) ?hr ?hp (fun _ hk => hk) trivial (Below.refl _ _) (Nat.le_refl _) (by simp) ?_; (case hd => rfl); (case hg => rfl); (case hr => first | (go_simp; done) | (go_simp; rfl)); (case hp => exact (vN.one (show Kd.M (Kd.int .i64) _ _ _ 0 [.int .i64 0] from rfl) (vN.one (show Kd.M (Kd.int .i64) _ _ _ 0 [.int .i64 0] from rfl) (vN.one (show Kd.M (Kd.int .i64) _ _ _ 1 [.int .i64 1] from rfl) (vN.one (show Kd.M (Kd.int .i64) _ _ _ 5 [.int .i64 5] from rfl) (vN.one (show Kd.M (Kd.int .i64) _ _ _ 9 [.int .i64 9] from rfl) (vN.none _ _))))))); intro v297 w20 ho21 hb hg_ hnew_; clear hg_ hnew_; (first | rw [← Ny296.out] at ho21 | (simp only [Int.reduceToNat] at ho21; rw [← Ny296.out] at ho21)); have HO298 := Aside0.mk (Kd.uS ho21 (keep_size (w := w) (g := g) (row := none) cq8)); replace HI0 := Aside0.mk (IsS112.below (show IsS112 w0 (w18.setCell ⟨gb292, 2, none⟩ (.int .i64 2)) g s0_0 t294 t295 from by repeat (first | (with_reducible first | exact HI0.out | apply IsS112.alloc | apply IsS112.drewN | apply IsS112.drew | apply IsS112.set_1 | apply IsS112.set_2 | refine IsS112.far ?_ NB0_279.out _ | refine IsS112.far ?_ NB0_292.out _) | exact HI0.out)) hb); replace BK279 := tBlkF BK279 hb; replace BK292 := tBlkP BK292 #[.int .i64 t280, .int .i64 (wrap64 (1 + t283)), .int .i64 2, .int .i64 t286, .int .i64 0, .int .i64 t289] hb; replace HK := vJ HK (vP.of_below hb g none); replace HB := tBel1 HB hb; clear hb ho21; obtain ⟨Ao22, co22, eo22⟩ := Kd.uY HO298.out; subst eo22) | ((with_reducible refine uF (f := 75) rfl ?_); refine uX (some 19) Try.func75 #[.pointer (some ⟨g, 0, none⟩), .slice Ao22 y296.length co22] ?_; (with_reducible refine (spec_l1PickInt.calls g s0_0 t294 t295 _ _ y296 t299 t300 t301 w0 _ ?side1 ?side2 ?side3 ?side4 ?side5 A8.out).mono ?_); (case side1 => exact cq44); (case side2 => exact cq1); (case side3 => repeat (first | exact (Kd.uK HO298.out).2.2 | (with_reducible refine Kd.vW ?_ _) | (with_reducible refine Kd.vV ?_ _) | (with_reducible refine Kd.C_drew ?_))); (case side4 => exact (Kd.uK HO298.out).2.1); (case side5 => exact far_slice (IsS112.own_ne HI0.out HO298.out (by decide))); rintro e w23 ⟨rfl, hi, hb, hk⟩; refine ⟨_, rfl, ?_⟩; replace BK279 := tKBlk BK279 hk NB279_0; replace BK292 := tKBlk BK292 hk NB292_0; replace HO298 := Aside0.mk (Kd.uN (Kd.R_keep (IsS112.apart (show IsS112 w0 _ g s0_0 t294 t295 from by repeat (first | (with_reducible first | exact HI0.out | apply IsS112.alloc | apply IsS112.drewN | apply IsS112.drew | apply IsS112.set_1 | apply IsS112.set_2 | refine IsS112.far ?_ NB0_279.out _ | refine IsS112.far ?_ NB0_292.out _) | exact HI0.out)) (uZ HO298.out) (by decide)) hk (fun _ h => h.2)) (fun _ h => h.1)); replace HK := vJ HK hk; replace HB := Aside0.mk (hb); replace HI0 := Aside0.mk (hi); (try clear hb); (try clear hk); (try clear hi); obtain ⟨hcz24_0, hcz24_1, hcz24_2, hcz24_3, hcz24_4, hcz24_5, hfz24_0, hfz24_1, hfz24_2, hfz24_3, hfz24_4, hfz24_5⟩ := cz6 BK292; have hnb25 := NB279_0.out; have hnc25 := NB0_279.out; obtain ⟨hcz26_0, hcz26_1, hcz26_2, hcz26_3, hcz26_4, hcz26_5, hfz26_0, hfz26_1, hfz26_2, hfz26_3, hfz26_4, hfz26_5⟩ := cz6 BK279))
  refine bodyPost_ret (results_cell_row rfl _ _ gb279 37 #[.int .i64 t280, .int .i64 (wrap64 (1 + t283)), .int .i64 2, .int .i64 t286, .int .i64 t299, .int .i64 t289] (0, 0) _ rfl (by (with_reducible repeat (first | refine uC ?_ _ | refine uE ?_ | refine uD ?_ _)); refine uL (cs := #[.int .i64 t280, .int .i64 (wrap64 (1 + t283)), .int .i64 2, .int .i64 t286, .int .i64 t299, .int .i64 0]) ?_ 5 _ rfl; (with_reducible repeat (first | refine uC ?_ _ | refine uE ?_ | refine uD ?_ _)); refine uL (cs := #[.int .i64 t280, .int .i64 (wrap64 (1 + t283)), .int .i64 2, .int .i64 t286, .int .i64 0, .int .i64 0]) ?_ 4 _ rfl; (with_reducible repeat (first | refine uC ?_ _ | refine uE ?_ | refine uD ?_ _)); refine uL (cs := #[.int .i64 t280, .int .i64 (wrap64 (1 + t283)), .int .i64 2, .int .i64 0, .int .i64 0, .int .i64 0]) ?_ 3 _ rfl; (with_reducible repeat (first | refine uC ?_ _ | refine uE ?_ | refine uD ?_ _)); refine uL (cs := #[.int .i64 t280, .int .i64 (wrap64 (1 + t283)), .int .i64 0, .int .i64 0, .int .i64 0, .int .i64 0]) ?_ 2 _ rfl; (with_reducible repeat (first | refine uC ?_ _ | refine uE ?_ | refine uD ?_ _)); refine uL (cs := #[.int .i64 t280, .int .i64 0, .int .i64 0, .int .i64 0, .int .i64 0, .int .i64 0]) ?_ 1 _ rfl; (with_reducible repeat (first | refine uC ?_ _ | refine uE ?_ | refine uD ?_ _)); refine uL (cs := #[.int .i64 0, .int .i64 0, .int .i64 0, .int .i64 0, .int .i64 0, .int .i64 0]) ?_ 0 _ rfl; (with_reducible repeat (first | refine uC ?_ _ | refine uE ?_ | refine uD ?_ _)); refine vO ?_ NB279_292.out _; (with_reducible repeat (first | refine uC ?_ _ | refine uE ?_ | refine uD ?_ _)); exact BK279.out) Try.underlying37 rfl (by kernel_rfl)) rfl ?_
  exact ⟨cq3, cq44, cq1, cq8⟩

/-! ### spec_l3Any: function 60 -/
def spec_l3Any.f (s0_0 : List Int) (s0_1 : Int) (s0_2 : Int) : Option (Int × Int × Int × Int × Int × Int × Int × Int) := (spec_l3Op.f s0_0 s0_1 s0_2).bind fun bt303 => ((spec_l1Below.f s0_0 bt303.2.2.2.2.2.2.1 bt303.2.2.2.2.2.2.2 14).bind fun bt312 => (if bt312.1 = 0 then ((spec_l1PickInt.f s0_0 bt312.2.1 bt312.2.2 (([(-1), 2, 3] : List Int))).bind fun bt318 => (some (bt318.1, bt303.2.1, bt303.2.2.1, bt303.2.2.2.1, bt303.2.2.2.2.1, bt303.2.2.2.2.2.1, bt318.2.1, bt318.2.2))) else (if bt312.1 = 1 then ((spec_l1PickInt.f s0_0 bt312.2.1 bt312.2.2 (([0, 99, 100] : List Int))).bind fun bt324 => (some (bt303.1, bt324.1, bt303.2.2.1, bt303.2.2.2.1, bt303.2.2.2.2.1, bt303.2.2.2.2.2.1, bt324.2.1, bt324.2.2))) else (if bt312.1 = 2 then ((spec_l1Below.f s0_0 bt312.2.1 bt312.2.2 4).bind fun bt327 => (some (bt303.1, bt303.2.1, bt327.1, bt303.2.2.2.1, bt303.2.2.2.2.1, bt303.2.2.2.2.2.1, bt327.2.1, bt327.2.2))) else (if bt312.1 = 3 then ((spec_l1PickInt.f s0_0 bt312.2.1 bt312.2.2 (([(-1), 3] : List Int))).bind fun bt333 => (some (bt303.1, bt303.2.1, bt303.2.2.1, bt333.1, bt303.2.2.2.2.1, bt303.2.2.2.2.2.1, bt333.2.1, bt333.2.2))) else (if bt312.1 = 4 then ((spec_l1PickInt.f s0_0 bt312.2.1 bt312.2.2 (([(-1), 9, 10] : List Int))).bind fun bt339 => (some (bt303.1, bt303.2.1, bt303.2.2.1, bt303.2.2.2.1, bt303.2.2.2.2.1, bt339.1, bt339.2.1, bt339.2.2))) else (if bt312.1 = 5 then ((spec_l1PickInt.f s0_0 bt312.2.1 bt312.2.2 (([(-1), 0, 9, 10] : List Int))).bind fun bt345 => (some (bt303.1, bt303.2.1, bt303.2.2.1, bt303.2.2.2.1, bt345.1, bt303.2.2.2.2.2.1, bt345.2.1, bt345.2.2))) else (some (bt303.1, bt303.2.1, bt303.2.2.1, bt303.2.2.2.1, bt303.2.2.2.2.1, bt303.2.2.2.2.2.1, bt312.2.1, bt312.2.2)))))))))
set_option maxHeartbeats 8000000 in
set_option maxRecDepth 100000 in
theorem spec_l3Any.calls (g : Nat) (s0_0 : List Int) (s0_1 : Int) (s0_2 : Int) (r1 : Int) (r2 : Int) (r3 : Int) (r4 : Int) (r5 : Int) (r6 : Int) (r7 : Int) (r8 : Int) (w0 w : World) (hI : IsS112 w0 w g s0_0 s0_1 s0_2) (hB : Below w0.heap.size w0 w) (h : spec_l3Any.f s0_0 s0_1 s0_2 = some (r1, r2, r3, r4, r5, r6, r7, r8)) :
    Calls Try.prog 60 #[.pointer (some ⟨g, 0, none⟩)] w fun e w' => e = .returned (.agg #[.int .i64 r1, .int .i64 r2, .int .i64 r3, .int .i64 r4, .int .i64 r5, .int .i64 r6]) ∧ IsS112 w0 w' g s0_0 r7 r8 ∧ Below w0.heap.size w0 w' ∧ vP w w' g none := by
  have hu37 := Try.underlying37
  have HI0 := Aside0.mk hI
  have HK := Aside0.mk (vP.refl w g none)
  have HL := Aside0.mk hB.size
  clear hI
  have HW0 := Aside0.mk hB.size
  have HB := Aside0.mk hB
  clear hB
  have H : ((spec_l3Op.f s0_0 s0_1 s0_2).bind fun bt303 => ((spec_l1Below.f s0_0 bt303.2.2.2.2.2.2.1 bt303.2.2.2.2.2.2.2 14).bind fun bt312 => (if bt312.1 = 0 then ((spec_l1PickInt.f s0_0 bt312.2.1 bt312.2.2 (([(-1), 2, 3] : List Int))).bind fun bt318 => (some (bt318.1, bt303.2.1, bt303.2.2.1, bt303.2.2.2.1, bt303.2.2.2.2.1, bt303.2.2.2.2.2.1, bt318.2.1, bt318.2.2))) else (if bt312.1 = 1 then ((spec_l1PickInt.f s0_0 bt312.2.1 bt312.2.2 (([0, 99, 100] : List Int))).bind fun bt324 => (some (bt303.1, bt324.1, bt303.2.2.1, bt303.2.2.2.1, bt303.2.2.2.2.1, bt303.2.2.2.2.2.1, bt324.2.1, bt324.2.2))) else (if bt312.1 = 2 then ((spec_l1Below.f s0_0 bt312.2.1 bt312.2.2 4).bind fun bt327 => (some (bt303.1, bt303.2.1, bt327.1, bt303.2.2.2.1, bt303.2.2.2.2.1, bt303.2.2.2.2.2.1, bt327.2.1, bt327.2.2))) else (if bt312.1 = 3 then ((spec_l1PickInt.f s0_0 bt312.2.1 bt312.2.2 (([(-1), 3] : List Int))).bind fun bt333 => (some (bt303.1, bt303.2.1, bt303.2.2.1, bt333.1, bt303.2.2.2.2.1, bt303.2.2.2.2.2.1, bt333.2.1, bt333.2.2))) else (if bt312.1 = 4 then ((spec_l1PickInt.f s0_0 bt312.2.1 bt312.2.2 (([(-1), 9, 10] : List Int))).bind fun bt339 => (some (bt303.1, bt303.2.1, bt303.2.2.1, bt303.2.2.2.1, bt303.2.2.2.2.1, bt339.1, bt339.2.1, bt339.2.2))) else (if bt312.1 = 5 then ((spec_l1PickInt.f s0_0 bt312.2.1 bt312.2.2 (([(-1), 0, 9, 10] : List Int))).bind fun bt345 => (some (bt303.1, bt303.2.1, bt303.2.2.1, bt303.2.2.2.1, bt345.1, bt303.2.2.2.2.2.1, bt345.2.1, bt345.2.2))) else (some (bt303.1, bt303.2.1, bt303.2.2.1, bt303.2.2.2.1, bt303.2.2.2.2.1, bt303.2.2.2.2.2.1, bt312.2.1, bt312.2.2)))))))))) = some (r1, r2, r3, r4, r5, r6, r7, r8) := h
  clear h
  replace H := Option.bind_eq_some_iff.mp H
  obtain ⟨⟨t303, t304, t305, t306, t307, t308, t309, t310⟩, A20, H⟩ := H
  try dsimp only at H
  have A2 := Aside0.mk A20
  clear A20
  replace H := Option.bind_eq_some_iff.mp H
  obtain ⟨⟨t312, t313, t314⟩, A30, H⟩ := H
  try dsimp only at H
  have A3 := Aside0.mk A30
  clear A30
  go_enter Try.func60, Try.ntmps60
  go_wp2_with (first | ((with_reducible refine uJ (N := 2) rfl ?_); refine bxe 2 #[.int .i64 0, .int .i64 0, .int .i64 0, .int .i64 0, .int .i64 0, .int .i64 0] 37 ?_; intro gb302 hg w6 hbox hb; have BK302 := Aside0.mk (hbox); have GW302 := tKGe HK hg; have GE302 := tKW HW0 HK hg; have NB0_302 := Aside0.mk ((by rw [hg]; exact Nat.ne_of_lt (IsS112.lt (show IsS112 w0 _ g s0_0 s0_1 s0_2 from by repeat (first | (with_reducible first | exact HI0.out | apply IsS112.alloc | apply IsS112.drewN | apply IsS112.drew | apply IsS112.set_1 | apply IsS112.set_2) | exact HI0.out))) : g ≠ gb302)); have NB302_0 := Aside0.mk ((by rw [hg]; exact Nat.ne_of_gt (IsS112.lt (show IsS112 w0 _ g s0_0 s0_1 s0_2 from by repeat (first | (with_reducible first | exact HI0.out | apply IsS112.alloc | apply IsS112.drewN | apply IsS112.drew | apply IsS112.set_1 | apply IsS112.set_2) | exact HI0.out))) : gb302 ≠ g)); replace HI0 := Aside0.mk (IsS112.below cq2 hb); replace HK := vJ HK (vP.of_below hb g none); replace HB := tBel1 HB hb; clear hb hbox hg; refine ?roundEnd))
  case roundEnd =>
  by_cases c4 : t312 = 0
  · rw [if_pos c4] at H
    have c4b0 := beq_iff_eq.mpr c4
    have c4b1 := bne_eq_false_iff_eq.mpr c4
    clear c4
    obtain ⟨y315, hy315⟩ : ∃ y_ : List Int, y_ = (([(-1), 2, 3] : List Int)) := ⟨_, rfl⟩
    replace H : ((spec_l1PickInt.f s0_0 t313 t314 y315).bind fun bt318 => (some (bt318.1, t304, t305, t306, t307, t308, bt318.2.1, bt318.2.2))) = some (r1, r2, r3, r4, r5, r6, r7, r8) := rpl hy315 H
    have Ny315 := Aside0.mk hy315
    clear hy315
    replace H := Option.bind_eq_some_iff.mp H
    obtain ⟨⟨t318, t319, t320⟩, A50, H⟩ := H
    try dsimp only at H
    have A5 := Aside0.mk A50
    clear A50
    simp only [Option.some.injEq, Prod.mk.injEq] at H
    obtain ⟨rfl, rfl, rfl, rfl, rfl, rfl, rfl, rfl⟩ := H
    go_wp2_with (first | ((with_reducible refine uF (f := 85) rfl ?_); refine uX (some 5) Try.func85 #[.pointer (some ⟨g, 0, none⟩)] ?_; (with_reducible refine (spec_l3Op.calls g s0_0 s0_1 s0_2 t303 t304 t305 t306 t307 t308 t309 t310 w0 _ ?side1 ?side2 A2.out).mono ?_); (case side1 => exact cq13); (case side2 => exact cq1); rintro e w7 ⟨rfl, hi, hb, hk⟩; refine ⟨_, rfl, ?_⟩; replace BK302 := tKBlk BK302 hk NB302_0; replace HK := vJ HK hk; replace HB := Aside0.mk (hb); replace HI0 := Aside0.mk (hi); (try clear hb); (try clear hk); (try clear hi)) | ((with_reducible refine uJ (N := 3) rfl ?_); refine bxe 3 #[.int .i64 0, .int .i64 0, .int .i64 0, .int .i64 0, .int .i64 0, .int .i64 0] 37 ?_; intro gb311 hg w8 hbox hb; have BK311 := Aside0.mk (hbox); have GW311 := tKGe HK hg; have GE311 := tKW HW0 HK hg; have NB302_311 := tNl BK302 hg; have NB311_302 := tNg BK302 hg; have NB0_311 := Aside0.mk ((by rw [hg]; exact Nat.ne_of_lt (IsS112.lt (show IsS112 w0 _ g s0_0 t309 t310 from by repeat (first | (with_reducible first | exact HI0.out | apply IsS112.alloc | apply IsS112.drewN | apply IsS112.drew | apply IsS112.set_1 | apply IsS112.set_2 | refine IsS112.far ?_ NB0_302.out _) | exact HI0.out))) : g ≠ gb311)); have NB311_0 := Aside0.mk ((by rw [hg]; exact Nat.ne_of_gt (IsS112.lt (show IsS112 w0 _ g s0_0 t309 t310 from by repeat (first | (with_reducible first | exact HI0.out | apply IsS112.alloc | apply IsS112.drewN | apply IsS112.drew | apply IsS112.set_1 | apply IsS112.set_2 | refine IsS112.far ?_ NB0_302.out _) | exact HI0.out))) : gb311 ≠ g)); replace HI0 := Aside0.mk (IsS112.below cq13 hb); replace BK302 := uP BK302 hb; replace HK := vJ HK (vP.of_below hb g none); replace HB := tBel1 HB hb; clear hb hbox hg; have hnb9 := NB311_302.out; have hnc9 := NB302_311.out; have hnb10 := NB311_0.out; have hnc10 := NB0_311.out; obtain ⟨hcz11_0, hcz11_1, hcz11_2, hcz11_3, hcz11_4, hcz11_5, hfz11_0, hfz11_1, hfz11_2, hfz11_3, hfz11_4, hfz11_5⟩ := cz6 BK311) | ((with_reducible refine uF (f := 74) rfl ?_); refine uX (some 7) Try.func74 #[.pointer (some ⟨g, 0, none⟩), .int .i64 14] ?_; (with_reducible refine (spec_l1Below.calls g s0_0 t309 t310 14 t312 t313 t314 w0 _ ?side1 ?side2 A3.out).mono ?_); (case side1 => exact cq4); (case side2 => exact cq1); rintro e w12 ⟨rfl, hi, hb, hk⟩; refine ⟨_, rfl, ?_⟩; replace BK302 := tKBlkF BK302 hk NB302_0; replace BK311 := tKBlkP BK311 #[.int .i64 t303, .int .i64 t304, .int .i64 t305, .int .i64 t306, .int .i64 t307, .int .i64 t308] hk NB311_0; replace HK := vJ HK hk; replace HB := Aside0.mk (hb); replace HI0 := Aside0.mk (hi); (try clear hb); (try clear hk); (try clear hi)) | ((with_reducible refine uJ (N := 11) rfl ?_); refine Kd.R_lit (Kd.int .i64) _ 3 ?hg (N := 11) ?hd (xs := ([(-1), 2, 3] : List Int)) (inner := [.int .i64 (-1), .int .i64 2, .int .i64 3]) (ok := fun _ => True) (okp := fun _ => True) ?hr ?hp (fun _ hk => hk) trivial (Below.refl _ _) (Nat.le_refl _) (by simp) ?_; (case hd => rfl); (case hg => rfl); (case hr => first | (go_simp; done) | (go_simp; rfl)); (case hp => exact (vN.one (show Kd.M (Kd.int .i64) _ _ _ (-1) [.int .i64 (-1)] from rfl) (vN.one (show Kd.M (Kd.int .i64) _ _ _ 2 [.int .i64 2] from rfl) (vN.one (show Kd.M (Kd.int .i64) _ _ _ 3 [.int .i64 3] from rfl) (vN.none _ _))))); intro v316 w13 ho14 hb hg_ hnew_; clear hg_ hnew_; (first | rw [← Ny315.out] at ho14 | (simp only [Int.reduceToNat] at ho14; rw [← Ny315.out] at ho14)); have HO317 := Aside0.mk (Kd.uS ho14 (keep_size (w := w) (g := g) (row := none) cq8)); replace HI0 := Aside0.mk (IsS112.below cq4 hb); replace BK302 := uP BK302 hb; replace BK311 := uP BK311 hb; replace HK := vJ HK (vP.of_below hb g none); replace HB := tBel1 HB hb; clear hb ho14; obtain ⟨Ao15, co15, eo15⟩ := Kd.uY HO317.out; subst eo15) | ((with_reducible refine uF (f := 75) rfl ?_); refine uX (some 12) Try.func75 #[.pointer (some ⟨g, 0, none⟩), .slice Ao15 y315.length co15] ?_; (with_reducible refine (spec_l1PickInt.calls g s0_0 t313 t314 _ _ y315 t318 t319 t320 w0 _ ?side1 ?side2 ?side3 ?side4 ?side5 A5.out).mono ?_); (case side1 => exact cq4); (case side2 => exact cq1); (case side3 => repeat (first | exact (Kd.uK HO317.out).2.2 | (with_reducible refine Kd.vW ?_ _) | (with_reducible refine Kd.vV ?_ _) | (with_reducible refine Kd.C_drew ?_))); (case side4 => exact (Kd.uK HO317.out).2.1); (case side5 => exact far_slice (IsS112.own_ne HI0.out HO317.out (by decide))); rintro e w16 ⟨rfl, hi, hb, hk⟩; refine ⟨_, rfl, ?_⟩; replace BK302 := tKBlk BK302 hk NB302_0; replace BK311 := tKBlk BK311 hk NB311_0; replace HO317 := Aside0.mk (Kd.uN (Kd.R_keep (IsS112.apart (show IsS112 w0 _ g s0_0 t313 t314 from by repeat (first | (with_reducible first | exact HI0.out | apply IsS112.alloc | apply IsS112.drewN | apply IsS112.drew | apply IsS112.set_1 | apply IsS112.set_2 | refine IsS112.far ?_ NB0_302.out _ | refine IsS112.far ?_ NB0_311.out _) | exact HI0.out)) (uZ HO317.out) (by decide)) hk (fun _ h => h.2)) (fun _ h => h.1)); replace HK := vJ HK hk; replace HB := Aside0.mk (hb); replace HI0 := Aside0.mk (hi); (try clear hb); (try clear hk); (try clear hi); obtain ⟨hcz17_0, hcz17_1, hcz17_2, hcz17_3, hcz17_4, hcz17_5, hfz17_0, hfz17_1, hfz17_2, hfz17_3, hfz17_4, hfz17_5⟩ := cz6 BK311; have hnb18 := NB302_0.out; have hnc18 := NB0_302.out; obtain ⟨hcz19_0, hcz19_1, hcz19_2, hcz19_3, hcz19_4, hcz19_5, hfz19_0, hfz19_1, hfz19_2, hfz19_3, hfz19_4, hfz19_5⟩ := cz6 BK302))
    refine bodyPost_ret (results_cell_row rfl _ _ gb302 37 #[.int .i64 t318, .int .i64 t304, .int .i64 t305, .int .i64 t306, .int .i64 t307, .int .i64 t308] (0, 0) _ rfl (by (with_reducible repeat (first | refine uC ?_ _ | refine uE ?_ | refine uD ?_ _)); refine uL (cs := #[.int .i64 t318, .int .i64 t304, .int .i64 t305, .int .i64 t306, .int .i64 t307, .int .i64 0]) ?_ 5 _ rfl; (with_reducible repeat (first | refine uC ?_ _ | refine uE ?_ | refine uD ?_ _)); refine uL (cs := #[.int .i64 t318, .int .i64 t304, .int .i64 t305, .int .i64 t306, .int .i64 0, .int .i64 0]) ?_ 4 _ rfl; (with_reducible repeat (first | refine uC ?_ _ | refine uE ?_ | refine uD ?_ _)); refine uL (cs := #[.int .i64 t318, .int .i64 t304, .int .i64 t305, .int .i64 0, .int .i64 0, .int .i64 0]) ?_ 3 _ rfl; (with_reducible repeat (first | refine uC ?_ _ | refine uE ?_ | refine uD ?_ _)); refine uL (cs := #[.int .i64 t318, .int .i64 t304, .int .i64 0, .int .i64 0, .int .i64 0, .int .i64 0]) ?_ 2 _ rfl; (with_reducible repeat (first | refine uC ?_ _ | refine uE ?_ | refine uD ?_ _)); refine uL (cs := #[.int .i64 t318, .int .i64 0, .int .i64 0, .int .i64 0, .int .i64 0, .int .i64 0]) ?_ 1 _ rfl; (with_reducible repeat (first | refine uC ?_ _ | refine uE ?_ | refine uD ?_ _)); refine uL (cs := #[.int .i64 0, .int .i64 0, .int .i64 0, .int .i64 0, .int .i64 0, .int .i64 0]) ?_ 0 _ rfl; (with_reducible repeat (first | refine uC ?_ _ | refine uE ?_ | refine uD ?_ _)); refine vO ?_ NB302_311.out _; (with_reducible repeat (first | refine uC ?_ _ | refine uE ?_ | refine uD ?_ _)); exact BK302.out) Try.underlying37 rfl (by kernel_rfl)) rfl ?_
    exact ⟨cq3, cq4, cq1, cq8⟩
  rw [if_neg c4] at H
  have c4b0 := beq_eq_false_iff_ne.mpr c4
  have c4b1 := bne_iff_ne.mpr c4
  by_cases c20 : t312 = 1
  · rw [if_pos c20] at H
    have c20b0 := beq_iff_eq.mpr c20
    have c20b1 := bne_eq_false_iff_eq.mpr c20
    clear c20
    obtain ⟨y321, hy321⟩ : ∃ y_ : List Int, y_ = (([0, 99, 100] : List Int)) := ⟨_, rfl⟩
    replace H : ((spec_l1PickInt.f s0_0 t313 t314 y321).bind fun bt324 => (some (t303, bt324.1, t305, t306, t307, t308, bt324.2.1, bt324.2.2))) = some (r1, r2, r3, r4, r5, r6, r7, r8) := rpl hy321 H
    have Ny321 := Aside0.mk hy321
    clear hy321
    replace H := Option.bind_eq_some_iff.mp H
    obtain ⟨⟨t324, t325, t326⟩, A210, H⟩ := H
    try dsimp only at H
    have A21 := Aside0.mk A210
    clear A210
    simp only [Option.some.injEq, Prod.mk.injEq] at H
    obtain ⟨rfl, rfl, rfl, rfl, rfl, rfl, rfl, rfl⟩ := H
    go_wp2_with (first | ((with_reducible refine uF (f := 85) rfl ?_); refine uX (some 5) Try.func85 #[.pointer (some ⟨g, 0, none⟩)] ?_; (with_reducible refine (spec_l3Op.calls g s0_0 s0_1 s0_2 t303 t304 t305 t306 t307 t308 t309 t310 w0 _ ?side1 ?side2 A2.out).mono ?_); (case side1 => exact cq13); (case side2 => exact cq1); rintro e w23 ⟨rfl, hi, hb, hk⟩; refine ⟨_, rfl, ?_⟩; replace BK302 := tKBlk BK302 hk NB302_0; replace HK := vJ HK hk; replace HB := Aside0.mk (hb); replace HI0 := Aside0.mk (hi); (try clear hb); (try clear hk); (try clear hi)) | ((with_reducible refine uJ (N := 3) rfl ?_); refine bxe 3 #[.int .i64 0, .int .i64 0, .int .i64 0, .int .i64 0, .int .i64 0, .int .i64 0] 37 ?_; intro gb311 hg w24 hbox hb; have BK311 := Aside0.mk (hbox); have GW311 := tKGe HK hg; have GE311 := tKW HW0 HK hg; have NB302_311 := tNl BK302 hg; have NB311_302 := tNg BK302 hg; have NB0_311 := Aside0.mk ((by rw [hg]; exact Nat.ne_of_lt (IsS112.lt (show IsS112 w0 _ g s0_0 t309 t310 from by repeat (first | (with_reducible first | exact HI0.out | apply IsS112.alloc | apply IsS112.drewN | apply IsS112.drew | apply IsS112.set_1 | apply IsS112.set_2 | refine IsS112.far ?_ NB0_302.out _) | exact HI0.out))) : g ≠ gb311)); have NB311_0 := Aside0.mk ((by rw [hg]; exact Nat.ne_of_gt (IsS112.lt (show IsS112 w0 _ g s0_0 t309 t310 from by repeat (first | (with_reducible first | exact HI0.out | apply IsS112.alloc | apply IsS112.drewN | apply IsS112.drew | apply IsS112.set_1 | apply IsS112.set_2 | refine IsS112.far ?_ NB0_302.out _) | exact HI0.out))) : gb311 ≠ g)); replace HI0 := Aside0.mk (IsS112.below cq13 hb); replace BK302 := uP BK302 hb; replace HK := vJ HK (vP.of_below hb g none); replace HB := tBel1 HB hb; clear hb hbox hg; have hnb25 := NB311_302.out; have hnc25 := NB302_311.out; have hnb26 := NB311_0.out; have hnc26 := NB0_311.out; obtain ⟨hcz27_0, hcz27_1, hcz27_2, hcz27_3, hcz27_4, hcz27_5, hfz27_0, hfz27_1, hfz27_2, hfz27_3, hfz27_4, hfz27_5⟩ := cz6 BK311) | ((with_reducible refine uF (f := 74) rfl ?_); refine uX (some 7) Try.func74 #[.pointer (some ⟨g, 0, none⟩), .int .i64 14] ?_; (with_reducible refine (spec_l1Below.calls g s0_0 t309 t310 14 t312 t313 t314 w0 _ ?side1 ?side2 A3.out).mono ?_); (case side1 => exact cq4); (case side2 => exact cq1); rintro e w28 ⟨rfl, hi, hb, hk⟩; refine ⟨_, rfl, ?_⟩; replace BK302 := tKBlkF BK302 hk NB302_0; replace BK311 := tKBlkP BK311 #[.int .i64 t303, .int .i64 t304, .int .i64 t305, .int .i64 t306, .int .i64 t307, .int .i64 t308] hk NB311_0; replace HK := vJ HK hk; replace HB := Aside0.mk (hb); replace HI0 := Aside0.mk (hi); (try clear hb); (try clear hk); (try clear hi)) | ((with_reducible refine uJ (N := 17) rfl ?_); refine Kd.R_lit (Kd.int .i64) _ 3 ?hg (N := 17) ?hd (xs := ([0, 99, 100] : List Int)) (inner := [.int .i64 0, .int .i64 99, .int .i64 100]) (ok := fun _ => True) (okp := fun _ => True) ?hr ?hp (fun _ hk => hk) trivial (Below.refl _ _) (Nat.le_refl _) (by simp) ?_; (case hd => rfl); (case hg => rfl); (case hr => first | (go_simp; done) | (go_simp; rfl)); (case hp => exact (vN.one (show Kd.M (Kd.int .i64) _ _ _ 0 [.int .i64 0] from rfl) (vN.one (show Kd.M (Kd.int .i64) _ _ _ 99 [.int .i64 99] from rfl) (vN.one (show Kd.M (Kd.int .i64) _ _ _ 100 [.int .i64 100] from rfl) (vN.none _ _))))); intro v322 w29 ho30 hb hg_ hnew_; clear hg_ hnew_; (first | rw [← Ny321.out] at ho30 | (simp only [Int.reduceToNat] at ho30; rw [← Ny321.out] at ho30)); have HO323 := Aside0.mk (Kd.uS ho30 (keep_size (w := w) (g := g) (row := none) cq8)); replace HI0 := Aside0.mk (IsS112.below cq4 hb); replace BK302 := uP BK302 hb; replace BK311 := uP BK311 hb; replace HK := vJ HK (vP.of_below hb g none); replace HB := tBel1 HB hb; clear hb ho30; obtain ⟨Ao31, co31, eo31⟩ := Kd.uY HO323.out; subst eo31) | ((with_reducible refine uF (f := 75) rfl ?_); refine uX (some 18) Try.func75 #[.pointer (some ⟨g, 0, none⟩), .slice Ao31 y321.length co31] ?_; (with_reducible refine (spec_l1PickInt.calls g s0_0 t313 t314 _ _ y321 t324 t325 t326 w0 _ ?side1 ?side2 ?side3 ?side4 ?side5 A21.out).mono ?_); (case side1 => exact cq4); (case side2 => exact cq1); (case side3 => repeat (first | exact (Kd.uK HO323.out).2.2 | (with_reducible refine Kd.vW ?_ _) | (with_reducible refine Kd.vV ?_ _) | (with_reducible refine Kd.C_drew ?_))); (case side4 => exact (Kd.uK HO323.out).2.1); (case side5 => exact far_slice (IsS112.own_ne HI0.out HO323.out (by decide))); rintro e w32 ⟨rfl, hi, hb, hk⟩; refine ⟨_, rfl, ?_⟩; replace BK302 := tKBlk BK302 hk NB302_0; replace BK311 := tKBlk BK311 hk NB311_0; replace HO323 := Aside0.mk (Kd.uN (Kd.R_keep (IsS112.apart (show IsS112 w0 _ g s0_0 t313 t314 from by repeat (first | (with_reducible first | exact HI0.out | apply IsS112.alloc | apply IsS112.drewN | apply IsS112.drew | apply IsS112.set_1 | apply IsS112.set_2 | refine IsS112.far ?_ NB0_302.out _ | refine IsS112.far ?_ NB0_311.out _) | exact HI0.out)) (uZ HO323.out) (by decide)) hk (fun _ h => h.2)) (fun _ h => h.1)); replace HK := vJ HK hk; replace HB := Aside0.mk (hb); replace HI0 := Aside0.mk (hi); (try clear hb); (try clear hk); (try clear hi); obtain ⟨hcz33_0, hcz33_1, hcz33_2, hcz33_3, hcz33_4, hcz33_5, hfz33_0, hfz33_1, hfz33_2, hfz33_3, hfz33_4, hfz33_5⟩ := cz6 BK311; have hnb34 := NB302_0.out; have hnc34 := NB0_302.out; obtain ⟨hcz35_0, hcz35_1, hcz35_2, hcz35_3, hcz35_4, hcz35_5, hfz35_0, hfz35_1, hfz35_2, hfz35_3, hfz35_4, hfz35_5⟩ := cz6 BK302))
    refine bodyPost_ret (results_cell_row rfl _ _ gb302 37 #[.int .i64 t303, .int .i64 t324, .int .i64 t305, .int .i64 t306, .int .i64 t307, .int .i64 t308] (0, 0) _ rfl (by (with_reducible repeat (first | refine uC ?_ _ | refine uE ?_ | refine uD ?_ _)); refine uL (cs := #[.int .i64 t303, .int .i64 t324, .int .i64 t305, .int .i64 t306, .int .i64 t307, .int .i64 0]) ?_ 5 _ rfl; (with_reducible repeat (first | refine uC ?_ _ | refine uE ?_ | refine uD ?_ _)); refine uL (cs := #[.int .i64 t303, .int .i64 t324, .int .i64 t305, .int .i64 t306, .int .i64 0, .int .i64 0]) ?_ 4 _ rfl; (with_reducible repeat (first | refine uC ?_ _ | refine uE ?_ | refine uD ?_ _)); refine uL (cs := #[.int .i64 t303, .int .i64 t324, .int .i64 t305, .int .i64 0, .int .i64 0, .int .i64 0]) ?_ 3 _ rfl; (with_reducible repeat (first | refine uC ?_ _ | refine uE ?_ | refine uD ?_ _)); refine uL (cs := #[.int .i64 t303, .int .i64 t324, .int .i64 0, .int .i64 0, .int .i64 0, .int .i64 0]) ?_ 2 _ rfl; (with_reducible repeat (first | refine uC ?_ _ | refine uE ?_ | refine uD ?_ _)); refine uL (cs := #[.int .i64 t303, .int .i64 0, .int .i64 0, .int .i64 0, .int .i64 0, .int .i64 0]) ?_ 1 _ rfl; (with_reducible repeat (first | refine uC ?_ _ | refine uE ?_ | refine uD ?_ _)); refine uL (cs := #[.int .i64 0, .int .i64 0, .int .i64 0, .int .i64 0, .int .i64 0, .int .i64 0]) ?_ 0 _ rfl; (with_reducible repeat (first | refine uC ?_ _ | refine uE ?_ | refine uD ?_ _)); refine vO ?_ NB302_311.out _; (with_reducible repeat (first | refine uC ?_ _ | refine uE ?_ | refine uD ?_ _)); exact BK302.out) Try.underlying37 rfl (by kernel_rfl)) rfl ?_
    exact ⟨cq3, cq4, cq1, cq8⟩
  rw [if_neg c20] at H
  have c20b0 := beq_eq_false_iff_ne.mpr c20
  have c20b1 := bne_iff_ne.mpr c20
  by_cases c36 : t312 = 2
  · rw [if_pos c36] at H
    have c36b0 := beq_iff_eq.mpr c36
    have c36b1 := bne_eq_false_iff_eq.mpr c36
    clear c36
    replace H := Option.bind_eq_some_iff.mp H
    obtain ⟨⟨t327, t328, t329⟩, A370, H⟩ := H
    try dsimp only at H
    have A37 := Aside0.mk A370
    clear A370
    simp only [Option.some.injEq, Prod.mk.injEq] at H
    obtain ⟨rfl, rfl, rfl, rfl, rfl, rfl, rfl, rfl⟩ := H
    go_wp2_with (first | ((with_reducible refine uF (f := 85) rfl ?_); refine uX (some 5) Try.func85 #[.pointer (some ⟨g, 0, none⟩)] ?_; (with_reducible refine (spec_l3Op.calls g s0_0 s0_1 s0_2 t303 t304 t305 t306 t307 t308 t309 t310 w0 _ ?side1 ?side2 A2.out).mono ?_); (case side1 => exact cq13); (case side2 => exact cq1); rintro e w39 ⟨rfl, hi, hb, hk⟩; refine ⟨_, rfl, ?_⟩; replace BK302 := tKBlk BK302 hk NB302_0; replace HK := vJ HK hk; replace HB := Aside0.mk (hb); replace HI0 := Aside0.mk (hi); (try clear hb); (try clear hk); (try clear hi)) | ((with_reducible refine uJ (N := 3) rfl ?_); refine bxe 3 #[.int .i64 0, .int .i64 0, .int .i64 0, .int .i64 0, .int .i64 0, .int .i64 0] 37 ?_; intro gb311 hg w40 hbox hb; have BK311 := Aside0.mk (hbox); have GW311 := tKGe HK hg; have GE311 := tKW HW0 HK hg; have NB302_311 := tNl BK302 hg; have NB311_302 := tNg BK302 hg; have NB0_311 := Aside0.mk ((by rw [hg]; exact Nat.ne_of_lt (IsS112.lt (show IsS112 w0 _ g s0_0 t309 t310 from by repeat (first | (with_reducible first | exact HI0.out | apply IsS112.alloc | apply IsS112.drewN | apply IsS112.drew | apply IsS112.set_1 | apply IsS112.set_2 | refine IsS112.far ?_ NB0_302.out _) | exact HI0.out))) : g ≠ gb311)); have NB311_0 := Aside0.mk ((by rw [hg]; exact Nat.ne_of_gt (IsS112.lt (show IsS112 w0 _ g s0_0 t309 t310 from by repeat (first | (with_reducible first | exact HI0.out | apply IsS112.alloc | apply IsS112.drewN | apply IsS112.drew | apply IsS112.set_1 | apply IsS112.set_2 | refine IsS112.far ?_ NB0_302.out _) | exact HI0.out))) : gb311 ≠ g)); replace HI0 := Aside0.mk (IsS112.below cq13 hb); replace BK302 := uP BK302 hb; replace HK := vJ HK (vP.of_below hb g none); replace HB := tBel1 HB hb; clear hb hbox hg; have hnb41 := NB311_302.out; have hnc41 := NB302_311.out; have hnb42 := NB311_0.out; have hnc42 := NB0_311.out; obtain ⟨hcz43_0, hcz43_1, hcz43_2, hcz43_3, hcz43_4, hcz43_5, hfz43_0, hfz43_1, hfz43_2, hfz43_3, hfz43_4, hfz43_5⟩ := cz6 BK311) | ((with_reducible refine uF (f := 74) rfl ?_); refine uX (some 7) Try.func74 #[.pointer (some ⟨g, 0, none⟩), .int .i64 14] ?_; (with_reducible refine (spec_l1Below.calls g s0_0 t309 t310 14 t312 t313 t314 w0 _ ?side1 ?side2 A3.out).mono ?_); (case side1 => exact cq4); (case side2 => exact cq1); rintro e w44 ⟨rfl, hi, hb, hk⟩; refine ⟨_, rfl, ?_⟩; replace BK302 := tKBlkF BK302 hk NB302_0; replace BK311 := tKBlkP BK311 #[.int .i64 t303, .int .i64 t304, .int .i64 t305, .int .i64 t306, .int .i64 t307, .int .i64 t308] hk NB311_0; replace HK := vJ HK hk; replace HB := Aside0.mk (hb); replace HI0 := Aside0.mk (hi); (try clear hb); (try clear hk); (try clear hi)) | ((with_reducible refine uF (f := 74) rfl ?_); refine uX (some 23) Try.func74 #[.pointer (some ⟨g, 0, none⟩), .int .i64 4] ?_; (with_reducible refine (spec_l1Below.calls g s0_0 t313 t314 4 t327 t328 t329 w0 _ ?side1 ?side2 A37.out).mono ?_); (case side1 => exact cq4); (case side2 => exact cq1); rintro e w45 ⟨rfl, hi, hb, hk⟩; refine ⟨_, rfl, ?_⟩; replace BK302 := tKBlk BK302 hk NB302_0; replace BK311 := tKBlk BK311 hk NB311_0; replace HK := vJ HK hk; replace HB := Aside0.mk (hb); replace HI0 := Aside0.mk (hi); (try clear hb); (try clear hk); (try clear hi); obtain ⟨hcz46_0, hcz46_1, hcz46_2, hcz46_3, hcz46_4, hcz46_5, hfz46_0, hfz46_1, hfz46_2, hfz46_3, hfz46_4, hfz46_5⟩ := cz6 BK311; have hnb47 := NB302_0.out; have hnc47 := NB0_302.out; obtain ⟨hcz48_0, hcz48_1, hcz48_2, hcz48_3, hcz48_4, hcz48_5, hfz48_0, hfz48_1, hfz48_2, hfz48_3, hfz48_4, hfz48_5⟩ := cz6 BK302))
    refine bodyPost_ret (results_cell_row rfl _ _ gb302 37 #[.int .i64 t303, .int .i64 t304, .int .i64 t327, .int .i64 t306, .int .i64 t307, .int .i64 t308] (0, 0) _ rfl (by (with_reducible repeat (first | refine uC ?_ _ | refine uE ?_ | refine uD ?_ _)); refine uL (cs := #[.int .i64 t303, .int .i64 t304, .int .i64 t327, .int .i64 t306, .int .i64 t307, .int .i64 0]) ?_ 5 _ rfl; (with_reducible repeat (first | refine uC ?_ _ | refine uE ?_ | refine uD ?_ _)); refine uL (cs := #[.int .i64 t303, .int .i64 t304, .int .i64 t327, .int .i64 t306, .int .i64 0, .int .i64 0]) ?_ 4 _ rfl; (with_reducible repeat (first | refine uC ?_ _ | refine uE ?_ | refine uD ?_ _)); refine uL (cs := #[.int .i64 t303, .int .i64 t304, .int .i64 t327, .int .i64 0, .int .i64 0, .int .i64 0]) ?_ 3 _ rfl; (with_reducible repeat (first | refine uC ?_ _ | refine uE ?_ | refine uD ?_ _)); refine uL (cs := #[.int .i64 t303, .int .i64 t304, .int .i64 0, .int .i64 0, .int .i64 0, .int .i64 0]) ?_ 2 _ rfl; (with_reducible repeat (first | refine uC ?_ _ | refine uE ?_ | refine uD ?_ _)); refine uL (cs := #[.int .i64 t303, .int .i64 0, .int .i64 0, .int .i64 0, .int .i64 0, .int .i64 0]) ?_ 1 _ rfl; (with_reducible repeat (first | refine uC ?_ _ | refine uE ?_ | refine uD ?_ _)); refine uL (cs := #[.int .i64 0, .int .i64 0, .int .i64 0, .int .i64 0, .int .i64 0, .int .i64 0]) ?_ 0 _ rfl; (with_reducible repeat (first | refine uC ?_ _ | refine uE ?_ | refine uD ?_ _)); refine vO ?_ NB302_311.out _; (with_reducible repeat (first | refine uC ?_ _ | refine uE ?_ | refine uD ?_ _)); exact BK302.out) Try.underlying37 rfl (by kernel_rfl)) rfl ?_
    exact ⟨cq3, cq4, cq1, cq8⟩
  rw [if_neg c36] at H
  have c36b0 := beq_eq_false_iff_ne.mpr c36
  have c36b1 := bne_iff_ne.mpr c36
  by_cases c49 : t312 = 3
  · rw [if_pos c49] at H
    have c49b0 := beq_iff_eq.mpr c49
    have c49b1 := bne_eq_false_iff_eq.mpr c49
    clear c49
    obtain ⟨y330, hy330⟩ : ∃ y_ : List Int, y_ = (([(-1), 3] : List Int)) := ⟨_, rfl⟩
    replace H : ((spec_l1PickInt.f s0_0 t313 t314 y330).bind fun bt333 => (some (t303, t304, t305, bt333.1, t307, t308, bt333.2.1, bt333.2.2))) = some (r1, r2, r3, r4, r5, r6, r7, r8) := rpl hy330 H
    have Ny330 := Aside0.mk hy330
    clear hy330
    replace H := Option.bind_eq_some_iff.mp H
    obtain ⟨⟨t333, t334, t335⟩, A500, H⟩ := H
    try dsimp only at H
    have A50 := Aside0.mk A500
    clear A500
    simp only [Option.some.injEq, Prod.mk.injEq] at H
    obtain ⟨rfl, rfl, rfl, rfl, rfl, rfl, rfl, rfl⟩ := H
    go_wp2_with (first | ((with_reducible refine uF (f := 85) rfl ?_); refine uX (some 5) Try.func85 #[.pointer (some ⟨g, 0, none⟩)] ?_; (with_reducible refine (spec_l3Op.calls g s0_0 s0_1 s0_2 t303 t304 t305 t306 t307 t308 t309 t310 w0 _ ?side1 ?side2 A2.out).mono ?_); (case side1 => exact cq13); (case side2 => exact cq1); rintro e w52 ⟨rfl, hi, hb, hk⟩; refine ⟨_, rfl, ?_⟩; replace BK302 := tKBlk BK302 hk NB302_0; replace HK := vJ HK hk; replace HB := Aside0.mk (hb); replace HI0 := Aside0.mk (hi); (try clear hb); (try clear hk); (try clear hi)) | ((with_reducible refine uJ (N := 3) rfl ?_); refine bxe 3 #[.int .i64 0, .int .i64 0, .int .i64 0, .int .i64 0, .int .i64 0, .int .i64 0] 37 ?_; intro gb311 hg w53 hbox hb; have BK311 := Aside0.mk (hbox); have GW311 := tKGe HK hg; have GE311 := tKW HW0 HK hg; have NB302_311 := tNl BK302 hg; have NB311_302 := tNg BK302 hg; have NB0_311 := Aside0.mk ((by rw [hg]; exact Nat.ne_of_lt (IsS112.lt (show IsS112 w0 _ g s0_0 t309 t310 from by repeat (first | (with_reducible first | exact HI0.out | apply IsS112.alloc | apply IsS112.drewN | apply IsS112.drew | apply IsS112.set_1 | apply IsS112.set_2 | refine IsS112.far ?_ NB0_302.out _) | exact HI0.out))) : g ≠ gb311)); have NB311_0 := Aside0.mk ((by rw [hg]; exact Nat.ne_of_gt (IsS112.lt (show IsS112 w0 _ g s0_0 t309 t310 from by repeat (first | (with_reducible first | exact HI0.out | apply IsS112.alloc | apply IsS112.drewN | apply IsS112.drew | apply IsS112.set_1 | apply IsS112.set_2 | refine IsS112.far ?_ NB0_302.out _) | exact HI0.out))) : gb311 ≠ g)); replace HI0 := Aside0.mk (IsS112.below cq13 hb); replace BK302 := uP BK302 hb; replace HK := vJ HK (vP.of_below hb g none); replace HB := tBel1 HB hb; clear hb hbox hg; have hnb54 := NB311_302.out; have hnc54 := NB302_311.out; have hnb55 := NB311_0.out; have hnc55 := NB0_311.out; obtain ⟨hcz56_0, hcz56_1, hcz56_2, hcz56_3, hcz56_4, hcz56_5, hfz56_0, hfz56_1, hfz56_2, hfz56_3, hfz56_4, hfz56_5⟩ := cz6 BK311) | ((with_reducible refine uF (f := 74) rfl ?_); refine uX (some 7) Try.func74 #[.pointer (some ⟨g, 0, none⟩), .int .i64 14] ?_; (with_reducible refine (spec_l1Below.calls g s0_0 t309 t310 14 t312 t313 t314 w0 _ ?side1 ?side2 A3.out).mono ?_); (case side1 => exact cq4); (case side2 => exact cq1); rintro e w57 ⟨rfl, hi, hb, hk⟩; refine ⟨_, rfl, ?_⟩; replace BK302 := tKBlkF BK302 hk NB302_0; replace BK311 := tKBlkP BK311 #[.int .i64 t303, .int .i64 t304, .int .i64 t305, .int .i64 t306, .int .i64 t307, .int .i64 t308] hk NB311_0; replace HK := vJ HK hk; replace HB := Aside0.mk (hb); replace HI0 := Aside0.mk (hi); (try clear hb); (try clear hk); (try clear hi)) | ((with_reducible refine uJ (N := 28) rfl ?_); refine Kd.R_lit (Kd.int .i64) _ 3 ?hg (N := 28) ?hd (xs := ([(-1), 3] : List Int)) (inner := [.int .i64 (-1), .int .i64 3]) (ok := fun _ => True) (okp := fun _ => True) ?hr ?hp (fun _ hk => hk) trivial (Below.refl _ _) (Nat.le_refl _) (by simp) ?_; (case hd => rfl); (case hg => rfl); (case hr => first | (go_simp; done) | (go_simp; rfl)); (case hp => exact (vN.one (show Kd.M (Kd.int .i64) _ _ _ (-1) [.int .i64 (-1)] from rfl) (vN.one (show Kd.M (Kd.int .i64) _ _ _ 3 [.int .i64 3] from rfl) (vN.none _ _)))); intro v331 w58 ho59 hb hg_ hnew_; clear hg_ hnew_; (first | rw [← Ny330.out] at ho59 | (simp only [Int.reduceToNat] at ho59; rw [← Ny330.out] at ho59)); have HO332 := Aside0.mk (Kd.uS ho59 (keep_size (w := w) (g := g) (row := none) cq8)); replace HI0 := Aside0.mk (IsS112.below cq4 hb); replace BK302 := uP BK302 hb; replace BK311 := uP BK311 hb; replace HK := vJ HK (vP.of_below hb g none); replace HB := tBel1 HB hb; clear hb ho59; obtain ⟨Ao60, co60, eo60⟩ := Kd.uY HO332.out; subst eo60) | ((with_reducible refine uF (f := 75) rfl ?_); refine uX (some 29) Try.func75 #[.pointer (some ⟨g, 0, none⟩), .slice Ao60 y330.length co60] ?_; (with_reducible refine (spec_l1PickInt.calls g s0_0 t313 t314 _ _ y330 t333 t334 t335 w0 _ ?side1 ?side2 ?side3 ?side4 ?side5 A50.out).mono ?_); (case side1 => exact cq4); (case side2 => exact cq1); (case side3 => repeat (first | exact (Kd.uK HO332.out).2.2 | (with_reducible refine Kd.vW ?_ _) | (with_reducible refine Kd.vV ?_ _) | (with_reducible refine Kd.C_drew ?_))); (case side4 => exact (Kd.uK HO332.out).2.1); (case side5 => exact far_slice (IsS112.own_ne HI0.out HO332.out (by decide))); rintro e w61 ⟨rfl, hi, hb, hk⟩; refine ⟨_, rfl, ?_⟩; replace BK302 := tKBlk BK302 hk NB302_0; replace BK311 := tKBlk BK311 hk NB311_0; replace HO332 := Aside0.mk (Kd.uN (Kd.R_keep (IsS112.apart (show IsS112 w0 _ g s0_0 t313 t314 from by repeat (first | (with_reducible first | exact HI0.out | apply IsS112.alloc | apply IsS112.drewN | apply IsS112.drew | apply IsS112.set_1 | apply IsS112.set_2 | refine IsS112.far ?_ NB0_302.out _ | refine IsS112.far ?_ NB0_311.out _) | exact HI0.out)) (uZ HO332.out) (by decide)) hk (fun _ h => h.2)) (fun _ h => h.1)); replace HK := vJ HK hk; replace HB := Aside0.mk (hb); replace HI0 := Aside0.mk (hi); (try clear hb); (try clear hk); (try clear hi); obtain ⟨hcz62_0, hcz62_1, hcz62_2, hcz62_3, hcz62_4, hcz62_5, hfz62_0, hfz62_1, hfz62_2, hfz62_3, hfz62_4, hfz62_5⟩ := cz6 BK311; have hnb63 := NB302_0.out; have hnc63 := NB0_302.out; obtain ⟨hcz64_0, hcz64_1, hcz64_2, hcz64_3, hcz64_4, hcz64_5, hfz64_0, hfz64_1, hfz64_2, hfz64_3, hfz64_4, hfz64_5⟩ := cz6 BK302))
    refine bodyPost_ret (results_cell_row rfl _ _ gb302 37 #[.int .i64 t303, .int .i64 t304, .int .i64 t305, .int .i64 t333, .int .i64 t307, .int .i64 t308] (0, 0) _ rfl (by (with_reducible repeat (first | refine uC ?_ _ | refine uE ?_ | refine uD ?_ _)); refine uL (cs := #[.int .i64 t303, .int .i64 t304, .int .i64 t305, .int .i64 t333, .int .i64 t307, .int .i64 0]) ?_ 5 _ rfl; (with_reducible repeat (first | refine uC ?_ _ | refine uE ?_ | refine uD ?_ _)); refine uL (cs := #[.int .i64 t303, .int .i64 t304, .int .i64 t305, .int .i64 t333, .int .i64 0, .int .i64 0]) ?_ 4 _ rfl; (with_reducible repeat (first | refine uC ?_ _ | refine uE ?_ | refine uD ?_ _)); refine uL (cs := #[.int .i64 t303, .int .i64 t304, .int .i64 t305, .int .i64 0, .int .i64 0, .int .i64 0]) ?_ 3 _ rfl; (with_reducible repeat (first | refine uC ?_ _ | refine uE ?_ | refine uD ?_ _)); refine uL (cs := #[.int .i64 t303, .int .i64 t304, .int .i64 0, .int .i64 0, .int .i64 0, .int .i64 0]) ?_ 2 _ rfl; (with_reducible repeat (first | refine uC ?_ _ | refine uE ?_ | refine uD ?_ _)); refine uL (cs := #[.int .i64 t303, .int .i64 0, .int .i64 0, .int .i64 0, .int .i64 0, .int .i64 0]) ?_ 1 _ rfl; (with_reducible repeat (first | refine uC ?_ _ | refine uE ?_ | refine uD ?_ _)); refine uL (cs := #[.int .i64 0, .int .i64 0, .int .i64 0, .int .i64 0, .int .i64 0, .int .i64 0]) ?_ 0 _ rfl; (with_reducible repeat (first | refine uC ?_ _ | refine uE ?_ | refine uD ?_ _)); refine vO ?_ NB302_311.out _; (with_reducible repeat (first | refine uC ?_ _ | refine uE ?_ | refine uD ?_ _)); exact BK302.out) Try.underlying37 rfl (by kernel_rfl)) rfl ?_
    exact ⟨cq3, cq4, cq1, cq8⟩
  rw [if_neg c49] at H
  have c49b0 := beq_eq_false_iff_ne.mpr c49
  have c49b1 := bne_iff_ne.mpr c49
  by_cases c65 : t312 = 4
  · rw [if_pos c65] at H
    have c65b0 := beq_iff_eq.mpr c65
    have c65b1 := bne_eq_false_iff_eq.mpr c65
    clear c65
    obtain ⟨y336, hy336⟩ : ∃ y_ : List Int, y_ = (([(-1), 9, 10] : List Int)) := ⟨_, rfl⟩
    replace H : ((spec_l1PickInt.f s0_0 t313 t314 y336).bind fun bt339 => (some (t303, t304, t305, t306, t307, bt339.1, bt339.2.1, bt339.2.2))) = some (r1, r2, r3, r4, r5, r6, r7, r8) := rpl hy336 H
    have Ny336 := Aside0.mk hy336
    clear hy336
    replace H := Option.bind_eq_some_iff.mp H
    obtain ⟨⟨t339, t340, t341⟩, A660, H⟩ := H
    try dsimp only at H
    have A66 := Aside0.mk A660
    clear A660
    simp only [Option.some.injEq, Prod.mk.injEq] at H
    obtain ⟨rfl, rfl, rfl, rfl, rfl, rfl, rfl, rfl⟩ := H
    go_wp2_with (first | ((with_reducible refine uF (f := 85) rfl ?_); refine uX (some 5) Try.func85 #[.pointer (some ⟨g, 0, none⟩)] ?_; (with_reducible refine (spec_l3Op.calls g s0_0 s0_1 s0_2 t303 t304 t305 t306 t307 t308 t309 t310 w0 _ ?side1 ?side2 A2.out).mono ?_); (case side1 => exact cq13); (case side2 => exact cq1); rintro e w68 ⟨rfl, hi, hb, hk⟩; refine ⟨_, rfl, ?_⟩; replace BK302 := tKBlk BK302 hk NB302_0; replace HK := vJ HK hk; replace HB := Aside0.mk (hb); replace HI0 := Aside0.mk (hi); (try clear hb); (try clear hk); (try clear hi)) | ((with_reducible refine uJ (N := 3) rfl ?_); refine bxe 3 #[.int .i64 0, .int .i64 0, .int .i64 0, .int .i64 0, .int .i64 0, .int .i64 0] 37 ?_; intro gb311 hg w69 hbox hb; have BK311 := Aside0.mk (hbox); have GW311 := tKGe HK hg; have GE311 := tKW HW0 HK hg; have NB302_311 := tNl BK302 hg; have NB311_302 := tNg BK302 hg; have NB0_311 := Aside0.mk ((by rw [hg]; exact Nat.ne_of_lt (IsS112.lt (show IsS112 w0 _ g s0_0 t309 t310 from by repeat (first | (with_reducible first | exact HI0.out | apply IsS112.alloc | apply IsS112.drewN | apply IsS112.drew | apply IsS112.set_1 | apply IsS112.set_2 | refine IsS112.far ?_ NB0_302.out _) | exact HI0.out))) : g ≠ gb311)); have NB311_0 := Aside0.mk ((by rw [hg]; exact Nat.ne_of_gt (IsS112.lt (show IsS112 w0 _ g s0_0 t309 t310 from by repeat (first | (with_reducible first | exact HI0.out | apply IsS112.alloc | apply IsS112.drewN | apply IsS112.drew | apply IsS112.set_1 | apply IsS112.set_2 | refine IsS112.far ?_ NB0_302.out _) | exact HI0.out))) : gb311 ≠ g)); replace HI0 := Aside0.mk (IsS112.below cq13 hb); replace BK302 := uP BK302 hb; replace HK := vJ HK (vP.of_below hb g none); replace HB := tBel1 HB hb; clear hb hbox hg; have hnb70 := NB311_302.out; have hnc70 := NB302_311.out; have hnb71 := NB311_0.out; have hnc71 := NB0_311.out; obtain ⟨hcz72_0, hcz72_1, hcz72_2, hcz72_3, hcz72_4, hcz72_5, hfz72_0, hfz72_1, hfz72_2, hfz72_3, hfz72_4, hfz72_5⟩ := cz6 BK311) | ((with_reducible refine uF (f := 74) rfl ?_); refine uX (some 7) Try.func74 #[.pointer (some ⟨g, 0, none⟩), .int .i64 14] ?_; (with_reducible refine (spec_l1Below.calls g s0_0 t309 t310 14 t312 t313 t314 w0 _ ?side1 ?side2 A3.out).mono ?_); (case side1 => exact cq4); (case side2 => exact cq1); rintro e w73 ⟨rfl, hi, hb, hk⟩; refine ⟨_, rfl, ?_⟩; replace BK302 := tKBlkF BK302 hk NB302_0; replace BK311 := tKBlkP BK311 #[.int .i64 t303, .int .i64 t304, .int .i64 t305, .int .i64 t306, .int .i64 t307, .int .i64 t308] hk NB311_0; replace HK := vJ HK hk; replace HB := Aside0.mk (hb); replace HI0 := Aside0.mk (hi); (try clear hb); (try clear hk); (try clear hi)) | ((with_reducible refine uJ (N := 34) rfl ?_); refine Kd.R_lit (Kd.int .i64) _ 3 ?hg (N := 34) ?hd (xs := ([(-1), 9, 10] : List Int)) (inner := [.int .i64 (-1), .int .i64 9, .int .i64 10]) (ok := fun _ => True) (okp := fun _ => True) ?hr ?hp (fun _ hk => hk) trivial (Below.refl _ _) (Nat.le_refl _) (by simp) ?_; (case hd => rfl); (case hg => rfl); (case hr => first | (go_simp; done) | (go_simp; rfl)); (case hp => exact (vN.one (show Kd.M (Kd.int .i64) _ _ _ (-1) [.int .i64 (-1)] from rfl) (vN.one (show Kd.M (Kd.int .i64) _ _ _ 9 [.int .i64 9] from rfl) (vN.one (show Kd.M (Kd.int .i64) _ _ _ 10 [.int .i64 10] from rfl) (vN.none _ _))))); intro v337 w74 ho75 hb hg_ hnew_; clear hg_ hnew_; (first | rw [← Ny336.out] at ho75 | (simp only [Int.reduceToNat] at ho75; rw [← Ny336.out] at ho75)); have HO338 := Aside0.mk (Kd.uS ho75 (keep_size (w := w) (g := g) (row := none) cq8)); replace HI0 := Aside0.mk (IsS112.below cq4 hb); replace BK302 := uP BK302 hb; replace BK311 := uP BK311 hb; replace HK := vJ HK (vP.of_below hb g none); replace HB := tBel1 HB hb; clear hb ho75; obtain ⟨Ao76, co76, eo76⟩ := Kd.uY HO338.out; subst eo76) | ((with_reducible refine uF (f := 75) rfl ?_); refine uX (some 35) Try.func75 #[.pointer (some ⟨g, 0, none⟩), .slice Ao76 y336.length co76] ?_; (with_reducible refine (spec_l1PickInt.calls g s0_0 t313 t314 _ _ y336 t339 t340 t341 w0 _ ?side1 ?side2 ?side3 ?side4 ?side5 A66.out).mono ?_); (case side1 => exact cq4); (case side2 => exact cq1); (case side3 => repeat (first | exact (Kd.uK HO338.out).2.2 | (with_reducible refine Kd.vW ?_ _) | (with_reducible refine Kd.vV ?_ _) | (with_reducible refine Kd.C_drew ?_))); (case side4 => exact (Kd.uK HO338.out).2.1); (case side5 => exact far_slice (IsS112.own_ne HI0.out HO338.out (by decide))); rintro e w77 ⟨rfl, hi, hb, hk⟩; refine ⟨_, rfl, ?_⟩; replace BK302 := tKBlk BK302 hk NB302_0; replace BK311 := tKBlk BK311 hk NB311_0; replace HO338 := Aside0.mk (Kd.uN (Kd.R_keep (IsS112.apart (show IsS112 w0 _ g s0_0 t313 t314 from by repeat (first | (with_reducible first | exact HI0.out | apply IsS112.alloc | apply IsS112.drewN | apply IsS112.drew | apply IsS112.set_1 | apply IsS112.set_2 | refine IsS112.far ?_ NB0_302.out _ | refine IsS112.far ?_ NB0_311.out _) | exact HI0.out)) (uZ HO338.out) (by decide)) hk (fun _ h => h.2)) (fun _ h => h.1)); replace HK := vJ HK hk; replace HB := Aside0.mk (hb); replace HI0 := Aside0.mk (hi); (try clear hb); (try clear hk); (try clear hi); obtain ⟨hcz78_0, hcz78_1, hcz78_2, hcz78_3, hcz78_4, hcz78_5, hfz78_0, hfz78_1, hfz78_2, hfz78_3, hfz78_4, hfz78_5⟩ := cz6 BK311; have hnb79 := NB302_0.out; have hnc79 := NB0_302.out; obtain ⟨hcz80_0, hcz80_1, hcz80_2, hcz80_3, hcz80_4, hcz80_5, hfz80_0, hfz80_1, hfz80_2, hfz80_3, hfz80_4, hfz80_5⟩ := cz6 BK302))
    refine bodyPost_ret (results_cell_row rfl _ _ gb302 37 #[.int .i64 t303, .int .i64 t304, .int .i64 t305, .int .i64 t306, .int .i64 t307, .int .i64 t339] (0, 0) _ rfl (by (with_reducible repeat (first | refine uC ?_ _ | refine uE ?_ | refine uD ?_ _)); refine uL (cs := #[.int .i64 t303, .int .i64 t304, .int .i64 t305, .int .i64 t306, .int .i64 t307, .int .i64 0]) ?_ 5 _ rfl; (with_reducible repeat (first | refine uC ?_ _ | refine uE ?_ | refine uD ?_ _)); refine uL (cs := #[.int .i64 t303, .int .i64 t304, .int .i64 t305, .int .i64 t306, .int .i64 0, .int .i64 0]) ?_ 4 _ rfl; (with_reducible repeat (first | refine uC ?_ _ | refine uE ?_ | refine uD ?_ _)); refine uL (cs := #[.int .i64 t303, .int .i64 t304, .int .i64 t305, .int .i64 0, .int .i64 0, .int .i64 0]) ?_ 3 _ rfl; (with_reducible repeat (first | refine uC ?_ _ | refine uE ?_ | refine uD ?_ _)); refine uL (cs := #[.int .i64 t303, .int .i64 t304, .int .i64 0, .int .i64 0, .int .i64 0, .int .i64 0]) ?_ 2 _ rfl; (with_reducible repeat (first | refine uC ?_ _ | refine uE ?_ | refine uD ?_ _)); refine uL (cs := #[.int .i64 t303, .int .i64 0, .int .i64 0, .int .i64 0, .int .i64 0, .int .i64 0]) ?_ 1 _ rfl; (with_reducible repeat (first | refine uC ?_ _ | refine uE ?_ | refine uD ?_ _)); refine uL (cs := #[.int .i64 0, .int .i64 0, .int .i64 0, .int .i64 0, .int .i64 0, .int .i64 0]) ?_ 0 _ rfl; (with_reducible repeat (first | refine uC ?_ _ | refine uE ?_ | refine uD ?_ _)); refine vO ?_ NB302_311.out _; (with_reducible repeat (first | refine uC ?_ _ | refine uE ?_ | refine uD ?_ _)); exact BK302.out) Try.underlying37 rfl (by kernel_rfl)) rfl ?_
    exact ⟨cq3, cq4, cq1, cq8⟩
  rw [if_neg c65] at H
  have c65b0 := beq_eq_false_iff_ne.mpr c65
  have c65b1 := bne_iff_ne.mpr c65
  by_cases c81 : t312 = 5
  rotate_left
  · rw [if_neg c81] at H
    have c81b0 := beq_eq_false_iff_ne.mpr c81
    have c81b1 := bne_iff_ne.mpr c81
    simp only [Option.some.injEq, Prod.mk.injEq] at H
    obtain ⟨rfl, rfl, rfl, rfl, rfl, rfl, rfl, rfl⟩ := H
    go_wp2_with (first | ((with_reducible refine uF (f := 85) rfl ?_); refine uX (some 5) Try.func85 #[.pointer (some ⟨g, 0, none⟩)] ?_; (with_reducible refine (spec_l3Op.calls g s0_0 s0_1 s0_2 t303 t304 t305 t306 t307 t308 t309 t310 w0 _ ?side1 ?side2 A2.out).mono ?_); (case side1 => exact cq13); (case side2 => exact cq1); rintro e w98 ⟨rfl, hi, hb, hk⟩; refine ⟨_, rfl, ?_⟩; replace BK302 := tKBlk BK302 hk NB302_0; replace HK := vJ HK hk; replace HB := Aside0.mk (hb); replace HI0 := Aside0.mk (hi); (try clear hb); (try clear hk); (try clear hi)) | ((with_reducible refine uJ (N := 3) rfl ?_); refine bxe 3 #[.int .i64 0, .int .i64 0, .int .i64 0, .int .i64 0, .int .i64 0, .int .i64 0] 37 ?_; intro gb311 hg w99 hbox hb; have BK311 := Aside0.mk (hbox); have GW311 := tKGe HK hg; have GE311 := tKW HW0 HK hg; have NB302_311 := tNl BK302 hg; have NB311_302 := tNg BK302 hg; have NB0_311 := Aside0.mk ((by rw [hg]; exact Nat.ne_of_lt (IsS112.lt (show IsS112 w0 _ g s0_0 t309 t310 from by repeat (first | (with_reducible first | exact HI0.out | apply IsS112.alloc | apply IsS112.drewN | apply IsS112.drew | apply IsS112.set_1 | apply IsS112.set_2 | refine IsS112.far ?_ NB0_302.out _) | exact HI0.out))) : g ≠ gb311)); have NB311_0 := Aside0.mk ((by rw [hg]; exact Nat.ne_of_gt (IsS112.lt (show IsS112 w0 _ g s0_0 t309 t310 from by repeat (first | (with_reducible first | exact HI0.out | apply IsS112.alloc | apply IsS112.drewN | apply IsS112.drew | apply IsS112.set_1 | apply IsS112.set_2 | refine IsS112.far ?_ NB0_302.out _) | exact HI0.out))) : gb311 ≠ g)); replace HI0 := Aside0.mk (IsS112.below cq13 hb); replace BK302 := uP BK302 hb; replace HK := vJ HK (vP.of_below hb g none); replace HB := tBel1 HB hb; clear hb hbox hg; have hnb100 := NB311_302.out; have hnc100 := NB302_311.out; have hnb101 := NB311_0.out; have hnc101 := NB0_311.out; obtain ⟨hcz102_0, hcz102_1, hcz102_2, hcz102_3, hcz102_4, hcz102_5, hfz102_0, hfz102_1, hfz102_2, hfz102_3, hfz102_4, hfz102_5⟩ := cz6 BK311) | ((with_reducible refine uF (f := 74) rfl ?_); refine uX (some 7) Try.func74 #[.pointer (some ⟨g, 0, none⟩), .int .i64 14] ?_; (with_reducible refine (spec_l1Below.calls g s0_0 t309 t310 14 t312 t313 t314 w0 _ ?side1 ?side2 A3.out).mono ?_); (case side1 => exact cq4); (case side2 => exact cq1); rintro e w103 ⟨rfl, hi, hb, hk⟩; refine ⟨_, rfl, ?_⟩; replace BK302 := tKBlkF BK302 hk NB302_0; replace BK311 := tKBlkP BK311 #[.int .i64 t303, .int .i64 t304, .int .i64 t305, .int .i64 t306, .int .i64 t307, .int .i64 t308] hk NB311_0; replace HK := vJ HK hk; replace HB := Aside0.mk (hb); replace HI0 := Aside0.mk (hi); (try clear hb); (try clear hk); (try clear hi); obtain ⟨hcz104_0, hcz104_1, hcz104_2, hcz104_3, hcz104_4, hcz104_5, hfz104_0, hfz104_1, hfz104_2, hfz104_3, hfz104_4, hfz104_5⟩ := cz6 BK311; have hnb105 := NB302_0.out; have hnc105 := NB0_302.out; obtain ⟨hcz106_0, hcz106_1, hcz106_2, hcz106_3, hcz106_4, hcz106_5, hfz106_0, hfz106_1, hfz106_2, hfz106_3, hfz106_4, hfz106_5⟩ := cz6 BK302))
    refine bodyPost_ret (results_cell_row rfl _ _ gb302 37 #[.int .i64 t303, .int .i64 t304, .int .i64 t305, .int .i64 t306, .int .i64 t307, .int .i64 t308] (0, 0) _ rfl (by (with_reducible repeat (first | refine uC ?_ _ | refine uE ?_ | refine uD ?_ _)); refine uL (cs := #[.int .i64 t303, .int .i64 t304, .int .i64 t305, .int .i64 t306, .int .i64 t307, .int .i64 0]) ?_ 5 _ rfl; (with_reducible repeat (first | refine uC ?_ _ | refine uE ?_ | refine uD ?_ _)); refine uL (cs := #[.int .i64 t303, .int .i64 t304, .int .i64 t305, .int .i64 t306, .int .i64 0, .int .i64 0]) ?_ 4 _ rfl; (with_reducible repeat (first | refine uC ?_ _ | refine uE ?_ | refine uD ?_ _)); refine uL (cs := #[.int .i64 t303, .int .i64 t304, .int .i64 t305, .int .i64 0, .int .i64 0, .int .i64 0]) ?_ 3 _ rfl; (with_reducible repeat (first | refine uC ?_ _ | refine uE ?_ | refine uD ?_ _)); refine uL (cs := #[.int .i64 t303, .int .i64 t304, .int .i64 0, .int .i64 0, .int .i64 0, .int .i64 0]) ?_ 2 _ rfl; (with_reducible repeat (first | refine uC ?_ _ | refine uE ?_ | refine uD ?_ _)); refine uL (cs := #[.int .i64 t303, .int .i64 0, .int .i64 0, .int .i64 0, .int .i64 0, .int .i64 0]) ?_ 1 _ rfl; (with_reducible repeat (first | refine uC ?_ _ | refine uE ?_ | refine uD ?_ _)); refine uL (cs := #[.int .i64 0, .int .i64 0, .int .i64 0, .int .i64 0, .int .i64 0, .int .i64 0]) ?_ 0 _ rfl; (with_reducible repeat (first | refine uC ?_ _ | refine uE ?_ | refine uD ?_ _)); exact BK302.out) Try.underlying37 rfl (by kernel_rfl)) rfl ?_
    exact ⟨cq3, cq4, cq1, cq8⟩
  rw [if_pos c81] at H
  have c81b0 := beq_iff_eq.mpr c81
  have c81b1 := bne_eq_false_iff_eq.mpr c81
  clear c81
  obtain ⟨y342, hy342⟩ : ∃ y_ : List Int, y_ = (([(-1), 0, 9, 10] : List Int)) := ⟨_, rfl⟩
  replace H : ((spec_l1PickInt.f s0_0 t313 t314 y342).bind fun bt345 => (some (t303, t304, t305, t306, bt345.1, t308, bt345.2.1, bt345.2.2))) = some (r1, r2, r3, r4, r5, r6, r7, r8) := rpl hy342 H
  have Ny342 := Aside0.mk hy342
  clear hy342
  replace H := Option.bind_eq_some_iff.mp H
  obtain ⟨⟨t345, t346, t347⟩, A820, H⟩ := H
  try dsimp only at H
  have A82 := Aside0.mk A820
  clear A820
  simp only [Option.some.injEq, Prod.mk.injEq] at H
  obtain ⟨rfl, rfl, rfl, rfl, rfl, rfl, rfl, rfl⟩ := H
  go_wp2_with (first | ((with_reducible refine uF (f := 85) rfl ?_); refine uX (some 5) Try.func85 #[.pointer (some ⟨g, 0, none⟩)] ?_; (with_reducible refine (spec_l3Op.calls g s0_0 s0_1 s0_2 t303 t304 t305 t306 t307 t308 t309 t310 w0 _ ?side1 ?side2 A2.out).mono ?_); (case side1 => exact cq13); (case side2 => exact cq1); rintro e w84 ⟨rfl, hi, hb, hk⟩; refine ⟨_, rfl, ?_⟩; replace BK302 := tKBlk BK302 hk NB302_0; replace HK := vJ HK hk; replace HB := Aside0.mk (hb); replace HI0 := Aside0.mk (hi); (try clear hb); (try clear hk); (try clear hi)) | ((with_reducible refine uJ (N := 3) rfl ?_); refine bxe 3 #[.int .i64 0, .int .i64 0, .int .i64 0, .int .i64 0, .int .i64 0, .int .i64 0] 37 ?_; intro gb311 hg w85 hbox hb; have BK311 := Aside0.mk (hbox); have GW311 := tKGe HK hg; have GE311 := tKW HW0 HK hg; have NB302_311 := tNl BK302 hg; have NB311_302 := tNg BK302 hg; have NB0_311 := Aside0.mk ((by rw [hg]; exact Nat.ne_of_lt (IsS112.lt (show IsS112 w0 _ g s0_0 t309 t310 from by repeat (first | (with_reducible first | exact HI0.out | apply IsS112.alloc | apply IsS112.drewN | apply IsS112.drew | apply IsS112.set_1 | apply IsS112.set_2 | refine IsS112.far ?_ NB0_302.out _) | exact HI0.out))) : g ≠ gb311)); have NB311_0 := Aside0.mk ((by rw [hg]; exact Nat.ne_of_gt (IsS112.lt (show IsS112 w0 _ g s0_0 t309 t310 from by repeat (first | (with_reducible first | exact HI0.out | apply IsS112.alloc | apply IsS112.drewN | apply IsS112.drew | apply IsS112.set_1 | apply IsS112.set_2 | refine IsS112.far ?_ NB0_302.out _) | exact HI0.out))) : gb311 ≠ g)); replace HI0 := Aside0.mk (IsS112.below cq13 hb); replace BK302 := uP BK302 hb; replace HK := vJ HK (vP.of_below hb g none); replace HB := tBel1 HB hb; clear hb hbox hg; have hnb86 := NB311_302.out; have hnc86 := NB302_311.out; have hnb87 := NB311_0.out; have hnc87 := NB0_311.out; obtain ⟨hcz88_0, hcz88_1, hcz88_2, hcz88_3, hcz88_4, hcz88_5, hfz88_0, hfz88_1, hfz88_2, hfz88_3, hfz88_4, hfz88_5⟩ := cz6 BK311) | ((with_reducible refine uF (f := 74) rfl ?_); refine uX (some 7) Try.func74 #[.pointer (some ⟨g, 0, none⟩), .int .i64 14] ?_; (with_reducible refine (spec_l1Below.calls g s0_0 t309 t310 14 t312 t313 t314 w0 _ ?side1 ?side2 A3.out).mono ?_); (case side1 => exact cq4); (case side2 => exact cq1); rintro e w89 ⟨rfl, hi, hb, hk⟩; refine ⟨_, rfl, ?_⟩; replace BK302 := tKBlkF BK302 hk NB302_0; replace BK311 := tKBlkP BK311 #[.int .i64 t303, .int .i64 t304, .int .i64 t305, .int .i64 t306, .int .i64 t307, .int .i64 t308] hk NB311_0; replace HK := vJ HK hk; replace HB := Aside0.mk (hb); replace HI0 := Aside0.mk (hi); (try clear hb); (try clear hk); (try clear hi)) | ((with_reducible refine uJ (N := 40) rfl ?_); refine Kd.R_lit (Kd.int .i64) _ 3 ?hg (N := 40) ?hd (xs := ([(-1), 0, 9, 10] : List Int)) (inner := [.int .i64 (-1), .int .i64 0, .int .i64 9, .int .i64 10]) (ok := fun _ => True) (okp := fun _ => True) ?hr ?hp (fun _ hk => hk) trivial (Below.refl _ _) (Nat.le_refl _) (by simp) ?_; (case hd => rfl); (case hg => rfl); (case hr => first | (go_simp; done) | (go_simp; rfl)); (case hp => exact (vN.one (show Kd.M (Kd.int .i64) _ _ _ (-1) [.int .i64 (-1)] from rfl) (vN.one (show Kd.M (Kd.int .i64) _ _ _ 0 [.int .i64 0] from rfl) (vN.one (show Kd.M (Kd.int .i64) _ _ _ 9 [.int .i64 9] from rfl) (vN.one (show Kd.M (Kd.int .i64) _ _ _ 10 [.int .i64 10] from rfl) (vN.none _ _)))))); intro v343 w90 ho91 hb hg_ hnew_; clear hg_ hnew_; (first | rw [← Ny342.out] at ho91 | (simp only [Int.reduceToNat] at ho91; rw [← Ny342.out] at ho91)); have HO344 := Aside0.mk (Kd.uS ho91 (keep_size (w := w) (g := g) (row := none) cq8)); replace HI0 := Aside0.mk (IsS112.below cq4 hb); replace BK302 := uP BK302 hb; replace BK311 := uP BK311 hb; replace HK := vJ HK (vP.of_below hb g none); replace HB := tBel1 HB hb; clear hb ho91; obtain ⟨Ao92, co92, eo92⟩ := Kd.uY HO344.out; subst eo92) | ((with_reducible refine uF (f := 75) rfl ?_); refine uX (some 41) Try.func75 #[.pointer (some ⟨g, 0, none⟩), .slice Ao92 y342.length co92] ?_; (with_reducible refine (spec_l1PickInt.calls g s0_0 t313 t314 _ _ y342 t345 t346 t347 w0 _ ?side1 ?side2 ?side3 ?side4 ?side5 A82.out).mono ?_); (case side1 => exact cq4); (case side2 => exact cq1); (case side3 => repeat (first | exact (Kd.uK HO344.out).2.2 | (with_reducible refine Kd.vW ?_ _) | (with_reducible refine Kd.vV ?_ _) | (with_reducible refine Kd.C_drew ?_))); (case side4 => exact (Kd.uK HO344.out).2.1); (case side5 => exact far_slice (IsS112.own_ne HI0.out HO344.out (by decide))); rintro e w93 ⟨rfl, hi, hb, hk⟩; refine ⟨_, rfl, ?_⟩; replace BK302 := tKBlk BK302 hk NB302_0; replace BK311 := tKBlk BK311 hk NB311_0; replace HO344 := Aside0.mk (Kd.uN (Kd.R_keep (IsS112.apart (show IsS112 w0 _ g s0_0 t313 t314 from by repeat (first | (with_reducible first | exact HI0.out | apply IsS112.alloc | apply IsS112.drewN | apply IsS112.drew | apply IsS112.set_1 | apply IsS112.set_2 | refine IsS112.far ?_ NB0_302.out _ | refine IsS112.far ?_ NB0_311.out _) | exact HI0.out)) (uZ HO344.out) (by decide)) hk (fun _ h => h.2)) (fun _ h => h.1)); replace HK := vJ HK hk; replace HB := Aside0.mk (hb); replace HI0 := Aside0.mk (hi); (try clear hb); (try clear hk); (try clear hi); obtain ⟨hcz94_0, hcz94_1, hcz94_2, hcz94_3, hcz94_4, hcz94_5, hfz94_0, hfz94_1, hfz94_2, hfz94_3, hfz94_4, hfz94_5⟩ := cz6 BK311; have hnb95 := NB302_0.out; have hnc95 := NB0_302.out; obtain ⟨hcz96_0, hcz96_1, hcz96_2, hcz96_3, hcz96_4, hcz96_5, hfz96_0, hfz96_1, hfz96_2, hfz96_3, hfz96_4, hfz96_5⟩ := cz6 BK302))
  refine bodyPost_ret (results_cell_row rfl _ _ gb302 37 #[.int .i64 t303, .int .i64 t304, .int .i64 t305, .int .i64 t306, .int .i64 t345, .int .i64 t308] (0, 0) _ rfl (by (with_reducible repeat (first | refine uC ?_ _ | refine uE ?_ | refine uD ?_ _)); refine uL (cs := #[.int .i64 t303, .int .i64 t304, .int .i64 t305, .int .i64 t306, .int .i64 t345, .int .i64 0]) ?_ 5 _ rfl; (with_reducible repeat (first | refine uC ?_ _ | refine uE ?_ | refine uD ?_ _)); refine uL (cs := #[.int .i64 t303, .int .i64 t304, .int .i64 t305, .int .i64 t306, .int .i64 0, .int .i64 0]) ?_ 4 _ rfl; (with_reducible repeat (first | refine uC ?_ _ | refine uE ?_ | refine uD ?_ _)); refine uL (cs := #[.int .i64 t303, .int .i64 t304, .int .i64 t305, .int .i64 0, .int .i64 0, .int .i64 0]) ?_ 3 _ rfl; (with_reducible repeat (first | refine uC ?_ _ | refine uE ?_ | refine uD ?_ _)); refine uL (cs := #[.int .i64 t303, .int .i64 t304, .int .i64 0, .int .i64 0, .int .i64 0, .int .i64 0]) ?_ 2 _ rfl; (with_reducible repeat (first | refine uC ?_ _ | refine uE ?_ | refine uD ?_ _)); refine uL (cs := #[.int .i64 t303, .int .i64 0, .int .i64 0, .int .i64 0, .int .i64 0, .int .i64 0]) ?_ 1 _ rfl; (with_reducible repeat (first | refine uC ?_ _ | refine uE ?_ | refine uD ?_ _)); refine uL (cs := #[.int .i64 0, .int .i64 0, .int .i64 0, .int .i64 0, .int .i64 0, .int .i64 0]) ?_ 0 _ rfl; (with_reducible repeat (first | refine uC ?_ _ | refine uE ?_ | refine uD ?_ _)); refine vO ?_ NB302_311.out _; (with_reducible repeat (first | refine uC ?_ _ | refine uE ?_ | refine uD ?_ _)); exact BK302.out) Try.underlying37 rfl (by kernel_rfl)) rfl ?_
  exact ⟨cq3, cq4, cq1, cq8⟩

/-! ### spec_l5Log: function 89 -/
def spec_l5Log.l0 : Nat → List (S72) → Int → Int → List Int → Int → Int → Option ((List (S72)) × Int × Int)
  | 0, _, _, _, _, _, _ => none
  | k + 1, x3, x4, x5, x1000, x1001, x1002 => if x5 > 0 then ((spec_l1Once.f x1000 x1001 x1002 3).bind fun bt354 => (if bt354.1 = true then ((spec_l3Op.f x1000 bt354.2.1 bt354.2.2).bind fun bt357 => (if x3.length < 2513169434916 then (spec_l5Log.l0 k (x3 ++ [(⟨wrap64 (x4 + 1), (⟨bt357.1, bt357.2.1, bt357.2.2.1, bt357.2.2.2.1, bt357.2.2.2.2.1, bt357.2.2.2.2.2.1⟩ : S37)⟩ : S72)]) (wrap64 (x4 + 1)) (wrap64 (x5 - 1)) x1000 bt357.2.2.2.2.2.2.1 bt357.2.2.2.2.2.2.2) else (none))) else ((spec_l3Op.f x1000 bt354.2.1 bt354.2.2).bind fun bt369 => (if x3.length < 2513169434916 then (spec_l5Log.l0 k (x3 ++ [(⟨x4, (⟨bt369.1, bt369.2.1, bt369.2.2.1, bt369.2.2.2.1, bt369.2.2.2.2.1, bt369.2.2.2.2.2.1⟩ : S37)⟩ : S72)]) x4 (wrap64 (x5 - 1)) x1000 bt369.2.2.2.2.2.2.1 bt369.2.2.2.2.2.2.2) else (none))))) else (some (x3, x1001, x1002))
def spec_l5Log.f (k : Nat) (s0_0 : List Int) (s0_1 : Int) (s0_2 : Int) : Option ((List (S72)) × Int × Int) := (spec_l1Below.f s0_0 s0_1 s0_2 7).bind fun bt351 => (spec_l5Log.l0 k (([] : List (S72))) 1 bt351.1 s0_0 bt351.2.1 bt351.2.2)
theorem spec_l5Log.mono_l : ∀ k, (∀ y0 y1 y2 y3 y4 y5, uI (spec_l5Log.l0 k y0 y1 y2 y3 y4 y5) (spec_l5Log.l0 (k + 1) y0 y1 y2 y3 y4 y5))
  | 0 => fun _ _ _ _ _ _ r h => by simp [spec_l5Log.l0] at h
  | k + 1 => by
    have ih0 := spec_l5Log.mono_l k
    intro y0 y1 y2 y3 y4 y5
    unfold spec_l5Log.l0
    repeat' first
    | (with_reducible exact ih0 _ _ _ _ _ _)
    | (with_reducible exact uI.refl _)
    | (with_reducible exact uI.none _)
    | (with_reducible refine uI.ite ?_ ?_)
    | (with_reducible refine uI.bind ?_ (fun _ => ?_))
    | exact ih0 _ _ _ _ _ _
    | exact uI.none _
    | refine uI.ite ?_ ?_
    | refine uI.bind ?_ (fun _ => ?_)
theorem spec_l5Log.mono : ∀ a0 a1 a2 k, uI (spec_l5Log.f k a0 a1 a2) (spec_l5Log.f (k + 1) a0 a1 a2) := by
  intro a0 a1 a2 k
  have ih0 := spec_l5Log.mono_l k
  unfold spec_l5Log.f
  repeat' first
      | (with_reducible exact ih0 _ _ _ _ _ _)
      | (with_reducible exact uI.refl _)
      | (with_reducible exact uI.none _)
      | (with_reducible refine uI.ite ?_ ?_)
      | (with_reducible refine uI.bind ?_ (fun _ => ?_))
      | exact ih0 _ _ _ _ _ _
      | exact uI.none _
      | refine uI.ite ?_ ?_
      | refine uI.bind ?_ (fun _ => ?_)
set_option maxHeartbeats 8000000 in
set_option maxRecDepth 100000 in
theorem spec_l5Log.calls (k : Nat) (g : Nat) (s0_0 : List Int) (s0_1 : Int) (s0_2 : Int) (r1 : List (S72)) (r2 : Int) (r3 : Int) (w0 w : World) (hI : IsS112 w0 w g s0_0 s0_1 s0_2) (hB : Below w0.heap.size w0 w) (h : spec_l5Log.f k s0_0 s0_1 s0_2 = some (r1, r2, r3)) :
    Calls Try.prog 89 #[.pointer (some ⟨g, 0, none⟩)] w fun e w' => ∃ v0_ : Value, e = .returned (v0_) ∧ Kd.R k72 72 w' w.heap.size (fun _ => True) v0_ r1 ∧ IsS112 w0 w' g s0_0 r2 r3 ∧ Below w0.heap.size w0 w' ∧ vP w w' g none := by
  have hu37 := Try.underlying37
  have hu72 := Try.underlying72
  have HI0 := Aside0.mk hI
  have HK := Aside0.mk (vP.refl w g none)
  have HL := Aside0.mk hB.size
  clear hI
  have HW0 := Aside0.mk hB.size
  have HB := Aside0.mk hB
  clear hB
  have H : ((spec_l1Below.f s0_0 s0_1 s0_2 7).bind fun bt351 => (spec_l5Log.l0 k (([] : List (S72))) 1 bt351.1 s0_0 bt351.2.1 bt351.2.2)) = some (r1, r2, r3) := h
  clear h
  obtain ⟨y348, hy348⟩ : ∃ y_ : List (S72), y_ = (([] : List (S72))) := ⟨_, rfl⟩
  replace H : ((spec_l1Below.f s0_0 s0_1 s0_2 7).bind fun bt351 => (spec_l5Log.l0 k y348 1 bt351.1 s0_0 bt351.2.1 bt351.2.2)) = some (r1, r2, r3) := rpl hy348 H
  have Ny348 := Aside0.mk hy348
  clear hy348
  replace H := Option.bind_eq_some_iff.mp H
  obtain ⟨⟨t351, t352, t353⟩, A20, H⟩ := H
  try dsimp only at H
  have A2 := Aside0.mk A20
  clear A20
  have H' := Aside0.mk H
  clear H
  go_enter Try.func89, Try.ntmps89
  go_wp2_with (first | ((with_reducible refine uJ (N := 7) rfl ?_); refine Kd.R_lit k72 _ 72 ?hg (N := 7) ?hd (xs := ([] : List (S72))) (inner := []) (ok := fun _ => True) (okp := fun _ => True) ?hr ?hp (fun _ hk => hk) trivial (Below.refl _ _) (Nat.le_refl _) (by simp) ?_; (case hd => rfl); (case hg => rfl); (case hr => first | (go_simp; done) | (go_simp; rfl)); (case hp => exact (vN.none _ _)); intro v349 w3 ho4 hb hg_ hnew_; clear hg_ hnew_; (first | rw [← Ny348.out] at ho4 | (simp only [Int.reduceToNat] at ho4; rw [← Ny348.out] at ho4)); have HO350 := Aside0.mk (Kd.uS ho4 (keep_size (w := w) (g := g) (row := none) cq14)); replace HI0 := Aside0.mk (IsS112.below cq2 hb); replace HK := vJ HK (vP.of_below hb g none); replace HB := tBel1 HB hb; clear hb ho4) | ((with_reducible refine uF (f := 74) rfl ?_); refine uX (some 9) Try.func74 #[.pointer (some ⟨g, 0, none⟩), .int .i64 7] ?_; (with_reducible refine (spec_l1Below.calls g s0_0 s0_1 s0_2 7 t351 t352 t353 w0 _ ?side1 ?side2 A2.out).mono ?_); (case side1 => exact cq2); (case side2 => exact cq5); rintro e w5 ⟨rfl, hi, hb, hk⟩; refine ⟨_, rfl, ?_⟩; replace HO350 := Aside0.mk (Kd.uN (Kd.R_keep (IsS112.apart (show IsS112 w0 _ g s0_0 s0_1 s0_2 from by repeat (first | (with_reducible first | exact HI0.out | apply IsS112.alloc | apply IsS112.drewN | apply IsS112.drew | apply IsS112.set_1 | apply IsS112.set_2) | exact HI0.out)) (uZ HO350.out) (by decide)) hk (fun _ h => h.2)) (fun _ h => h.1)); replace HK := vJ HK hk; replace HB := Aside0.mk (hb); replace HI0 := Aside0.mk (hi); (try clear hb); (try clear hk); (try clear hi)))
  go_loopg [3, 4, 5] k (fun kq v3 v4 v5 w' => ∃ (x3_1 : List (S72)) (x4_1 : Int) (x5_1 : Int) (x1001_1 : Int) (x1002_1 : Int), v4 = .int .i64 x4_1 ∧ v5 = .int .i64 x5_1 ∧ Aside0 (spec_l5Log.l0 kq x3_1 x4_1 x5_1 s0_0 x1001_1 x1002_1 = some (r1, r2, r3)) ∧ Aside0 (kq ≤ k) ∧ Aside0 (Kd.R k72 72 w' w.heap.size (fun _ => True) v3 x3_1) ∧ Aside0 (IsS112 w0 w' g s0_0 x1001_1 x1002_1) ∧ Aside0 (vP w w' g none) ∧ Aside0 (Below w0.heap.size w0 w'))
  case atStart => exact ⟨(y348), (1), (t351), (t352), (t353), cq15, cq15, H', ⟨Nat.le_refl _⟩, ⟨by (with_reducible repeat (first | apply Kd.uQ | apply Kd.uR | apply Kd.uV)); exact HO350.out⟩, ⟨cq2⟩, ⟨cq14⟩, ⟨cq5⟩⟩
  case round =>
    clear H'
    obtain ⟨x3_1, x4_1, x5_1, x1001_1, x1002_1, rfl, rfl, HA, HK1, HO_3, HI0, HK, HB⟩ := hrel
    cases gk with
    | zero => exact absurd HA.out (by simp [spec_l5Log.l0])
    | succ k1 =>
      have H := HA.out
      clear HA
      simp only [spec_l5Log.l0] at H
      by_cases c6 : x5_1 > 0
      rotate_left
      · rw [if_neg c6] at H
        have c6b0 := decide_eq_false c6
        clear c6
        simp only [Option.some.injEq, Prod.mk.injEq] at H
        obtain ⟨rfl, rfl, rfl⟩ := H
        go_wp2
        go_ret
        exact ⟨_, cq3, by (with_reducible repeat (first | apply Kd.uQ | apply Kd.uR | apply Kd.uV)); exact HO_3.out, cq2, cq5, cq14⟩
      rw [if_pos c6] at H
      have c6b0 := decide_eq_true c6
      clear c6
      replace H := Option.bind_eq_some_iff.mp H
      obtain ⟨⟨t354, t355, t356⟩, A70, H⟩ := H
      try dsimp only at H
      have A7 := Aside0.mk A70
      clear A70
      by_cases c8 : t354 = true
      rotate_left
      · replace c8 := Bool.eq_false_iff.mpr c8
        subst c8
        try rw [if_neg (show ¬ (false = true) by decide)] at H
        replace H := Option.bind_eq_some_iff.mp H
        obtain ⟨⟨t369, t370, t371, t372, t373, t374, t375, t376⟩, A170, H⟩ := H
        try dsimp only at H
        have A17 := Aside0.mk A170
        clear A170
        obtain ⟨LMc18, H⟩ := ifL H
        obtain ⟨y377, hy377⟩ : ∃ y_ : List (S72), y_ = (x3_1 ++ [(⟨x4_1, (⟨t369, t370, t371, t372, t373, t374⟩ : S37)⟩ : S72)]) := ⟨_, rfl⟩
        replace H : (spec_l5Log.l0 k1 y377 x4_1 (wrap64 (x5_1 - 1)) s0_0 t375 t376) = some (r1, r2, r3) := rpl hy377 H
        have Ny377 := Aside0.mk hy377
        clear hy377
        have H' := Aside0.mk H
        clear H
        go_wp2_with (first | ((with_reducible refine uF (f := 88) rfl ?_); refine uX (some 15) Try.func88 #[.pointer (some ⟨g, 0, none⟩), .int .i64 3] ?_; (with_reducible refine (spec_l1Once.calls g s0_0 x1001_1 x1002_1 3 false t355 t356 w0 _ ?side1 ?side2 A7.out).mono ?_); (case side1 => exact cq2); (case side2 => exact cq5); rintro e w19 ⟨rfl, hi, hb, hk⟩; refine ⟨_, rfl, ?_⟩; replace HO_3 := Aside0.mk (Kd.uN (Kd.R_keep (IsS112.apart (show IsS112 w0 _ g s0_0 x1001_1 x1002_1 from by repeat (first | (with_reducible first | exact HI0.out | apply IsS112.alloc | apply IsS112.drewN | apply IsS112.drew | apply IsS112.set_1 | apply IsS112.set_2) | exact HI0.out)) (uZ HO_3.out) (by decide)) hk (fun _ h => h.2)) (fun _ h => h.1)); replace HK := vJ HK hk; replace HB := Aside0.mk (hb); replace HI0 := Aside0.mk (hi); (try clear hb); (try clear hk); (try clear hi)) | ((with_reducible refine uF (f := 85) rfl ?_); refine uX (some 19) Try.func85 #[.pointer (some ⟨g, 0, none⟩)] ?_; (with_reducible refine (spec_l3Op.calls g s0_0 t355 t356 t369 t370 t371 t372 t373 t374 t375 t376 w0 _ ?side1 ?side2 A17.out).mono ?_); (case side1 => exact cq2); (case side2 => exact cq5); rintro e w20 ⟨rfl, hi, hb, hk⟩; refine ⟨_, rfl, ?_⟩; replace HO_3 := Aside0.mk (Kd.uN (Kd.R_keep (IsS112.apart (show IsS112 w0 _ g s0_0 t355 t356 from by repeat (first | (with_reducible first | exact HI0.out | apply IsS112.alloc | apply IsS112.drewN | apply IsS112.drew | apply IsS112.set_1 | apply IsS112.set_2) | exact HI0.out)) (uZ HO_3.out) (by decide)) hk (fun _ h => h.2)) (fun _ h => h.1)); replace HK := vJ HK hk; replace HB := Aside0.mk (hb); replace HI0 := Aside0.mk (hi); (try clear hb); (try clear hk); (try clear hi)) | ((with_reducible refine uJ (N := 6) rfl ?_); refine bxe 6 #[.int .i64 0, .int .i64 0, .int .i64 0, .int .i64 0, .int .i64 0, .int .i64 0] 37 ?_; intro gb365 hg w21 hbox hb; have BK365 := Aside0.mk (hbox); have GW365 := tKGe HK hg; have GE365 := tKW HW0 HK hg; have NB0_365 := Aside0.mk ((by rw [hg]; exact Nat.ne_of_lt (IsS112.lt (show IsS112 w0 _ g s0_0 t375 t376 from by repeat (first | (with_reducible first | exact HI0.out | apply IsS112.alloc | apply IsS112.drewN | apply IsS112.drew | apply IsS112.set_1 | apply IsS112.set_2) | exact HI0.out))) : g ≠ gb365)); have NB365_0 := Aside0.mk ((by rw [hg]; exact Nat.ne_of_gt (IsS112.lt (show IsS112 w0 _ g s0_0 t375 t376 from by repeat (first | (with_reducible first | exact HI0.out | apply IsS112.alloc | apply IsS112.drewN | apply IsS112.drew | apply IsS112.set_1 | apply IsS112.set_2) | exact HI0.out))) : gb365 ≠ g)); replace HO_3 := Kd.tR HO_3 hb; replace HI0 := Aside0.mk (IsS112.below cq2 hb); replace HK := vJ HK (vP.of_below hb g none); replace HB := tBel1 HB hb; clear hb hbox hg; have hnb22 := NB365_0.out; have hnc22 := NB0_365.out; obtain ⟨hcz23_0, hcz23_1, hcz23_2, hcz23_3, hcz23_4, hcz23_5, hfz23_0, hfz23_1, hfz23_2, hfz23_3, hfz23_4, hfz23_5⟩ := cz6 BK365) | ((with_reducible refine gate_builtin (b := .append) (xs := #[.tmp 20, .tmp 24]) rfl ?_); at_builtin; refine Kd.R_append k72 w.heap.size rfl (.tmp 20) (.tmp 24) 58 72 (.agg #[(.int .i64 0), (.int .i64 0), (.int .i64 0), (.int .i64 0), (.int .i64 0), (.int .i64 0), (.int .i64 0)]) 56 rfl Try.underlying58 info72 rfl (by decide) (by omega) u3 x3_1 (⟨x4_1, (⟨t369, t370, t371, t372, t373, t374⟩ : S37)⟩ : S72) [.int .i64 x4_1, .int .i64 t369, .int .i64 t370, .int .i64 t371, .int .i64 t372, .int .i64 t373, .int .i64 t374] (fun _ => True) (fun _ => False) rfl (by first | (go_simp; done) | (go_simp; rfl)) ?aP (fun _ hk => hk.elim) ?aF ?aO (Below.refl _ _) ?aS ?aL ?_; (case aP => exact k72_mkM _ _ _ (⟨x4_1, (⟨t369, t370, t371, t372, t373, t374⟩ : S37)⟩ : S72)); (case aF => exact (fun _ _ => trivial)); (case aO => exact (by (with_reducible repeat (first | apply Kd.uQ | apply Kd.uR | apply Kd.uV)); exact Kd.uN (Kd.uM (p := ⟨gb365, 5, none⟩) (Kd.uM (p := ⟨gb365, 4, none⟩) (Kd.uM (p := ⟨gb365, 3, none⟩) (Kd.uM (p := ⟨gb365, 2, none⟩) (Kd.uM (p := ⟨gb365, 1, none⟩) (Kd.uM (p := ⟨gb365, 0, none⟩) (Kd.vG HO_3.out BK365.out (by decide)) (fun _ hk => hk.2) (.int .i64 t369)) (fun _ hk => hk.2) (.int .i64 t370)) (fun _ hk => hk.2) (.int .i64 t371)) (fun _ hk => hk.2) (.int .i64 t372)) (fun _ hk => hk.2) (.int .i64 t373)) (fun _ hk => hk.2) (.int .i64 t374)) (fun _ hk => trivial))); (case aS => exact cq65); (case aL => have := LMc18.out; omega); intro v378 w24 ho hb hg hat; rw [← Ny377.out] at ho; have n0_ := IsS112.tgr HI0 hg (IsS112.own_ne HI0.out HO_3.out (by decide)); have n1_ := tGrP BK365 #[.int .i64 t369, .int .i64 t370, .int .i64 t371, .int .i64 t372, .int .i64 t373, .int .i64 t374] hg (Kd.R_ne HO_3.out BK365.out (by decide)); have n2_ := Aside0.mk (below_weaken cq1 HL.out hb); have n3_ := Aside0.mk (vP.trans cq8 (vP.of_grown hg g) (Kd.R_base2 HO_3.out)); have n4_ := Aside0.mk (ho); clear HI0; clear BK365; clear HB; clear HK; clear HO_3; have HI0 := n0_; have BK365 := n1_; have HB := n2_; have HK := n3_; have HO379 := n4_; clear n0_ n1_ n2_ n3_ n4_; clear ho hb hg hat))
        go_roundg k1
        case measure => have := HK1.out; omega
        case rel => exact ⟨(y377), (x4_1), (wrap64 (x5_1 - 1)), (t375), (t376), cq15, cq15, H', ⟨by have := HK1.out; omega⟩, ⟨by (with_reducible repeat (first | apply Kd.uQ | apply Kd.uR | apply Kd.uV)); exact HO379.out⟩, ⟨by repeat (first | (with_reducible first | exact HI0.out | apply IsS112.alloc | apply IsS112.drewN | apply IsS112.drew | apply IsS112.set_1 | apply IsS112.set_2 | refine IsS112.far ?_ NB0_365.out _) | exact HI0.out)⟩, ⟨cq8⟩, ⟨cq1⟩⟩
      subst c8
      try rw [if_pos rfl] at H
      replace H := Option.bind_eq_some_iff.mp H
      obtain ⟨⟨t357, t358, t359, t360, t361, t362, t363, t364⟩, A90, H⟩ := H
      try dsimp only at H
      have A9 := Aside0.mk A90
      clear A90
      obtain ⟨LMc10, H⟩ := ifL H
      obtain ⟨y366, hy366⟩ : ∃ y_ : List (S72), y_ = (x3_1 ++ [(⟨wrap64 (x4_1 + 1), (⟨t357, t358, t359, t360, t361, t362⟩ : S37)⟩ : S72)]) := ⟨_, rfl⟩
      replace H : (spec_l5Log.l0 k1 y366 (wrap64 (x4_1 + 1)) (wrap64 (x5_1 - 1)) s0_0 t363 t364) = some (r1, r2, r3) := rpl hy366 H
      have Ny366 := Aside0.mk hy366
      clear hy366
      have H' := Aside0.mk H
      clear H
      go_wp2_with (first | ((with_reducible refine uF (f := 88) rfl ?_); refine uX (some 15) Try.func88 #[.pointer (some ⟨g, 0, none⟩), .int .i64 3] ?_; (with_reducible refine (spec_l1Once.calls g s0_0 x1001_1 x1002_1 3 true t355 t356 w0 _ ?side1 ?side2 A7.out).mono ?_); (case side1 => exact cq2); (case side2 => exact cq5); rintro e w11 ⟨rfl, hi, hb, hk⟩; refine ⟨_, rfl, ?_⟩; replace HO_3 := Aside0.mk (Kd.uN (Kd.R_keep (IsS112.apart (show IsS112 w0 _ g s0_0 x1001_1 x1002_1 from by repeat (first | (with_reducible first | exact HI0.out | apply IsS112.alloc | apply IsS112.drewN | apply IsS112.drew | apply IsS112.set_1 | apply IsS112.set_2) | exact HI0.out)) (uZ HO_3.out) (by decide)) hk (fun _ h => h.2)) (fun _ h => h.1)); replace HK := vJ HK hk; replace HB := Aside0.mk (hb); replace HI0 := Aside0.mk (hi); (try clear hb); (try clear hk); (try clear hi)) | ((with_reducible refine uF (f := 85) rfl ?_); refine uX (some 19) Try.func85 #[.pointer (some ⟨g, 0, none⟩)] ?_; (with_reducible refine (spec_l3Op.calls g s0_0 t355 t356 t357 t358 t359 t360 t361 t362 t363 t364 w0 _ ?side1 ?side2 A9.out).mono ?_); (case side1 => exact cq2); (case side2 => exact cq5); rintro e w12 ⟨rfl, hi, hb, hk⟩; refine ⟨_, rfl, ?_⟩; replace HO_3 := Aside0.mk (Kd.uN (Kd.R_keep (IsS112.apart (show IsS112 w0 _ g s0_0 t355 t356 from by repeat (first | (with_reducible first | exact HI0.out | apply IsS112.alloc | apply IsS112.drewN | apply IsS112.drew | apply IsS112.set_1 | apply IsS112.set_2) | exact HI0.out)) (uZ HO_3.out) (by decide)) hk (fun _ h => h.2)) (fun _ h => h.1)); replace HK := vJ HK hk; replace HB := Aside0.mk (hb); replace HI0 := Aside0.mk (hi); (try clear hb); (try clear hk); (try clear hi)) | ((with_reducible refine uJ (N := 6) rfl ?_); refine bxe 6 #[.int .i64 0, .int .i64 0, .int .i64 0, .int .i64 0, .int .i64 0, .int .i64 0] 37 ?_; intro gb365 hg w13 hbox hb; have BK365 := Aside0.mk (hbox); have GW365 := tKGe HK hg; have GE365 := tKW HW0 HK hg; have NB0_365 := Aside0.mk ((by rw [hg]; exact Nat.ne_of_lt (IsS112.lt (show IsS112 w0 _ g s0_0 t363 t364 from by repeat (first | (with_reducible first | exact HI0.out | apply IsS112.alloc | apply IsS112.drewN | apply IsS112.drew | apply IsS112.set_1 | apply IsS112.set_2) | exact HI0.out))) : g ≠ gb365)); have NB365_0 := Aside0.mk ((by rw [hg]; exact Nat.ne_of_gt (IsS112.lt (show IsS112 w0 _ g s0_0 t363 t364 from by repeat (first | (with_reducible first | exact HI0.out | apply IsS112.alloc | apply IsS112.drewN | apply IsS112.drew | apply IsS112.set_1 | apply IsS112.set_2) | exact HI0.out))) : gb365 ≠ g)); replace HO_3 := Kd.tR HO_3 hb; replace HI0 := Aside0.mk (IsS112.below cq2 hb); replace HK := vJ HK (vP.of_below hb g none); replace HB := tBel1 HB hb; clear hb hbox hg; have hnb14 := NB365_0.out; have hnc14 := NB0_365.out; obtain ⟨hcz15_0, hcz15_1, hcz15_2, hcz15_3, hcz15_4, hcz15_5, hfz15_0, hfz15_1, hfz15_2, hfz15_3, hfz15_4, hfz15_5⟩ := cz6 BK365) | ((with_reducible refine gate_builtin (b := .append) (xs := #[.tmp 20, .tmp 24]) rfl ?_); at_builtin; refine Kd.R_append k72 w.heap.size rfl (.tmp 20) (.tmp 24) 58 72 (.agg #[(.int .i64 0), (.int .i64 0), (.int .i64 0), (.int .i64 0), (.int .i64 0), (.int .i64 0), (.int .i64 0)]) 56 rfl Try.underlying58 info72 rfl (by decide) (by omega) u3 x3_1 (⟨wrap64 (x4_1 + 1), (⟨t357, t358, t359, t360, t361, t362⟩ : S37)⟩ : S72) [.int .i64 (wrap64 (x4_1 + 1)), .int .i64 t357, .int .i64 t358, .int .i64 t359, .int .i64 t360, .int .i64 t361, .int .i64 t362] (fun _ => True) (fun _ => False) rfl (by first | (go_simp; done) | (go_simp; rfl)) ?aP (fun _ hk => hk.elim) ?aF ?aO (Below.refl _ _) ?aS ?aL ?_; (case aP => exact k72_mkM _ _ _ (⟨wrap64 (x4_1 + 1), (⟨t357, t358, t359, t360, t361, t362⟩ : S37)⟩ : S72)); (case aF => exact (fun _ _ => trivial)); (case aO => exact (by (with_reducible repeat (first | apply Kd.uQ | apply Kd.uR | apply Kd.uV)); exact Kd.uN (Kd.uM (p := ⟨gb365, 5, none⟩) (Kd.uM (p := ⟨gb365, 4, none⟩) (Kd.uM (p := ⟨gb365, 3, none⟩) (Kd.uM (p := ⟨gb365, 2, none⟩) (Kd.uM (p := ⟨gb365, 1, none⟩) (Kd.uM (p := ⟨gb365, 0, none⟩) (Kd.vG HO_3.out BK365.out (by decide)) (fun _ hk => hk.2) (.int .i64 t357)) (fun _ hk => hk.2) (.int .i64 t358)) (fun _ hk => hk.2) (.int .i64 t359)) (fun _ hk => hk.2) (.int .i64 t360)) (fun _ hk => hk.2) (.int .i64 t361)) (fun _ hk => hk.2) (.int .i64 t362)) (fun _ hk => trivial))); (case aS => exact cq65); (case aL => have := LMc10.out; omega); intro v367 w16 ho hb hg hat; rw [← Ny366.out] at ho; have n0_ := IsS112.tgr HI0 hg (IsS112.own_ne HI0.out HO_3.out (by decide)); have n1_ := tGrP BK365 #[.int .i64 t357, .int .i64 t358, .int .i64 t359, .int .i64 t360, .int .i64 t361, .int .i64 t362] hg (Kd.R_ne HO_3.out BK365.out (by decide)); have n2_ := Aside0.mk (below_weaken cq1 HL.out hb); have n3_ := Aside0.mk (vP.trans cq8 (vP.of_grown hg g) (Kd.R_base2 HO_3.out)); have n4_ := Aside0.mk (ho); clear HI0; clear BK365; clear HB; clear HK; clear HO_3; have HI0 := n0_; have BK365 := n1_; have HB := n2_; have HK := n3_; have HO368 := n4_; clear n0_ n1_ n2_ n3_ n4_; clear ho hb hg hat))
      go_roundg k1
      case measure => have := HK1.out; omega
      case rel => exact ⟨(y366), (wrap64 (x4_1 + 1)), (wrap64 (x5_1 - 1)), (t363), (t364), cq15, cq15, H', ⟨by have := HK1.out; omega⟩, ⟨by (with_reducible repeat (first | apply Kd.uQ | apply Kd.uR | apply Kd.uV)); exact HO368.out⟩, ⟨by repeat (first | (with_reducible first | exact HI0.out | apply IsS112.alloc | apply IsS112.drewN | apply IsS112.drew | apply IsS112.set_1 | apply IsS112.set_2 | refine IsS112.far ?_ NB0_365.out _) | exact HI0.out)⟩, ⟨cq8⟩, ⟨cq1⟩⟩

end Go.Proofs.Ytcikahnmiiichaa.N
