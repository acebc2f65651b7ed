/- Go functions as Lean functions, and the proof that the code comes to them: written by a program of this session out of the translation. -/
import Derived.Test.YtcikahnmiiichaaA0
import Derived.Test.YtcikahnmiiichaaA2
import Derived.Test.YtcikahnmiiichaaA3
import Derived.Test.YtcikahnmiiichaaA4
namespace Go.Proofs.Ytcikahnmiiichaa.A
open Go.RowKit Go.Proofs.YtcikahnmiiichaaW.PrintWords Go.Proofs.YtcikahnmiiichaaW.PrintLast Go.Proofs.YtcikahnmiiichaaW.PrintMore
attribute [local go_sem] max2_int min2_int max_two min_two max_three min_three max_four min_four   -- for this text's walks alone
set_option linter.unusedVariables false
set_option linter.unusedSimpArgs false

/-! ### spec_ApplyOp: function 9 -/
abbrev Bx_ := Nat × Array Value × Nat
/-- Variables in memory, by place; two rows of the call's own; nothing else that stood is touched. -/
structure Fr (w W : World) (bs : List Bx_) (vo vs : Value) (xo : List Int) (xs : List S49) : Prop where
  below : Below w.heap.size w W
  ge : ∀ p ∈ bs, w.heap.size ≤ p.1
  nd : (bs.map (·.1)).Nodup
  box : ∀ p ∈ bs, W.heap[p.1]? = some (.cells p.2.1 p.2.2 (0, 0))
  ro : Kd.R (Kd.int .i64) 3 W w.heap.size (fun k => k ∉ bs.map (·.1)) vo xo
  rs : Kd.R k49 49 W w.heap.size (fun k => k ∉ bs.map (·.1)) vs xs
section
variable {w W W1 : World} {bs : List Bx_} {vo vs : Value} {xo : List Int} {xs : List S49}
theorem Fr.start (w : World) : Fr w w [] (.slice none 0 0) (.slice none 0 0) [] [] := ⟨Below.refl _ _, by simp, by simp, by simp, Kd.R_nil _ _ _ _ _, Kd.R_nil _ _ _ _ _⟩
theorem Fr.lt (h : Fr w W bs vo vs xo xs) : ∀ k ∈ bs.map (·.1), k < W.heap.size := fun k hk => by
  obtain ⟨p, hp, rfl⟩ := List.mem_map.1 hk
  exact blk_lt (h.box p hp)
theorem Fr.step (h : Fr w W bs vo vs xo xs) (hb : Below W.heap.size W W1) : Fr w W1 bs vo vs xo xs :=
  ⟨below_step h.below hb, h.ge, h.nd, fun p hp => blk_below (h.box p hp) hb, Kd.R_below h.ro hb, Kd.R_below h.rs hb⟩
theorem Fr.drew (h : Fr w W bs vo vs xo xs) : Fr w W.drew bs vo vs xo xs := h.step (below_drew1 (Below.refl _ _))
theorem Fr.new (h : Fr w W bs vo vs xo xs) {g : Nat} {cs : Array Value} {t : Nat} (hg : g = W.heap.size) (hc : W1.heap[g]? = some (.cells cs t (0, 0))) (hb : Below W.heap.size W W1) : Fr w W1 (bs ++ [(g, cs, t)]) vo vs xo xs := by
  have hL := h.lt
  refine ⟨below_step h.below hb, fun p hp => ?_, ?_, fun p hp => ?_, ?_, ?_⟩
  · rcases List.mem_append.1 hp with hp | hp
    · exact h.ge p hp
    · obtain rfl := List.mem_singleton.1 hp
      rw [show (g, cs, t).1 = g from rfl, hg]; exact h.below.size
  · rw [List.map_append, List.nodup_append]
    refine ⟨h.nd, by simp, fun a ha b hb' => ?_⟩
    simp at hb'
    have := hL a ha
    omega
  · rcases List.mem_append.1 hp with hp | hp
    · exact blk_below (h.box p hp) hb
    · obtain rfl := List.mem_singleton.1 hp
      exact hc
  · refine Kd.R_below (Kd.R_mono (Kd.R_bound h.ro) (fun k hk => ?_)) hb
    simp only [List.map_append, List.mem_append, List.map_cons, List.map_nil, List.mem_singleton, not_or]
    exact ⟨hk.1, by have := hk.2.2.1; omega⟩
  · refine Kd.R_below (Kd.R_mono (Kd.R_bound h.rs) (fun k hk => ?_)) hb
    simp only [List.map_append, List.mem_append, List.map_cons, List.map_nil, List.mem_singleton, not_or]
    exact ⟨hk.1, by have := hk.2.2.1; omega⟩
/-- A call that gives two rows. -/
theorem Fr.rows (h : Fr w W bs vo vs xo xs) (hb : Below W.heap.size W W1) {v0 v1 : Value} {l0 : List Int} {l1 : List S49}
    (h0 : Kd.R (Kd.int .i64) 3 W1 W.heap.size (fun _ => True) v0 l0) (h1 : Kd.R k49 49 W1 W.heap.size (fun _ => True) v1 l1) : Fr w W1 bs v0 v1 l0 l1 := by
  have hL := h.lt
  refine ⟨below_step h.below hb, h.ge, h.nd, fun p hp => blk_below (h.box p hp) hb, ?_, ?_⟩
  · exact Kd.R_lower (Kd.R_mono (Kd.R_bound h0) (fun k hk hm => by have := hL k hm; have := hk.2.1; omega)) h.below.size
  · exact Kd.R_lower (Kd.R_mono (Kd.R_bound h1) (fun k hk hm => by have := hL k hm; have := hk.2.1; omega)) h.below.size
theorem Fr.at_ (h : Fr w W bs vo vs xo xs) (i : Nat) {p : Bx_} (hi : bs[i]? = some p) : W.heap[p.1]? = some (.cells p.2.1 p.2.2 (0, 0)) := h.box p (List.mem_of_getElem? hi)
theorem Fr.cell (h : Fr w W bs vo vs xo xs) (i : Nat) {p : Bx_} (hi : bs[i]? = some p) (j : Nat) : W.cell? ⟨p.1, j, none⟩ = p.2.1[j]? := blk_cell (h.at_ i hi) j
theorem Fr.fro (h : Fr w W bs vo vs xo xs) (i : Nat) {p : Bx_} (hi : bs[i]? = some p) (j : Nat) : W.frozen? ⟨p.1, j, none⟩ = false := blk_frozen (h.at_ i hi) j
theorem Fr.other (h : Fr w W bs vo vs xo xs) {i j : Nat} {p q : Bx_} (hi : bs[i]? = some p) (hj : bs[j]? = some q) (hne : i ≠ j) : p.1 ≠ q.1 := fun e => by
  have h1 : (bs.map (·.1))[i]? = some p.1 := by rw [List.getElem?_map, hi]; rfl
  have h2 : (bs.map (·.1))[j]? = some q.1 := by rw [List.getElem?_map, hj]; rfl
  obtain ⟨l1, e1⟩ := List.getElem?_eq_some_iff.1 h1
  obtain ⟨l2, e2⟩ := List.getElem?_eq_some_iff.1 h2
  have := (List.getElem_inj (h₀ := l1) (h₁ := l2) h.nd).1 (by rw [e1, e2, e])
  omega
/-- A cell of a variable is written. -/
theorem Fr.put (h : Fr w W bs vo vs xo xs) (i : Nat) {p : Bx_} (hi : bs[i]? = some p) (j : Nat) (u : Value) :
    Fr w (W.setCell ⟨p.1, j, none⟩ u) (bs.set i (p.1, p.2.1.setIfInBounds j u, p.2.2)) vo vs xo xs := by
  obtain ⟨hl, hp⟩ := List.getElem?_eq_some_iff.1 hi
  have hm : (bs.set i (p.1, p.2.1.setIfInBounds j u, p.2.2)).map (·.1) = bs.map (·.1) := by
    rw [List.map_set]
    apply List.ext_getElem?
    intro q
    rw [List.getElem?_set]
    split
    · rename_i hq; subst hq
      simp [hl, hp]
    · rfl
  have hpm : p.1 ∈ bs.map (·.1) := List.mem_map.2 ⟨p, List.mem_of_getElem? hi, rfl⟩
  have hb := h.below.setCell (p := ⟨p.1, j, none⟩) (h.ge p (List.mem_of_getElem? hi)) u
  refine ⟨hb, fun q hq => ?_, by rw [hm]; exact h.nd, fun q hq => ?_, ?_, ?_⟩
  · rcases List.mem_or_eq_of_mem_set hq with hq | rfl
    · exact h.ge q hq
    · exact h.ge p (List.mem_of_getElem? hi)
  · obtain ⟨n, hn⟩ := List.getElem?_of_mem hq
    rw [List.getElem?_set] at hn
    split at hn
    · rename_i hin; subst hin
      obtain rfl := Option.some.inj hn
      exact blk_set (h.at_ i hi) j u
    · rename_i hin
      exact blk_far (h.at_ n hn) (h.other hn hi (fun e => hin e.symm)) u
  · rw [hm]; exact Kd.R_step h.ro (fun k hk _ => Below.heap_setCell W _ u k (fun e => hk (e ▸ hpm)))
  · rw [hm]; exact Kd.R_step h.rs (fun k hk _ => Below.heap_setCell W _ u k (fun e => hk (e ▸ hpm)))
theorem Fr.put1 (h : Fr w W bs vo vs xo xs) (i : Nat) {p : Bx_} (hi : bs[i]? = some p) (j : Nat) (a : Value) (hw : W1 = W.setCell ⟨p.1, j, none⟩ a) : Fr w W1 (bs.set i (p.1, p.2.1.setIfInBounds j a, p.2.2)) vo vs xo xs := hw ▸ h.put i hi j a
theorem Fr.set_at (i : Nat) {p q : Bx_} (hi : bs[i]? = some p) : (bs.set i q)[i]? = some q := by
  obtain ⟨hl, _⟩ := List.getElem?_eq_some_iff.1 hi
  simp [hl]
theorem Fr.put2 (h : Fr w W bs vo vs xo xs) (i : Nat) {p : Bx_} (hi : bs[i]? = some p) (a b : Value) (hw : W1 = (W.setCell ⟨p.1, 0, none⟩ a).setCell ⟨p.1, 1, none⟩ b) : Fr w W1 (bs.set i (p.1, (p.2.1.setIfInBounds 0 a).setIfInBounds 1 b, p.2.2)) vo vs xo xs := by
  have := (h.put i hi 0 a).put i (Fr.set_at i hi) 1 b
  rw [List.set_set] at this
  exact hw ▸ this
theorem Fr.put4 (h : Fr w W bs vo vs xo xs) (i : Nat) {p : Bx_} (hi : bs[i]? = some p) (a b c d : Value) (hw : W1 = (((W.setCell ⟨p.1, 0, none⟩ a).setCell ⟨p.1, 1, none⟩ b).setCell ⟨p.1, 2, none⟩ c).setCell ⟨p.1, 3, none⟩ d) : Fr w W1 (bs.set i (p.1, (((p.2.1.setIfInBounds 0 a).setIfInBounds 1 b).setIfInBounds 2 c).setIfInBounds 3 d, p.2.2)) vo vs xo xs := by
  have := (((h.put i hi 0 a).put i (Fr.set_at i hi) 1 b).put i (Fr.set_at i (Fr.set_at i hi)) 2 c).put i (Fr.set_at i (Fr.set_at i (Fr.set_at i hi))) 3 d
  rw [List.set_set, List.set_set, List.set_set] at this
  exact hw ▸ this
/-- The rows' blocks are two. -/
theorem Fr.apart (h : Fr w W bs vo vs xo xs) : ∀ k, vo.ownBlock = some k → vs.ownBlock ≠ some k := fun k hk hs => by
  obtain ⟨_, h1⟩ := Kd.R_own h.ro
  obtain ⟨_, h2⟩ := Kd.R_own h.rs
  obtain ⟨_, e1⟩ := own_typed h1 k hk
  obtain ⟨_, e2⟩ := own_typed h2 k hs
  rw [e1] at e2
  injection e2 with e2
  injection e2 with _ e2
  exact absurd e2 (by decide)
/-- An element of the row of numbers is written. -/
theorem Fr.setO {g n c : Nat} (h : Fr w W bs (.slice (some ⟨g, 0, none⟩) n c) vs xo xs) (i : Int) (x : Int) :
    Fr w (W.setCell ⟨g, i.toNat, none⟩ (.int .i64 x)) bs (.slice (some ⟨g, 0, none⟩) n c) vs (xo.set i.toNat x) xs := by
  have hg : g ∉ bs.map (·.1) := h.ro.1 g rfl
  have hgb : w.heap.size ≤ g := by obtain ⟨_, h1⟩ := Kd.R_own h.ro; exact own_base h1 g rfl
  have hs : ∀ k, vs.ownBlock = some k → k ≠ g := fun k hk e => h.apart g rfl (e ▸ hk)
  refine ⟨h.below.setCell hgb _, h.ge, h.nd, fun p hp => blk_far (h.box p hp) (fun e => hg (List.mem_map.2 ⟨p, hp, e⟩)) _, (Kd.R_putg h.ro i x).1, ?_⟩
  have h2 : Kd.R k49 49 W w.heap.size (fun k => k ∉ bs.map (·.1) ∧ k ≠ g) vs xs := Kd.R_mono (Kd.R_tight rfl h.rs) (fun k hk => ⟨h.rs.1 k hk.symm, hs k hk.symm⟩)
  exact Kd.R_mono (Kd.R_step h2 (fun k hk _ => Below.heap_setCell W _ _ k hk.2)) (fun k hk => hk.1)
theorem Fr.setOW {g n c : Nat} (h : Fr w W bs (.slice (some ⟨g, 0, none⟩) n c) vs xo xs) (i : Int) (x : Int) (hw : W1 = W.setCell ⟨g, i.toNat, none⟩ (.int .i64 x)) : Fr w W1 bs (.slice (some ⟨g, 0, none⟩) n c) vs (xo.set i.toNat x) xs := hw ▸ h.setO i x
/-- Something grows that is none of these. -/
theorem Fr.grow (h : Fr w W bs vo vs xo xs) {row : Option Nat} (hg : W.grownBy W1 row) (hr : ∀ k, row = some k → w.heap.size ≤ k ∧ k ∉ bs.map (·.1) ∧ vo.ownBlock ≠ some k ∧ vs.ownBlock ≠ some k) : Fr w W1 bs vo vs xo xs := by
  refine ⟨h.below.grown hg h.below.size (fun k hk => (hr k hk).1), h.ge, h.nd, fun p hp => blk_grown (h.box p hp) hg (fun e => (hr _ e.symm).2.1 (List.mem_map.2 ⟨p, hp, rfl⟩)), ?_, ?_⟩
  · exact Kd.R_mono (Kd.R_step (Kd.R_tight rfl h.ro) (fun k hk hlt => hg.block k hlt (fun e => (hr k e.symm).2.2.1 hk.symm))) (fun k hk => h.ro.1 k hk.symm)
  · exact Kd.R_mono (Kd.R_step (Kd.R_tight rfl h.rs) (fun k hk hlt => hg.block k hlt (fun e => (hr k e.symm).2.2.2 hk.symm))) (fun k hk => h.rs.1 k hk.symm)
end
theorem results_cct {P : Program} {fn : Func} {p q u : Tmp} {ty ty' : TypeId} (h : fn.results = #[.cell p ty, .cell q ty', .tmp u]) (tmps : Array Value) (w : World) (g g' : Nat) (t t' : TypeId) (cs cs' : Array Value) (d d' : TypeDesc)
    (hp : tmps.getD p undef = .pointer (some ⟨g, 0, none⟩)) (hg : w.heap[g]? = some (.cells cs t (0, 0)))
    (hu : P.underlying ty = some d) (hd : (match d with | .struct _ | .array _ _ => true | _ => false) = true) (hi : (P.info? ty).map (·.size) = some cs.size)
    (hp' : tmps.getD q undef = .pointer (some ⟨g', 0, none⟩)) (hg' : w.heap[g']? = some (.cells cs' t' (0, 0)))
    (hu' : P.underlying ty' = some d') (hd' : (match d' with | .struct _ | .array _ _ => true | _ => false) = true) (hi' : (P.info? ty').map (·.size) = some cs'.size) :
    (results fn tmps).run P w = .ok (.tuple #[.agg cs, .agg cs', tmps.getD u undef]) w := by
  have hp1 : tmps[p]?.getD undef = .pointer (some ⟨g, 0, none⟩) := by simpa using hp
  have hp2 : tmps[q]?.getD undef = .pointer (some ⟨g', 0, none⟩) := by simpa using hp'
  simp [results, h, hp1, hp2, asAddr, run_loadVar_row w g t ty cs (0, 0) d hg hu hd hi, run_loadVar_row w g' t' ty' cs' (0, 0) d' hg' hu' hd' hi']
theorem cell_row {W : World} {base : Nat} {ok : Nat → Prop} {g n c : Nat} {xs : List Int} (h : Kd.R (Kd.int .i64) 3 W base ok (.slice (some ⟨g, 0, none⟩) n c) xs) (i : Int) (h0 : 0 ≤ i) (h1 : i < (xs.length : Int)) : W.cell? ⟨g, i.toNat, none⟩ = some (.int .i64 (rd xs i)) := by
  obtain ⟨hn, _, hC⟩ := Kd.R_reads' h
  obtain ⟨ad, e, hx⟩ := Kd.at_int hC i h0 h1
  cases e
  rwa [add_plain] at hx
theorem fro_row {W : World} {base : Nat} {ok : Nat → Prop} {g n c : Nat} {xs : List Int} (h : Kd.R (Kd.int .i64) 3 W base ok (.slice (some ⟨g, 0, none⟩) n c) xs) (i : Int) (h0 : 0 ≤ i) (h1 : i < (xs.length : Int)) : W.frozen? ⟨g, i.toNat, none⟩ = false := by
  obtain ⟨hn, _, hC⟩ := Kd.R_reads' h
  obtain ⟨c, hc, _, _, hf⟩ := Kd.R_elem h (0 : Int) i h0 (by omega)
  have := hf 0
  rwa [show (Kd.int .i64).sz = 1 from rfl, Nat.mul_one, Nat.add_zero] at this
theorem oneD_ {P : Program} {ops : Array Oper} {Q : Exit → Act → World → Prop} {md : Region.Mode} {S : World → Prop} {ds : List Nat} {i : Nat} {N : Option Tmp} {oi : Oper} {fuel : Nat} {l : Array Bool} {a : Act} {w : World} (l' : Array Bool) (hi : ops[i]? = some oi) (hN : oi.dst = N) (hc : readyB md ops l l' i = true) (hd : i ∈ ds)
    (h : ∀ K : Act → World → Prop, Shut (∀ a' w', wpAnyLast P md ops Q S ds fuel l' a' w' → K a' w') → if Region.wanted oi (yielded ops a.tmps) = true then Oper.wp P oi a w K Q else K (a.put N undef) w) :
    wpAnyLast P md ops Q S ds (fuel + 1) l a w := by
  subst hN
  simp only [readyB, Bool.and_eq_true, beq_iff_eq] at hc
  obtain ⟨h1, h2⟩ := hc
  subst h2
  refine wpAnyLast_all h1 (by simp) (fun j hj => ?_)
  obtain rfl := List.mem_singleton.1 hj
  exact wpOp_step hi (fun K' hK => h K' (fun a w hW => hK a w ⟨fun hn => absurd hd hn, hW⟩))
theorem Fr.drewN {w W : World} {bs : List Bx_} {vo vs : Value} {xo : List Int} {xs : List S49} (h : Fr w W bs vo vs xo xs) (n : Nat) : Fr w (W.drewN n) bs vo vs xo xs := h.step (pw_below_drewN (Below.refl _ _) n)
theorem Fr.ltO {w W : World} {bs : List Bx_} {vo vs : Value} {xo : List Int} {xs : List S49} (h : Fr w W bs vo vs xo xs) : ∀ k, vo.ownBlock = some k → k < W.heap.size := fun k hk => by obtain ⟨_, h1⟩ := Kd.R_own h.ro; exact own_lt h1 k hk
theorem Fr.ltS {w W : World} {bs : List Bx_} {vo vs : Value} {xo : List Int} {xs : List S49} (h : Fr w W bs vo vs xo xs) : ∀ k, vs.ownBlock = some k → k < W.heap.size := fun k hk => by obtain ⟨_, h1⟩ := Kd.R_own h.rs; exact own_lt h1 k hk
/-- What a row is apart from. -/
def okG (bs : List Bx_) (vo vs t : Value) (k : Nat) : Prop := k ∉ bs.map (·.1) ∧ vo.ownBlock ≠ some k ∧ vs.ownBlock ≠ some k ∧ t.ownBlock ≠ some k
/-- Two rows more, apart from all. -/
structure Gr (w W : World) (bs : List Bx_) (vo vs : Value) (xo : List Int) (xs : List S49) (u t : Value) (us ts : List S49) : Prop where
  f : Fr w W bs vo vs xo xs
  ru : Kd.R k49 49 W w.heap.size (okG bs vo vs t) u us
  rt : Kd.R k49 49 W w.heap.size (okG bs vo vs u) t ts
section
variable {w W W1 : World} {bs : List Bx_} {vo vs u t v : Value} {xo : List Int} {xs us ts ys : List S49}
theorem Gr.start (h : Fr w W bs vo vs xo xs) : Gr w W bs vo vs xo xs (.slice none 0 0) (.slice none 0 0) [] [] := ⟨h, Kd.R_nil _ _ _ _ _, Kd.R_nil _ _ _ _ _⟩
theorem Gr.fresh (h : Fr w W bs vo vs xo xs) (ht : ∀ k, t.ownBlock = some k → k < W.heap.size) : ∀ k, W.heap.size ≤ k → okG bs vo vs t k := fun k hk =>
  ⟨fun hm => by have := h.lt k hm; omega, fun e => by have := h.ltO k e; omega, fun e => by have := h.ltS k e; omega, fun e => by have := ht k e; omega⟩
theorem Gr.ltU (h : Gr w W bs vo vs xo xs u t us ts) : ∀ k, u.ownBlock = some k → k < W.heap.size := fun k hk => by obtain ⟨_, h1⟩ := Kd.R_own h.ru; exact own_lt h1 k hk
theorem Gr.ltT (h : Gr w W bs vo vs xo xs u t us ts) : ∀ k, t.ownBlock = some k → k < W.heap.size := fun k hk => by obtain ⟨_, h1⟩ := Kd.R_own h.rt; exact own_lt h1 k hk
theorem Gr.freshU (h : Gr w W bs vo vs xo xs u t us ts) : ∀ k, W.heap.size ≤ k → okG bs vo vs t k := Gr.fresh h.f h.ltT
theorem Gr.freshT (h : Gr w W bs vo vs xo xs u t us ts) : ∀ k, W.heap.size ≤ k → okG bs vo vs u k := Gr.fresh h.f h.ltU
theorem Gr.newU (h : Gr w W bs vo vs xo xs (.slice none 0 0) t [] ts) (hr : Kd.R k49 49 W1 w.heap.size (okG bs vo vs t) v ys) (hg : W.grownBy W1 none) (hv : ∃ b, v.ownBlock = some b ∧ W.heap.size ≤ b) : Gr w W1 bs vo vs xo xs v t ys ts := by
  refine ⟨h.f.grow hg (fun k hk => by cases hk), hr, Kd.R_mono (Kd.R_step (Kd.R_tight rfl h.rt) (fun k _ hlt => hg.block k hlt (by simp))) (fun k hk => ?_)⟩
  have h1 := h.rt.1 k hk.symm
  obtain ⟨b, hb, hl⟩ := hv
  exact ⟨h1.1, h1.2.1, h1.2.2.1, fun e => by rw [hb] at e; have := h.ltT k hk.symm; injection e with e; omega⟩
theorem Gr.newT (h : Gr w W bs vo vs xo xs u (.slice none 0 0) us []) (hr : Kd.R k49 49 W1 w.heap.size (okG bs vo vs u) v ys) (hg : W.grownBy W1 none) (hv : ∃ b, v.ownBlock = some b ∧ W.heap.size ≤ b) : Gr w W1 bs vo vs xo xs u v us ys := by
  refine ⟨h.f.grow hg (fun k hk => by cases hk), Kd.R_mono (Kd.R_step (Kd.R_tight rfl h.ru) (fun k _ hlt => hg.block k hlt (by simp))) (fun k hk => ?_), hr⟩
  have h1 := h.ru.1 k hk.symm
  obtain ⟨b, hb, hl⟩ := hv
  exact ⟨h1.1, h1.2.1, h1.2.2.1, fun e => by rw [hb] at e; have := h.ltU k hk.symm; injection e with e; omega⟩
theorem Gr.app (h : Gr w W bs vo vs xo xs u t us ts) (hr : Kd.R k49 49 W1 w.heap.size (okG bs vo vs t) v ys) (hg : W.grownBy W1 u.ownBlock) (hv : v.ownBlock = u.ownBlock ∨ ∃ b, v.ownBlock = some b ∧ W.heap.size ≤ b) : Gr w W1 bs vo vs xo xs v t ys ts := by
  refine ⟨h.f.grow hg (fun k hk => ⟨?_, (h.ru.1 k hk).1, (h.ru.1 k hk).2.1, (h.ru.1 k hk).2.2.1⟩), hr, Kd.R_mono (Kd.R_step (Kd.R_tight rfl h.rt) (fun k hk hlt => hg.block k hlt (fun e => (h.rt.1 k hk.symm).2.2.2 e.symm))) (fun k hk => ?_)⟩
  · obtain ⟨_, h1⟩ := Kd.R_own h.ru; exact own_base h1 k hk
  · have h1 := h.rt.1 k hk.symm
    refine ⟨h1.1, h1.2.1, h1.2.2.1, fun e => ?_⟩
    rcases hv with hv | ⟨b, hb, hl⟩
    · exact h1.2.2.2 (hv ▸ e)
    · rw [hb] at e; have := h.ltT k hk.symm; injection e with e; omega
theorem Gr.putF (h : Gr w W bs vo vs xo xs u t us ts) (i : Nat) {p : Bx_} (hi : bs[i]? = some p) (j : Nat) (x : Value) : Gr w (W.setCell ⟨p.1, j, none⟩ x) (bs.set i (p.1, p.2.1.setIfInBounds j x, p.2.2)) vo vs xo xs u t us ts := by
  have hpm : p.1 ∈ bs.map (·.1) := List.mem_map.2 ⟨p, List.mem_of_getElem? hi, rfl⟩
  have hm : (bs.set i (p.1, p.2.1.setIfInBounds j x, p.2.2)).map (·.1) = bs.map (·.1) := by
    obtain ⟨hl, hp⟩ := List.getElem?_eq_some_iff.1 hi
    rw [List.map_set]
    apply List.ext_getElem?
    intro q
    rw [List.getElem?_set]
    split
    · rename_i hq; subst hq
      simp [hl, hp]
    · rfl
  refine ⟨h.f.put i hi j x, ?_, ?_⟩
  · exact Kd.R_mono (Kd.R_step h.ru (fun k hk _ => Below.heap_setCell W _ x k (fun e => hk.1 (e ▸ hpm)))) (fun k hk => ⟨by rw [hm]; exact hk.1, hk.2⟩)
  · exact Kd.R_mono (Kd.R_step h.rt (fun k hk _ => Below.heap_setCell W _ x k (fun e => hk.1 (e ▸ hpm)))) (fun k hk => ⟨by rw [hm]; exact hk.1, hk.2⟩)
theorem Gr.putF1 (h : Gr w W bs vo vs xo xs u t us ts) (i : Nat) {p : Bx_} (hi : bs[i]? = some p) (j : Nat) (x : Value) (hw : W1 = W.setCell ⟨p.1, j, none⟩ x) : Gr w W1 (bs.set i (p.1, p.2.1.setIfInBounds j x, p.2.2)) vo vs xo xs u t us ts := hw ▸ h.putF i hi j x
/-- The new row takes the place of the old. -/
theorem Gr.done (h : Gr w W bs vo vs xo xs u t us ts) : Fr w W bs vo u xo us := ⟨h.f.below, h.f.ge, h.f.nd, h.f.box, h.f.ro, Kd.R_mono h.ru (fun k hk => hk.1)⟩
end
theorem k49M_of_K {W : World} {base : Nat} {ok : Nat → Prop} {x : S49} {cs : List Value} (h : k49.K W x cs) : k49.M W base ok x cs := by
  rw [k49_open h]; exact k49_mkM W base ok x
/-- 'xs[d:]', 'xs[:d]'. -/
theorem cutd (As : Option Addr) (cs d : Nat) (l : List S49) (hd : d ≤ l.length) (hl : l.length ≤ cs) : ∃ Ar cr, (∀ W, (Instr.slice 29 (.slice As l.length cs) (some (.int .i64 (d : Int))) none none).run Try.prog W = .ok (.slice Ar (l.drop d).length cr) W) ∧
    ∀ (W : World) base ok, Kd.R k49 49 W base ok (.slice As l.length cs) l → Kd.C k49 W Ar (l.drop d).length (l.drop d) := by
  obtain ⟨i0, hi0, hzz⟩ := Option.map_eq_some_iff.1 info49
  simp only [Prod.mk.injEq] at hzz
  refine ⟨_, _, fun W => (cut_from 29 49 .i64 Try.underlying29 hi0 4 hzz.2.1 As l.length cs (d : Int) (by omega) (by omega) W).trans (by rw [List.length_drop]; rfl), fun W base ok h => ?_⟩
  exact Kd.C_drop (m := d) (c := cs) (Kd.R_reads' h).2.2 hd hl
theorem cutt (As : Option Addr) (cs d : Nat) (l : List S49) (hd : d ≤ l.length) (hl : l.length ≤ cs) : ∀ W, (Instr.slice 29 (.slice As l.length cs) none (some (.int .i64 (d : Int))) none).run Try.prog W = .ok (.slice As d cs) W := by
  obtain ⟨i0, hi0, hzz⟩ := Option.map_eq_some_iff.1 info49
  exact cut_to 29 49 .i64 Try.underlying29 hi0 As l.length cs (d : Int) (by omega) (by omega) hl
theorem takeC {W : World} {base : Nat} {ok : Nat → Prop} {As : Option Addr} {cs d : Nat} {l : List S49} (h : Kd.R k49 49 W base ok (.slice As l.length cs) l) (hd : d ≤ l.length) : Kd.C k49 W As d (l.take d) := by
  have := Kd.C_take (m := d) (Kd.R_reads' h).2.2 hd
  rwa [show (l.take d).length = d by rw [List.length_take]; omega] at this
section
variable {P : Program} {ops : Array Oper} {o : Oper} {a : Act} {Q : Exit → Act → World → Prop} {Kc : Act → World → Prop} {w W : World} {bs : List Bx_} {vo vs u t : Value} {xo : List Int} {xs us ts : List S49}
theorem Gr.litU (h : Gr w W bs vo vs xo xs (.slice none 0 0) t [] ts) (hw : Region.wanted o (yielded ops a.tmps) = true) {N : Tmp} (hd : o.dst = some N)
    (hrun : (execOp a.eval o).run P W = .ok (.value (.slice (some ⟨W.heap.size, 0, none⟩) 0 0)) (W.alloc (.cells ([] : List Value).toArray 49)))
    (hk : ∀ v1 w1, Gr w w1 bs vo vs xo xs v1 t [] ts → Kc (a.put o.dst v1) w1) : if Region.wanted o (yielded ops a.tmps) = true then Oper.wp P o a W Kc Q else Kc (a.put o.dst undef) W :=
  Kd.R_lit_step k49 (w0 := w) w.heap.size 49 hw hd (xs := ([] : List S49)) (inner := []) (ok := okG bs vo vs t) (okp := fun _ => False) hrun (Reps.none _ _) (fun _ hk => hk.elim) (h.freshU _ (Nat.le_refl _)) h.f.below h.f.below.size (by simp)
    (fun v1 w1 ho _ hg hat => hk v1 w1 (h.newU ho hg hat))
theorem Gr.litT (h : Gr w W bs vo vs xo xs u (.slice none 0 0) us []) (hw : Region.wanted o (yielded ops a.tmps) = true) {N : Tmp} (hd : o.dst = some N) (x : S49)
    (hrun : (execOp a.eval o).run P W = .ok (.value (.slice (some ⟨W.heap.size, 0, none⟩) 1 1)) (W.alloc (.cells [.int .i64 x.f0, .int .i64 x.f1, .bool x.f2.f0, .int .i64 x.f2.f1].toArray 49)))
    (hk : ∀ v1 w1, Gr w w1 bs vo vs xo xs u v1 us [x] → Kc (a.put o.dst v1) w1) : if Region.wanted o (yielded ops a.tmps) = true then Oper.wp P o a W Kc Q else Kc (a.put o.dst undef) W :=
  Kd.R_lit_step k49 (w0 := w) w.heap.size 49 hw hd (xs := [x]) (inner := [.int .i64 x.f0, .int .i64 x.f1, .bool x.f2.f0, .int .i64 x.f2.f1]) (ok := okG bs vo vs u) (okp := fun _ => False) hrun (Reps.c4 (k49_mkM _ _ _ x) (Reps.none _ _)) (fun _ hk => hk.elim) (h.freshT _ (Nat.le_refl _)) h.f.below h.f.below.size (by simp)
    (fun v1 w1 ho _ hg hat => hk v1 w1 (h.newT ho hg hat))
theorem Gr.appU {ys : List S49} {A : Option Addr} {m c : Nat} {a : Act} {Kc : Act → World → Prop} (h : Gr w W bs vo vs xo xs u t us ts) (hw : Region.wanted o (yielded ops a.tmps) = true) (s x : Operand)
    (ho : o.op = .call { callee := .builtin .append, args := #[s, x], argTypes := #[29, 29] }) (hs : a.eval s = u) (hx : a.eval x = .slice A m c) (hR : Kd.C k49 W A m ys) (hl : (us.length + m) * 32 ≤ 140737488355328)
    (hk : ∀ v1 w1, Gr w w1 bs vo vs xo xs v1 t (us ++ ys) ts → Kc (a.put o.dst v1) w1) : if Region.wanted o (yielded ops a.tmps) = true then Oper.wp Try.prog o a W Kc Q else Kc (a.put o.dst undef) W :=
  Kd.R_append_rows_step k49 (w0 := w) w.heap.size hw s x 29 49 (.agg #[(.int .i64 0), (.int .i64 0), (.bool false), (.int .i64 0)]) 32 ho Try.underlying29 info49 rfl (by decide) (by omega) u us ys A m c (okG bs vo vs t) (fun _ => False) hs hx
    h.ru hR (fun _ _ h => k49M_of_K h) (fun _ h => h.elim) h.freshU h.f.below h.f.below.size hl (fun v1 w1 ho _ hg hat => hk v1 w1 (h.app ho hg hat))
end
/-- How many sessions lie ahead of the client's place. -/
def insAt_ (c : Int) (xs : List S49) : Nat := (xs.takeWhile (fun s => decide (s.f0 < c))).length
theorem insAt_le (c : Int) (xs : List S49) : insAt_ c xs ≤ xs.length := (List.takeWhile_prefix _).length_le
theorem insAt_stop (c : Int) : ∀ (xs : List S49) (n : Nat), n ≤ xs.length → (∀ j, j < n → (rd_T49 xs (j : Int)).f0 < c) → (n < xs.length → ¬ (rd_T49 xs (n : Int)).f0 < c) → insAt_ c xs = n
  | [], n, hn, _, _ => by simp at hn; simp [insAt_, hn]
  | x :: xs, 0, _, _, h2 => by
    have := h2 (by simp)
    simp only [rd_T49, Int.toNat_natCast, List.getD_eq_getElem?_getD] at this
    simp at this
    simp [insAt_, List.takeWhile_cons, show ¬ x.f0 < c by omega]
  | x :: xs, n + 1, hn, h1, h2 => by
    have h0 := h1 0 (by omega)
    simp only [rd_T49, Int.toNat_natCast, List.getD_eq_getElem?_getD] at h0
    simp at h0
    have ih := insAt_stop c xs n (by simp at hn; omega) (fun j hj => by
      have := h1 (j + 1) (by omega)
      simp only [rd_T49, Int.toNat_natCast, List.getD_eq_getElem?_getD, List.getElem?_cons_succ] at this ⊢; exact this) (fun hlt => by
      have := h2 (by simp; omega)
      simp only [rd_T49, Int.toNat_natCast, List.getD_eq_getElem?_getD, List.getElem?_cons_succ] at this ⊢; exact this)
    have : insAt_ c (x :: xs) = insAt_ c xs + 1 := by simp [insAt_, List.takeWhile_cons, h0]
    omega
/-- What is given where the machine and the operation are valid. -/
def step_ (l0 x1 : List Int) (x2 : List S49) (sq : Int) (sd : Bool) (sv : Int) (is : Bool) (c q kd ob old v : Int) : Option (List Int × List S49 × Bool × Int × Bool) :=
  if is = true ∧ sq = q then some (x1, x2, sd, sv, true)
  else if is = true ∧ q < sq then some (x1, x2, false, 0, false)
  else if 0 ≤ ob ∧ ob < l0.length ∧ ob < x1.length ∧ x2.length < 1099511627776 ∧ (is = true → insAt_ c x2 < x2.length) then
    some (if kd = 1 ∨ rd l0 ob = old then x1.set ob.toNat v else x1,
      x2.take (insAt_ c x2) ++ [⟨c, q, ⟨decide (kd = 1 ∨ rd l0 ob = old), rd l0 ob⟩⟩] ++ x2.drop (if is = true then insAt_ c x2 + 1 else insAt_ c x2), decide (kd = 1 ∨ rd l0 ob = old), rd l0 ob, true)
  else none
def spec_ApplyOp.f (k : Nat) (l0_0 : List Int) (l0_1 : List S49) (a1_0 a1_1 a1_2 a1_3 a1_4 a1_5 : Int) : Option (List Int × List S49 × Bool × Int × Bool) :=
  (spec_l4Copy.f l0_0 l0_1).bind fun x => (spec_IsValidMachine.f k l0_0 l0_1).bind fun v =>
    if v = true then (spec_IsValidOp.f a1_0 a1_1 a1_2 a1_3 a1_4 a1_5).bind fun o =>
      if o = true then (spec_SessionOf.f k l0_0 l0_1 a1_0).bind fun s => step_ l0_0 x.1 x.2 s.2.1 s.2.2.1 s.2.2.2.1 s.2.2.2.2 a1_0 a1_1 a1_2 a1_3 a1_4 a1_5
      else some (x.1, x.2, false, 0, false)
    else some (x.1, x.2, false, 0, false)
theorem spec_ApplyOp.mono : ∀ l0_0 l0_1 a1_0 a1_1 a1_2 a1_3 a1_4 a1_5 k, LeO (spec_ApplyOp.f k l0_0 l0_1 a1_0 a1_1 a1_2 a1_3 a1_4 a1_5) (spec_ApplyOp.f (k + 1) l0_0 l0_1 a1_0 a1_1 a1_2 a1_3 a1_4 a1_5) := by
  intro _ _ _ _ _ _ _ _ k
  unfold spec_ApplyOp.f
  refine LeO.bind (LeO.refl _) (fun _ => LeO.bind (spec_IsValidMachine.mono _ _ _) (fun _ => LeO.ite (LeO.bind (LeO.refl _) (fun _ => LeO.ite (LeO.bind (spec_SessionOf.mono _ _ _ _) (fun _ => LeO.refl _)) (LeO.refl _))) (LeO.refl _)))
set_option maxHeartbeats 8000000 in
set_option maxRecDepth 100000 in
theorem spec_ApplyOp.calls (k : Nat) (A0_0 : Option Addr) (c0_0 : Nat) (l0_0 : List Int) (A0_1 : Option Addr) (c0_1 : Nat) (l0_1 : List (S49)) (a1_0 a1_1 a1_2 a1_3 a1_4 a1_5 : Int) (r1 : List Int) (r2 : List (S49)) (r3 : Bool) (r4 : Int) (r5 : Bool) (w : World) (hr0_0 : Kd.C (Kd.int .i64) w A0_0 l0_0.length l0_0) (hc0_0 : l0_0.length ≤ c0_0) (hr0_1 : Kd.C k49 w A0_1 l0_1.length l0_1) (hc0_1 : l0_1.length ≤ c0_1) (h : spec_ApplyOp.f k l0_0 l0_1 a1_0 a1_1 a1_2 a1_3 a1_4 a1_5 = some (r1, r2, r3, r4, r5)) :
    Calls Try.prog 9 #[.agg #[.slice A0_0 l0_0.length c0_0, .slice A0_1 l0_1.length c0_1], .agg #[.int .i64 a1_0, .int .i64 a1_1, .int .i64 a1_2, .int .i64 a1_3, .int .i64 a1_4, .int .i64 a1_5]] w fun e w' => ∃ v0_ v1_ : Value, e = .returned (.tuple #[.agg #[v0_, v1_], .agg #[.bool r3, .int .i64 r4], .bool r5]) ∧ Kd.R (Kd.int .i64) 3 w' w.heap.size (fun _ => True) v0_ r1 ∧ Kd.R k49 49 w' w.heap.size (fun _ => True) v1_ r2 ∧ Below w.heap.size w w' := by
  have hu31 := Try.underlying31
  have HR0_0 := Aside0.mk hr0_0
  have HC0_0 := Aside0.mk hc0_0
  have HR0_1 := Aside0.mk hr0_1
  have HC0_1 := Aside0.mk hc0_1
  clear hr0_0 hc0_0 hr0_1 hc0_1
  have F := Aside0.mk (Fr.start w)
  unfold spec_ApplyOp.f at h
  replace h := Option.bind_eq_some_iff.mp h
  obtain ⟨⟨t0, t1⟩, b1, h⟩ := h
  have B1 := Aside0.mk b1
  clear b1
  replace h := Option.bind_eq_some_iff.mp h
  obtain ⟨v, b2, h⟩ := h
  have B2 := Aside0.mk b2
  clear b2
  cases v with
  | false =>
    rw [if_neg (by simp)] at h
    replace h := Option.some.inj h
    simp only [Prod.mk.injEq] at h
    obtain ⟨rfl, rfl, rfl, rfl, rfl⟩ := h
    go_enter Try.func9, Try.ntmps9
    go_wp2_with (first
        | ((with_reducible refine gate_dst (N := 2) rfl ?_); refine box_event ?hg (N := 2) ?hd (cs := #[.slice A0_0 l0_0.length c0_0, .slice A0_1 l0_1.length c0_1]) (t := 31) ?hr ?_; (case hd => rfl); (case hg => rfl); (case hr => first | (go_simp; done) | (go_simp; rfl)); intro gM hg wM hbox hb; have F1 := Aside0.mk (F.out.new hg hbox hb); clear hbox hb hg; clear F; have F := F1; clear F1)
        | ((with_reducible refine gate_dst (N := 3) rfl ?_); refine box_event ?hg (N := 3) ?hd (cs := #[.int .i64 a1_0, .int .i64 a1_1, .int .i64 a1_2, .int .i64 a1_3, .int .i64 a1_4, .int .i64 a1_5]) (t := 37) ?hr ?_; (case hd => rfl); (case hg => rfl); (case hr => first | (go_simp; done) | (go_simp; rfl)); intro gO hg wO hbox hb; have F1 := Aside0.mk (F.out.new hg hbox hb); clear hbox hb hg; clear F; have F := F1; clear F1)
        | ((with_reducible refine gate_dst (N := 4) rfl ?_); refine box_event ?hg (N := 4) ?hd (cs := #[.slice none 0 0, .slice none 0 0]) (t := 31) ?hr ?_; (case hd => rfl); (case hg => rfl); (case hr => first | (go_simp; done) | (go_simp; rfl)); intro gQ hg wQ hbox hb; have F1 := Aside0.mk (F.out.new hg hbox hb); clear hbox hb hg; clear F; have F := F1; clear F1)
        | ((with_reducible refine gate_dst (N := 5) rfl ?_); refine box_event ?hg (N := 5) ?hd (cs := #[.bool false, .int .i64 0]) (t := 33) ?hr ?_; (case hd => rfl); (case hg => rfl); (case hr => first | (go_simp; done) | (go_simp; rfl)); intro gV hg wV hbox hb; have F1 := Aside0.mk (F.out.new hg hbox hb); clear hbox hb hg; clear F; have F := F1; clear F1; have hcM_0 : wV.cell? ⟨gM, 0, none⟩ = some (.slice A0_0 l0_0.length c0_0) := (F.out.cell 0 rfl 0).trans rfl; have hcM_1 : wV.cell? ⟨gM, 1, none⟩ = some (.slice A0_1 l0_1.length c0_1) := (F.out.cell 0 rfl 1).trans rfl)
        | ((with_reducible refine gate_callee (f := 44) rfl ?_); refine goesL_ (some 15) rfl rfl Try.func44 (by kernel_rfl) rfl #[.agg #[.slice A0_0 l0_0.length c0_0, .slice A0_1 l0_1.length c0_1]] rfl (by (try simp only [List.map_toArray, List.map_cons, List.map_nil]); first | done | rfl) ?_; (with_reducible refine (spec_l4Copy.calls _ _ l0_0 _ _ l0_1 t0 t1 _ ?s0 ?s1 ?s2 ?s3 B1.out).mono ?_); (case s0 => exact Kd.C_below HR0_0.out F.out.below); (case s1 => exact HC0_0.out); (case s2 => exact Kd.C_below HR0_1.out F.out.below); (case s3 => exact HC0_1.out); rintro e wA ⟨v0, v1, rfl, ho0, ho1, hb⟩; refine ⟨_, rfl, ?_⟩; clear hcM_0 hcM_1; have F1 := Aside0.mk (F.out.rows hb ho0 ho1); clear hb; clear F; have F := F1; clear F1; (obtain ⟨Ao, co, e0⟩ := Kd.R_slice ho0); (obtain ⟨As, cs, e1⟩ := Kd.R_slice ho1); subst e0; subst e1; clear ho0 ho1)
        | ((with_reducible refine gate_dst (N := 7) rfl ?_); refine box_event ?hg (N := 7) ?hd (cs := #[.slice none 0 0, .slice none 0 0]) (t := 31) ?hr ?_; (case hd => rfl); (case hg => rfl); (case hr => first | (go_simp; done) | (go_simp; rfl)); intro gX hg wX hbox hb; have F1 := Aside0.mk (F.out.new hg hbox hb); clear hbox hb hg; clear F; have F := F1; clear F1; have hcX_0 : wX.cell? ⟨gX, 0, none⟩ = some (.slice none 0 0) := (F.out.cell 4 rfl 0).trans rfl; have hfX_0 : wX.frozen? ⟨gX, 0, none⟩ = false := F.out.fro 4 rfl 0; have hcX_1 : wX.cell? ⟨gX, 1, none⟩ = some (.slice none 0 0) := (F.out.cell 4 rfl 1).trans rfl; have hfX_1 : wX.frozen? ⟨gX, 1, none⟩ = false := F.out.fro 4 rfl 1)
        | ((with_reducible refine gate_store (t := 31) (p := 7) rfl ?_); refine store_event (t := 31) (p := 7) (v := ?vo_1) (w1 := ((wX.setCell ⟨gX, 0, none⟩ (.slice Ao t0.length co)).setCell ⟨gX, 1, none⟩ (.slice As t1.length cs))) ?hg ?ho ?hn ?hr ?_; (case ho => rfl); (case hg => rfl); (case hn => rfl); (case hr => first | (go_simp; done) | (go_simp; rfl)); intro wB hw_; clear hcX_0 hfX_0 hcX_1 hfX_1; have F1 := Aside0.mk (F.out.put2 4 rfl (.slice Ao t0.length co) (.slice As t1.length cs) hw_); clear hw_; clear F; have F := F1; clear F1; have hcM_0 : wB.cell? ⟨gM, 0, none⟩ = some (.slice A0_0 l0_0.length c0_0) := (F.out.cell 0 rfl 0).trans rfl; have hcM_1 : wB.cell? ⟨gM, 1, none⟩ = some (.slice A0_1 l0_1.length c0_1) := (F.out.cell 0 rfl 1).trans rfl)
        | ((with_reducible refine gate_callee (f := 21) rfl ?_); refine goesL_ (some 17) rfl rfl Try.func21 (by kernel_rfl) rfl #[.agg #[.slice A0_0 l0_0.length c0_0, .slice A0_1 l0_1.length c0_1]] rfl (by (try simp only [List.map_toArray, List.map_cons, List.map_nil]); first | done | rfl) ?_; (with_reducible refine (spec_IsValidMachine.calls k _ _ l0_0 _ _ l0_1 false _ ?s0 ?s1 ?s2 ?s3 B2.out).mono ?_); (case s0 => exact Kd.C_below HR0_0.out F.out.below); (case s1 => exact HC0_0.out); (case s2 => exact Kd.C_below HR0_1.out F.out.below); (case s3 => exact HC0_1.out); rintro e wC ⟨rfl, hb⟩; refine ⟨_, rfl, ?_⟩; clear hcM_0 hcM_1; have F1 := Aside0.mk (F.out.step hb); clear hb; clear F; have F := F1; clear F1; have hcX_0 : wC.cell? ⟨gX, 0, none⟩ = some (.slice Ao t0.length co) := (F.out.cell 4 rfl 0).trans rfl; have hcX_1 : wC.cell? ⟨gX, 1, none⟩ = some (.slice As t1.length cs) := (F.out.cell 4 rfl 1).trans rfl; have hcQ_0 : wC.cell? ⟨gQ, 0, none⟩ = some (.slice none 0 0) := (F.out.cell 2 rfl 0).trans rfl; have hfQ_0 : wC.frozen? ⟨gQ, 0, none⟩ = false := F.out.fro 2 rfl 0; have hcQ_1 : wC.cell? ⟨gQ, 1, none⟩ = some (.slice none 0 0) := (F.out.cell 2 rfl 1).trans rfl; have hfQ_1 : wC.frozen? ⟨gQ, 1, none⟩ = false := F.out.fro 2 rfl 1)
        | ((with_reducible refine gate_store (t := 31) (p := 4) rfl ?_); refine store_event (t := 31) (p := 4) (v := ?vo_2) (w1 := ((wC.setCell ⟨gQ, 0, none⟩ (.slice Ao t0.length co)).setCell ⟨gQ, 1, none⟩ (.slice As t1.length cs))) ?hg ?ho ?hn ?hr ?_; (case ho => rfl); (case hg => rfl); (case hn => rfl); (case hr => first | (go_simp; done) | (go_simp; rfl)); intro wP hw_; clear hcX_0 hcX_1 hcQ_0 hfQ_0 hcQ_1 hfQ_1; have F1 := Aside0.mk (F.out.put2 2 rfl (.slice Ao t0.length co) (.slice As t1.length cs) hw_); clear hw_; clear F; have F := F1; clear F1; have hcV_0 : wP.cell? ⟨gV, 0, none⟩ = some (.bool false) := (F.out.cell 3 rfl 0).trans rfl; have hfV_0 : wP.frozen? ⟨gV, 0, none⟩ = false := F.out.fro 3 rfl 0; have hcV_1 : wP.cell? ⟨gV, 1, none⟩ = some (.int .i64 0) := (F.out.cell 3 rfl 1).trans rfl; have hfV_1 : wP.frozen? ⟨gV, 1, none⟩ = false := F.out.fro 3 rfl 1)
        | ((with_reducible refine gate_store (t := 33) (p := 5) rfl ?_); refine store_event (t := 33) (p := 5) (v := ?vo_3) (w1 := ((wP.setCell ⟨gV, 0, none⟩ (.bool false)).setCell ⟨gV, 1, none⟩ (.int .i64 0))) ?hg ?ho ?hn ?hr ?_; (case ho => rfl); (case hg => rfl); (case hn => rfl); (case hr => first | (go_simp; done) | (go_simp; rfl)); intro wR hw_; clear hcV_0 hfV_0 hcV_1 hfV_1; have F1 := Aside0.mk (F.out.put2 3 rfl (.bool false) (.int .i64 0) hw_); clear hw_; clear F; have F := F1; clear F1))
    all_goals (refine bodyPost_ret (results_cct rfl _ _ gQ gV 31 33 #[.slice Ao t0.length co, .slice As t1.length cs] #[.bool false, .int .i64 0] _ _ rfl (F.out.at_ 2 rfl) Try.underlying31 rfl (by kernel_rfl) rfl (F.out.at_ 3 rfl) Try.underlying33 rfl (by kernel_rfl)) rfl ?_; exact ⟨_, _, rfl, Kd.R_mono F.out.ro (fun _ _ => trivial), Kd.R_mono F.out.rs (fun _ _ => trivial), F.out.below⟩)
  | true =>
    rw [if_pos rfl] at h
    replace h := Option.bind_eq_some_iff.mp h
    obtain ⟨o, b3, h⟩ := h
    have B3 := Aside0.mk b3
    clear b3
    cases o with
    | false =>
      rw [if_neg (by simp)] at h
      replace h := Option.some.inj h
      simp only [Prod.mk.injEq] at h
      obtain ⟨rfl, rfl, rfl, rfl, rfl⟩ := h
      go_enter Try.func9, Try.ntmps9
      go_wp2_with (first
          | ((with_reducible refine gate_dst (N := 2) rfl ?_); refine box_event ?hg (N := 2) ?hd (cs := #[.slice A0_0 l0_0.length c0_0, .slice A0_1 l0_1.length c0_1]) (t := 31) ?hr ?_; (case hd => rfl); (case hg => rfl); (case hr => first | (go_simp; done) | (go_simp; rfl)); intro gM hg wM hbox hb; have F1 := Aside0.mk (F.out.new hg hbox hb); clear hbox hb hg; clear F; have F := F1; clear F1)
          | ((with_reducible refine gate_dst (N := 3) rfl ?_); refine box_event ?hg (N := 3) ?hd (cs := #[.int .i64 a1_0, .int .i64 a1_1, .int .i64 a1_2, .int .i64 a1_3, .int .i64 a1_4, .int .i64 a1_5]) (t := 37) ?hr ?_; (case hd => rfl); (case hg => rfl); (case hr => first | (go_simp; done) | (go_simp; rfl)); intro gO hg wO hbox hb; have F1 := Aside0.mk (F.out.new hg hbox hb); clear hbox hb hg; clear F; have F := F1; clear F1)
          | ((with_reducible refine gate_dst (N := 4) rfl ?_); refine box_event ?hg (N := 4) ?hd (cs := #[.slice none 0 0, .slice none 0 0]) (t := 31) ?hr ?_; (case hd => rfl); (case hg => rfl); (case hr => first | (go_simp; done) | (go_simp; rfl)); intro gQ hg wQ hbox hb; have F1 := Aside0.mk (F.out.new hg hbox hb); clear hbox hb hg; clear F; have F := F1; clear F1)
          | ((with_reducible refine gate_dst (N := 5) rfl ?_); refine box_event ?hg (N := 5) ?hd (cs := #[.bool false, .int .i64 0]) (t := 33) ?hr ?_; (case hd => rfl); (case hg => rfl); (case hr => first | (go_simp; done) | (go_simp; rfl)); intro gV hg wV hbox hb; have F1 := Aside0.mk (F.out.new hg hbox hb); clear hbox hb hg; clear F; have F := F1; clear F1; have hcM_0 : wV.cell? ⟨gM, 0, none⟩ = some (.slice A0_0 l0_0.length c0_0) := (F.out.cell 0 rfl 0).trans rfl; have hcM_1 : wV.cell? ⟨gM, 1, none⟩ = some (.slice A0_1 l0_1.length c0_1) := (F.out.cell 0 rfl 1).trans rfl)
          | ((with_reducible refine gate_callee (f := 44) rfl ?_); refine goesL_ (some 15) rfl rfl Try.func44 (by kernel_rfl) rfl #[.agg #[.slice A0_0 l0_0.length c0_0, .slice A0_1 l0_1.length c0_1]] rfl (by (try simp only [List.map_toArray, List.map_cons, List.map_nil]); first | done | rfl) ?_; (with_reducible refine (spec_l4Copy.calls _ _ l0_0 _ _ l0_1 t0 t1 _ ?s0 ?s1 ?s2 ?s3 B1.out).mono ?_); (case s0 => exact Kd.C_below HR0_0.out F.out.below); (case s1 => exact HC0_0.out); (case s2 => exact Kd.C_below HR0_1.out F.out.below); (case s3 => exact HC0_1.out); rintro e wA ⟨v0, v1, rfl, ho0, ho1, hb⟩; refine ⟨_, rfl, ?_⟩; clear hcM_0 hcM_1; have F1 := Aside0.mk (F.out.rows hb ho0 ho1); clear hb; clear F; have F := F1; clear F1; (obtain ⟨Ao, co, e0⟩ := Kd.R_slice ho0); (obtain ⟨As, cs, e1⟩ := Kd.R_slice ho1); subst e0; subst e1; clear ho0 ho1)
          | ((with_reducible refine gate_dst (N := 7) rfl ?_); refine box_event ?hg (N := 7) ?hd (cs := #[.slice none 0 0, .slice none 0 0]) (t := 31) ?hr ?_; (case hd => rfl); (case hg => rfl); (case hr => first | (go_simp; done) | (go_simp; rfl)); intro gX hg wX hbox hb; have F1 := Aside0.mk (F.out.new hg hbox hb); clear hbox hb hg; clear F; have F := F1; clear F1; have hcX_0 : wX.cell? ⟨gX, 0, none⟩ = some (.slice none 0 0) := (F.out.cell 4 rfl 0).trans rfl; have hfX_0 : wX.frozen? ⟨gX, 0, none⟩ = false := F.out.fro 4 rfl 0; have hcX_1 : wX.cell? ⟨gX, 1, none⟩ = some (.slice none 0 0) := (F.out.cell 4 rfl 1).trans rfl; have hfX_1 : wX.frozen? ⟨gX, 1, none⟩ = false := F.out.fro 4 rfl 1)
          | ((with_reducible refine gate_store (t := 31) (p := 7) rfl ?_); refine store_event (t := 31) (p := 7) (v := ?vo_4) (w1 := ((wX.setCell ⟨gX, 0, none⟩ (.slice Ao t0.length co)).setCell ⟨gX, 1, none⟩ (.slice As t1.length cs))) ?hg ?ho ?hn ?hr ?_; (case ho => rfl); (case hg => rfl); (case hn => rfl); (case hr => first | (go_simp; done) | (go_simp; rfl)); intro wB hw_; clear hcX_0 hfX_0 hcX_1 hfX_1; have F1 := Aside0.mk (F.out.put2 4 rfl (.slice Ao t0.length co) (.slice As t1.length cs) hw_); clear hw_; clear F; have F := F1; clear F1; have hcM_0 : wB.cell? ⟨gM, 0, none⟩ = some (.slice A0_0 l0_0.length c0_0) := (F.out.cell 0 rfl 0).trans rfl; have hcM_1 : wB.cell? ⟨gM, 1, none⟩ = some (.slice A0_1 l0_1.length c0_1) := (F.out.cell 0 rfl 1).trans rfl)
          | ((with_reducible refine gate_callee (f := 21) rfl ?_); refine goesL_ (some 17) rfl rfl Try.func21 (by kernel_rfl) rfl #[.agg #[.slice A0_0 l0_0.length c0_0, .slice A0_1 l0_1.length c0_1]] rfl (by (try simp only [List.map_toArray, List.map_cons, List.map_nil]); first | done | rfl) ?_; (with_reducible refine (spec_IsValidMachine.calls k _ _ l0_0 _ _ l0_1 true _ ?s0 ?s1 ?s2 ?s3 B2.out).mono ?_); (case s0 => exact Kd.C_below HR0_0.out F.out.below); (case s1 => exact HC0_0.out); (case s2 => exact Kd.C_below HR0_1.out F.out.below); (case s3 => exact HC0_1.out); rintro e wC ⟨rfl, hb⟩; refine ⟨_, rfl, ?_⟩; clear hcM_0 hcM_1; have F1 := Aside0.mk (F.out.step hb); clear hb; clear F; have F := F1; clear F1; have hcO_0 : wC.cell? ⟨gO, 0, none⟩ = some (.int .i64 a1_0) := (F.out.cell 1 rfl 0).trans rfl; have hcO_1 : wC.cell? ⟨gO, 1, none⟩ = some (.int .i64 a1_1) := (F.out.cell 1 rfl 1).trans rfl; have hcO_2 : wC.cell? ⟨gO, 2, none⟩ = some (.int .i64 a1_2) := (F.out.cell 1 rfl 2).trans rfl; have hcO_3 : wC.cell? ⟨gO, 3, none⟩ = some (.int .i64 a1_3) := (F.out.cell 1 rfl 3).trans rfl; have hcO_4 : wC.cell? ⟨gO, 4, none⟩ = some (.int .i64 a1_4) := (F.out.cell 1 rfl 4).trans rfl; have hcO_5 : wC.cell? ⟨gO, 5, none⟩ = some (.int .i64 a1_5) := (F.out.cell 1 rfl 5).trans rfl)
          | (go_at_call 45; (with_reducible refine (spec_IsValidOp.calls a1_0 a1_1 a1_2 a1_3 a1_4 a1_5 false _ B3.out).mono ?_); rintro e wD ⟨rfl, hb⟩; clear hcO_0 hcO_1 hcO_2 hcO_3 hcO_4 hcO_5; have F1 := Aside0.mk (F.out.step hb); clear hb; clear F; have F := F1; clear F1; have hcX_0 : wD.cell? ⟨gX, 0, none⟩ = some (.slice Ao t0.length co) := (F.out.cell 4 rfl 0).trans rfl; have hcX_1 : wD.cell? ⟨gX, 1, none⟩ = some (.slice As t1.length cs) := (F.out.cell 4 rfl 1).trans rfl; have hcQ_0 : wD.cell? ⟨gQ, 0, none⟩ = some (.slice none 0 0) := (F.out.cell 2 rfl 0).trans rfl; have hfQ_0 : wD.frozen? ⟨gQ, 0, none⟩ = false := F.out.fro 2 rfl 0; have hcQ_1 : wD.cell? ⟨gQ, 1, none⟩ = some (.slice none 0 0) := (F.out.cell 2 rfl 1).trans rfl; have hfQ_1 : wD.frozen? ⟨gQ, 1, none⟩ = false := F.out.fro 2 rfl 1)
          | ((with_reducible refine gate_store (t := 31) (p := 4) rfl ?_); refine store_event (t := 31) (p := 4) (v := ?vo_5) (w1 := ((wD.setCell ⟨gQ, 0, none⟩ (.slice Ao t0.length co)).setCell ⟨gQ, 1, none⟩ (.slice As t1.length cs))) ?hg ?ho ?hn ?hr ?_; (case ho => rfl); (case hg => rfl); (case hn => rfl); (case hr => first | (go_simp; done) | (go_simp; rfl)); intro wP hw_; clear hcX_0 hcX_1 hcQ_0 hfQ_0 hcQ_1 hfQ_1; have F1 := Aside0.mk (F.out.put2 2 rfl (.slice Ao t0.length co) (.slice As t1.length cs) hw_); clear hw_; clear F; have F := F1; clear F1; have hcV_0 : wP.cell? ⟨gV, 0, none⟩ = some (.bool false) := (F.out.cell 3 rfl 0).trans rfl; have hfV_0 : wP.frozen? ⟨gV, 0, none⟩ = false := F.out.fro 3 rfl 0; have hcV_1 : wP.cell? ⟨gV, 1, none⟩ = some (.int .i64 0) := (F.out.cell 3 rfl 1).trans rfl; have hfV_1 : wP.frozen? ⟨gV, 1, none⟩ = false := F.out.fro 3 rfl 1)
          | ((with_reducible refine gate_store (t := 33) (p := 5) rfl ?_); refine store_event (t := 33) (p := 5) (v := ?vo_6) (w1 := ((wP.setCell ⟨gV, 0, none⟩ (.bool false)).setCell ⟨gV, 1, none⟩ (.int .i64 0))) ?hg ?ho ?hn ?hr ?_; (case ho => rfl); (case hg => rfl); (case hn => rfl); (case hr => first | (go_simp; done) | (go_simp; rfl)); intro wR hw_; clear hcV_0 hfV_0 hcV_1 hfV_1; have F1 := Aside0.mk (F.out.put2 3 rfl (.bool false) (.int .i64 0) hw_); clear hw_; clear F; have F := F1; clear F1))
      all_goals (refine bodyPost_ret (results_cct rfl _ _ gQ gV 31 33 #[.slice Ao t0.length co, .slice As t1.length cs] #[.bool false, .int .i64 0] _ _ rfl (F.out.at_ 2 rfl) Try.underlying31 rfl (by kernel_rfl) rfl (F.out.at_ 3 rfl) Try.underlying33 rfl (by kernel_rfl)) rfl ?_; exact ⟨_, _, rfl, Kd.R_mono F.out.ro (fun _ _ => trivial), Kd.R_mono F.out.rs (fun _ _ => trivial), F.out.below⟩)
    | true =>
      rw [if_pos rfl] at h
      replace h := Option.bind_eq_some_iff.mp h
      obtain ⟨⟨u0, u1, u2, u3, u4⟩, b4, h⟩ := h
      have B4 := Aside0.mk b4
      clear b4
      unfold step_ at h
      by_cases q1 : u4 = true ∧ u1 = a1_1
      · rw [if_pos q1] at h
        replace h := Option.some.inj h
        simp only [Prod.mk.injEq] at h
        obtain ⟨rfl, rfl, rfl, rfl, rfl⟩ := h
        obtain ⟨rfl, q1⟩ := q1
        have q1b := eq_true q1
        have q1c : (u1 == a1_1) = true := beq_iff_eq.2 q1
        clear q1
        go_enter Try.func9, Try.ntmps9
        go_wp2_with (first
            | ((with_reducible refine gate_dst (N := 2) rfl ?_); refine box_event ?hg (N := 2) ?hd (cs := #[.slice A0_0 l0_0.length c0_0, .slice A0_1 l0_1.length c0_1]) (t := 31) ?hr ?_; (case hd => rfl); (case hg => rfl); (case hr => first | (go_simp; done) | (go_simp; rfl)); intro gM hg wM hbox hb; have F1 := Aside0.mk (F.out.new hg hbox hb); clear hbox hb hg; clear F; have F := F1; clear F1)
            | ((with_reducible refine gate_dst (N := 3) rfl ?_); refine box_event ?hg (N := 3) ?hd (cs := #[.int .i64 a1_0, .int .i64 a1_1, .int .i64 a1_2, .int .i64 a1_3, .int .i64 a1_4, .int .i64 a1_5]) (t := 37) ?hr ?_; (case hd => rfl); (case hg => rfl); (case hr => first | (go_simp; done) | (go_simp; rfl)); intro gO hg wO hbox hb; have F1 := Aside0.mk (F.out.new hg hbox hb); clear hbox hb hg; clear F; have F := F1; clear F1)
            | ((with_reducible refine gate_dst (N := 4) rfl ?_); refine box_event ?hg (N := 4) ?hd (cs := #[.slice none 0 0, .slice none 0 0]) (t := 31) ?hr ?_; (case hd => rfl); (case hg => rfl); (case hr => first | (go_simp; done) | (go_simp; rfl)); intro gQ hg wQ hbox hb; have F1 := Aside0.mk (F.out.new hg hbox hb); clear hbox hb hg; clear F; have F := F1; clear F1)
            | ((with_reducible refine gate_dst (N := 5) rfl ?_); refine box_event ?hg (N := 5) ?hd (cs := #[.bool false, .int .i64 0]) (t := 33) ?hr ?_; (case hd => rfl); (case hg => rfl); (case hr => first | (go_simp; done) | (go_simp; rfl)); intro gV hg wV hbox hb; have F1 := Aside0.mk (F.out.new hg hbox hb); clear hbox hb hg; clear F; have F := F1; clear F1; have hcM_0 : wV.cell? ⟨gM, 0, none⟩ = some (.slice A0_0 l0_0.length c0_0) := (F.out.cell 0 rfl 0).trans rfl; have hcM_1 : wV.cell? ⟨gM, 1, none⟩ = some (.slice A0_1 l0_1.length c0_1) := (F.out.cell 0 rfl 1).trans rfl)
            | ((with_reducible refine gate_callee (f := 44) rfl ?_); refine goesL_ (some 15) rfl rfl Try.func44 (by kernel_rfl) rfl #[.agg #[.slice A0_0 l0_0.length c0_0, .slice A0_1 l0_1.length c0_1]] rfl (by (try simp only [List.map_toArray, List.map_cons, List.map_nil]); first | done | rfl) ?_; (with_reducible refine (spec_l4Copy.calls _ _ l0_0 _ _ l0_1 t0 t1 _ ?s0 ?s1 ?s2 ?s3 B1.out).mono ?_); (case s0 => exact Kd.C_below HR0_0.out F.out.below); (case s1 => exact HC0_0.out); (case s2 => exact Kd.C_below HR0_1.out F.out.below); (case s3 => exact HC0_1.out); rintro e wA ⟨v0, v1, rfl, ho0, ho1, hb⟩; refine ⟨_, rfl, ?_⟩; clear hcM_0 hcM_1; have F1 := Aside0.mk (F.out.rows hb ho0 ho1); clear hb; clear F; have F := F1; clear F1; (obtain ⟨Ao, co, e0⟩ := Kd.R_slice ho0); (obtain ⟨As, cs, e1⟩ := Kd.R_slice ho1); subst e0; subst e1; clear ho0 ho1)
            | ((with_reducible refine gate_dst (N := 7) rfl ?_); refine box_event ?hg (N := 7) ?hd (cs := #[.slice none 0 0, .slice none 0 0]) (t := 31) ?hr ?_; (case hd => rfl); (case hg => rfl); (case hr => first | (go_simp; done) | (go_simp; rfl)); intro gX hg wX hbox hb; have F1 := Aside0.mk (F.out.new hg hbox hb); clear hbox hb hg; clear F; have F := F1; clear F1; have hcX_0 : wX.cell? ⟨gX, 0, none⟩ = some (.slice none 0 0) := (F.out.cell 4 rfl 0).trans rfl; have hfX_0 : wX.frozen? ⟨gX, 0, none⟩ = false := F.out.fro 4 rfl 0; have hcX_1 : wX.cell? ⟨gX, 1, none⟩ = some (.slice none 0 0) := (F.out.cell 4 rfl 1).trans rfl; have hfX_1 : wX.frozen? ⟨gX, 1, none⟩ = false := F.out.fro 4 rfl 1)
            | ((with_reducible refine gate_store (t := 31) (p := 7) rfl ?_); refine store_event (t := 31) (p := 7) (v := ?vo_7) (w1 := ((wX.setCell ⟨gX, 0, none⟩ (.slice Ao t0.length co)).setCell ⟨gX, 1, none⟩ (.slice As t1.length cs))) ?hg ?ho ?hn ?hr ?_; (case ho => rfl); (case hg => rfl); (case hn => rfl); (case hr => first | (go_simp; done) | (go_simp; rfl)); intro wB hw_; clear hcX_0 hfX_0 hcX_1 hfX_1; have F1 := Aside0.mk (F.out.put2 4 rfl (.slice Ao t0.length co) (.slice As t1.length cs) hw_); clear hw_; clear F; have F := F1; clear F1; have hcM_0 : wB.cell? ⟨gM, 0, none⟩ = some (.slice A0_0 l0_0.length c0_0) := (F.out.cell 0 rfl 0).trans rfl; have hcM_1 : wB.cell? ⟨gM, 1, none⟩ = some (.slice A0_1 l0_1.length c0_1) := (F.out.cell 0 rfl 1).trans rfl)
            | ((with_reducible refine gate_callee (f := 21) rfl ?_); refine goesL_ (some 17) rfl rfl Try.func21 (by kernel_rfl) rfl #[.agg #[.slice A0_0 l0_0.length c0_0, .slice A0_1 l0_1.length c0_1]] rfl (by (try simp only [List.map_toArray, List.map_cons, List.map_nil]); first | done | rfl) ?_; (with_reducible refine (spec_IsValidMachine.calls k _ _ l0_0 _ _ l0_1 true _ ?s0 ?s1 ?s2 ?s3 B2.out).mono ?_); (case s0 => exact Kd.C_below HR0_0.out F.out.below); (case s1 => exact HC0_0.out); (case s2 => exact Kd.C_below HR0_1.out F.out.below); (case s3 => exact HC0_1.out); rintro e wC ⟨rfl, hb⟩; refine ⟨_, rfl, ?_⟩; clear hcM_0 hcM_1; have F1 := Aside0.mk (F.out.step hb); clear hb; clear F; have F := F1; clear F1; have hcO_0 : wC.cell? ⟨gO, 0, none⟩ = some (.int .i64 a1_0) := (F.out.cell 1 rfl 0).trans rfl; have hcO_1 : wC.cell? ⟨gO, 1, none⟩ = some (.int .i64 a1_1) := (F.out.cell 1 rfl 1).trans rfl; have hcO_2 : wC.cell? ⟨gO, 2, none⟩ = some (.int .i64 a1_2) := (F.out.cell 1 rfl 2).trans rfl; have hcO_3 : wC.cell? ⟨gO, 3, none⟩ = some (.int .i64 a1_3) := (F.out.cell 1 rfl 3).trans rfl; have hcO_4 : wC.cell? ⟨gO, 4, none⟩ = some (.int .i64 a1_4) := (F.out.cell 1 rfl 4).trans rfl; have hcO_5 : wC.cell? ⟨gO, 5, none⟩ = some (.int .i64 a1_5) := (F.out.cell 1 rfl 5).trans rfl)
            | (go_at_call 45; (with_reducible refine (spec_IsValidOp.calls a1_0 a1_1 a1_2 a1_3 a1_4 a1_5 true _ B3.out).mono ?_); rintro e wD ⟨rfl, hb⟩; clear hcO_0 hcO_1 hcO_2 hcO_3 hcO_4 hcO_5; have F1 := Aside0.mk (F.out.step hb); clear hb; clear F; have F := F1; clear F1; have hcM_0 : wD.cell? ⟨gM, 0, none⟩ = some (.slice A0_0 l0_0.length c0_0) := (F.out.cell 0 rfl 0).trans rfl; have hcM_1 : wD.cell? ⟨gM, 1, none⟩ = some (.slice A0_1 l0_1.length c0_1) := (F.out.cell 0 rfl 1).trans rfl; have hcO_0 : wD.cell? ⟨gO, 0, none⟩ = some (.int .i64 a1_0) := (F.out.cell 1 rfl 0).trans rfl)
            | ((with_reducible refine gate_callee (f := 46) rfl ?_); refine goesL_ (some 30) rfl rfl Try.func46 (by kernel_rfl) rfl #[.agg #[.slice A0_0 l0_0.length c0_0, .slice A0_1 l0_1.length c0_1], .int .i64 a1_0] rfl (by (try simp only [List.map_toArray, List.map_cons, List.map_nil]); first | done | rfl) ?_; (with_reducible refine (spec_SessionOf.calls k _ _ l0_0 _ _ l0_1 a1_0 u0 u1 u2 u3 true _ ?s0 ?s1 ?s2 ?s3 B4.out).mono ?_); (case s0 => exact Kd.C_below HR0_0.out F.out.below); (case s1 => exact HC0_0.out); (case s2 => exact Kd.C_below HR0_1.out F.out.below); (case s3 => exact HC0_1.out); rintro e wE ⟨rfl, hb⟩; refine ⟨_, rfl, ?_⟩; clear hcM_0 hcM_1 hcO_0; have F1 := Aside0.mk (F.out.step hb); clear hb; clear F; have F := F1; clear F1)
            | ((with_reducible refine gate_dst (N := 8) rfl ?_); refine box_event ?hg (N := 8) ?hd (cs := #[.int .i64 0, .int .i64 0, .bool false, .int .i64 0]) (t := 49) ?hr ?_; (case hd => rfl); (case hg => rfl); (case hr => first | (go_simp; done) | (go_simp; rfl)); intro gS hg wS hbox hb; have F1 := Aside0.mk (F.out.new hg hbox hb); clear hbox hb hg; clear F; have F := F1; clear F1; have hcS_0 : wS.cell? ⟨gS, 0, none⟩ = some (.int .i64 0) := (F.out.cell 5 rfl 0).trans rfl; have hfS_0 : wS.frozen? ⟨gS, 0, none⟩ = false := F.out.fro 5 rfl 0; have hcS_1 : wS.cell? ⟨gS, 1, none⟩ = some (.int .i64 0) := (F.out.cell 5 rfl 1).trans rfl; have hfS_1 : wS.frozen? ⟨gS, 1, none⟩ = false := F.out.fro 5 rfl 1; have hcS_2 : wS.cell? ⟨gS, 2, none⟩ = some (.bool false) := (F.out.cell 5 rfl 2).trans rfl; have hfS_2 : wS.frozen? ⟨gS, 2, none⟩ = false := F.out.fro 5 rfl 2; have hcS_3 : wS.cell? ⟨gS, 3, none⟩ = some (.int .i64 0) := (F.out.cell 5 rfl 3).trans rfl; have hfS_3 : wS.frozen? ⟨gS, 3, none⟩ = false := F.out.fro 5 rfl 3)
            | ((with_reducible refine gate_store (t := 49) (p := 8) rfl ?_); refine store_event (t := 49) (p := 8) (v := ?vo_8) (w1 := ((((wS.setCell ⟨gS, 0, none⟩ (.int .i64 u0)).setCell ⟨gS, 1, none⟩ (.int .i64 u1)).setCell ⟨gS, 2, none⟩ (.bool u2)).setCell ⟨gS, 3, none⟩ (.int .i64 u3))) ?hg ?ho ?hn ?hr ?_; (case ho => rfl); (case hg => rfl); (case hn => rfl); (case hr => first | (go_simp; done) | (go_simp; rfl)); intro wG hw_; clear hcS_0 hfS_0 hcS_1 hfS_1 hcS_2 hfS_2 hcS_3 hfS_3; have F1 := Aside0.mk (F.out.put4 5 rfl (.int .i64 u0) (.int .i64 u1) (.bool u2) (.int .i64 u3) hw_); clear hw_; clear F; have F := F1; clear F1; have hcS_1 : wG.cell? ⟨gS, 1, none⟩ = some (.int .i64 u1) := (F.out.cell 5 rfl 1).trans rfl; have hcO_1 : wG.cell? ⟨gO, 1, none⟩ = some (.int .i64 a1_1) := (F.out.cell 1 rfl 1).trans rfl))
        clear hcS_1 hcO_1
        refine start_ (n := 6) (S := fun w' => w'.cell? ⟨gX, 0, none⟩ = some (.slice Ao t0.length co) ∧ w'.cell? ⟨gX, 1, none⟩ = some (.slice As t1.length cs) ∧ w'.cell? ⟨gS, 2, none⟩ = some (.bool u2) ∧ w'.cell? ⟨gS, 3, none⟩ = some (.int .i64 u3)) (ds := []) #[false, false, false, false, false, false] (by kernel_rfl) rfl rfl (⟨(F.out.cell 4 rfl 0).trans rfl, (F.out.cell 4 rfl 1).trans rfl, (F.out.cell 5 rfl 2).trans rfl, (F.out.cell 5 rfl 3).trans rfl⟩) (fun hHeld => ?_)
        have F1 := Aside0.mk F.out.drew
        clear F
        have F := F1
        clear F1
        generalize wG.drew = wH at F hHeld ⊢
        refine pureTk 1 (some 42) #[false, true, false, false, false, false] ?_
        refine takeTk 0 (some 41) #[true, true, false, false, false, false] ?_
        refine takeTk 2 (some 43) #[true, true, true, false, false, false] ?_
        refine one_ (i := 3) (N := none) #[true, true, true, true, false, false] rfl rfl (by kernel_rfl) (by decide) (fun K hK => ?_)
        have hcQ_0 : wH.cell? ⟨gQ, 0, none⟩ = some (.slice none 0 0) := (F.out.cell 2 rfl 0).trans rfl
        have hfQ_0 : wH.frozen? ⟨gQ, 0, none⟩ = false := F.out.fro 2 rfl 0
        have hcQ_1 : wH.cell? ⟨gQ, 1, none⟩ = some (.slice none 0 0) := (F.out.cell 2 rfl 1).trans rfl
        have hfQ_1 : wH.frozen? ⟨gQ, 1, none⟩ = false := F.out.fro 2 rfl 1
        refine skip_ (w1 := ((wH.setCell ⟨gQ, 0, none⟩ (.slice Ao t0.length co)).setCell ⟨gQ, 1, none⟩ (.slice As t1.length cs))) (by rfl) rfl ?_ ?_
        · first | (go_simp; done) | (go_simp; rfl)
        clear hcQ_0 hfQ_0 hcQ_1 hfQ_1
        obtain ⟨wP, hw_⟩ : ∃ W_, W_ = ((wH.setCell ⟨gQ, 0, none⟩ (.slice Ao t0.length co)).setCell ⟨gQ, 1, none⟩ (.slice As t1.length cs)) := ⟨_, rfl⟩
        rw [← hw_]
        have F1 := Aside0.mk (F.out.put2 2 rfl (.slice Ao t0.length co) (.slice As t1.length cs) hw_)
        clear hw_
        clear F
        have F := F1
        clear F1
        refine hK.out _ _ (⟨(F.out.cell 4 rfl 0).trans rfl, (F.out.cell 4 rfl 1).trans rfl, (F.out.cell 5 rfl 2).trans rfl, (F.out.cell 5 rfl 3).trans rfl⟩) (fun hHeld => ?_)
        clear hK K
        refine one_ (i := 4) (N := none) #[true, true, true, true, true, false] rfl rfl (by kernel_rfl) (by decide) (fun K hK => ?_)
        have hcV_0 : wP.cell? ⟨gV, 0, none⟩ = some (.bool false) := (F.out.cell 3 rfl 0).trans rfl
        have hfV_0 : wP.frozen? ⟨gV, 0, none⟩ = false := F.out.fro 3 rfl 0
        have hcV_1 : wP.cell? ⟨gV, 1, none⟩ = some (.int .i64 0) := (F.out.cell 3 rfl 1).trans rfl
        have hfV_1 : wP.frozen? ⟨gV, 1, none⟩ = false := F.out.fro 3 rfl 1
        refine skip_ (w1 := ((wP.setCell ⟨gV, 0, none⟩ (.bool u2)).setCell ⟨gV, 1, none⟩ (.int .i64 u3))) (by rfl) rfl ?_ ?_
        · first | (go_simp; done) | (go_simp; rfl)
        clear hcV_0 hfV_0 hcV_1 hfV_1
        obtain ⟨wR, hw_⟩ : ∃ W_, W_ = ((wP.setCell ⟨gV, 0, none⟩ (.bool u2)).setCell ⟨gV, 1, none⟩ (.int .i64 u3)) := ⟨_, rfl⟩
        rw [← hw_]
        have F1 := Aside0.mk (F.out.put2 3 rfl (.bool u2) (.int .i64 u3) hw_)
        clear hw_
        clear F
        have F := F1
        clear F1
        refine hK.out _ _ (⟨(F.out.cell 4 rfl 0).trans rfl, (F.out.cell 4 rfl 1).trans rfl, (F.out.cell 5 rfl 2).trans rfl, (F.out.cell 5 rfl 3).trans rfl⟩) (fun hHeld => ?_)
        clear hK K
        refine pureTk 5 (some 6) #[true, true, true, true, true, true] ?_
        refine done_ (by kernel_rfl) ?_
        go_wp2
        all_goals (refine bodyPost_ret (results_cct rfl _ _ gQ gV 31 33 #[.slice Ao t0.length co, .slice As t1.length cs] #[.bool u2, .int .i64 u3] _ _ rfl (F.out.at_ 2 rfl) Try.underlying31 rfl (by kernel_rfl) rfl (F.out.at_ 3 rfl) Try.underlying33 rfl (by kernel_rfl)) rfl ?_; exact ⟨_, _, rfl, Kd.R_mono F.out.ro (fun _ _ => trivial), Kd.R_mono F.out.rs (fun _ _ => trivial), F.out.below⟩)
      rw [if_neg q1] at h
      by_cases q2 : u4 = true ∧ a1_1 < u1
      · rw [if_pos q2] at h
        replace h := Option.some.inj h
        simp only [Prod.mk.injEq] at h
        obtain ⟨rfl, rfl, rfl, rfl, rfl⟩ := h
        obtain ⟨rfl, q2⟩ := q2
        have q3 : ¬ u1 = a1_1 := by omega
        have q3b := eq_false q3
        have q3c : (u1 == a1_1) = false := beq_eq_false_iff_ne.2 q3
        have q2b := eq_true q2
        have q2c : decide (a1_1 < u1) = true := decide_eq_true q2
        clear q1 q2 q3
        go_enter Try.func9, Try.ntmps9
        go_wp2_with (first
            | ((with_reducible refine gate_dst (N := 2) rfl ?_); refine box_event ?hg (N := 2) ?hd (cs := #[.slice A0_0 l0_0.length c0_0, .slice A0_1 l0_1.length c0_1]) (t := 31) ?hr ?_; (case hd => rfl); (case hg => rfl); (case hr => first | (go_simp; done) | (go_simp; rfl)); intro gM hg wM hbox hb; have F1 := Aside0.mk (F.out.new hg hbox hb); clear hbox hb hg; clear F; have F := F1; clear F1)
            | ((with_reducible refine gate_dst (N := 3) rfl ?_); refine box_event ?hg (N := 3) ?hd (cs := #[.int .i64 a1_0, .int .i64 a1_1, .int .i64 a1_2, .int .i64 a1_3, .int .i64 a1_4, .int .i64 a1_5]) (t := 37) ?hr ?_; (case hd => rfl); (case hg => rfl); (case hr => first | (go_simp; done) | (go_simp; rfl)); intro gO hg wO hbox hb; have F1 := Aside0.mk (F.out.new hg hbox hb); clear hbox hb hg; clear F; have F := F1; clear F1)
            | ((with_reducible refine gate_dst (N := 4) rfl ?_); refine box_event ?hg (N := 4) ?hd (cs := #[.slice none 0 0, .slice none 0 0]) (t := 31) ?hr ?_; (case hd => rfl); (case hg => rfl); (case hr => first | (go_simp; done) | (go_simp; rfl)); intro gQ hg wQ hbox hb; have F1 := Aside0.mk (F.out.new hg hbox hb); clear hbox hb hg; clear F; have F := F1; clear F1)
            | ((with_reducible refine gate_dst (N := 5) rfl ?_); refine box_event ?hg (N := 5) ?hd (cs := #[.bool false, .int .i64 0]) (t := 33) ?hr ?_; (case hd => rfl); (case hg => rfl); (case hr => first | (go_simp; done) | (go_simp; rfl)); intro gV hg wV hbox hb; have F1 := Aside0.mk (F.out.new hg hbox hb); clear hbox hb hg; clear F; have F := F1; clear F1; have hcM_0 : wV.cell? ⟨gM, 0, none⟩ = some (.slice A0_0 l0_0.length c0_0) := (F.out.cell 0 rfl 0).trans rfl; have hcM_1 : wV.cell? ⟨gM, 1, none⟩ = some (.slice A0_1 l0_1.length c0_1) := (F.out.cell 0 rfl 1).trans rfl)
            | ((with_reducible refine gate_callee (f := 44) rfl ?_); refine goesL_ (some 15) rfl rfl Try.func44 (by kernel_rfl) rfl #[.agg #[.slice A0_0 l0_0.length c0_0, .slice A0_1 l0_1.length c0_1]] rfl (by (try simp only [List.map_toArray, List.map_cons, List.map_nil]); first | done | rfl) ?_; (with_reducible refine (spec_l4Copy.calls _ _ l0_0 _ _ l0_1 t0 t1 _ ?s0 ?s1 ?s2 ?s3 B1.out).mono ?_); (case s0 => exact Kd.C_below HR0_0.out F.out.below); (case s1 => exact HC0_0.out); (case s2 => exact Kd.C_below HR0_1.out F.out.below); (case s3 => exact HC0_1.out); rintro e wA ⟨v0, v1, rfl, ho0, ho1, hb⟩; refine ⟨_, rfl, ?_⟩; clear hcM_0 hcM_1; have F1 := Aside0.mk (F.out.rows hb ho0 ho1); clear hb; clear F; have F := F1; clear F1; (obtain ⟨Ao, co, e0⟩ := Kd.R_slice ho0); (obtain ⟨As, cs, e1⟩ := Kd.R_slice ho1); subst e0; subst e1; clear ho0 ho1)
            | ((with_reducible refine gate_dst (N := 7) rfl ?_); refine box_event ?hg (N := 7) ?hd (cs := #[.slice none 0 0, .slice none 0 0]) (t := 31) ?hr ?_; (case hd => rfl); (case hg => rfl); (case hr => first | (go_simp; done) | (go_simp; rfl)); intro gX hg wX hbox hb; have F1 := Aside0.mk (F.out.new hg hbox hb); clear hbox hb hg; clear F; have F := F1; clear F1; have hcX_0 : wX.cell? ⟨gX, 0, none⟩ = some (.slice none 0 0) := (F.out.cell 4 rfl 0).trans rfl; have hfX_0 : wX.frozen? ⟨gX, 0, none⟩ = false := F.out.fro 4 rfl 0; have hcX_1 : wX.cell? ⟨gX, 1, none⟩ = some (.slice none 0 0) := (F.out.cell 4 rfl 1).trans rfl; have hfX_1 : wX.frozen? ⟨gX, 1, none⟩ = false := F.out.fro 4 rfl 1)
            | ((with_reducible refine gate_store (t := 31) (p := 7) rfl ?_); refine store_event (t := 31) (p := 7) (v := ?vo_9) (w1 := ((wX.setCell ⟨gX, 0, none⟩ (.slice Ao t0.length co)).setCell ⟨gX, 1, none⟩ (.slice As t1.length cs))) ?hg ?ho ?hn ?hr ?_; (case ho => rfl); (case hg => rfl); (case hn => rfl); (case hr => first | (go_simp; done) | (go_simp; rfl)); intro wB hw_; clear hcX_0 hfX_0 hcX_1 hfX_1; have F1 := Aside0.mk (F.out.put2 4 rfl (.slice Ao t0.length co) (.slice As t1.length cs) hw_); clear hw_; clear F; have F := F1; clear F1; have hcM_0 : wB.cell? ⟨gM, 0, none⟩ = some (.slice A0_0 l0_0.length c0_0) := (F.out.cell 0 rfl 0).trans rfl; have hcM_1 : wB.cell? ⟨gM, 1, none⟩ = some (.slice A0_1 l0_1.length c0_1) := (F.out.cell 0 rfl 1).trans rfl)
            | ((with_reducible refine gate_callee (f := 21) rfl ?_); refine goesL_ (some 17) rfl rfl Try.func21 (by kernel_rfl) rfl #[.agg #[.slice A0_0 l0_0.length c0_0, .slice A0_1 l0_1.length c0_1]] rfl (by (try simp only [List.map_toArray, List.map_cons, List.map_nil]); first | done | rfl) ?_; (with_reducible refine (spec_IsValidMachine.calls k _ _ l0_0 _ _ l0_1 true _ ?s0 ?s1 ?s2 ?s3 B2.out).mono ?_); (case s0 => exact Kd.C_below HR0_0.out F.out.below); (case s1 => exact HC0_0.out); (case s2 => exact Kd.C_below HR0_1.out F.out.below); (case s3 => exact HC0_1.out); rintro e wC ⟨rfl, hb⟩; refine ⟨_, rfl, ?_⟩; clear hcM_0 hcM_1; have F1 := Aside0.mk (F.out.step hb); clear hb; clear F; have F := F1; clear F1; have hcO_0 : wC.cell? ⟨gO, 0, none⟩ = some (.int .i64 a1_0) := (F.out.cell 1 rfl 0).trans rfl; have hcO_1 : wC.cell? ⟨gO, 1, none⟩ = some (.int .i64 a1_1) := (F.out.cell 1 rfl 1).trans rfl; have hcO_2 : wC.cell? ⟨gO, 2, none⟩ = some (.int .i64 a1_2) := (F.out.cell 1 rfl 2).trans rfl; have hcO_3 : wC.cell? ⟨gO, 3, none⟩ = some (.int .i64 a1_3) := (F.out.cell 1 rfl 3).trans rfl; have hcO_4 : wC.cell? ⟨gO, 4, none⟩ = some (.int .i64 a1_4) := (F.out.cell 1 rfl 4).trans rfl; have hcO_5 : wC.cell? ⟨gO, 5, none⟩ = some (.int .i64 a1_5) := (F.out.cell 1 rfl 5).trans rfl)
            | (go_at_call 45; (with_reducible refine (spec_IsValidOp.calls a1_0 a1_1 a1_2 a1_3 a1_4 a1_5 true _ B3.out).mono ?_); rintro e wD ⟨rfl, hb⟩; clear hcO_0 hcO_1 hcO_2 hcO_3 hcO_4 hcO_5; have F1 := Aside0.mk (F.out.step hb); clear hb; clear F; have F := F1; clear F1; have hcM_0 : wD.cell? ⟨gM, 0, none⟩ = some (.slice A0_0 l0_0.length c0_0) := (F.out.cell 0 rfl 0).trans rfl; have hcM_1 : wD.cell? ⟨gM, 1, none⟩ = some (.slice A0_1 l0_1.length c0_1) := (F.out.cell 0 rfl 1).trans rfl; have hcO_0 : wD.cell? ⟨gO, 0, none⟩ = some (.int .i64 a1_0) := (F.out.cell 1 rfl 0).trans rfl)
            | ((with_reducible refine gate_callee (f := 46) rfl ?_); refine goesL_ (some 30) rfl rfl Try.func46 (by kernel_rfl) rfl #[.agg #[.slice A0_0 l0_0.length c0_0, .slice A0_1 l0_1.length c0_1], .int .i64 a1_0] rfl (by (try simp only [List.map_toArray, List.map_cons, List.map_nil]); first | done | rfl) ?_; (with_reducible refine (spec_SessionOf.calls k _ _ l0_0 _ _ l0_1 a1_0 u0 u1 u2 u3 true _ ?s0 ?s1 ?s2 ?s3 B4.out).mono ?_); (case s0 => exact Kd.C_below HR0_0.out F.out.below); (case s1 => exact HC0_0.out); (case s2 => exact Kd.C_below HR0_1.out F.out.below); (case s3 => exact HC0_1.out); rintro e wE ⟨rfl, hb⟩; refine ⟨_, rfl, ?_⟩; clear hcM_0 hcM_1 hcO_0; have F1 := Aside0.mk (F.out.step hb); clear hb; clear F; have F := F1; clear F1)
            | ((with_reducible refine gate_dst (N := 8) rfl ?_); refine box_event ?hg (N := 8) ?hd (cs := #[.int .i64 0, .int .i64 0, .bool false, .int .i64 0]) (t := 49) ?hr ?_; (case hd => rfl); (case hg => rfl); (case hr => first | (go_simp; done) | (go_simp; rfl)); intro gS hg wS hbox hb; have F1 := Aside0.mk (F.out.new hg hbox hb); clear hbox hb hg; clear F; have F := F1; clear F1; have hcS_0 : wS.cell? ⟨gS, 0, none⟩ = some (.int .i64 0) := (F.out.cell 5 rfl 0).trans rfl; have hfS_0 : wS.frozen? ⟨gS, 0, none⟩ = false := F.out.fro 5 rfl 0; have hcS_1 : wS.cell? ⟨gS, 1, none⟩ = some (.int .i64 0) := (F.out.cell 5 rfl 1).trans rfl; have hfS_1 : wS.frozen? ⟨gS, 1, none⟩ = false := F.out.fro 5 rfl 1; have hcS_2 : wS.cell? ⟨gS, 2, none⟩ = some (.bool false) := (F.out.cell 5 rfl 2).trans rfl; have hfS_2 : wS.frozen? ⟨gS, 2, none⟩ = false := F.out.fro 5 rfl 2; have hcS_3 : wS.cell? ⟨gS, 3, none⟩ = some (.int .i64 0) := (F.out.cell 5 rfl 3).trans rfl; have hfS_3 : wS.frozen? ⟨gS, 3, none⟩ = false := F.out.fro 5 rfl 3)
            | ((with_reducible refine gate_store (t := 49) (p := 8) rfl ?_); refine store_event (t := 49) (p := 8) (v := ?vo_10) (w1 := ((((wS.setCell ⟨gS, 0, none⟩ (.int .i64 u0)).setCell ⟨gS, 1, none⟩ (.int .i64 u1)).setCell ⟨gS, 2, none⟩ (.bool u2)).setCell ⟨gS, 3, none⟩ (.int .i64 u3))) ?hg ?ho ?hn ?hr ?_; (case ho => rfl); (case hg => rfl); (case hn => rfl); (case hr => first | (go_simp; done) | (go_simp; rfl)); intro wG hw_; clear hcS_0 hfS_0 hcS_1 hfS_1 hcS_2 hfS_2 hcS_3 hfS_3; have F1 := Aside0.mk (F.out.put4 5 rfl (.int .i64 u0) (.int .i64 u1) (.bool u2) (.int .i64 u3) hw_); clear hw_; clear F; have F := F1; clear F1; have hcS_1 : wG.cell? ⟨gS, 1, none⟩ = some (.int .i64 u1) := (F.out.cell 5 rfl 1).trans rfl; have hcO_1 : wG.cell? ⟨gO, 1, none⟩ = some (.int .i64 a1_1) := (F.out.cell 1 rfl 1).trans rfl; have hcX_0 : wG.cell? ⟨gX, 0, none⟩ = some (.slice Ao t0.length co) := (F.out.cell 4 rfl 0).trans rfl; have hcX_1 : wG.cell? ⟨gX, 1, none⟩ = some (.slice As t1.length cs) := (F.out.cell 4 rfl 1).trans rfl; have hcQ_0 : wG.cell? ⟨gQ, 0, none⟩ = some (.slice none 0 0) := (F.out.cell 2 rfl 0).trans rfl; have hfQ_0 : wG.frozen? ⟨gQ, 0, none⟩ = false := F.out.fro 2 rfl 0; have hcQ_1 : wG.cell? ⟨gQ, 1, none⟩ = some (.slice none 0 0) := (F.out.cell 2 rfl 1).trans rfl; have hfQ_1 : wG.frozen? ⟨gQ, 1, none⟩ = false := F.out.fro 2 rfl 1)
            | ((with_reducible refine gate_store (t := 31) (p := 4) rfl ?_); refine store_event (t := 31) (p := 4) (v := ?vo_11) (w1 := ((wG.setCell ⟨gQ, 0, none⟩ (.slice Ao t0.length co)).setCell ⟨gQ, 1, none⟩ (.slice As t1.length cs))) ?hg ?ho ?hn ?hr ?_; (case ho => rfl); (case hg => rfl); (case hn => rfl); (case hr => first | (go_simp; done) | (go_simp; rfl)); intro wP hw_; clear hcS_1 hcO_1 hcX_0 hcX_1 hcQ_0 hfQ_0 hcQ_1 hfQ_1; have F1 := Aside0.mk (F.out.put2 2 rfl (.slice Ao t0.length co) (.slice As t1.length cs) hw_); clear hw_; clear F; have F := F1; clear F1; have hcV_0 : wP.cell? ⟨gV, 0, none⟩ = some (.bool false) := (F.out.cell 3 rfl 0).trans rfl; have hfV_0 : wP.frozen? ⟨gV, 0, none⟩ = false := F.out.fro 3 rfl 0; have hcV_1 : wP.cell? ⟨gV, 1, none⟩ = some (.int .i64 0) := (F.out.cell 3 rfl 1).trans rfl; have hfV_1 : wP.frozen? ⟨gV, 1, none⟩ = false := F.out.fro 3 rfl 1)
            | ((with_reducible refine gate_store (t := 33) (p := 5) rfl ?_); refine store_event (t := 33) (p := 5) (v := ?vo_12) (w1 := ((wP.setCell ⟨gV, 0, none⟩ (.bool false)).setCell ⟨gV, 1, none⟩ (.int .i64 0))) ?hg ?ho ?hn ?hr ?_; (case ho => rfl); (case hg => rfl); (case hn => rfl); (case hr => first | (go_simp; done) | (go_simp; rfl)); intro wR hw_; clear hcV_0 hfV_0 hcV_1 hfV_1; have F1 := Aside0.mk (F.out.put2 3 rfl (.bool false) (.int .i64 0) hw_); clear hw_; clear F; have F := F1; clear F1))
        all_goals (refine bodyPost_ret (results_cct rfl _ _ gQ gV 31 33 #[.slice Ao t0.length co, .slice As t1.length cs] #[.bool false, .int .i64 0] _ _ rfl (F.out.at_ 2 rfl) Try.underlying31 rfl (by kernel_rfl) rfl (F.out.at_ 3 rfl) Try.underlying33 rfl (by kernel_rfl)) rfl ?_; exact ⟨_, _, rfl, Kd.R_mono F.out.ro (fun _ _ => trivial), Kd.R_mono F.out.rs (fun _ _ => trivial), F.out.below⟩)
      rw [if_neg q2] at h
      by_cases q5 : 0 ≤ a1_3 ∧ a1_3 < (l0_0.length : Int) ∧ a1_3 < (t0.length : Int) ∧ t1.length < 1099511627776 ∧ (u4 = true → insAt_ a1_0 t1 < t1.length)
      · rw [if_pos q5] at h
        replace h := Option.some.inj h
        simp only [Prod.mk.injEq] at h
        obtain ⟨rfl, rfl, rfl, rfl, rfl⟩ := h
        obtain ⟨ob0, ob1, ob2, lim, hin⟩ := q5
        have OB0 := Aside0.mk ob0
        have OB2 := Aside0.mk ob2
        have LIM := Aside0.mk lim
        have HIN := Aside0.mk hin
        have T0p := Aside0.mk (show 0 < t0.length by omega)
        obtain ⟨ad, e0, hx0⟩ := Kd.at_int HR0_0.out a1_3 ob0 ob1
        subst e0
        have HX0 := Aside0.mk hx0
        have hp0 := eq_true ob0
        have hp1 := eq_true ob1
        have hp2 := eq_true ob2
        have hE : u4 = true → (u1 == a1_1) = false := fun h => beq_eq_false_iff_ne.2 (fun e => q1 ⟨h, e⟩)
        have hG : u4 = true → (a1_1 < u1) = False := fun h => eq_false (fun e => q2 ⟨h, e⟩)
        obtain ⟨b1, hb1⟩ : ∃ b, (a1_2 == 1) = b := ⟨_, rfl⟩
        obtain ⟨b2, hb2⟩ : ∃ b, (rd l0_0 a1_3 == a1_4) = b := ⟨_, rfl⟩
        have hd : decide (a1_2 = 1 ∨ rd l0_0 a1_3 = a1_4) = (b1 || b2) := by rw [← hb1, ← hb2, Bool.decide_or]; rfl
        have hd2 : (if a1_2 = 1 ∨ rd l0_0 a1_3 = a1_4 then t0.set a1_3.toNat a1_5 else t0) = (if (b1 || b2) = true then t0.set a1_3.toNat a1_5 else t0) := by rw [← hd]; simp
        rw [hd, hd2]
        clear hd hd2 q1 q2 hx0 ob0 ob1 ob2 lim hin
        obtain ⟨n0, hn0⟩ : ∃ n, n = t0.length := ⟨_, rfl⟩
        rw [← hn0] at hp2
        have HN0 := Aside0.mk hn0
        clear hn0
        rcases (show (b1 = true) ∨ (b1 = false ∧ b2 = true) ∨ (b1 = false ∧ b2 = false) by cases b1 <;> cases b2 <;> simp) with rfl | ⟨rfl, rfl⟩ | ⟨rfl, rfl⟩ <;> cases u4
        all_goals (first | (have HI2 : Aside0 (insAt_ a1_0 t1 < t1.length) := ⟨HIN.out rfl⟩; replace hE := hE rfl; replace hG := hG rfl; rw [if_pos rfl]; clear HIN) | (rw [if_neg (show ¬ (false = true) by decide)]; clear HIN hE hG))
        all_goals (first | (rw [show (true || b2) = true from rfl]) | (rw [show (false || true) = true from rfl]) | (rw [show (false || false) = false from rfl]))
        all_goals (first | (rw [if_pos (rfl : true = true)]; obtain ⟨xo, hxo⟩ : ∃ x, x = t0.set a1_3.toNat a1_5 := ⟨_, rfl⟩; obtain ⟨dn, hdn⟩ : ∃ d, d = true := ⟨_, rfl⟩) | (rw [if_neg (show ¬ (false = true) by decide)]; obtain ⟨xo, hxo⟩ : ∃ x, x = t0 := ⟨_, rfl⟩; obtain ⟨dn, hdn⟩ : ∃ d, d = false := ⟨_, rfl⟩))
        all_goals (generalize hRL : (List.take (insAt_ a1_0 t1) t1 ++ _ ++ _) = RL; rw [← hdn] at hRL; have NRL := Aside0.mk hRL; clear hRL)
        all_goals (have HDN := Aside0.mk hdn; have HXO := Aside0.mk hxo; clear hdn hxo)
        all_goals (go_enter Try.func9, Try.ntmps9)
        all_goals (go_wp2_with (first
            | ((with_reducible refine gate_dst (N := 2) rfl ?_); refine box_event ?hg (N := 2) ?hd (cs := #[.slice (some ad) l0_0.length c0_0, .slice A0_1 l0_1.length c0_1]) (t := 31) ?hr ?_; (case hd => rfl); (case hg => rfl); (case hr => first | (go_simp; done) | (go_simp; rfl)); intro gM hg wM hbox hb; have F1 := Aside0.mk (F.out.new hg hbox hb); clear hbox hb hg; clear F; have F := F1; clear F1)
            | ((with_reducible refine gate_dst (N := 3) rfl ?_); refine box_event ?hg (N := 3) ?hd (cs := #[.int .i64 a1_0, .int .i64 a1_1, .int .i64 a1_2, .int .i64 a1_3, .int .i64 a1_4, .int .i64 a1_5]) (t := 37) ?hr ?_; (case hd => rfl); (case hg => rfl); (case hr => first | (go_simp; done) | (go_simp; rfl)); intro gO hg wO hbox hb; have F1 := Aside0.mk (F.out.new hg hbox hb); clear hbox hb hg; clear F; have F := F1; clear F1)
            | ((with_reducible refine gate_dst (N := 4) rfl ?_); refine box_event ?hg (N := 4) ?hd (cs := #[.slice none 0 0, .slice none 0 0]) (t := 31) ?hr ?_; (case hd => rfl); (case hg => rfl); (case hr => first | (go_simp; done) | (go_simp; rfl)); intro gQ hg wQ hbox hb; have F1 := Aside0.mk (F.out.new hg hbox hb); clear hbox hb hg; clear F; have F := F1; clear F1)
            | ((with_reducible refine gate_dst (N := 5) rfl ?_); refine box_event ?hg (N := 5) ?hd (cs := #[.bool false, .int .i64 0]) (t := 33) ?hr ?_; (case hd => rfl); (case hg => rfl); (case hr => first | (go_simp; done) | (go_simp; rfl)); intro gV hg wV hbox hb; have F1 := Aside0.mk (F.out.new hg hbox hb); clear hbox hb hg; clear F; have F := F1; clear F1; have hcM_0 : wV.cell? ⟨gM, 0, none⟩ = some (.slice (some ad) l0_0.length c0_0) := (F.out.cell 0 rfl 0).trans rfl; have hcM_1 : wV.cell? ⟨gM, 1, none⟩ = some (.slice A0_1 l0_1.length c0_1) := (F.out.cell 0 rfl 1).trans rfl)
            | ((with_reducible refine gate_callee (f := 44) rfl ?_); refine goesL_ (some 15) rfl rfl Try.func44 (by kernel_rfl) rfl #[.agg #[.slice (some ad) l0_0.length c0_0, .slice A0_1 l0_1.length c0_1]] rfl (by (try simp only [List.map_toArray, List.map_cons, List.map_nil]); first | done | rfl) ?_; (with_reducible refine (spec_l4Copy.calls _ _ l0_0 _ _ l0_1 t0 t1 _ ?s0 ?s1 ?s2 ?s3 B1.out).mono ?_); (case s0 => exact Kd.C_below HR0_0.out F.out.below); (case s1 => exact HC0_0.out); (case s2 => exact Kd.C_below HR0_1.out F.out.below); (case s3 => exact HC0_1.out); rintro e wA ⟨v0, v1, rfl, ho0, ho1, hb⟩; refine ⟨_, rfl, ?_⟩; clear hcM_0 hcM_1; have F1 := Aside0.mk (F.out.rows hb ho0 ho1); clear hb; clear F; have F := F1; clear F1; (obtain ⟨go, co, e0, _⟩ := Kd.R_form ho0 T0p.out); (obtain ⟨As, cs, e1, hls, _⟩ := Kd.R_reads ho1); subst e0; subst e1; clear ho0 ho1; have HLS := Aside0.mk hls; clear hls; rw [← HN0.out] at F ⊢)
            | ((with_reducible refine gate_dst (N := 7) rfl ?_); refine box_event ?hg (N := 7) ?hd (cs := #[.slice none 0 0, .slice none 0 0]) (t := 31) ?hr ?_; (case hd => rfl); (case hg => rfl); (case hr => first | (go_simp; done) | (go_simp; rfl)); intro gX hg wX hbox hb; have F1 := Aside0.mk (F.out.new hg hbox hb); clear hbox hb hg; clear F; have F := F1; clear F1; have hcX_0 : wX.cell? ⟨gX, 0, none⟩ = some (.slice none 0 0) := (F.out.cell 4 rfl 0).trans rfl; have hfX_0 : wX.frozen? ⟨gX, 0, none⟩ = false := F.out.fro 4 rfl 0; have hcX_1 : wX.cell? ⟨gX, 1, none⟩ = some (.slice none 0 0) := (F.out.cell 4 rfl 1).trans rfl; have hfX_1 : wX.frozen? ⟨gX, 1, none⟩ = false := F.out.fro 4 rfl 1)
            | ((with_reducible refine gate_store (t := 31) (p := 7) rfl ?_); refine store_event (t := 31) (p := 7) (v := ?vo_13) (w1 := ((wX.setCell ⟨gX, 0, none⟩ (.slice (some ⟨go, 0, none⟩) n0 co)).setCell ⟨gX, 1, none⟩ (.slice As t1.length cs))) ?hg ?ho ?hn ?hr ?_; (case ho => rfl); (case hg => rfl); (case hn => rfl); (case hr => first | (go_simp; done) | (go_simp; rfl)); intro wB hw_; clear hcX_0 hfX_0 hcX_1 hfX_1; have F1 := Aside0.mk (F.out.put2 4 rfl (.slice (some ⟨go, 0, none⟩) n0 co) (.slice As t1.length cs) hw_); clear hw_; clear F; have F := F1; clear F1; have hcM_0 : wB.cell? ⟨gM, 0, none⟩ = some (.slice (some ad) l0_0.length c0_0) := (F.out.cell 0 rfl 0).trans rfl; have hcM_1 : wB.cell? ⟨gM, 1, none⟩ = some (.slice A0_1 l0_1.length c0_1) := (F.out.cell 0 rfl 1).trans rfl)
            | ((with_reducible refine gate_callee (f := 21) rfl ?_); refine goesL_ (some 17) rfl rfl Try.func21 (by kernel_rfl) rfl #[.agg #[.slice (some ad) l0_0.length c0_0, .slice A0_1 l0_1.length c0_1]] rfl (by (try simp only [List.map_toArray, List.map_cons, List.map_nil]); first | done | rfl) ?_; (with_reducible refine (spec_IsValidMachine.calls k _ _ l0_0 _ _ l0_1 true _ ?s0 ?s1 ?s2 ?s3 B2.out).mono ?_); (case s0 => exact Kd.C_below HR0_0.out F.out.below); (case s1 => exact HC0_0.out); (case s2 => exact Kd.C_below HR0_1.out F.out.below); (case s3 => exact HC0_1.out); rintro e wC ⟨rfl, hb⟩; refine ⟨_, rfl, ?_⟩; clear hcM_0 hcM_1; have F1 := Aside0.mk (F.out.step hb); clear hb; clear F; have F := F1; clear F1; have hcO_0 : wC.cell? ⟨gO, 0, none⟩ = some (.int .i64 a1_0) := (F.out.cell 1 rfl 0).trans rfl; have hcO_1 : wC.cell? ⟨gO, 1, none⟩ = some (.int .i64 a1_1) := (F.out.cell 1 rfl 1).trans rfl; have hcO_2 : wC.cell? ⟨gO, 2, none⟩ = some (.int .i64 a1_2) := (F.out.cell 1 rfl 2).trans rfl; have hcO_3 : wC.cell? ⟨gO, 3, none⟩ = some (.int .i64 a1_3) := (F.out.cell 1 rfl 3).trans rfl; have hcO_4 : wC.cell? ⟨gO, 4, none⟩ = some (.int .i64 a1_4) := (F.out.cell 1 rfl 4).trans rfl; have hcO_5 : wC.cell? ⟨gO, 5, none⟩ = some (.int .i64 a1_5) := (F.out.cell 1 rfl 5).trans rfl)
            | (go_at_call 45; (with_reducible refine (spec_IsValidOp.calls a1_0 a1_1 a1_2 a1_3 a1_4 a1_5 true _ B3.out).mono ?_); rintro e wD ⟨rfl, hb⟩; clear hcO_0 hcO_1 hcO_2 hcO_3 hcO_4 hcO_5; have F1 := Aside0.mk (F.out.step hb); clear hb; clear F; have F := F1; clear F1; have hcM_0 : wD.cell? ⟨gM, 0, none⟩ = some (.slice (some ad) l0_0.length c0_0) := (F.out.cell 0 rfl 0).trans rfl; have hcM_1 : wD.cell? ⟨gM, 1, none⟩ = some (.slice A0_1 l0_1.length c0_1) := (F.out.cell 0 rfl 1).trans rfl; have hcO_0 : wD.cell? ⟨gO, 0, none⟩ = some (.int .i64 a1_0) := (F.out.cell 1 rfl 0).trans rfl)
            | ((with_reducible refine gate_callee (f := 46) rfl ?_); refine goesL_ (some 30) rfl rfl Try.func46 (by kernel_rfl) rfl #[.agg #[.slice (some ad) l0_0.length c0_0, .slice A0_1 l0_1.length c0_1], .int .i64 a1_0] rfl (by (try simp only [List.map_toArray, List.map_cons, List.map_nil]); first | done | rfl) ?_; (with_reducible refine (spec_SessionOf.calls k _ _ l0_0 _ _ l0_1 a1_0 u0 u1 u2 u3 _ _ ?s0 ?s1 ?s2 ?s3 B4.out).mono ?_); (case s0 => exact Kd.C_below HR0_0.out F.out.below); (case s1 => exact HC0_0.out); (case s2 => exact Kd.C_below HR0_1.out F.out.below); (case s3 => exact HC0_1.out); rintro e wE ⟨rfl, hb⟩; refine ⟨_, rfl, ?_⟩; clear hcM_0 hcM_1 hcO_0; have F1 := Aside0.mk (F.out.step hb); clear hb; clear F; have F := F1; clear F1)
            | ((with_reducible refine gate_dst (N := 8) rfl ?_); refine box_event ?hg (N := 8) ?hd (cs := #[.int .i64 0, .int .i64 0, .bool false, .int .i64 0]) (t := 49) ?hr ?_; (case hd => rfl); (case hg => rfl); (case hr => first | (go_simp; done) | (go_simp; rfl)); intro gS hg wS hbox hb; have F1 := Aside0.mk (F.out.new hg hbox hb); clear hbox hb hg; clear F; have F := F1; clear F1; have hcS_0 : wS.cell? ⟨gS, 0, none⟩ = some (.int .i64 0) := (F.out.cell 5 rfl 0).trans rfl; have hfS_0 : wS.frozen? ⟨gS, 0, none⟩ = false := F.out.fro 5 rfl 0; have hcS_1 : wS.cell? ⟨gS, 1, none⟩ = some (.int .i64 0) := (F.out.cell 5 rfl 1).trans rfl; have hfS_1 : wS.frozen? ⟨gS, 1, none⟩ = false := F.out.fro 5 rfl 1; have hcS_2 : wS.cell? ⟨gS, 2, none⟩ = some (.bool false) := (F.out.cell 5 rfl 2).trans rfl; have hfS_2 : wS.frozen? ⟨gS, 2, none⟩ = false := F.out.fro 5 rfl 2; have hcS_3 : wS.cell? ⟨gS, 3, none⟩ = some (.int .i64 0) := (F.out.cell 5 rfl 3).trans rfl; have hfS_3 : wS.frozen? ⟨gS, 3, none⟩ = false := F.out.fro 5 rfl 3)
            | ((with_reducible refine gate_store (t := 49) (p := 8) rfl ?_); refine store_event (t := 49) (p := 8) (v := ?vo_14) (w1 := ((((wS.setCell ⟨gS, 0, none⟩ (.int .i64 u0)).setCell ⟨gS, 1, none⟩ (.int .i64 u1)).setCell ⟨gS, 2, none⟩ (.bool u2)).setCell ⟨gS, 3, none⟩ (.int .i64 u3))) ?hg ?ho ?hn ?hr ?_; (case ho => rfl); (case hg => rfl); (case hn => rfl); (case hr => first | (go_simp; done) | (go_simp; rfl)); intro wG hw_; clear hcS_0 hfS_0 hcS_1 hfS_1 hcS_2 hfS_2 hcS_3 hfS_3; have F1 := Aside0.mk (F.out.put4 5 rfl (.int .i64 u0) (.int .i64 u1) (.bool u2) (.int .i64 u3) hw_); clear hw_; clear F; have F := F1; clear F1; have hcS_1 : wG.cell? ⟨gS, 1, none⟩ = some (.int .i64 u1) := (F.out.cell 5 rfl 1).trans rfl; have hcO_1 : wG.cell? ⟨gO, 1, none⟩ = some (.int .i64 a1_1) := (F.out.cell 1 rfl 1).trans rfl; have hcM_0 : wG.cell? ⟨gM, 0, none⟩ = some (.slice (some ad) l0_0.length c0_0) := (F.out.cell 0 rfl 0).trans rfl; have hcO_3 : wG.cell? ⟨gO, 3, none⟩ = some (.int .i64 a1_3) := (F.out.cell 1 rfl 3).trans rfl; have hcO_2 : wG.cell? ⟨gO, 2, none⟩ = some (.int .i64 a1_2) := (F.out.cell 1 rfl 2).trans rfl; have hcO_4 : wG.cell? ⟨gO, 4, none⟩ = some (.int .i64 a1_4) := (F.out.cell 1 rfl 4).trans rfl; have hx0 := pw_cell_below F.out.below HX0.out)
            | ((with_reducible refine gate_dst (N := 11) rfl ?_); refine box_event ?hg (N := 11) ?hd (cs := #[.bool false, .int .i64 0]) (t := 33) ?hr ?_; (case hd => rfl); (case hg => rfl); (case hr => first | (go_simp; done) | (go_simp; rfl)); intro gR hg wR hbox hb; clear hcS_1 hcO_1 hcM_0 hcO_3 hcO_2 hcO_4; have F1 := Aside0.mk (F.out.new hg hbox hb); clear hbox hb hg; clear F; have F := F1; clear F1; have hcR_0 : wR.cell? ⟨gR, 0, none⟩ = some (.bool false) := (F.out.cell 6 rfl 0).trans rfl; have hfR_0 : wR.frozen? ⟨gR, 0, none⟩ = false := F.out.fro 6 rfl 0; have hcR_1 : wR.cell? ⟨gR, 1, none⟩ = some (.int .i64 0) := (F.out.cell 6 rfl 1).trans rfl; have hfR_1 : wR.frozen? ⟨gR, 1, none⟩ = false := F.out.fro 6 rfl 1; clear hx0)
            | ((with_reducible refine gate_store (t := 33) (p := 11) rfl ?_); refine store_event (t := 33) (p := 11) (v := ?vo_15) (w1 := ((wR.setCell ⟨gR, 0, none⟩ (.bool true)).setCell ⟨gR, 1, none⟩ (.int .i64 (rd l0_0 a1_3)))) ?hg ?ho ?hn ?hr ?_; (case ho => rfl); (case hg => rfl); (case hn => rfl); (case hr => first | (go_simp; done) | (go_simp; rfl)); intro wT hw_; clear hcR_0 hfR_0 hcR_1 hfR_1; have F1 := Aside0.mk (F.out.put2 6 rfl (.bool true) (.int .i64 (rd l0_0 a1_3)) hw_); clear hw_; clear F; have F := F1; clear F1; have hcR_0 : wT.cell? ⟨gR, 0, none⟩ = some (.bool true) := (F.out.cell 6 rfl 0).trans rfl; have hcX_0 : wT.cell? ⟨gX, 0, none⟩ = some (.slice (some ⟨go, 0, none⟩) n0 co) := (F.out.cell 4 rfl 0).trans rfl; have hcO_3 : wT.cell? ⟨gO, 3, none⟩ = some (.int .i64 a1_3) := (F.out.cell 1 rfl 3).trans rfl; have hcO_5 : wT.cell? ⟨gO, 5, none⟩ = some (.int .i64 a1_5) := (F.out.cell 1 rfl 5).trans rfl; have hx1 : wT.cell? ⟨go, a1_3.toNat, none⟩ = some (.int .i64 (rd t0 a1_3)) := cell_row F.out.ro a1_3 OB0.out OB2.out; have hx2 : wT.frozen? ⟨go, a1_3.toNat, none⟩ = false := fro_row F.out.ro a1_3 OB0.out OB2.out)
            | ((with_reducible refine gate_store (t := 33) (p := 11) rfl ?_); refine store_event (t := 33) (p := 11) (v := ?vo_16) (w1 := ((wR.setCell ⟨gR, 0, none⟩ (.bool false)).setCell ⟨gR, 1, none⟩ (.int .i64 (rd l0_0 a1_3)))) ?hg ?ho ?hn ?hr ?_; (case ho => rfl); (case hg => rfl); (case hn => rfl); (case hr => first | (go_simp; done) | (go_simp; rfl)); intro wT hw_; clear hcR_0 hfR_0 hcR_1 hfR_1; have F1 := Aside0.mk (F.out.put2 6 rfl (.bool false) (.int .i64 (rd l0_0 a1_3)) hw_); clear hw_; clear F; have F := F1; clear F1; have hcR_0 : wT.cell? ⟨gR, 0, none⟩ = some (.bool false) := (F.out.cell 6 rfl 0).trans rfl)
            | ((with_reducible refine gate_store (t := 3) (p := 79) rfl ?_); refine store_event (t := 3) (p := 79) (v := ?vo_17) (w1 := (wT.setCell ⟨go, a1_3.toNat, none⟩ (.int .i64 a1_5))) ?hg ?ho ?hn ?hr ?_; (case ho => rfl); (case hg => rfl); (case hn => rfl); (case hr => first | (go_simp; done) | (go_simp; rfl)); intro wT hw_; clear hcR_0 hcX_0 hcO_3 hcO_5; have F1 := Aside0.mk (F.out.setOW a1_3 a1_5 hw_); clear hw_ hx1 hx2; clear F; have F := F1; clear F1)))
        all_goals (have F1 : Aside0 (Fr w wT [(gM, #[.slice (some ad) l0_0.length c0_0, .slice A0_1 l0_1.length c0_1], 31), (gO, #[.int .i64 a1_0, .int .i64 a1_1, .int .i64 a1_2, .int .i64 a1_3, .int .i64 a1_4, .int .i64 a1_5], 37), (gQ, #[.slice none 0 0, .slice none 0 0], 31), (gV, #[.bool false, .int .i64 0], 33), (gX, #[.slice (some ⟨go, 0, none⟩) n0 co, .slice As t1.length cs], 31), (gS, #[.int .i64 u0, .int .i64 u1, .bool u2, .int .i64 u3], 49), (gR, #[.bool dn, .int .i64 (rd l0_0 a1_3)], 33)] (.slice (some ⟨go, 0, none⟩) n0 co) (.slice As t1.length cs) xo t1) := ⟨by rw [HDN.out, HXO.out]; exact F.out⟩; clear F; have F := F1; clear F1)
        all_goals (
        (try clear hcR_0)
        have F0 := F
        clear F
        go_loopg [12] t1.length (fun gg s12 wr => ∃ kk : Nat, s12 = .int .i64 kk ∧ Aside0 (kk ≤ t1.length ∧ t1.length - kk ≤ gg) ∧ Aside0 (Fr w wr [(gM, #[.slice (some ad) l0_0.length c0_0, .slice A0_1 l0_1.length c0_1], 31), (gO, #[.int .i64 a1_0, .int .i64 a1_1, .int .i64 a1_2, .int .i64 a1_3, .int .i64 a1_4, .int .i64 a1_5], 37), (gQ, #[.slice none 0 0, .slice none 0 0], 31), (gV, #[.bool false, .int .i64 0], 33), (gX, #[.slice (some ⟨go, 0, none⟩) n0 co, .slice As t1.length cs], 31), (gS, #[.int .i64 u0, .int .i64 u1, .bool u2, .int .i64 u3], 49), (gR, #[.bool dn, .int .i64 (rd l0_0 a1_3)], 33)] (.slice (some ⟨go, 0, none⟩) n0 co) (.slice As t1.length cs) xo t1) ∧ Aside0 (∀ j, j < kk → (rd_T49 t1 (j : Int)).f0 < a1_0))
        case atStart => exact ⟨0, rfl, ⟨by omega, by omega⟩, F0, ⟨fun j hj => by omega⟩⟩
        case round =>
          clear F0
          obtain ⟨kk, rfl, HK, F, HA⟩ := hrel
          have hcX_1 : wr.cell? ⟨gX, 1, none⟩ = some (.slice As t1.length cs) := (F.out.cell 4 rfl 1).trans rfl
          have hcO_0 : wr.cell? ⟨gO, 0, none⟩ = some (.int .i64 a1_0) := (F.out.cell 1 rfl 0).trans rfl
          have hkz : (0 : Int) ≤ (kk : Int) := by omega
          by_cases hcn : (kk : Int) < (t1.length : Int) ∧ (rd_T49 t1 (kk : Int)).f0 < a1_0
          · obtain ⟨hlt, hls⟩ := hcn
            obtain ⟨ad2, e2, hx_0, _, _, _⟩ := at_T49 (Kd.R_reads' F.out.rs).2.2 (kk : Int) hkz hlt
            subst e2
            simp only [Int.toNat_natCast] at hx_0
            have hltb := eq_true hlt
            have hkzb := eq_true hkz
            have hlsb := eq_true hls
            go_wp2
            go_quiet (fail)
            go_wp2
            go_roundg (t1.length - (kk + 1))
            case measure => have := HK.out; omega
            case rel =>
              refine ⟨kk + 1, by rw [show wrap64 ((kk : Int) + 1) = ((kk + 1 : Nat) : Int) by have := LIM.out; unfold wrap64; omega], ⟨by omega, by omega⟩, ⟨F.out.drewN _⟩, ⟨fun j hj => ?_⟩⟩
              rcases Nat.lt_succ_iff_lt_or_eq.1 hj with hj | rfl
              · exact HA.out j hj
              · exact hls
          have hIA := insAt_stop a1_0 t1 kk HK.out.1 HA.out (fun h1 h2 => hcn ⟨by omega, h2⟩)
          have HCN := Aside0.mk hcn
          clear hcn HA
          rcases Decidable.em ((kk : Int) < (t1.length : Int)) with hlt | hlt
          all_goals (first
            | (obtain ⟨ad2, e2, hx_0, _, _, _⟩ := at_T49 (Kd.R_reads' F.out.rs).2.2 (kk : Int) hkz hlt
               subst e2
               simp only [Int.toNat_natCast] at hx_0
               have hlsb := eq_false (fun h => HCN.out ⟨hlt, h⟩)
               have hltb := eq_true hlt
               have hkzb := eq_true hkz
               go_wp2
               go_quiet (fail)
               clear hcX_1 hcO_0
               have F1 := Aside0.mk (F.out.drewN nq)
               clear F hx_0 hltb hkzb hlsb hlt hkz
               have F := F1
               clear F1
               generalize (some ad2) = As at F HLS ⊢)
            | (have hltb := eq_false hlt
               go_wp2
               go_quiet (fail)
               clear hcX_1 hcO_0
               have F1 := Aside0.mk (F.out.drewN nq)
               clear F hltb hlt hkz
               have F := F1
               clear F1))
          all_goals (
            generalize wr.drewN nq = wq at F ⊢
            have hcX_1 : wq.cell? ⟨gX, 1, none⟩ = some (.slice As t1.length cs) := (F.out.cell 4 rfl 1).trans rfl
            have hct := cutt As cs kk t1 HK.out.1 HLS.out
            obtain ⟨Ax, cx, hcx, hCx⟩ := cutd As cs kk t1 HK.out.1 HLS.out
            have HCx := Aside0.mk hCx
            clear hCx
            obtain ⟨rs, hrs⟩ : ∃ rs, rs = t1.drop kk := ⟨_, rfl⟩
            rw [← hrs] at hcx HCx
            first
            | (have hlt2 := HI2.out
               have hlt3 : kk < t1.length := by rw [← hIA]; exact hlt2
               have hw1 : wrap64 ((kk : Int) + 1) = ((kk + 1 : Nat) : Int) := by have := LIM.out; unfold wrap64; omega
               obtain ⟨Ar, cr, hcr, hCr⟩ := cutd As cs (kk + 1) t1 (by omega) HLS.out
               obtain ⟨rs2, hrs2⟩ : ∃ rs, rs = t1.drop (kk + 1) := ⟨_, rfl⟩
               rw [← hrs2] at hcr hCr
               have hRL2 : t1.take kk ++ [⟨a1_0, a1_1, ⟨dn, rd l0_0 a1_3⟩⟩] ++ rs2 = RL := by rw [← NRL.out, hIA, ← hrs2]
               rw [← hw1] at hcr
               clear hw1 hlt2 hlt3
               go_wp2
               have hRS : rs2.length ≤ t1.length := by rw [hrs2, List.length_drop]; omega
               have HRE := Aside0.mk (show rs2.length = t1.length - (kk + 1) by rw [hrs2, List.length_drop])
               clear hrs hcx HCx hcr hrs2
               have HCx := Aside0.mk hCr
               clear hCr
               generalize rs2 = rs at HCx hRL2 hRS HRE ⊢
               generalize Ar = Ax at HCx ⊢
               generalize cr = cx at HCx ⊢)
            | (have hRL2 : t1.take kk ++ [⟨a1_0, a1_1, ⟨dn, rd l0_0 a1_3⟩⟩] ++ rs = RL := by rw [← NRL.out, hIA, ← hrs]
               go_wp2
               have hRS : rs.length ≤ t1.length := by rw [hrs, List.length_drop]; omega
               have HRE := Aside0.mk (show rs.length = t1.length - kk by rw [hrs, List.length_drop])
               clear hcx hrs)
            have NL := Aside0.mk hRL2
            have HRS := Aside0.mk hRS
            clear hRL2 hRS
            clear hcX_1
            refine start_ (n := 18) (S := fun w' => w'.cell? ⟨gX, 1, none⟩ = some (.slice As t1.length cs) ∧ w'.cell? ⟨gO, 0, none⟩ = some (.int .i64 a1_0) ∧ w'.cell? ⟨gO, 1, none⟩ = some (.int .i64 a1_1) ∧ w'.cell? ⟨gR, 0, none⟩ = some (.bool dn) ∧ w'.cell? ⟨gR, 1, none⟩ = some (.int .i64 (rd l0_0 a1_3))) (ds := [17]) #[false, false, false, false, false, false, false, false, false, false, false, false, false, false, false, false, false, false] (by kernel_rfl) rfl rfl (⟨(F.out.cell 4 rfl 1).trans rfl, (F.out.cell 1 rfl 0).trans rfl, (F.out.cell 1 rfl 1).trans rfl, (F.out.cell 6 rfl 0).trans rfl, (F.out.cell 6 rfl 1).trans rfl⟩) (fun hHeld => ?_)
            have F1 := Aside0.mk F.out.drew
            clear F
            have F := F1
            clear F1
            generalize wq.drew = wa at F hHeld ⊢
            refine pureTk 1 (some 109) #[false, true, false, false, false, false, false, false, false, false, false, false, false, false, false, false, false, false] ?_
            refine pureTk 3 (some 111) #[false, true, false, true, false, false, false, false, false, false, false, false, false, false, false, false, false, false] ?_
            refine pureTk 6 (some 114) #[false, true, false, true, false, false, true, false, false, false, false, false, false, false, false, false, false, false] ?_
            refine pureTk 8 (some 116) #[false, true, false, true, false, false, true, false, true, false, false, false, false, false, false, false, false, false] ?_
            refine pureTk 14 (some 122) #[false, true, false, true, false, false, true, false, true, false, false, false, false, false, true, false, false, false] ?_
            refine takeTk 2 (some 110) #[false, true, true, true, false, false, true, false, true, false, false, false, false, false, true, false, false, false] ?_
            refine pureTk 4 (some 112) #[false, true, true, true, true, false, true, false, true, false, false, false, false, false, true, false, false, false] ?_
            refine takeTk 7 (some 115) #[false, true, true, true, true, false, true, true, true, false, false, false, false, false, true, false, false, false] ?_
            refine takeTk 9 (some 117) #[false, true, true, true, true, false, true, true, true, true, false, false, false, false, true, false, false, false] ?_
            refine takeTk 10 (some 118) #[false, true, true, true, true, false, true, true, true, true, true, false, false, false, true, false, false, false] ?_
            refine pureTk 11 (some 119) #[false, true, true, true, true, false, true, true, true, true, true, true, false, false, true, false, false, false] ?_
            have G := Aside0.mk (Gr.start F.out)
            clear F
            refine join_ (σ := Value × Value × Value) 4 #[true, true, true, true, true, true, true, true, true, true, true, true, true, false, true, false, false, false] (fun s_ => [(108, s_.1), (113, s_.2.1), (120, s_.2.2)]) (fun s_ w' => (w'.cell? ⟨gX, 1, none⟩ = some (.slice As t1.length cs) ∧ w'.cell? ⟨gO, 0, none⟩ = some (.int .i64 a1_0) ∧ w'.cell? ⟨gO, 1, none⟩ = some (.int .i64 a1_1) ∧ w'.cell? ⟨gR, 0, none⟩ = some (.bool dn) ∧ w'.cell? ⟨gR, 1, none⟩ = some (.int .i64 (rd l0_0 a1_3))) ∧ Gr w w' [(gM, #[.slice (some ad) l0_0.length c0_0, .slice A0_1 l0_1.length c0_1], 31), (gO, #[.int .i64 a1_0, .int .i64 a1_1, .int .i64 a1_2, .int .i64 a1_3, .int .i64 a1_4, .int .i64 a1_5], 37), (gQ, #[.slice none 0 0, .slice none 0 0], 31), (gV, #[.bool false, .int .i64 0], 33), (gX, #[.slice (some ⟨go, 0, none⟩) n0 co, .slice As t1.length cs], 31), (gS, #[.int .i64 u0, .int .i64 u1, .bool u2, .int .i64 u3], 49), (gR, #[.bool dn, .int .i64 (rd l0_0 a1_3)], 33)] (.slice (some ⟨go, 0, none⟩) n0 co) (.slice As t1.length cs) xo t1 s_.2.1 s_.2.2 (([] : List S49) ++ (t1.take kk)) [(⟨a1_0, a1_1, ⟨dn, rd l0_0 a1_3⟩⟩ : S49)]) ?_ ?_
            rotate_left
            · intro hCont
              refine two_ (i := 0) (j := 12) (Ni := some 108) (Nj := some 120) #[true, true, true, true, true, false, true, true, true, true, true, true, false, false, true, false, false, false] #[false, true, true, true, true, false, true, true, true, true, true, true, true, false, true, false, false, false] rfl rfl rfl rfl (by kernel_rfl) (by decide) (by decide) (fun K hK => ?_) (fun K hK => ?_)
              · skip
                refine G.out.litU (by rfl) (N := 108) rfl ?_ ?_
                · first | (go_simp; done) | (go_simp; rfl)
                intro v108 wb hG
                have G1 := Aside0.mk hG
                clear hG G
                have G := G1
                clear G1
                refine hK.out _ _ (⟨(G.out.f.cell 4 rfl 1).trans rfl, (G.out.f.cell 1 rfl 0).trans rfl, (G.out.f.cell 1 rfl 1).trans rfl, (G.out.f.cell 6 rfl 0).trans rfl, (G.out.f.cell 6 rfl 1).trans rfl⟩) (fun hHeld => ?_)
                clear hK K
                refine normT (some 108) ?_
                refine two_ (i := 5) (j := 12) (Ni := some 113) (Nj := some 120) #[true, true, true, true, true, true, true, true, true, true, true, true, false, false, true, false, false, false] #[true, true, true, true, true, false, true, true, true, true, true, true, true, false, true, false, false, false] rfl rfl rfl rfl (by kernel_rfl) (by decide) (by decide) (fun K hK => ?_) (fun K hK => ?_)
                · skip
                  refine G.out.appU (ys := (t1.take kk)) (by rfl) (.tmp 108) (.tmp 112) rfl rfl rfl ?_ ?_ ?_
                  · exact takeC G.out.f.rs HK.out.1
                  · have h1 := HK.out.1; have h2 := LIM.out; simp only [List.length_nil]; omega
                  intro v113 wc hG
                  have G1 := Aside0.mk hG
                  clear hG G
                  have G := G1
                  clear G1
                  refine hK.out _ _ (⟨(G.out.f.cell 4 rfl 1).trans rfl, (G.out.f.cell 1 rfl 0).trans rfl, (G.out.f.cell 1 rfl 1).trans rfl, (G.out.f.cell 6 rfl 0).trans rfl, (G.out.f.cell 6 rfl 1).trans rfl⟩) (fun hHeld => ?_)
                  clear hK K
                  refine normT (some 113) ?_
                  refine one_ (i := 12) (N := some 120) #[true, true, true, true, true, true, true, true, true, true, true, true, true, false, true, false, false, false] rfl rfl (by kernel_rfl) (by decide) (fun K hK => ?_)
                  refine G.out.litT (by rfl) (N := 120) rfl (⟨a1_0, a1_1, ⟨dn, rd l0_0 a1_3⟩⟩ : S49) ?_ ?_
                  · first | (go_simp; done) | (go_simp; rfl)
                  intro v120 wd hG
                  have G1 := Aside0.mk hG
                  clear hG G
                  have G := G1
                  clear G1
                  refine hK.out _ _ (⟨(G.out.f.cell 4 rfl 1).trans rfl, (G.out.f.cell 1 rfl 0).trans rfl, (G.out.f.cell 1 rfl 1).trans rfl, (G.out.f.cell 6 rfl 0).trans rfl, (G.out.f.cell 6 rfl 1).trans rfl⟩) (fun hHeld => ?_)
                  clear hK K
                  refine normT (some 120) ?_
                  exact norm_ (by simp only [putAll, Act.put, List.setIfInBounds_toArray, List.set_cons_zero, List.set_cons_succ]) (hCont (v108, v113, v120) _ ⟨hHeld, G.out⟩)
                · skip
                  refine G.out.litT (by rfl) (N := 120) rfl (⟨a1_0, a1_1, ⟨dn, rd l0_0 a1_3⟩⟩ : S49) ?_ ?_
                  · first | (go_simp; done) | (go_simp; rfl)
                  intro v120 wc hG
                  have G1 := Aside0.mk hG
                  clear hG G
                  have G := G1
                  clear G1
                  refine hK.out _ _ (⟨(G.out.f.cell 4 rfl 1).trans rfl, (G.out.f.cell 1 rfl 0).trans rfl, (G.out.f.cell 1 rfl 1).trans rfl, (G.out.f.cell 6 rfl 0).trans rfl, (G.out.f.cell 6 rfl 1).trans rfl⟩) (fun hHeld => ?_)
                  clear hK K
                  refine normT (some 120) ?_
                  refine one_ (i := 5) (N := some 113) #[true, true, true, true, true, true, true, true, true, true, true, true, true, false, true, false, false, false] rfl rfl (by kernel_rfl) (by decide) (fun K hK => ?_)
                  refine G.out.appU (ys := (t1.take kk)) (by rfl) (.tmp 108) (.tmp 112) rfl rfl rfl ?_ ?_ ?_
                  · exact takeC G.out.f.rs HK.out.1
                  · have h1 := HK.out.1; have h2 := LIM.out; simp only [List.length_nil]; omega
                  intro v113 wd hG
                  have G1 := Aside0.mk hG
                  clear hG G
                  have G := G1
                  clear G1
                  refine hK.out _ _ (⟨(G.out.f.cell 4 rfl 1).trans rfl, (G.out.f.cell 1 rfl 0).trans rfl, (G.out.f.cell 1 rfl 1).trans rfl, (G.out.f.cell 6 rfl 0).trans rfl, (G.out.f.cell 6 rfl 1).trans rfl⟩) (fun hHeld => ?_)
                  clear hK K
                  refine normT (some 113) ?_
                  exact norm_ (by simp only [putAll, Act.put, List.setIfInBounds_toArray, List.set_cons_zero, List.set_cons_succ]) (hCont (v108, v113, v120) _ ⟨hHeld, G.out⟩)
              · skip
                refine G.out.litT (by rfl) (N := 120) rfl (⟨a1_0, a1_1, ⟨dn, rd l0_0 a1_3⟩⟩ : S49) ?_ ?_
                · first | (go_simp; done) | (go_simp; rfl)
                intro v120 wb hG
                have G1 := Aside0.mk hG
                clear hG G
                have G := G1
                clear G1
                refine hK.out _ _ (⟨(G.out.f.cell 4 rfl 1).trans rfl, (G.out.f.cell 1 rfl 0).trans rfl, (G.out.f.cell 1 rfl 1).trans rfl, (G.out.f.cell 6 rfl 0).trans rfl, (G.out.f.cell 6 rfl 1).trans rfl⟩) (fun hHeld => ?_)
                clear hK K
                refine normT (some 120) ?_
                refine one_ (i := 0) (N := some 108) #[true, true, true, true, true, false, true, true, true, true, true, true, true, false, true, false, false, false] rfl rfl (by kernel_rfl) (by decide) (fun K hK => ?_)
                refine G.out.litU (by rfl) (N := 108) rfl ?_ ?_
                · first | (go_simp; done) | (go_simp; rfl)
                intro v108 wc hG
                have G1 := Aside0.mk hG
                clear hG G
                have G := G1
                clear G1
                refine hK.out _ _ (⟨(G.out.f.cell 4 rfl 1).trans rfl, (G.out.f.cell 1 rfl 0).trans rfl, (G.out.f.cell 1 rfl 1).trans rfl, (G.out.f.cell 6 rfl 0).trans rfl, (G.out.f.cell 6 rfl 1).trans rfl⟩) (fun hHeld => ?_)
                clear hK K
                refine normT (some 108) ?_
                refine one_ (i := 5) (N := some 113) #[true, true, true, true, true, true, true, true, true, true, true, true, true, false, true, false, false, false] rfl rfl (by kernel_rfl) (by decide) (fun K hK => ?_)
                refine G.out.appU (ys := (t1.take kk)) (by rfl) (.tmp 108) (.tmp 112) rfl rfl rfl ?_ ?_ ?_
                · exact takeC G.out.f.rs HK.out.1
                · have h1 := HK.out.1; have h2 := LIM.out; simp only [List.length_nil]; omega
                intro v113 wd hG
                have G1 := Aside0.mk hG
                clear hG G
                have G := G1
                clear G1
                refine hK.out _ _ (⟨(G.out.f.cell 4 rfl 1).trans rfl, (G.out.f.cell 1 rfl 0).trans rfl, (G.out.f.cell 1 rfl 1).trans rfl, (G.out.f.cell 6 rfl 0).trans rfl, (G.out.f.cell 6 rfl 1).trans rfl⟩) (fun hHeld => ?_)
                clear hK K
                refine normT (some 113) ?_
                exact norm_ (by simp only [putAll, Act.put, List.setIfInBounds_toArray, List.set_cons_zero, List.set_cons_succ]) (hCont (v108, v113, v120) _ ⟨hHeld, G.out⟩)
            clear G hHeld
            rintro ⟨v108, v113, v120⟩ we ⟨hHeld, hG⟩
            have G : Aside0 (Gr w we [(gM, #[.slice (some ad) l0_0.length c0_0, .slice A0_1 l0_1.length c0_1], 31), (gO, #[.int .i64 a1_0, .int .i64 a1_1, .int .i64 a1_2, .int .i64 a1_3, .int .i64 a1_4, .int .i64 a1_5], 37), (gQ, #[.slice none 0 0, .slice none 0 0], 31), (gV, #[.bool false, .int .i64 0], 33), (gX, #[.slice (some ⟨go, 0, none⟩) n0 co, .slice As t1.length cs], 31), (gS, #[.int .i64 u0, .int .i64 u1, .bool u2, .int .i64 u3], 49), (gR, #[.bool dn, .int .i64 (rd l0_0 a1_3)], 33)] (.slice (some ⟨go, 0, none⟩) n0 co) (.slice As t1.length cs) xo t1 v113 v120 (([] : List S49) ++ (t1.take kk)) [(⟨a1_0, a1_1, ⟨dn, rd l0_0 a1_3⟩⟩ : S49)]) := ⟨hG⟩
            clear hG
            obtain ⟨At, ct, et⟩ := Kd.R_slice G.out.rt
            subst et
            refine norm_ (a' := ?_) ?_ ?_
            rotate_left
            · simp only [putAll, Act.put, List.setIfInBounds_toArray, List.set_cons_zero, List.set_cons_succ]
              rfl
            refine one_ (i := 13) (N := some 121) #[true, true, true, true, true, true, true, true, true, true, true, true, true, true, true, false, false, false] rfl rfl (by kernel_rfl) (by decide) (fun K hK => ?_)
            refine G.out.appU (ys := [(⟨a1_0, a1_1, ⟨dn, rd l0_0 a1_3⟩⟩ : S49)]) (by rfl) (.tmp 113) (.tmp 120) rfl rfl rfl ?_ ?_ ?_
            · exact (Kd.R_reads' G.out.rt).2.2
            · have h1 := HK.out.1; have h2 := LIM.out; simp only [List.length_append, List.length_nil, List.length_take, List.length_cons]; omega
            intro v121 wf hG
            have G1 := Aside0.mk hG
            clear hG G
            have G := G1
            clear G1
            refine hK.out _ _ (⟨(G.out.f.cell 4 rfl 1).trans rfl, (G.out.f.cell 1 rfl 0).trans rfl, (G.out.f.cell 1 rfl 1).trans rfl, (G.out.f.cell 6 rfl 0).trans rfl, (G.out.f.cell 6 rfl 1).trans rfl⟩) (fun hHeld => ?_)
            clear hK K
            refine normT (some 121) ?_
            refine one_ (i := 15) (N := some 123) #[true, true, true, true, true, true, true, true, true, true, true, true, true, true, true, true, false, false] rfl rfl (by kernel_rfl) (by decide) (fun K hK => ?_)
            refine G.out.appU (ys := rs) (by rfl) (.tmp 121) (.tmp 122) rfl rfl rfl ?_ ?_ ?_
            · first | exact HCx.out _ _ _ G.out.f.rs | (rw [← HRE.out]; exact HCx.out _ _ _ G.out.f.rs)
            · have h1 := HK.out.1; have h2 := LIM.out; have h3 := HRS.out; simp only [List.length_append, List.length_nil, List.length_take, List.length_cons]; omega
            intro v123 wg hG
            have G1 := Aside0.mk hG
            clear hG G
            have G := G1
            clear G1
            refine hK.out _ _ (⟨(G.out.f.cell 4 rfl 1).trans rfl, (G.out.f.cell 1 rfl 0).trans rfl, (G.out.f.cell 1 rfl 1).trans rfl, (G.out.f.cell 6 rfl 0).trans rfl, (G.out.f.cell 6 rfl 1).trans rfl⟩) (fun hHeld => ?_)
            clear hK K
            refine normT (some 123) ?_
            refine pureTk 16 (some 124) #[true, true, true, true, true, true, true, true, true, true, true, true, true, true, true, true, true, false] ?_
            obtain ⟨An, cn, en⟩ := Kd.R_slice G.out.ru
            subst en
            refine oneD_ (i := 17) (N := none) #[true, true, true, true, true, true, true, true, true, true, true, true, true, true, true, true, true, true] rfl rfl (by kernel_rfl) (by decide) (fun K hK => ?_)
            have hcX_1 : wg.cell? ⟨gX, 1, none⟩ = some (.slice As t1.length cs) := (G.out.f.cell 4 rfl 1).trans rfl
            have hfX_1 : wg.frozen? ⟨gX, 1, none⟩ = false := G.out.f.fro 4 rfl 1
            refine skip_ (w1 := (wg.setCell ⟨gX, 1, none⟩ (.slice An (((([] : List S49) ++ (t1.take kk)) ++ [(⟨a1_0, a1_1, ⟨dn, rd l0_0 a1_3⟩⟩ : S49)]) ++ rs).length cn))) (by rfl) rfl ?_ ?_
            · first | (go_simp; done) | (go_simp; rfl)
            clear hcX_1 hfX_1
            obtain ⟨wh, hw_⟩ : ∃ W_, W_ = (wg.setCell ⟨gX, 1, none⟩ (.slice An (((([] : List S49) ++ (t1.take kk)) ++ [(⟨a1_0, a1_1, ⟨dn, rd l0_0 a1_3⟩⟩ : S49)]) ++ rs).length cn)) := ⟨_, rfl⟩
            rw [← hw_]
            have F := Aside0.mk ((G.out.putF1 4 rfl 1 (.slice An (((([] : List S49) ++ (t1.take kk)) ++ [(⟨a1_0, a1_1, ⟨dn, rd l0_0 a1_3⟩⟩ : S49)]) ++ rs).length cn) hw_).done)
            clear G hw_
            refine hK.out _ _ ?_
            clear hK K hHeld
            refine done_ (by kernel_rfl) ?_
            go_wp2
            refine start_ (n := 5) (S := fun w' => w'.cell? ⟨gX, 0, none⟩ = some (.slice (some ⟨go, 0, none⟩) n0 co) ∧ w'.cell? ⟨gX, 1, none⟩ = some (.slice An (((([] : List S49) ++ (t1.take kk)) ++ [(⟨a1_0, a1_1, ⟨dn, rd l0_0 a1_3⟩⟩ : S49)]) ++ rs).length cn) ∧ w'.cell? ⟨gR, 0, none⟩ = some (.bool dn) ∧ w'.cell? ⟨gR, 1, none⟩ = some (.int .i64 (rd l0_0 a1_3))) (ds := []) #[false, false, false, false, false] (by kernel_rfl) rfl rfl (⟨(F.out.cell 4 rfl 0).trans rfl, (F.out.cell 4 rfl 1).trans rfl, (F.out.cell 6 rfl 0).trans rfl, (F.out.cell 6 rfl 1).trans rfl⟩) (fun hHeld => ?_)
            have F1 := Aside0.mk F.out.drew
            clear F
            have F := F1
            clear F1
            generalize wh.drew = wi at F hHeld ⊢
            refine takeTk 0 (some 125) #[true, false, false, false, false] ?_
            refine takeTk 1 (some 126) #[true, true, false, false, false] ?_
            refine one_ (i := 2) (N := none) #[true, true, true, false, false] rfl rfl (by kernel_rfl) (by decide) (fun K hK => ?_)
            have hcQ_0 : wi.cell? ⟨gQ, 0, none⟩ = some (.slice none 0 0) := (F.out.cell 2 rfl 0).trans rfl
            have hfQ_0 : wi.frozen? ⟨gQ, 0, none⟩ = false := F.out.fro 2 rfl 0
            have hcQ_1 : wi.cell? ⟨gQ, 1, none⟩ = some (.slice none 0 0) := (F.out.cell 2 rfl 1).trans rfl
            have hfQ_1 : wi.frozen? ⟨gQ, 1, none⟩ = false := F.out.fro 2 rfl 1
            refine skip_ (w1 := ((wi.setCell ⟨gQ, 0, none⟩ (.slice (some ⟨go, 0, none⟩) n0 co)).setCell ⟨gQ, 1, none⟩ (.slice An (((([] : List S49) ++ (t1.take kk)) ++ [(⟨a1_0, a1_1, ⟨dn, rd l0_0 a1_3⟩⟩ : S49)]) ++ rs).length cn))) (by rfl) rfl ?_ ?_
            · first | (go_simp; done) | (go_simp; rfl)
            clear hcQ_0 hfQ_0 hcQ_1 hfQ_1
            obtain ⟨wj, hw_⟩ : ∃ W_, W_ = ((wi.setCell ⟨gQ, 0, none⟩ (.slice (some ⟨go, 0, none⟩) n0 co)).setCell ⟨gQ, 1, none⟩ (.slice An (((([] : List S49) ++ (t1.take kk)) ++ [(⟨a1_0, a1_1, ⟨dn, rd l0_0 a1_3⟩⟩ : S49)]) ++ rs).length cn)) := ⟨_, rfl⟩
            rw [← hw_]
            have F1 := Aside0.mk (F.out.put2 2 rfl (.slice (some ⟨go, 0, none⟩) n0 co) (.slice An (((([] : List S49) ++ (t1.take kk)) ++ [(⟨a1_0, a1_1, ⟨dn, rd l0_0 a1_3⟩⟩ : S49)]) ++ rs).length cn) hw_)
            clear hw_
            clear F
            have F := F1
            clear F1
            refine hK.out _ _ (⟨(F.out.cell 4 rfl 0).trans rfl, (F.out.cell 4 rfl 1).trans rfl, (F.out.cell 6 rfl 0).trans rfl, (F.out.cell 6 rfl 1).trans rfl⟩) (fun hHeld => ?_)
            clear hK K
            refine one_ (i := 3) (N := none) #[true, true, true, true, false] rfl rfl (by kernel_rfl) (by decide) (fun K hK => ?_)
            have hcV_0 : wj.cell? ⟨gV, 0, none⟩ = some (.bool false) := (F.out.cell 3 rfl 0).trans rfl
            have hfV_0 : wj.frozen? ⟨gV, 0, none⟩ = false := F.out.fro 3 rfl 0
            have hcV_1 : wj.cell? ⟨gV, 1, none⟩ = some (.int .i64 0) := (F.out.cell 3 rfl 1).trans rfl
            have hfV_1 : wj.frozen? ⟨gV, 1, none⟩ = false := F.out.fro 3 rfl 1
            refine skip_ (w1 := ((wj.setCell ⟨gV, 0, none⟩ (.bool dn)).setCell ⟨gV, 1, none⟩ (.int .i64 (rd l0_0 a1_3)))) (by rfl) rfl ?_ ?_
            · first | (go_simp; done) | (go_simp; rfl)
            clear hcV_0 hfV_0 hcV_1 hfV_1
            obtain ⟨wk, hw_⟩ : ∃ W_, W_ = ((wj.setCell ⟨gV, 0, none⟩ (.bool dn)).setCell ⟨gV, 1, none⟩ (.int .i64 (rd l0_0 a1_3))) := ⟨_, rfl⟩
            rw [← hw_]
            have F1 := Aside0.mk (F.out.put2 3 rfl (.bool dn) (.int .i64 (rd l0_0 a1_3)) hw_)
            clear hw_
            clear F
            have F := F1
            clear F1
            refine hK.out _ _ (⟨(F.out.cell 4 rfl 0).trans rfl, (F.out.cell 4 rfl 1).trans rfl, (F.out.cell 6 rfl 0).trans rfl, (F.out.cell 6 rfl 1).trans rfl⟩) (fun hHeld => ?_)
            clear hK K
            refine pureTk 4 (some 6) #[true, true, true, true, true] ?_
            refine done_ (by kernel_rfl) ?_
            go_wp2
            refine bodyPost_ret (results_cct rfl _ _ gQ gV 31 33 #[.slice (some ⟨go, 0, none⟩) n0 co, .slice An (((([] : List S49) ++ (t1.take kk)) ++ [(⟨a1_0, a1_1, ⟨dn, rd l0_0 a1_3⟩⟩ : S49)]) ++ rs).length cn] #[.bool dn, .int .i64 (rd l0_0 a1_3)] _ _ rfl (F.out.at_ 2 rfl) Try.underlying31 rfl (by kernel_rfl) rfl (F.out.at_ 3 rfl) Try.underlying33 rfl (by kernel_rfl)) rfl ?_
            exact ⟨.slice (some ⟨go, 0, none⟩) n0 co, .slice An (((([] : List S49) ++ (t1.take kk)) ++ [(⟨a1_0, a1_1, ⟨dn, rd l0_0 a1_3⟩⟩ : S49)]) ++ rs).length cn, (by rw [← HDN.out]; first | done | rfl), (by rw [← HXO.out]; exact Kd.R_mono F.out.ro (fun _ _ => trivial)), (by rw [← NL.out]; exact Kd.R_mono F.out.rs (fun _ _ => trivial)), F.out.below⟩))
      rw [if_neg q5] at h
      exact absurd h (by simp)


end Go.Proofs.Ytcikahnmiiichaa.A
