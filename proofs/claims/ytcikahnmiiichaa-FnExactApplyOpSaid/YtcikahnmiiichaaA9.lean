/- Go functions as Lean functions, and the proof that the code comes to them: written by a program of this session out of the translation. -/
import Derived.Test.YtcikahnmiiichaaA0
import Derived.Test.YtcikahnmiiichaaA5
import Derived.Test.YtcikahnmiiichaaA6
import Derived.Test.YtcikahnmiiichaaA7
import Derived.Test.YtcikahnmiiichaaA8
import Derived.Laws.CopyRow
import Derived.Laws.Externs
import Derived.Lib.AppendZerosOnto
import Derived.Lib.Overlaps
import Derived.Shelf.RegionOpenPlain
namespace Go.Proofs.Ytcikahnmiiichaa.A
open Go.RowKit Go.Proofs.YtcikahnmiiichaaW.PrintWords Go.Proofs.YtcikahnmiiichaaW.PrintLast Go.Proofs.YtcikahnmiiichaaW.PrintMore
attribute [local go_sem] max2_int min2_int max_two min_two max_three min_three max_four min_four   -- for this text's walks alone
set_option linter.unusedVariables false
set_option linter.unusedSimpArgs false

/-! ### impl_ApplyOp: function 12 -/
theorem Gr.litL {P : Program} {ops : Array Oper} {o : Oper} {rest : List Oper} {Q : Exit → Act → World → Prop} {a : Act} {w W : World} {bs : List Bx_} {vo vs u : Value} {xo : List Int} {xs us : List S49} (h : Gr w W bs vo vs xo xs u (.slice none 0 0) us []) (hgd : o.guard = none) {N : Tmp} (hd : o.dst = some N) (x : S49)
    (hrun : (execOp a.eval o).run P W = .ok (.value (.slice (some ⟨W.heap.size, 0, none⟩) 1 1)) (W.alloc (.cells [.int .i64 x.f0, .int .i64 x.f1, .bool x.f2.f0, .int .i64 x.f2.f1].toArray 49)))
    (hk : ∀ v1 w1, Gr w w1 bs vo vs xo xs u v1 us [x] → wpList P ops Q rest (a.put o.dst v1) w1) : wpList P ops Q (o :: rest) a W :=
  Kd.R_lit k49 (w0 := w) w.heap.size 49 hgd hd (xs := [x]) (inner := [.int .i64 x.f0, .int .i64 x.f1, .bool x.f2.f0, .int .i64 x.f2.f1]) (ok := okG bs vo vs u) (okp := fun _ => False) hrun (Reps.c4 (k49_mkM _ _ _ x) (Reps.none _ _)) (fun _ hk => hk.elim) (h.freshT _ (Nat.le_refl _)) h.f.below h.f.below.size (by simp)
    (fun v1 w1 ho _ hg hat => hk v1 w1 (h.newT ho hg hat))
theorem set_mid {α : Type} (l : List α) (k : Nat) (hk : k ≤ l.length) (z x : α) : (l.take k ++ z :: l.drop k).set k x = l.take k ++ [x] ++ l.drop k := by
  have h1 : (l.take k).length = k := by rw [List.length_take]; omega
  simp [List.set_append, h1]
theorem set_in {α : Type} (l : List α) (k : Nat) (hk : k < l.length) (x : α) : l.set k x = l.take k ++ [x] ++ l.drop (k + 1) := by
  rw [List.set_eq_take_append_cons_drop, if_pos hk, List.append_assoc]; rfl
theorem Fr.len_ {w W : World} {bs : List Bx_} {vo : Value} {xo : List Int} {xs : List S49} {A : Option Addr} {n m c : Nat} (h : Fr w W bs vo (.slice A n c) xo xs) (e : n = m) : Fr w W bs vo (.slice A m c) xo xs := e ▸ h
theorem run_copy_S {P : Program} (w : World) (dT sT ty elem : TypeId) (sz g o dLen dCap : Nat) (a : Addr) (sLen sCap : Nat) (cur : Array Value) (t : TypeId) (cs : List Value)
    (hu : P.underlying dT = some (.slice elem)) (hs : (P.info? elem).map (·.size) = some sz)
    (hg : w.heap[g]? = some (.cells cur t (0, 0))) (hn : cs.length = Nat.min sLen dLen * sz)
    (hsrc : ∀ j v, cs[j]? = some v → w.cell? (a.add j) = some v) (hfit : o + cs.length ≤ cur.size) (h1 : ∀ v ∈ cs, v.oneCell' = true) :
    (Builtin.copy_ #[dT, sT] ty #[.slice (some ⟨g, o, none⟩) dLen dCap, .slice (some a) sLen sCap]).run P w =
      .ok (goInt (Nat.min sLen dLen)) (w.setRow g (cur.toList.take o ++ cs ++ cur.toList.drop (o + cs.length)).toArray) := by
  have hl := run_loadCells_list (P := P) w a cs hsrc
  have hst := run_storeCells_at P g o t cs 0 cur w hg (by simpa using hfit) h1
  cases hq : P.info? elem with
  | none => simp [hq] at hs
  | some i =>
    have hi : i.size = sz := by simpa [hq] using hs
    rw [hn] at hl
    simp [Builtin.copy_, run_underlying hu, Builtin.lenOf, Builtin.firstCells, sizeOf, typeInfo, hq, hi, hl, hst]
theorem wp_copy_runJ {P : Program} {ops : Array Oper} {rest : List Oper} {o : Oper} {a : Act} {w : World} {Q : Exit → Act → World → Prop} (hgd : o.guard = none) (d s : Operand) (t t' : TypeId)
    (ho : o.op = .call { callee := .builtin .copy, args := #[d, s], argTypes := #[t, t'] }) (v u : Value) (hd : a.eval d = v) (hs : a.eval s = u) {v' : Value} {w' : World}
    (hr : (Builtin.copy_ #[t, t'] o.type #[v, u]).run P w = .ok v' w') (h : wpList P ops Q rest (a.put o.dst v') w') : wpList P ops Q (o :: rest) a w :=
  wpList_plain hgd fun _ hK => by
    unfold Oper.wp execOp
    simp only [ho, resolve, invoke, builtin, Sem.run_bind, Sem.run_pure, Result.andThen_ok, List.map_toArray, List.map_cons, List.map_nil, hd, hs, hr]
    exact hK _ _ h
theorem step_copy_runJ {P : Program} {ops : Array Oper} {o : Oper} {a : Act} {w : World} {K : Act → World → Prop} {Q : Exit → Act → World → Prop} {E : Prop}
    (hg : o.guard = none) (d x : Operand) (dT sT : TypeId) (hop : o.op = Op.call { callee := Callee.builtin Builtin.copy, args := #[d, x], argTypes := #[dT, sT] })
    (v u : Value) (hd : a.eval d = v) (hx : a.eval x = u) {v' : Value} {w' : World} (hr : (Builtin.copy_ #[dT, sT] o.type #[v, u]).run P w = .ok v' w') (hK : K (a.put o.dst v') w') :
    if Region.wanted o (yielded ops a.tmps) = true then Oper.wp P o a w K Q else E := by
  have hw : Region.wanted o (yielded ops a.tmps) = true := by simp [Region.wanted, hg]
  rw [if_pos hw]
  unfold Oper.wp
  simp [execOp, hop, resolve, invoke, builtin, hd, hx, hr, Result.andThen]
  exact hK
def encS (x : S49) : List Value := [.int .i64 x.f0, .int .i64 x.f1, .bool x.f2.f0, .int .i64 x.f2.f1]
def isS (x : S49) (cs : List Value) : Prop := cs = encS x
theorem encS_one (x : S49) : ∀ v ∈ encS x, v.oneCell' = true := by intro v hv; simp [encS] at hv; rcases hv with rfl | rfl | rfl | rfl <;> rfl
theorem isS_one (x : S49) : Reps isS 4 [x] (encS x) := ⟨rfl, fun j p hj => by
  cases j with
  | zero => obtain rfl := Option.some.inj hj; rfl
  | succ j => cases hj⟩
theorem one_cells {xs : List S49} {inner : List Value} (h : Reps isS 4 xs inner) : ∀ v ∈ inner, v.oneCell' = true := by
  intro v hv
  obtain ⟨q, hq, rfl⟩ := List.getElem_of_mem hv
  have hl := h.1
  have hj : q / 4 < xs.length := by omega
  have := h.2 (q / 4) _ (List.getElem?_eq_getElem hj)
  refine encS_one xs[q / 4] _ ?_
  rw [← this]
  refine List.mem_iff_getElem?.2 ⟨q % 4, ?_⟩
  rw [List.getElem?_take, if_pos (Nat.mod_lt _ (by omega)), List.getElem?_drop, show q / 4 * 4 + q % 4 = q by omega]
  exact List.getElem?_eq_getElem hq
/-- A row out of its block. -/
theorem R_of_cells {W : World} {base : Nat} {ok : Nat → Prop} {g cap : Nat} {cells : Array Value} {inner : List Value} {ys : List S49} (hb : base ≤ g) (hg : W.heap[g]? = some (.cells cells 49 (0, 0))) (hcap : ys.length ≤ cap) (hm : cap ≤ maxLen)
    (hsz : cells.size = cap * 4) (hin : cells.toList.take (ys.length * 4) = inner) (hr : Reps isS 4 ys inner) (hok : ok g) : Kd.R k49 49 W base ok (.slice (some ⟨g, 0, none⟩) ys.length cap) ys := by
  refine ⟨fun k hk => ?_, inner, ⟨hr.1, .inr ⟨g, cap, cells, rfl, hb, hg, hcap, hm, hsz, hin⟩⟩, hr.imp_ (fun p c hp => ?_)⟩
  · have : g = k := by simpa [Value.ownBlock] using hk
    exact this ▸ hok
  · rw [show c = encS p from hp]; exact k49_mkM _ _ _ p
/-- .. and back. -/
theorem cells_of_R {W : World} {base : Nat} {ok : Nat → Prop} {g n cap : Nat} {ys : List S49} (h : Kd.R k49 49 W base ok (.slice (some ⟨g, 0, none⟩) n cap) ys) :
    ∃ cells : Array Value, ∃ inner, W.heap[g]? = some (.cells cells 49 (0, 0)) ∧ n = ys.length ∧ n ≤ cap ∧ cap ≤ maxLen ∧ cells.size = cap * 4 ∧ cells.toList.take (n * 4) = inner ∧ Reps isS 4 ys inner ∧ base ≤ g := by
  have hn := (Kd.R_reads' h).1
  obtain ⟨_, inner, ⟨h1, h2⟩, hr⟩ := h
  rcases h2 with ⟨he, _⟩ | ⟨g', cap', cur, he, hb, hh, hnc, hcm, hcs, ht⟩
  · cases he
  · injection he with ha hl hc
    injection ha with ha
    injection ha with hg
    subst hg; subst hc; subst hn
    exact ⟨cur, inner, hh, rfl, hnc, hcm, hcs, ht, hr.imp_ (fun p c hp => k49_openM hp), hb⟩
theorem addl (b o j : Nat) : (⟨b, o, none⟩ : Addr).add j = ⟨b, o + j, none⟩ := by unfold Addr.add; split <;> simp_all
section
variable {w W W1 : World} {bs : List Bx_} {vo vs u t v : Value} {xo : List Int} {xs us ts ys : List S49}
/-- The old row as the one that grows. -/
theorem Gr.turn (h : Gr w W bs vo vs xo xs (.slice none 0 0) t [] ts) : Gr w W bs vo (.slice none 0 0) xo [] vs t xs ts := by
  refine ⟨⟨h.f.below, h.f.ge, h.f.nd, h.f.box, h.f.ro, Kd.R_nil _ _ _ _ _⟩, Kd.R_mono (Kd.R_tight rfl h.f.rs) (fun k hk => ⟨h.f.rs.1 k hk.symm, fun e => h.f.apart k e hk.symm, by simp [Value.ownBlock], fun e => (h.rt.1 k e).2.2.1 hk.symm⟩),
    Kd.R_mono (Kd.R_tight rfl h.rt) (fun k hk => ⟨(h.rt.1 k hk.symm).1, (h.rt.1 k hk.symm).2.1, by simp [Value.ownBlock], (h.rt.1 k hk.symm).2.2.1⟩)⟩
theorem Gr.appL {ops : Array Oper} {o : Oper} {rest : List Oper} {Q : Exit → Act → World → Prop} {A : Option Addr} {m c : Nat} {a : Act} (h : Gr w W bs vo vs xo xs u t us ts) (hgd : o.guard = none) (s x : Operand)
    (ho : o.op = .call { callee := .builtin .append, args := #[s, x], argTypes := #[29, 29] }) (hs : a.eval s = u) (hx : a.eval x = .slice A m c) (hR : Kd.C k49 W A m ys) (hl : (us.length + m) * 32 ≤ 140737488355328)
    (hk : ∀ v1 w1, Gr w w1 bs vo vs xo xs v1 t (us ++ ys) ts → wpList Try.prog ops Q rest (a.put o.dst v1) w1) : wpList Try.prog ops Q (o :: rest) a W :=
  Kd.R_append_rows k49 (w0 := w) w.heap.size hgd s x 29 49 (.agg #[(.int .i64 0), (.int .i64 0), (.bool false), (.int .i64 0)]) 32 ho Try.underlying29 info49 rfl (by decide) (by omega) u us ys A m c (okG bs vo vs t) (fun _ => False) hs hx
    h.ru hR (fun _ _ h => k49M_of_K h) (fun _ h => h.elim) h.freshU h.f.below h.f.below.size hl (fun v1 w1 ho _ hg hat => hk v1 w1 (h.app ho hg hat))
/-- The row's block is filled anew. -/
theorem Fr.refill {gs n cap : Nat} {cells : Array Value} {inner : List Value} (h : Fr w W bs vo (.slice (some ⟨gs, 0, none⟩) n cap) xo xs)
    (hcap : ys.length ≤ cap) (hsz : cells.size = cap * 4) (hin : cells.toList.take (ys.length * 4) = inner) (hr : Reps isS 4 ys inner) :
    Fr w (W.setRow gs cells) bs vo (.slice (some ⟨gs, 0, none⟩) ys.length cap) xo ys := by
  obtain ⟨cur, inn, hh, hn, hnc, hcm, hcs, ht, _, hb⟩ := cells_of_R h.rs
  have hg : gs ∉ bs.map (·.1) := h.rs.1 gs rfl
  have hlt : gs < W.heap.size := blk_lt hh
  have hsz' : (W.setRow gs cells).heap.size = W.heap.size := by simp [World.setRow]
  refine ⟨h.below.trans ⟨rfl, rfl, rfl, by simp [World.setRow], fun k hk => setRow_other W gs k cells (by omega)⟩, h.ge, h.nd, fun p hp => ?_, ?_, ?_⟩
  · rw [setRow_other W gs p.1 cells (fun e => hg (List.mem_map.2 ⟨p, hp, e⟩))]; exact h.box p hp
  · exact Kd.R_mono (Kd.R_step (Kd.R_tight rfl h.ro) (fun k hk _ => setRow_other W gs k cells (fun e => h.apart k hk.symm (by rw [e]; rfl)))) (fun k hk => h.ro.1 k hk.symm)
  · exact R_of_cells hb (setRow_heap W gs cur cells _ _ hh) hcap hcm hsz hin hr hg
/-- A new block takes the row's place. -/
theorem Fr.replaced {gs cap : Nat} {cells : Array Value} {inner : List Value} (h : Fr w W bs vo vs xo xs) (hb : Below W.heap.size W W1) (hg : W1.heap[gs]? = some (.cells cells 49 (0, 0))) (hge : W.heap.size ≤ gs)
    (hcap : ys.length ≤ cap) (hm : cap ≤ maxLen) (hsz : cells.size = cap * 4) (hin : cells.toList.take (ys.length * 4) = inner) (hr : Reps isS 4 ys inner) :
    Fr w W1 bs vo (.slice (some ⟨gs, 0, none⟩) ys.length cap) xo ys := by
  have h1 := h.step hb
  refine ⟨h1.below, h1.ge, h1.nd, h1.box, h1.ro, R_of_cells (Nat.le_trans h.below.size hge) hg hcap hm hsz hin hr (fun hm' => by have := h.lt gs hm'; omega)⟩
end
/-- The row with one more, as cells. -/
theorem insReps {xs : List S49} {x : S49} {inner : List Value} {i : Nat} (h : Reps isS 4 xs inner) (hi : i ≤ xs.length) : Reps isS 4 (xs.take i ++ x :: xs.drop i) (inner.take (i * 4) ++ (encS x ++ inner.drop (i * 4))) :=
  Kd.reps_append (Kd.reps_take h hi) (Kd.reps_append (isS_one x) (Kd.reps_drop h))
section
variable {w W : World} {bs : List Bx_} {vo : Value} {xo : List Int} {xs : List S49} {x : S49} {As : Option Addr} {g cs ct : Nat}
set_option maxHeartbeats 4000000 in
set_option maxRecDepth 100000 in
/-- slices.Insert of one session, at the end. -/
theorem ins_end (h : Gr w W bs vo (.slice As xs.length cs) xo xs (.slice none 0 0) (.slice (some ⟨g, 0, none⟩) 1 ct) [] [x]) (hlim : xs.length < 1099511627776) :
    Calls Try.prog 51 #[.slice As xs.length cs, .int .i64 (xs.length : Int), .slice (some ⟨g, 0, none⟩) 1 ct] W fun e w' => ∃ v', e = .returned v' ∧ Aside0 (Fr w w' bs vo v' xo (xs ++ [x])) := by
  have HG := Aside0.mk h.turn
  have HL := Aside0.mk hlim
  obtain ⟨Ax, cx, hcx, _⟩ := cutd As cs xs.length xs (Nat.le_refl _) (Kd.R_reads' h.f.rs).2.1
  clear h hlim
  go_enter Try.func51, Try.ntmps51
  go_wp2_with ((with_reducible refine gate_builtin (b := .append) (xs := #[.tmp 23, .tmp 24]) rfl ?_); at_builtin; refine HG.out.appL (ys := [x]) rfl (.tmp 23) (.tmp 24) rfl rfl rfl ?_ ?_ ?_; (exact (Kd.R_reads' HG.out.rt).2.2); (have h1 := HL.out; omega); intro v1 w1 hG; have HN := Aside0.mk hG; clear hG)
  go_ret
  exact ⟨_, rfl, ⟨HN.out.done⟩⟩
set_option maxHeartbeats 4000000 in
set_option maxRecDepth 100000 in
/-- .. in the midst, with room. -/
theorem ins_room {ga i : Nat} (h : Gr w W bs vo (.slice (some ⟨ga, 0, none⟩) xs.length cs) xo xs (.slice none 0 0) (.slice (some ⟨g, 0, none⟩) 1 ct) [] [x]) (hlim : xs.length < 1099511627776) (hi : i < xs.length) (hroom : xs.length + 1 ≤ cs) :
    Calls Try.prog 51 #[.slice (some ⟨ga, 0, none⟩) xs.length cs, .int .i64 (i : Int), .slice (some ⟨g, 0, none⟩) 1 ct] W fun e w' => ∃ v', e = .returned v' ∧ Aside0 (Fr w w' bs vo v' xo (xs.take i ++ x :: xs.drop i)) := by
  obtain ⟨cur, inner, hh, hz1, hnc, hcm, hcs, ht, hr, hbg⟩ := cells_of_R h.f.rs
  obtain ⟨cur2, inn2, hh2, hz2, hnc2, hcm2, hcs2, ht2, hr2, hbg2⟩ := cells_of_R h.rt
  have hx : inn2 = encS x := by
    have := hr2.2 0 x rfl
    rw [show ((inn2.drop (0 * 4)).take 4) = inn2 by rw [Nat.zero_mul, List.drop_zero]; exact List.take_of_length_le (by rw [hr2.1]; simp)] at this
    exact this
  have hne : g ≠ ga := fun e => (h.rt.1 g rfl).2.2.1 (by rw [e]; rfl)
  have HM := Aside0.mk hcm
  clear hcm hcm2 hz1 hz2
  obtain ⟨i0, hi0, hzz⟩ := Option.map_eq_some_iff.1 info49
  simp only [Prod.mk.injEq] at hzz
  have hsz : (Try.prog.info? 49).map (·.size) = some 4 := by rw [hi0]; simp [hzz.2.1]
  have hel : Try.prog.elem 29 = 49 := by simp [Program.elem, Try.underlying29]
  have hu : Try.prog.underlying 29 = some (.slice (Try.prog.elem 29)) := by rw [hel]; exact Try.underlying29
  have hil : inner.length = xs.length * 4 := hr.1
  have hcl : cur.toList.length = cs * 4 := by rw [Array.length_toList]; exact hcs
  -- the cuts
  have E1 : ∀ W n j, j < n → n ≤ cs → (Instr.slice 29 (.slice (some ⟨ga, 0, none⟩) n cs) (some (.int .i64 (j : Int))) none none).run Try.prog W = .ok (.slice (some ⟨ga, j * 4, none⟩) (n - j) (cs - j)) W := fun W n j h1 h2 => by
    rw [cut_from 29 49 .i64 Try.underlying29 hi0 4 hzz.2.1 _ n cs (j : Int) (by omega) (by omega) W, Int.toNat_natCast, if_neg (by omega)]
    simp [add_plain]
  have hc1 : ∀ W, (Instr.slice 29 (.slice (some ⟨ga, 0, none⟩) xs.length cs) (some (.int .i64 (i : Int))) none none).run Try.prog W = .ok (.slice (some ⟨ga, i * 4, none⟩) (xs.length - i) (cs - i)) W := fun W => E1 W _ _ hi (by omega)
  have hc2 : ∀ W, (Instr.slice 29 (.slice (some ⟨ga, 0, none⟩) xs.length cs) none (some (.int .i64 ((xs.length : Int) + 1))) none).run Try.prog W = .ok (.slice (some ⟨ga, 0, none⟩) (xs.length + 1) cs) W := fun W => by
    rw [run_slice_h W 29 _ _ cs hu .i64 _ (by omega) (by omega), hel]
    simp [sizeOf, typeInfo, hi0, sliced, Result.andThen, Addr.add, show ((xs.length : Int) + 1).toNat = xs.length + 1 by omega]
  have hc3 : ∀ W, (Instr.slice 29 (.slice (some ⟨ga, 0, none⟩) (xs.length + 1) cs) (some (.int .i64 ((i : Int) + 1))) none none).run Try.prog W = .ok (.slice (some ⟨ga, (i + 1) * 4, none⟩) (xs.length - i) (cs - (i + 1))) W := fun W => by
    have := E1 W (xs.length + 1) (i + 1) (by omega) hroom
    rw [show ((i + 1 : Nat) : Int) = (i : Int) + 1 by omega] at this
    rw [this, show xs.length + 1 - (i + 1) = xs.length - i by omega]
  have hc4 : ∀ W, (Instr.slice 29 (.slice (some ⟨ga, 0, none⟩) (xs.length + 1) cs) (some (.int .i64 (i : Int))) none none).run Try.prog W = .ok (.slice (some ⟨ga, i * 4, none⟩) (xs.length + 1 - i) (cs - i)) W := fun W => E1 W _ _ (by omega) hroom
  have n1 : ((i : Int) == (xs.length : Int)) = false := beq_eq_false_iff_ne.2 (by omega)
  have n2 : decide ((cs : Int) < (xs.length : Int) + 1) = false := decide_eq_false (by omega)
  have hov : ∀ lb cb, (callFunc 81 #[.slice (some ⟨g, 0, none⟩) 1 ct, .slice (some ⟨ga, (i + 1) * 4, none⟩) lb cb]).run Try.prog W = .ok (.value (.bool false)) W := fun lb cb => by
    rw [run_callFunc_extern Try.func81 (by kernel_rfl) (by kernel_rfl) (by kernel_rfl) (e := Extern.SlicesOverlaps.overlaps #[29, 29] #[4]) (by kernel_rfl),
      Lib.run_overlaps_apart W 29 4 49 Try.underlying29 4 (by intro w; simp [sizeOf, typeInfo, hi0, hzz.2.1]) ⟨g, 0, none⟩ ⟨ga, (i + 1) * 4, none⟩ 1 ct lb cb hne 49 49 cur2.size cur.size (by simp [World.shape?, hh2]) (by simp [World.shape?, hh]) (by omega) (blk_frozen hh2 0) (blk_frozen hh2 _)]
    rfl
  -- the copies
  have hsp : ∀ (l : List S49), True := fun _ => trivial
  obtain ⟨C1, hC1⟩ : ∃ C1, C1 = (cur.toList.take ((i + 1) * 4) ++ inner.drop (i * 4) ++ cur.toList.drop ((i + 1) * 4 + (inner.drop (i * 4)).length)).toArray := ⟨_, rfl⟩
  have hd4 : (inner.drop (i * 4)).length = (xs.length - i) * 4 := by rw [List.length_drop, hil]; omega
  have hC1s : C1.size = cs * 4 := by rw [hC1]; simp only [List.size_toArray, List.length_append, List.length_take, List.length_drop, hcl, hil]; omega
  have hcell : ∀ j v, (inner.drop (i * 4))[j]? = some v → W.drew.cell? ((⟨ga, i * 4, none⟩ : Addr).add j) = some v := fun j v hj => by
    rw [addl, blk_cell (blk_drew hh)]
    rw [List.getElem?_drop, ← ht, List.getElem?_take] at hj
    split at hj
    · simpa using hj
    · cases hj
  have hcp1 : ∀ ty dc sc, (Builtin.copy_ #[29, 29] ty #[.slice (some ⟨ga, (i + 1) * 4, none⟩) (xs.length - i) dc, .slice (some ⟨ga, i * 4, none⟩) (xs.length + 1 - i) sc]).run Try.prog W.drew = .ok (goInt (Nat.min (xs.length + 1 - i) (xs.length - i))) (W.drew.setRow ga C1) := fun ty dc sc => by
    rw [hC1]
    exact run_copy_S W.drew _ _ ty 49 4 ga ((i + 1) * 4) _ dc ⟨ga, i * 4, none⟩ _ sc cur 49 (inner.drop (i * 4)) Try.underlying29 hsz hh (by rw [hd4]; simp only [Nat.min_def]; split <;> omega) hcell (by rw [hd4, hcs]; omega) (fun v hv => one_cells hr v (List.mem_of_mem_drop hv))
  obtain ⟨W1, hW1⟩ : ∃ W1, W1 = W.drew.setRow ga C1 := ⟨_, rfl⟩
  have hh1 : W1.heap[ga]? = some (.cells C1 49 (0, 0)) := by rw [hW1]; exact setRow_heap W.drew ga cur C1 _ _ hh
  have hv1 : W1.heap[g]? = some (.cells cur2 49 (0, 0)) := by rw [hW1, setRow_other W.drew ga g C1 hne]; exact hh2
  obtain ⟨C2, hC2⟩ : ∃ C2, C2 = (C1.toList.take (i * 4) ++ encS x ++ C1.toList.drop (i * 4 + (encS x).length)).toArray := ⟨_, rfl⟩
  have hC1l : C1.toList.length = cs * 4 := by rw [Array.length_toList]; exact hC1s
  have hC2s : C2.size = cs * 4 := by rw [hC2]; simp only [List.size_toArray, List.length_append, List.length_take, List.length_drop, hC1l, encS, List.length_cons, List.length_nil]; omega
  have hcell2 : ∀ j v, (encS x)[j]? = some v → W1.cell? ((⟨g, 0, none⟩ : Addr).add j) = some v := fun j v hj => by
    rw [addl, blk_cell hv1, Nat.zero_add]
    rw [← hx, ← ht2, List.getElem?_take] at hj
    split at hj
    · simpa using hj
    · cases hj
  have hcp2 : ∀ ty dc, (Builtin.copy_ #[29, 29] ty #[.slice (some ⟨ga, i * 4, none⟩) (xs.length + 1 - i) dc, .slice (some ⟨g, 0, none⟩) 1 ct]).run Try.prog W1 = .ok (goInt (Nat.min 1 (xs.length + 1 - i))) (W1.setRow ga C2) := fun ty dc => by
    rw [hC2]
    exact run_copy_S W1 _ _ ty 49 4 ga (i * 4) _ dc ⟨g, 0, none⟩ _ ct C1 49 (encS x) Try.underlying29 hsz hh1 (by simp only [encS, List.length_cons, List.length_nil, Nat.min_def]; split <;> omega) hcell2 (by simp only [encS, List.length_cons, List.length_nil, hC1s]; omega) (encS_one x)
  have hlen : (xs.take i ++ x :: xs.drop i).length = xs.length + 1 := by simp only [List.length_append, List.length_take, List.length_cons, List.length_drop]; omega
  have hfin : Aside0 (Fr w (W1.setRow ga C2) bs vo (.slice (some ⟨ga, 0, none⟩) (xs.length + 1) cs) xo (xs.take i ++ x :: xs.drop i)) := by
    have hin : C2.toList.take ((xs.take i ++ x :: xs.drop i).length * 4) = inner.take (i * 4) ++ (encS x ++ inner.drop (i * 4)) := by
      have hA : C1.toList = cur.toList.take ((i + 1) * 4) ++ inner.drop (i * 4) ++ cur.toList.drop ((i + 1) * 4 + (inner.drop (i * 4)).length) := by rw [hC1]
      have h1 : C1.toList.take (i * 4) = inner.take (i * 4) := by
        rw [hA, List.append_assoc, List.take_append_of_le_length (by rw [List.length_take, hcl]; omega), List.take_take, ← ht, List.take_take, show min (i * 4) ((i + 1) * 4) = min (i * 4) (xs.length * 4) by omega]
      have h2 : C1.toList.drop (i * 4 + 4) = inner.drop (i * 4) ++ cur.toList.drop ((i + 1) * 4 + (inner.drop (i * 4)).length) := by
        rw [hA, List.append_assoc, show i * 4 + 4 = (cur.toList.take ((i + 1) * 4)).length by rw [List.length_take, hcl]; omega, List.drop_left]
      rw [hC2, hlen]
      show List.take ((xs.length + 1) * 4) (C1.toList.take (i * 4) ++ encS x ++ C1.toList.drop (i * 4 + 4)) = _
      rw [h1, h2, ← List.append_assoc, ← List.append_assoc]
      refine (List.take_append_of_le_length ?_).trans (List.take_of_length_le ?_)
      · simp only [List.length_append, List.length_take, List.length_drop, hil, encS, List.length_cons, List.length_nil]; omega
      · simp only [List.length_append, List.length_take, List.length_drop, hil, encS, List.length_cons, List.length_nil]; omega
    have hF1 : Fr w (W1.setRow ga C2) bs vo (.slice (some ⟨ga, 0, none⟩) (xs.take i ++ x :: xs.drop i).length cs) xo (xs.take i ++ x :: xs.drop i) := by
      rw [hW1, setRow_setRow]
      exact h.f.drew.refill (by rw [hlen]; exact hroom) hC2s hin (insReps hr (by omega))
    rw [hlen] at hF1
    exact ⟨hF1⟩
  rw [← hW1] at hcp1
  have HLM := Aside0.mk hlim
  have HCP1 := Aside0.mk hcp1
  have HCP2 := Aside0.mk hcp2
  clear hcp1 hcp2 hcell2 hsz hu hel
  clear h hlim hh hh2 hh1 hv1 hcell hC1 hC2 hC1s hC2s hC1l hlen hr hr2 ht ht2 hx hcl hil hd4 E1 hW1 hsp hnc hcs hbg hcs2 hbg2 hne hi0 hzz hnc2
  have w1 : wrap64 ((xs.length : Int) + 1) = (xs.length : Int) + 1 := by have := HLM.out; unfold wrap64; omega
  have w2 : wrap64 ((i : Int) + 1) = (i : Int) + 1 := by have := HLM.out; clear w1; unfold wrap64; omega
  have mixed : Try.prog.follows Departure.mixedOrders = true := by kernel_rfl
  have w3 : IntKind.i64.wrap ((i : Int) + 1) = (i : Int) + 1 := by rw [i64_w]; exact w2
  go_enter Try.func51, Try.ntmps51
  go_wp2_with (simp only [hov])
  have hcp1 := HCP1.out
  go_region
  clear hcp1
  have hcp2 := HCP2.out
  go_wp2
  go_ret
  exact ⟨_, rfl, hfin⟩
end
section
variable {w W : World} {bs : List Bx_} {vo : Value} {xo : List Int} {xs : List S49} {x : S49} {g cs ct : Nat}
set_option maxHeartbeats 4000000 in
set_option maxRecDepth 100000 in
/-- .. in the midst, without room. -/
theorem ins_grow {ga i : Nat} (h : Gr w W bs vo (.slice (some ⟨ga, 0, none⟩) xs.length cs) xo xs (.slice none 0 0) (.slice (some ⟨g, 0, none⟩) 1 ct) [] [x]) (hlim : xs.length < 1099511627776) (hi : i < xs.length) (hroom : cs < xs.length + 1) :
    Calls Try.prog 51 #[.slice (some ⟨ga, 0, none⟩) xs.length cs, .int .i64 (i : Int), .slice (some ⟨g, 0, none⟩) 1 ct] W fun e w' => ∃ v', e = .returned v' ∧ Aside0 (Fr w w' bs vo v' xo (xs.take i ++ x :: xs.drop i)) := by
  obtain ⟨cur, inner, hh, hz1, hnc, hcm, hcs, ht, hr, hbg⟩ := cells_of_R h.f.rs
  obtain ⟨cur2, inn2, hh2, hz2, hnc2, hcm2, hcs2, ht2, hr2, hbg2⟩ := cells_of_R h.rt
  have hx : inn2 = encS x := by
    have := hr2.2 0 x rfl
    rw [show ((inn2.drop (0 * 4)).take 4) = inn2 by rw [Nat.zero_mul, List.drop_zero]; exact List.take_of_length_le (by rw [hr2.1]; simp)] at this
    exact this
  clear hcm hcm2 hz1 hz2
  obtain ⟨i0, hi0, hzz⟩ := Option.map_eq_some_iff.1 info49
  simp only [Prod.mk.injEq] at hzz
  have hsz : (Try.prog.info? 49).map (·.size) = some 4 := by rw [hi0]; simp [hzz.2.1]
  have hil : inner.length = xs.length * 4 := hr.1
  have hglt : g < W.heap.size := blk_lt hh2
  have hgal : ga < W.heap.size := blk_lt hh
  have E1 : ∀ W a n c j, j < n → n ≤ c → (Instr.slice 29 (.slice (some ⟨a, 0, none⟩) n c) (some (.int .i64 (j : Int))) none none).run Try.prog W = .ok (.slice (some ⟨a, j * 4, none⟩) (n - j) (c - j)) W := fun W a n c j h1 h2 => by
    rw [cut_from 29 49 .i64 Try.underlying29 hi0 4 hzz.2.1 _ n c (j : Int) (by omega) (by omega) W, Int.toNat_natCast, if_neg (by omega)]
    simp [add_plain]
  have hc1 : ∀ W, (Instr.slice 29 (.slice (some ⟨ga, 0, none⟩) xs.length cs) (some (.int .i64 (i : Int))) none none).run Try.prog W = .ok (.slice (some ⟨ga, i * 4, none⟩) (xs.length - i) (cs - i)) W := fun W => E1 W _ _ _ _ hi (by omega)
  have hcA : ∀ W, (Instr.slice 29 (.slice (some ⟨ga, 0, none⟩) xs.length cs) none (some (.int .i64 (i : Int))) none).run Try.prog W = .ok (.slice (some ⟨ga, 0, none⟩) i cs) W := fun W =>
    cut_to 29 49 .i64 Try.underlying29 hi0 _ xs.length cs (i : Int) (by omega) (by omega) hnc W
  have hold : (Builtin.firstCells i0.size i (.slice (some ⟨ga, 0, none⟩) i cs)).run Try.prog W.drew = .ok (inner.take (i * 4)).toArray W.drew := by
    rw [hzz.2.1]
    refine run_firstCells_some W.drew 4 i ⟨ga, 0, none⟩ i cs (inner.take (i * 4)) (by rw [List.length_take, hil]; omega) (fun j v hj => ?_)
    rw [List.getElem?_take] at hj
    split at hj
    · rw [addl, blk_cell (blk_drew hh), Nat.zero_add]
      rw [← ht, List.getElem?_take] at hj
      split at hj
      · simpa using hj
      · cases hj
    · cases hj
  have hap : ∀ ty, (Builtin.append_ #[29, 3] ty #[.slice (some ⟨ga, 0, none⟩) i cs, .int .i64 ((xs.length : Int) + 1 - (i : Int))]).run Try.prog W =
      .ok (.slice (some ⟨W.heap.size, 0, none⟩) (xs.length + 1) (grownCap W (xs.length + 1) cs 49)) (W.drew.alloc (.cells ((inner.take (i * 4)).toArray ++ Builtin.zeroCells (Value.agg #[(.int .i64 0), (.int .i64 0), (.bool false), (.int .i64 0)]).cells (xs.length + 1 - i) ++ Builtin.zeroCells (Value.agg #[(.int .i64 0), (.int .i64 0), (.bool false), (.int .i64 0)]).cells (grownCap W (xs.length + 1) cs 49 - (xs.length + 1))) 49)) := fun ty => by
    have h := Lib.run_append_grow_zeros W 29 3 ty 49 i0 (.agg #[(.int .i64 0), (.int .i64 0), (.bool false), (.int .i64 0)]) .i64 .i64 Try.underlying29 Try.underlying3 hi0 hzz.1 (some ⟨ga, 0, none⟩) i cs _ hold (xs.length + 1 - i) (by omega) (by rw [hzz.2.1]; omega) (by omega) (by omega)
      (by rw [hzz.2.2]; omega) (by rw [hzz.2.2]; exact growslice_fits (by omega) (by omega))
    rw [show i + (xs.length + 1 - i) = xs.length + 1 by omega, show ((xs.length + 1 - i : Nat) : Int) = (xs.length : Int) + 1 - (i : Int) by omega] at h
    exact h
  have hGn : xs.length + 1 ≤ grownCap W (xs.length + 1) cs 49 := grownCap_ge W _ _ _
  have hGm := grownCap_le_maxLen W (xs.length + 1) cs 49 (by unfold maxLen; omega)
  obtain ⟨G, hG⟩ : ∃ G, G = grownCap W (xs.length + 1) cs 49 := ⟨_, rfl⟩
  rw [← hG] at hap hGn hGm
  have HGm := Aside0.mk hGm
  clear hGm hG
  obtain ⟨ROW, hROW⟩ : ∃ ROW : Array Value, ROW = ((inner.take (i * 4)).toArray ++ Builtin.zeroCells (Value.agg #[(.int .i64 0), (.int .i64 0), (.bool false), (.int .i64 0)]).cells (xs.length + 1 - i) ++ Builtin.zeroCells (Value.agg #[(.int .i64 0), (.int .i64 0), (.bool false), (.int .i64 0)]).cells (G - (xs.length + 1))) := ⟨_, rfl⟩
  rw [← hROW] at hap
  have hRs : ROW.size = G * 4 := by
    rw [hROW]
    simp only [Array.size_append, List.size_toArray, List.length_take, hil, Builtin.zeroCells, Array.size_map, Array.size_range, Value.cells, List.size_toArray, List.length_cons, List.length_nil]
    omega
  have hRl : ROW.toList.length = G * 4 := by rw [Array.length_toList]; exact hRs
  have hRt : ROW.toList.take (i * 4) = inner.take (i * 4) := by
    rw [hROW]
    simp only [Array.toList_append, List.append_assoc]
    rw [List.take_append_of_le_length (by simp only [List.length_take, hil]; omega)]
    simp [List.take_take]
  obtain ⟨W1, hW1⟩ : ∃ W1, W1 = W.drew.alloc (.cells ROW 49) := ⟨_, rfl⟩
  obtain ⟨gs, hgs⟩ : ∃ gs, gs = W.heap.size := ⟨_, rfl⟩
  have hb1 : Below W.heap.size W W1 := by rw [hW1]; exact below_alloc (below_drew1 (Below.refl _ _)) _
  have hh1 : W1.heap[gs]? = some (.cells ROW 49 (0, 0)) := by rw [hW1, hgs]; exact Array.getElem?_push_size
  rw [← hW1, ← hgs] at hap
  have hcB : ∀ W, (Instr.slice 29 (.slice (some ⟨gs, 0, none⟩) (xs.length + 1) G) (some (.int .i64 (i : Int))) none none).run Try.prog W = .ok (.slice (some ⟨gs, i * 4, none⟩) (xs.length + 1 - i) (G - i)) W := fun W => E1 W _ _ _ _ (by omega) hGn
  have hcC : ∀ W, (Instr.slice 29 (.slice (some ⟨gs, 0, none⟩) (xs.length + 1) G) (some (.int .i64 ((i : Int) + 1))) none none).run Try.prog W = .ok (.slice (some ⟨gs, (i + 1) * 4, none⟩) (xs.length - i) (G - (i + 1))) W := fun W => by
    have := E1 W gs (xs.length + 1) G (i + 1) (by omega) hGn
    rw [show ((i + 1 : Nat) : Int) = (i : Int) + 1 by omega] at this
    rw [this, show xs.length + 1 - (i + 1) = xs.length - i by omega]
  have hv1 : W1.heap[g]? = some (.cells cur2 49 (0, 0)) := blk_below hh2 hb1
  have ha1 : W1.heap[ga]? = some (.cells cur 49 (0, 0)) := blk_below hh hb1
  obtain ⟨C1, hC1⟩ : ∃ C1, C1 = (ROW.toList.take (i * 4) ++ encS x ++ ROW.toList.drop (i * 4 + (encS x).length)).toArray := ⟨_, rfl⟩
  have hC1s : C1.size = G * 4 := by rw [hC1]; simp only [List.size_toArray, List.length_append, List.length_take, List.length_drop, hRl, encS, List.length_cons, List.length_nil]; omega
  have hC1l : C1.toList.length = G * 4 := by rw [Array.length_toList]; exact hC1s
  have hcell2 : ∀ j v, (encS x)[j]? = some v → W1.cell? ((⟨g, 0, none⟩ : Addr).add j) = some v := fun j v hj => by
    rw [addl, blk_cell hv1, Nat.zero_add]
    rw [← hx, ← ht2, List.getElem?_take] at hj
    split at hj
    · simpa using hj
    · cases hj
  have hcp1 : ∀ ty dc, (Builtin.copy_ #[29, 29] ty #[.slice (some ⟨gs, i * 4, none⟩) (xs.length + 1 - i) dc, .slice (some ⟨g, 0, none⟩) 1 ct]).run Try.prog W1 = .ok (goInt (Nat.min 1 (xs.length + 1 - i))) (W1.setRow gs C1) := fun ty dc => by
    rw [hC1]
    exact run_copy_S W1 _ _ ty 49 4 gs (i * 4) _ dc ⟨g, 0, none⟩ _ ct ROW 49 (encS x) Try.underlying29 hsz hh1 (by simp only [encS, List.length_cons, List.length_nil, Nat.min_def]; split <;> omega) hcell2 (by simp only [encS, List.length_cons, List.length_nil, hRs]; omega) (encS_one x)
  obtain ⟨W2, hW2⟩ : ∃ W2, W2 = W1.setRow gs C1 := ⟨_, rfl⟩
  have hh3 : W2.heap[gs]? = some (.cells C1 49 (0, 0)) := by rw [hW2]; exact setRow_heap W1 gs ROW C1 _ _ hh1
  have ha2 : W2.heap[ga]? = some (.cells cur 49 (0, 0)) := by rw [hW2, setRow_other W1 gs ga C1 (by omega)]; exact ha1
  obtain ⟨C2, hC2⟩ : ∃ C2, C2 = (C1.toList.take ((i + 1) * 4) ++ inner.drop (i * 4) ++ C1.toList.drop ((i + 1) * 4 + (inner.drop (i * 4)).length)).toArray := ⟨_, rfl⟩
  have hd4 : (inner.drop (i * 4)).length = (xs.length - i) * 4 := by rw [List.length_drop, hil]; omega
  have hC2s : C2.size = G * 4 := by rw [hC2]; simp only [List.size_toArray, List.length_append, List.length_take, List.length_drop, hC1l, hil]; omega
  have hcell : ∀ j v, (inner.drop (i * 4))[j]? = some v → W2.drew.cell? ((⟨ga, i * 4, none⟩ : Addr).add j) = some v := fun j v hj => by
    rw [addl, blk_cell (blk_drew ha2)]
    rw [List.getElem?_drop, ← ht, List.getElem?_take] at hj
    split at hj
    · simpa using hj
    · cases hj
  have hcp2 : ∀ ty dc sc, (Builtin.copy_ #[29, 29] ty #[.slice (some ⟨gs, (i + 1) * 4, none⟩) (xs.length - i) dc, .slice (some ⟨ga, i * 4, none⟩) (xs.length - i) sc]).run Try.prog W2.drew = .ok (goInt (Nat.min (xs.length - i) (xs.length - i))) (W2.drew.setRow gs C2) := fun ty dc sc => by
    rw [hC2]
    exact run_copy_S W2.drew _ _ ty 49 4 gs ((i + 1) * 4) _ dc ⟨ga, i * 4, none⟩ _ sc C1 49 (inner.drop (i * 4)) Try.underlying29 hsz hh3 (by rw [hd4]; simp only [Nat.min_def]; split <;> omega) hcell (by rw [hd4, hC1s]; omega) (fun v hv => one_cells hr v (List.mem_of_mem_drop hv))
  have hlen : (xs.take i ++ x :: xs.drop i).length = xs.length + 1 := by simp only [List.length_append, List.length_take, List.length_cons, List.length_drop]; omega
  have hfin : Aside0 (Fr w (W2.drew.setRow gs C2) bs vo (.slice (some ⟨gs, 0, none⟩) (xs.length + 1) G) xo (xs.take i ++ x :: xs.drop i)) := by
    have hin : C2.toList.take ((xs.take i ++ x :: xs.drop i).length * 4) = inner.take (i * 4) ++ (encS x ++ inner.drop (i * 4)) := by
      have hA : C1.toList = ROW.toList.take (i * 4) ++ encS x ++ ROW.toList.drop (i * 4 + (encS x).length) := by rw [hC1]
      have h1 : C1.toList.take ((i + 1) * 4) = inner.take (i * 4) ++ encS x := by
        rw [hA, hRt, show (i + 1) * 4 = (inner.take (i * 4) ++ encS x).length by simp only [List.length_append, List.length_take, hil, encS, List.length_cons, List.length_nil]; omega]
        exact List.take_left
      rw [hC2, hlen, ← List.append_assoc]
      show List.take ((xs.length + 1) * 4) (C1.toList.take ((i + 1) * 4) ++ inner.drop (i * 4) ++ _) = _
      rw [h1]
      refine (List.take_append_of_le_length ?_).trans (List.take_of_length_le ?_)
      · simp only [List.length_append, List.length_take, List.length_drop, hil, encS, List.length_cons, List.length_nil]; omega
      · simp only [List.length_append, List.length_take, List.length_drop, hil, encS, List.length_cons, List.length_nil]; omega
    have hB : Below W.heap.size W (W2.drew.setRow gs C2) := by
      refine hb1.trans ?_
      rw [hW2]
      exact ⟨rfl, rfl, rfl, by simp [World.setRow, World.drew], fun k hk => by
        rw [setRow_other _ gs k C2 (by omega)]
        exact setRow_other W1 gs k C1 (by omega)⟩
    have hF1 : Fr w (W2.drew.setRow gs C2) bs vo (.slice (some ⟨gs, 0, none⟩) (xs.take i ++ x :: xs.drop i).length G) xo (xs.take i ++ x :: xs.drop i) :=
      h.f.replaced hB (setRow_heap W2.drew gs C1 C2 _ _ hh3) (by omega) (by rw [hlen]; exact hGn) HGm.out hC2s hin (insReps hr (by omega))
    rw [hlen] at hF1
    exact ⟨hF1⟩
  rw [← hW2] at hcp1
  have HLM := Aside0.mk hlim
  have HAP := Aside0.mk hap
  have HCP1 := Aside0.mk hcp1
  have HCP2 := Aside0.mk hcp2
  have n1 : ((i : Int) == (xs.length : Int)) = false := beq_eq_false_iff_ne.2 (by omega)
  have n2 : decide ((cs : Int) < (xs.length : Int) + 1) = true := decide_eq_true (by omega)
  clear hap hcp1 hcp2 hcell hcell2 hC1 hC2 hC1s hC2s hC1l hlen hr hr2 ht ht2 hx hil hd4 E1 hW1 hW2 hnc hcs hbg hcs2 hbg2 hi0 hzz hnc2 h hlim hh hh1 hh2 hh3 ha1 ha2 hv1 hb1 hRs hRl hRt hROW hGn HGm hold hsz hgs hglt hgal
  have w1 : wrap64 ((xs.length : Int) + 1) = (xs.length : Int) + 1 := by have := HLM.out; unfold wrap64; omega
  have w2 : wrap64 ((i : Int) + 1) = (i : Int) + 1 := by have := HLM.out; clear w1; unfold wrap64; omega
  have w4 : wrap64 ((xs.length : Int) + 1 - (i : Int)) = (xs.length : Int) + 1 - (i : Int) := by have := HLM.out; clear w1 w2; unfold wrap64; omega
  have HAP2 : Aside0 (∀ ty, (Builtin.append_ #[29, 3] ty #[.slice (some ⟨ga, 0, none⟩) i cs, .int .i64 (wrap64 ((xs.length : Int) + 1 - (i : Int)))]).run Try.prog W = .ok (.slice (some ⟨gs, 0, none⟩) (xs.length + 1) G) W1) := ⟨by rw [w4]; exact HAP.out⟩
  have mixed : Try.prog.follows Departure.mixedOrders = true := by kernel_rfl
  have w3 : IntKind.i64.wrap ((i : Int) + 1) = (i : Int) + 1 := by rw [i64_w]; exact w2
  go_enter Try.func51, Try.ntmps51
  have hcp1 := HCP1.out
  go_wp2_with ((with_reducible refine gate_builtin (b := .append) (xs := #[.tmp 34, .tmp 39]) rfl ?_); at_builtin; refine Lib.wpList_append_run _ rfl _ _ _ _ rfl _ _ rfl rfl _ _ (HAP2.out _) ?_)
  clear hcp1
  have hcp2 := HCP2.out
  go_region
  clear hcp2
  go_wp2
  go_ret
  exact ⟨_, rfl, hfin⟩
end
/-- slices.Insert of one session. -/
theorem ins_any {w W : World} {bs : List Bx_} {vo : Value} {xo : List Int} {xs : List S49} {x : S49} {As : Option Addr} {g cs ct i : Nat} (h : Gr w W bs vo (.slice As xs.length cs) xo xs (.slice none 0 0) (.slice (some ⟨g, 0, none⟩) 1 ct) [] [x]) (hlim : xs.length < 1099511627776) (hi : i ≤ xs.length) :
    Calls Try.prog 51 #[.slice As xs.length cs, .int .i64 (i : Int), .slice (some ⟨g, 0, none⟩) 1 ct] W fun e w' => ∃ v', e = .returned v' ∧ Aside0 (Fr w w' bs vo v' xo (xs.take i ++ x :: xs.drop i)) := by
  rcases Nat.lt_or_eq_of_le hi with hi | rfl
  · obtain ⟨ga, cap, e, _⟩ := Kd.R_form h.f.rs (by omega)
    injection e with e1 e2 e3
    subst e1
    subst e3
    rcases Nat.lt_or_ge cs (xs.length + 1) with hr | hr
    · exact ins_grow h hlim hi hr
    · exact ins_room h hlim hi hr
  · rw [List.take_length, List.drop_length]
    exact ins_end h hlim
/-- An element of the row of sessions is written. -/
theorem Fr.setS {w W W1 : World} {bs : List Bx_} {vo : Value} {xo : List Int} {xs : List S49} {g n c i : Nat} (h : Fr w W bs vo (.slice (some ⟨g, 0, none⟩) n c) xo xs) (hi : i < n) (x : S49)
    (hw : W1 = (((W.setCell ⟨g, i * 4, none⟩ (.int .i64 x.f0)).setCell ⟨g, i * 4 + 1, none⟩ (.int .i64 x.f1)).setCell ⟨g, i * 4 + 2, none⟩ (.bool x.f2.f0)).setCell ⟨g, i * 4 + 3, none⟩ (.int .i64 x.f2.f1)) :
    Fr w W1 bs vo (.slice (some ⟨g, 0, none⟩) n c) xo (xs.set i x) := by
  have hg : g ∉ bs.map (·.1) := h.rs.1 g rfl
  have hgb : w.heap.size ≤ g := by obtain ⟨_, h1⟩ := Kd.R_own h.rs; exact own_base h1 g rfl
  obtain ⟨cc, hcl, _, hcc, _⟩ := Kd.R_elem h.rs ⟨0, 0, ⟨false, 0⟩⟩ (i : Int) (by omega) (by omega)
  have hs := Kd.R_seg h.rs (i : Int) (by omega) (by omega) (c := cc) (seg := encS x) (j := 0) (x' := x) (okp := fun _ => False) hcl hcc (by rw [show (encS x).length = 4 from rfl]; exact Nat.le_refl 4) (by
    have h4 : cc.length = 4 := hcl
    rw [List.take_zero, List.nil_append, List.drop_eq_nil_of_le (by rw [show (encS x).length = 4 from rfl]; omega), List.append_nil]; exact k49_mkM _ _ _ x) (fun _ h => h.elim)
  have he : W1 = W.setCells g ((i : Int).toNat * (k49).sz + 0) (encS x) := by rw [hw]; rfl
  rw [← he] at hs
  obtain ⟨h1, h2⟩ := hs
  exact ⟨h.below.grown h2 h.below.size (fun k hk => by injection hk with hk; omega), h.ge, h.nd, fun p hp => blk_grown (h.box p hp) h2 (fun e => hg (List.mem_map.2 ⟨p, hp, by injection e⟩)),
    Kd.R_mono (Kd.R_step (Kd.R_tight rfl h.ro) (fun k hk hlt => h2.block k hlt (fun e => h.apart k hk.symm (by rw [e]; rfl)))) (fun k hk => h.ro.1 k hk.symm), by simpa using h1⟩
theorem cells_at {W : World} {base : Nat} {ok : Nat → Prop} {g n c : Nat} {xs : List S49} (h : Kd.R k49 49 W base ok (.slice (some ⟨g, 0, none⟩) n c) xs) (i : Nat) (hi : i < n) :
    ∃ a b d e : Value, W.cell? ⟨g, i * 4, none⟩ = some a ∧ W.cell? ⟨g, i * 4 + 1, none⟩ = some b ∧ W.cell? ⟨g, i * 4 + 2, none⟩ = some d ∧ W.cell? ⟨g, i * 4 + 3, none⟩ = some e ∧ ∀ j, W.frozen? ⟨g, i * 4 + j, none⟩ = false := by
  obtain ⟨cc, hcl, hM, hcc, hf⟩ := Kd.R_elem h ⟨0, 0, ⟨false, 0⟩⟩ (i : Int) (by omega) (by omega)
  have := k49_openM hM
  subst this
  exact ⟨_, _, _, _, hcc 0 _ rfl, hcc 1 _ rfl, hcc 2 _ rfl, hcc 3 _ rfl, hf⟩
def impl_ApplyOp.f (k : Nat) (l0_0 : List Int) (l0_1 : List S49) (a1_0 a1_1 a1_2 a1_3 a1_4 a1_5 : Int) : Option (List Int × List S49 × Bool × Int × Bool) :=
  (impl_machineCopy.f l0_0 l0_1).bind fun x => (impl_SessionOf.f k l0_0 l0_1 a1_0).bind fun s => (impl_IsValidMachine.f k l0_0 l0_1).bind fun v =>
    if v = true then (impl_IsValidOp.f a1_0 a1_1 a1_2 a1_3 a1_4 a1_5).bind fun o =>
      if o = true then step_ l0_0 x.1 x.2 s.2.1 s.2.2.1 s.2.2.2.1 s.2.2.2.2 a1_0 a1_1 a1_2 a1_3 a1_4 a1_5
      else some (x.1, x.2, false, 0, false)
    else some (x.1, x.2, false, 0, false)
theorem impl_ApplyOp.mono : ∀ l0_0 l0_1 a1_0 a1_1 a1_2 a1_3 a1_4 a1_5 k, LeO (impl_ApplyOp.f k l0_0 l0_1 a1_0 a1_1 a1_2 a1_3 a1_4 a1_5) (impl_ApplyOp.f (k + 1) l0_0 l0_1 a1_0 a1_1 a1_2 a1_3 a1_4 a1_5) := by
  intro _ _ _ _ _ _ _ _ k
  unfold impl_ApplyOp.f
  exact LeO.bind (LeO.refl _) (fun _ => LeO.bind (impl_SessionOf.mono _ _ _ _) (fun _ => LeO.bind (impl_IsValidMachine.mono _ _ _) (fun _ => LeO.ite (LeO.bind (LeO.refl _) (fun _ => LeO.ite (LeO.refl _) (LeO.refl _))) (LeO.refl _))))
set_option maxHeartbeats 8000000 in
set_option maxRecDepth 100000 in
theorem impl_ApplyOp.calls (k : Nat) (A0_0 : Option Addr) (c0_0 : Nat) (l0_0 : List Int) (A0_1 : Option Addr) (c0_1 : Nat) (l0_1 : List (S49)) (a1_0 a1_1 a1_2 a1_3 a1_4 a1_5 : Int) (r1 : List Int) (r2 : List (S49)) (r3 : Bool) (r4 : Int) (r5 : Bool) (w : World) (hr0_0 : Kd.C (Kd.int .i64) w A0_0 l0_0.length l0_0) (hc0_0 : l0_0.length ≤ c0_0) (hr0_1 : Kd.C k49 w A0_1 l0_1.length l0_1) (hc0_1 : l0_1.length ≤ c0_1) (h : impl_ApplyOp.f k l0_0 l0_1 a1_0 a1_1 a1_2 a1_3 a1_4 a1_5 = some (r1, r2, r3, r4, r5)) :
    Calls Try.prog 12 #[.agg #[.slice A0_0 l0_0.length c0_0, .slice A0_1 l0_1.length c0_1], .agg #[.int .i64 a1_0, .int .i64 a1_1, .int .i64 a1_2, .int .i64 a1_3, .int .i64 a1_4, .int .i64 a1_5]] w fun e w' => ∃ v0_ v1_ : Value, e = .returned (.tuple #[.agg #[v0_, v1_], .agg #[.bool r3, .int .i64 r4], .bool r5]) ∧ Kd.R (Kd.int .i64) 3 w' w.heap.size (fun _ => True) v0_ r1 ∧ Kd.R k49 49 w' w.heap.size (fun _ => True) v1_ r2 ∧ Below w.heap.size w w' := by
  have hu31 := Try.underlying31
  have HR0_0 := Aside0.mk hr0_0
  have HC0_0 := Aside0.mk hc0_0
  have HR0_1 := Aside0.mk hr0_1
  have HC0_1 := Aside0.mk hc0_1
  clear hr0_0 hc0_0 hr0_1 hc0_1
  have F := Aside0.mk (Fr.start w)
  unfold impl_ApplyOp.f at h
  replace h := Option.bind_eq_some_iff.mp h
  obtain ⟨⟨t0, t1⟩, b1, h⟩ := h
  have B1 := Aside0.mk b1
  clear b1
  replace h := Option.bind_eq_some_iff.mp h
  obtain ⟨⟨u0, u1, u2, u3, u4⟩, b4, h⟩ := h
  have B4 := Aside0.mk b4
  clear b4
  replace h := Option.bind_eq_some_iff.mp h
  obtain ⟨v, b2, h⟩ := h
  have B2 := Aside0.mk b2
  clear b2
  cases v with
  | false =>
    rw [if_neg (by simp)] at h
    replace h := Option.some.inj h
    simp only [Prod.mk.injEq] at h
    obtain ⟨rfl, rfl, rfl, rfl, rfl⟩ := h
    go_enter Try.func12, Try.ntmps12
    go_wp2_with (first
        | ((with_reducible refine gate_dst (N := 2) rfl ?_); refine box_event ?hg (N := 2) ?hd (cs := #[.slice A0_0 l0_0.length c0_0, .slice A0_1 l0_1.length c0_1]) (t := 31) ?hr ?_; (case hd => rfl); (case hg => rfl); (case hr => first | (go_simp; done) | (go_simp; rfl)); intro gM hg wM hbox hb; have F1 := Aside0.mk (F.out.new hg hbox hb); clear hbox hb hg; clear F; have F := F1; clear F1)
        | ((with_reducible refine gate_dst (N := 3) rfl ?_); refine box_event ?hg (N := 3) ?hd (cs := #[.int .i64 a1_0, .int .i64 a1_1, .int .i64 a1_2, .int .i64 a1_3, .int .i64 a1_4, .int .i64 a1_5]) (t := 37) ?hr ?_; (case hd => rfl); (case hg => rfl); (case hr => first | (go_simp; done) | (go_simp; rfl)); intro gO hg wO hbox hb; have F1 := Aside0.mk (F.out.new hg hbox hb); clear hbox hb hg; clear F; have F := F1; clear F1)
        | ((with_reducible refine gate_dst (N := 4) rfl ?_); refine box_event ?hg (N := 4) ?hd (cs := #[.slice none 0 0, .slice none 0 0]) (t := 31) ?hr ?_; (case hd => rfl); (case hg => rfl); (case hr => first | (go_simp; done) | (go_simp; rfl)); intro gQ hg wQ hbox hb; have F1 := Aside0.mk (F.out.new hg hbox hb); clear hbox hb hg; clear F; have F := F1; clear F1)
        | ((with_reducible refine gate_dst (N := 5) rfl ?_); refine box_event ?hg (N := 5) ?hd (cs := #[.bool false, .int .i64 0]) (t := 33) ?hr ?_; (case hd => rfl); (case hg => rfl); (case hr => first | (go_simp; done) | (go_simp; rfl)); intro gV hg wV hbox hb; have F1 := Aside0.mk (F.out.new hg hbox hb); clear hbox hb hg; clear F; have F := F1; clear F1; have hcM_0 : wV.cell? ⟨gM, 0, none⟩ = some (.slice A0_0 l0_0.length c0_0) := (F.out.cell 0 rfl 0).trans rfl; have hcM_1 : wV.cell? ⟨gM, 1, none⟩ = some (.slice A0_1 l0_1.length c0_1) := (F.out.cell 0 rfl 1).trans rfl)
        | ((with_reducible refine gate_callee (f := 49) rfl ?_); refine goesL_ (some 14) rfl rfl Try.func49 (by kernel_rfl) rfl #[.agg #[.slice A0_0 l0_0.length c0_0, .slice A0_1 l0_1.length c0_1]] rfl (by (try simp only [List.map_toArray, List.map_cons, List.map_nil]); first | done | rfl) ?_; (with_reducible refine (impl_machineCopy.calls _ _ l0_0 _ _ l0_1 t0 t1 _ ?s0 ?s1 ?s2 ?s3 B1.out).mono ?_); (case s0 => exact Kd.C_below HR0_0.out F.out.below); (case s1 => exact HC0_0.out); (case s2 => exact Kd.C_below HR0_1.out F.out.below); (case s3 => exact HC0_1.out); rintro e wA ⟨v0, v1, rfl, ho0, ho1, hb⟩; refine ⟨_, rfl, ?_⟩; clear hcM_0 hcM_1; have F1 := Aside0.mk (F.out.rows hb ho0 ho1); clear hb; clear F; have F := F1; clear F1; (obtain ⟨Ao, co, e0⟩ := Kd.R_slice ho0); (obtain ⟨As, cs, e1⟩ := Kd.R_slice ho1); subst e0; subst e1; clear ho0 ho1)
        | ((with_reducible refine gate_dst (N := 7) rfl ?_); refine box_event ?hg (N := 7) ?hd (cs := #[.slice none 0 0, .slice none 0 0]) (t := 31) ?hr ?_; (case hd => rfl); (case hg => rfl); (case hr => first | (go_simp; done) | (go_simp; rfl)); intro gX hg wX hbox hb; have F1 := Aside0.mk (F.out.new hg hbox hb); clear hbox hb hg; clear F; have F := F1; clear F1; have hcX_0 : wX.cell? ⟨gX, 0, none⟩ = some (.slice none 0 0) := (F.out.cell 4 rfl 0).trans rfl; have hfX_0 : wX.frozen? ⟨gX, 0, none⟩ = false := F.out.fro 4 rfl 0; have hcX_1 : wX.cell? ⟨gX, 1, none⟩ = some (.slice none 0 0) := (F.out.cell 4 rfl 1).trans rfl; have hfX_1 : wX.frozen? ⟨gX, 1, none⟩ = false := F.out.fro 4 rfl 1)
        | ((with_reducible refine gate_store (t := 31) (p := 7) rfl ?_); refine store_event (t := 31) (p := 7) (v := ?vo_1) (w1 := ((wX.setCell ⟨gX, 0, none⟩ (.slice Ao t0.length co)).setCell ⟨gX, 1, none⟩ (.slice As t1.length cs))) ?hg ?ho ?hn ?hr ?_; (case ho => rfl); (case hg => rfl); (case hn => rfl); (case hr => first | (go_simp; done) | (go_simp; rfl)); intro wB hw_; clear hcX_0 hfX_0 hcX_1 hfX_1; have F1 := Aside0.mk (F.out.put2 4 rfl (.slice Ao t0.length co) (.slice As t1.length cs) hw_); clear hw_; clear F; have F := F1; clear F1; have hcM_0 : wB.cell? ⟨gM, 0, none⟩ = some (.slice A0_0 l0_0.length c0_0) := (F.out.cell 0 rfl 0).trans rfl; have hcM_1 : wB.cell? ⟨gM, 1, none⟩ = some (.slice A0_1 l0_1.length c0_1) := (F.out.cell 0 rfl 1).trans rfl; have hcO_0 : wB.cell? ⟨gO, 0, none⟩ = some (.int .i64 a1_0) := (F.out.cell 1 rfl 0).trans rfl)
        | ((with_reducible refine gate_callee (f := 22) rfl ?_); refine goesL_ (some 19) rfl rfl Try.func22 (by kernel_rfl) rfl #[.agg #[.slice A0_0 l0_0.length c0_0, .slice A0_1 l0_1.length c0_1], .int .i64 a1_0] rfl (by (try simp only [List.map_toArray, List.map_cons, List.map_nil]); first | done | rfl) ?_; (with_reducible refine (impl_SessionOf.calls k _ _ l0_0 _ _ l0_1 a1_0 u0 u1 u2 u3 u4 _ ?s0 ?s1 ?s2 ?s3 B4.out).mono ?_); (case s0 => exact Kd.C_below HR0_0.out F.out.below); (case s1 => exact HC0_0.out); (case s2 => exact Kd.C_below HR0_1.out F.out.below); (case s3 => exact HC0_1.out); rintro e wE ⟨rfl, hb⟩; refine ⟨_, rfl, ?_⟩; clear hcM_0 hcM_1 hcO_0; have F1 := Aside0.mk (F.out.step hb); clear hb; clear F; have F := F1; clear F1)
        | ((with_reducible refine gate_dst (N := 8) rfl ?_); refine box_event ?hg (N := 8) ?hd (cs := #[.int .i64 0, .int .i64 0, .bool false, .int .i64 0]) (t := 49) ?hr ?_; (case hd => rfl); (case hg => rfl); (case hr => first | (go_simp; done) | (go_simp; rfl)); intro gS hg wS hbox hb; have F1 := Aside0.mk (F.out.new hg hbox hb); clear hbox hb hg; clear F; have F := F1; clear F1; have hcS_0 : wS.cell? ⟨gS, 0, none⟩ = some (.int .i64 0) := (F.out.cell 5 rfl 0).trans rfl; have hfS_0 : wS.frozen? ⟨gS, 0, none⟩ = false := F.out.fro 5 rfl 0; have hcS_1 : wS.cell? ⟨gS, 1, none⟩ = some (.int .i64 0) := (F.out.cell 5 rfl 1).trans rfl; have hfS_1 : wS.frozen? ⟨gS, 1, none⟩ = false := F.out.fro 5 rfl 1; have hcS_2 : wS.cell? ⟨gS, 2, none⟩ = some (.bool false) := (F.out.cell 5 rfl 2).trans rfl; have hfS_2 : wS.frozen? ⟨gS, 2, none⟩ = false := F.out.fro 5 rfl 2; have hcS_3 : wS.cell? ⟨gS, 3, none⟩ = some (.int .i64 0) := (F.out.cell 5 rfl 3).trans rfl; have hfS_3 : wS.frozen? ⟨gS, 3, none⟩ = false := F.out.fro 5 rfl 3)
        | ((with_reducible refine gate_store (t := 49) (p := 8) rfl ?_); refine store_event (t := 49) (p := 8) (v := ?vo_2) (w1 := ((((wS.setCell ⟨gS, 0, none⟩ (.int .i64 u0)).setCell ⟨gS, 1, none⟩ (.int .i64 u1)).setCell ⟨gS, 2, none⟩ (.bool u2)).setCell ⟨gS, 3, none⟩ (.int .i64 u3))) ?hg ?ho ?hn ?hr ?_; (case ho => rfl); (case hg => rfl); (case hn => rfl); (case hr => first | (go_simp; done) | (go_simp; rfl)); intro wG hw_; clear hcS_0 hfS_0 hcS_1 hfS_1 hcS_2 hfS_2 hcS_3 hfS_3; have F1 := Aside0.mk (F.out.put4 5 rfl (.int .i64 u0) (.int .i64 u1) (.bool u2) (.int .i64 u3) hw_); clear hw_; clear F; have F := F1; clear F1; have hcM_0 : wG.cell? ⟨gM, 0, none⟩ = some (.slice A0_0 l0_0.length c0_0) := (F.out.cell 0 rfl 0).trans rfl; have hcM_1 : wG.cell? ⟨gM, 1, none⟩ = some (.slice A0_1 l0_1.length c0_1) := (F.out.cell 0 rfl 1).trans rfl)
        | ((with_reducible refine gate_callee (f := 20) rfl ?_); refine goesL_ (some 24) rfl rfl Try.func20 (by kernel_rfl) rfl #[.agg #[.slice A0_0 l0_0.length c0_0, .slice A0_1 l0_1.length c0_1]] rfl (by (try simp only [List.map_toArray, List.map_cons, List.map_nil]); first | done | rfl) ?_; (with_reducible refine (impl_IsValidMachine.calls k _ _ l0_0 _ _ l0_1 false _ ?s0 ?s1 ?s2 ?s3 B2.out).mono ?_); (case s0 => exact Kd.C_below HR0_0.out F.out.below); (case s1 => exact HC0_0.out); (case s2 => exact Kd.C_below HR0_1.out F.out.below); (case s3 => exact HC0_1.out); rintro e wC ⟨rfl, hb⟩; refine ⟨_, rfl, ?_⟩; clear hcM_0 hcM_1; have F1 := Aside0.mk (F.out.step hb); clear hb; clear F; have F := F1; clear F1; have hcX_0 : wC.cell? ⟨gX, 0, none⟩ = some (.slice Ao t0.length co) := (F.out.cell 4 rfl 0).trans rfl; have hcX_1 : wC.cell? ⟨gX, 1, none⟩ = some (.slice As t1.length cs) := (F.out.cell 4 rfl 1).trans rfl; have hcQ_0 : wC.cell? ⟨gQ, 0, none⟩ = some (.slice none 0 0) := (F.out.cell 2 rfl 0).trans rfl; have hfQ_0 : wC.frozen? ⟨gQ, 0, none⟩ = false := F.out.fro 2 rfl 0; have hcQ_1 : wC.cell? ⟨gQ, 1, none⟩ = some (.slice none 0 0) := (F.out.cell 2 rfl 1).trans rfl; have hfQ_1 : wC.frozen? ⟨gQ, 1, none⟩ = false := F.out.fro 2 rfl 1)
        | ((with_reducible refine gate_store (t := 31) (p := 4) rfl ?_); refine store_event (t := 31) (p := 4) (v := ?vo_3) (w1 := ((wC.setCell ⟨gQ, 0, none⟩ (.slice Ao t0.length co)).setCell ⟨gQ, 1, none⟩ (.slice As t1.length cs))) ?hg ?ho ?hn ?hr ?_; (case ho => rfl); (case hg => rfl); (case hn => rfl); (case hr => first | (go_simp; done) | (go_simp; rfl)); intro wP hw_; clear hcX_0 hcX_1 hcQ_0 hfQ_0 hcQ_1 hfQ_1; have F1 := Aside0.mk (F.out.put2 2 rfl (.slice Ao t0.length co) (.slice As t1.length cs) hw_); clear hw_; clear F; have F := F1; clear F1; have hcV_0 : wP.cell? ⟨gV, 0, none⟩ = some (.bool false) := (F.out.cell 3 rfl 0).trans rfl; have hfV_0 : wP.frozen? ⟨gV, 0, none⟩ = false := F.out.fro 3 rfl 0; have hcV_1 : wP.cell? ⟨gV, 1, none⟩ = some (.int .i64 0) := (F.out.cell 3 rfl 1).trans rfl; have hfV_1 : wP.frozen? ⟨gV, 1, none⟩ = false := F.out.fro 3 rfl 1)
        | ((with_reducible refine gate_store (t := 33) (p := 5) rfl ?_); refine store_event (t := 33) (p := 5) (v := ?vo_4) (w1 := ((wP.setCell ⟨gV, 0, none⟩ (.bool false)).setCell ⟨gV, 1, none⟩ (.int .i64 0))) ?hg ?ho ?hn ?hr ?_; (case ho => rfl); (case hg => rfl); (case hn => rfl); (case hr => first | (go_simp; done) | (go_simp; rfl)); intro wR hw_; clear hcV_0 hfV_0 hcV_1 hfV_1; have F1 := Aside0.mk (F.out.put2 3 rfl (.bool false) (.int .i64 0) hw_); clear hw_; clear F; have F := F1; clear F1))
    all_goals (refine bodyPost_ret (results_cct rfl _ _ gQ gV 31 33 #[.slice Ao t0.length co, .slice As t1.length cs] #[.bool false, .int .i64 0] _ _ rfl (F.out.at_ 2 rfl) Try.underlying31 rfl (by kernel_rfl) rfl (F.out.at_ 3 rfl) Try.underlying33 rfl (by kernel_rfl)) rfl ?_; exact ⟨_, _, rfl, Kd.R_mono F.out.ro (fun _ _ => trivial), Kd.R_mono F.out.rs (fun _ _ => trivial), F.out.below⟩)
  | true =>
    rw [if_pos rfl] at h
    replace h := Option.bind_eq_some_iff.mp h
    obtain ⟨o, b3, h⟩ := h
    have B3 := Aside0.mk b3
    clear b3
    cases o with
    | false =>
      rw [if_neg (by simp)] at h
      replace h := Option.some.inj h
      simp only [Prod.mk.injEq] at h
      obtain ⟨rfl, rfl, rfl, rfl, rfl⟩ := h
      go_enter Try.func12, Try.ntmps12
      go_wp2_with (first
          | ((with_reducible refine gate_dst (N := 2) rfl ?_); refine box_event ?hg (N := 2) ?hd (cs := #[.slice A0_0 l0_0.length c0_0, .slice A0_1 l0_1.length c0_1]) (t := 31) ?hr ?_; (case hd => rfl); (case hg => rfl); (case hr => first | (go_simp; done) | (go_simp; rfl)); intro gM hg wM hbox hb; have F1 := Aside0.mk (F.out.new hg hbox hb); clear hbox hb hg; clear F; have F := F1; clear F1)
          | ((with_reducible refine gate_dst (N := 3) rfl ?_); refine box_event ?hg (N := 3) ?hd (cs := #[.int .i64 a1_0, .int .i64 a1_1, .int .i64 a1_2, .int .i64 a1_3, .int .i64 a1_4, .int .i64 a1_5]) (t := 37) ?hr ?_; (case hd => rfl); (case hg => rfl); (case hr => first | (go_simp; done) | (go_simp; rfl)); intro gO hg wO hbox hb; have F1 := Aside0.mk (F.out.new hg hbox hb); clear hbox hb hg; clear F; have F := F1; clear F1)
          | ((with_reducible refine gate_dst (N := 4) rfl ?_); refine box_event ?hg (N := 4) ?hd (cs := #[.slice none 0 0, .slice none 0 0]) (t := 31) ?hr ?_; (case hd => rfl); (case hg => rfl); (case hr => first | (go_simp; done) | (go_simp; rfl)); intro gQ hg wQ hbox hb; have F1 := Aside0.mk (F.out.new hg hbox hb); clear hbox hb hg; clear F; have F := F1; clear F1)
          | ((with_reducible refine gate_dst (N := 5) rfl ?_); refine box_event ?hg (N := 5) ?hd (cs := #[.bool false, .int .i64 0]) (t := 33) ?hr ?_; (case hd => rfl); (case hg => rfl); (case hr => first | (go_simp; done) | (go_simp; rfl)); intro gV hg wV hbox hb; have F1 := Aside0.mk (F.out.new hg hbox hb); clear hbox hb hg; clear F; have F := F1; clear F1; have hcM_0 : wV.cell? ⟨gM, 0, none⟩ = some (.slice A0_0 l0_0.length c0_0) := (F.out.cell 0 rfl 0).trans rfl; have hcM_1 : wV.cell? ⟨gM, 1, none⟩ = some (.slice A0_1 l0_1.length c0_1) := (F.out.cell 0 rfl 1).trans rfl)
          | ((with_reducible refine gate_callee (f := 49) rfl ?_); refine goesL_ (some 14) rfl rfl Try.func49 (by kernel_rfl) rfl #[.agg #[.slice A0_0 l0_0.length c0_0, .slice A0_1 l0_1.length c0_1]] rfl (by (try simp only [List.map_toArray, List.map_cons, List.map_nil]); first | done | rfl) ?_; (with_reducible refine (impl_machineCopy.calls _ _ l0_0 _ _ l0_1 t0 t1 _ ?s0 ?s1 ?s2 ?s3 B1.out).mono ?_); (case s0 => exact Kd.C_below HR0_0.out F.out.below); (case s1 => exact HC0_0.out); (case s2 => exact Kd.C_below HR0_1.out F.out.below); (case s3 => exact HC0_1.out); rintro e wA ⟨v0, v1, rfl, ho0, ho1, hb⟩; refine ⟨_, rfl, ?_⟩; clear hcM_0 hcM_1; have F1 := Aside0.mk (F.out.rows hb ho0 ho1); clear hb; clear F; have F := F1; clear F1; (obtain ⟨Ao, co, e0⟩ := Kd.R_slice ho0); (obtain ⟨As, cs, e1⟩ := Kd.R_slice ho1); subst e0; subst e1; clear ho0 ho1)
          | ((with_reducible refine gate_dst (N := 7) rfl ?_); refine box_event ?hg (N := 7) ?hd (cs := #[.slice none 0 0, .slice none 0 0]) (t := 31) ?hr ?_; (case hd => rfl); (case hg => rfl); (case hr => first | (go_simp; done) | (go_simp; rfl)); intro gX hg wX hbox hb; have F1 := Aside0.mk (F.out.new hg hbox hb); clear hbox hb hg; clear F; have F := F1; clear F1; have hcX_0 : wX.cell? ⟨gX, 0, none⟩ = some (.slice none 0 0) := (F.out.cell 4 rfl 0).trans rfl; have hfX_0 : wX.frozen? ⟨gX, 0, none⟩ = false := F.out.fro 4 rfl 0; have hcX_1 : wX.cell? ⟨gX, 1, none⟩ = some (.slice none 0 0) := (F.out.cell 4 rfl 1).trans rfl; have hfX_1 : wX.frozen? ⟨gX, 1, none⟩ = false := F.out.fro 4 rfl 1)
          | ((with_reducible refine gate_store (t := 31) (p := 7) rfl ?_); refine store_event (t := 31) (p := 7) (v := ?vo_5) (w1 := ((wX.setCell ⟨gX, 0, none⟩ (.slice Ao t0.length co)).setCell ⟨gX, 1, none⟩ (.slice As t1.length cs))) ?hg ?ho ?hn ?hr ?_; (case ho => rfl); (case hg => rfl); (case hn => rfl); (case hr => first | (go_simp; done) | (go_simp; rfl)); intro wB hw_; clear hcX_0 hfX_0 hcX_1 hfX_1; have F1 := Aside0.mk (F.out.put2 4 rfl (.slice Ao t0.length co) (.slice As t1.length cs) hw_); clear hw_; clear F; have F := F1; clear F1; have hcM_0 : wB.cell? ⟨gM, 0, none⟩ = some (.slice A0_0 l0_0.length c0_0) := (F.out.cell 0 rfl 0).trans rfl; have hcM_1 : wB.cell? ⟨gM, 1, none⟩ = some (.slice A0_1 l0_1.length c0_1) := (F.out.cell 0 rfl 1).trans rfl; have hcO_0 : wB.cell? ⟨gO, 0, none⟩ = some (.int .i64 a1_0) := (F.out.cell 1 rfl 0).trans rfl)
          | ((with_reducible refine gate_callee (f := 22) rfl ?_); refine goesL_ (some 19) rfl rfl Try.func22 (by kernel_rfl) rfl #[.agg #[.slice A0_0 l0_0.length c0_0, .slice A0_1 l0_1.length c0_1], .int .i64 a1_0] rfl (by (try simp only [List.map_toArray, List.map_cons, List.map_nil]); first | done | rfl) ?_; (with_reducible refine (impl_SessionOf.calls k _ _ l0_0 _ _ l0_1 a1_0 u0 u1 u2 u3 u4 _ ?s0 ?s1 ?s2 ?s3 B4.out).mono ?_); (case s0 => exact Kd.C_below HR0_0.out F.out.below); (case s1 => exact HC0_0.out); (case s2 => exact Kd.C_below HR0_1.out F.out.below); (case s3 => exact HC0_1.out); rintro e wE ⟨rfl, hb⟩; refine ⟨_, rfl, ?_⟩; clear hcM_0 hcM_1 hcO_0; have F1 := Aside0.mk (F.out.step hb); clear hb; clear F; have F := F1; clear F1)
          | ((with_reducible refine gate_dst (N := 8) rfl ?_); refine box_event ?hg (N := 8) ?hd (cs := #[.int .i64 0, .int .i64 0, .bool false, .int .i64 0]) (t := 49) ?hr ?_; (case hd => rfl); (case hg => rfl); (case hr => first | (go_simp; done) | (go_simp; rfl)); intro gS hg wS hbox hb; have F1 := Aside0.mk (F.out.new hg hbox hb); clear hbox hb hg; clear F; have F := F1; clear F1; have hcS_0 : wS.cell? ⟨gS, 0, none⟩ = some (.int .i64 0) := (F.out.cell 5 rfl 0).trans rfl; have hfS_0 : wS.frozen? ⟨gS, 0, none⟩ = false := F.out.fro 5 rfl 0; have hcS_1 : wS.cell? ⟨gS, 1, none⟩ = some (.int .i64 0) := (F.out.cell 5 rfl 1).trans rfl; have hfS_1 : wS.frozen? ⟨gS, 1, none⟩ = false := F.out.fro 5 rfl 1; have hcS_2 : wS.cell? ⟨gS, 2, none⟩ = some (.bool false) := (F.out.cell 5 rfl 2).trans rfl; have hfS_2 : wS.frozen? ⟨gS, 2, none⟩ = false := F.out.fro 5 rfl 2; have hcS_3 : wS.cell? ⟨gS, 3, none⟩ = some (.int .i64 0) := (F.out.cell 5 rfl 3).trans rfl; have hfS_3 : wS.frozen? ⟨gS, 3, none⟩ = false := F.out.fro 5 rfl 3)
          | ((with_reducible refine gate_store (t := 49) (p := 8) rfl ?_); refine store_event (t := 49) (p := 8) (v := ?vo_6) (w1 := ((((wS.setCell ⟨gS, 0, none⟩ (.int .i64 u0)).setCell ⟨gS, 1, none⟩ (.int .i64 u1)).setCell ⟨gS, 2, none⟩ (.bool u2)).setCell ⟨gS, 3, none⟩ (.int .i64 u3))) ?hg ?ho ?hn ?hr ?_; (case ho => rfl); (case hg => rfl); (case hn => rfl); (case hr => first | (go_simp; done) | (go_simp; rfl)); intro wG hw_; clear hcS_0 hfS_0 hcS_1 hfS_1 hcS_2 hfS_2 hcS_3 hfS_3; have F1 := Aside0.mk (F.out.put4 5 rfl (.int .i64 u0) (.int .i64 u1) (.bool u2) (.int .i64 u3) hw_); clear hw_; clear F; have F := F1; clear F1; have hcM_0 : wG.cell? ⟨gM, 0, none⟩ = some (.slice A0_0 l0_0.length c0_0) := (F.out.cell 0 rfl 0).trans rfl; have hcM_1 : wG.cell? ⟨gM, 1, none⟩ = some (.slice A0_1 l0_1.length c0_1) := (F.out.cell 0 rfl 1).trans rfl)
          | ((with_reducible refine gate_callee (f := 20) rfl ?_); refine goesL_ (some 24) rfl rfl Try.func20 (by kernel_rfl) rfl #[.agg #[.slice A0_0 l0_0.length c0_0, .slice A0_1 l0_1.length c0_1]] rfl (by (try simp only [List.map_toArray, List.map_cons, List.map_nil]); first | done | rfl) ?_; (with_reducible refine (impl_IsValidMachine.calls k _ _ l0_0 _ _ l0_1 true _ ?s0 ?s1 ?s2 ?s3 B2.out).mono ?_); (case s0 => exact Kd.C_below HR0_0.out F.out.below); (case s1 => exact HC0_0.out); (case s2 => exact Kd.C_below HR0_1.out F.out.below); (case s3 => exact HC0_1.out); rintro e wC ⟨rfl, hb⟩; refine ⟨_, rfl, ?_⟩; clear hcM_0 hcM_1; have F1 := Aside0.mk (F.out.step hb); clear hb; clear F; have F := F1; clear F1; have hcO_0 : wC.cell? ⟨gO, 0, none⟩ = some (.int .i64 a1_0) := (F.out.cell 1 rfl 0).trans rfl; have hcO_1 : wC.cell? ⟨gO, 1, none⟩ = some (.int .i64 a1_1) := (F.out.cell 1 rfl 1).trans rfl; have hcO_2 : wC.cell? ⟨gO, 2, none⟩ = some (.int .i64 a1_2) := (F.out.cell 1 rfl 2).trans rfl; have hcO_3 : wC.cell? ⟨gO, 3, none⟩ = some (.int .i64 a1_3) := (F.out.cell 1 rfl 3).trans rfl; have hcO_4 : wC.cell? ⟨gO, 4, none⟩ = some (.int .i64 a1_4) := (F.out.cell 1 rfl 4).trans rfl; have hcO_5 : wC.cell? ⟨gO, 5, none⟩ = some (.int .i64 a1_5) := (F.out.cell 1 rfl 5).trans rfl)
          | (go_at_call 50; (with_reducible refine (impl_IsValidOp.calls a1_0 a1_1 a1_2 a1_3 a1_4 a1_5 false _ B3.out).mono ?_); rintro e wD ⟨rfl, hb⟩; clear hcO_0 hcO_1 hcO_2 hcO_3 hcO_4 hcO_5; have F1 := Aside0.mk (F.out.step hb); clear hb; clear F; have F := F1; clear F1; have hcX_0 : wD.cell? ⟨gX, 0, none⟩ = some (.slice Ao t0.length co) := (F.out.cell 4 rfl 0).trans rfl; have hcX_1 : wD.cell? ⟨gX, 1, none⟩ = some (.slice As t1.length cs) := (F.out.cell 4 rfl 1).trans rfl; have hcQ_0 : wD.cell? ⟨gQ, 0, none⟩ = some (.slice none 0 0) := (F.out.cell 2 rfl 0).trans rfl; have hfQ_0 : wD.frozen? ⟨gQ, 0, none⟩ = false := F.out.fro 2 rfl 0; have hcQ_1 : wD.cell? ⟨gQ, 1, none⟩ = some (.slice none 0 0) := (F.out.cell 2 rfl 1).trans rfl; have hfQ_1 : wD.frozen? ⟨gQ, 1, none⟩ = false := F.out.fro 2 rfl 1)
          | ((with_reducible refine gate_store (t := 31) (p := 4) rfl ?_); refine store_event (t := 31) (p := 4) (v := ?vo_7) (w1 := ((wD.setCell ⟨gQ, 0, none⟩ (.slice Ao t0.length co)).setCell ⟨gQ, 1, none⟩ (.slice As t1.length cs))) ?hg ?ho ?hn ?hr ?_; (case ho => rfl); (case hg => rfl); (case hn => rfl); (case hr => first | (go_simp; done) | (go_simp; rfl)); intro wP hw_; clear hcX_0 hcX_1 hcQ_0 hfQ_0 hcQ_1 hfQ_1; have F1 := Aside0.mk (F.out.put2 2 rfl (.slice Ao t0.length co) (.slice As t1.length cs) hw_); clear hw_; clear F; have F := F1; clear F1; have hcV_0 : wP.cell? ⟨gV, 0, none⟩ = some (.bool false) := (F.out.cell 3 rfl 0).trans rfl; have hfV_0 : wP.frozen? ⟨gV, 0, none⟩ = false := F.out.fro 3 rfl 0; have hcV_1 : wP.cell? ⟨gV, 1, none⟩ = some (.int .i64 0) := (F.out.cell 3 rfl 1).trans rfl; have hfV_1 : wP.frozen? ⟨gV, 1, none⟩ = false := F.out.fro 3 rfl 1)
          | ((with_reducible refine gate_store (t := 33) (p := 5) rfl ?_); refine store_event (t := 33) (p := 5) (v := ?vo_8) (w1 := ((wP.setCell ⟨gV, 0, none⟩ (.bool false)).setCell ⟨gV, 1, none⟩ (.int .i64 0))) ?hg ?ho ?hn ?hr ?_; (case ho => rfl); (case hg => rfl); (case hn => rfl); (case hr => first | (go_simp; done) | (go_simp; rfl)); intro wR hw_; clear hcV_0 hfV_0 hcV_1 hfV_1; have F1 := Aside0.mk (F.out.put2 3 rfl (.bool false) (.int .i64 0) hw_); clear hw_; clear F; have F := F1; clear F1))
      all_goals (refine bodyPost_ret (results_cct rfl _ _ gQ gV 31 33 #[.slice Ao t0.length co, .slice As t1.length cs] #[.bool false, .int .i64 0] _ _ rfl (F.out.at_ 2 rfl) Try.underlying31 rfl (by kernel_rfl) rfl (F.out.at_ 3 rfl) Try.underlying33 rfl (by kernel_rfl)) rfl ?_; exact ⟨_, _, rfl, Kd.R_mono F.out.ro (fun _ _ => trivial), Kd.R_mono F.out.rs (fun _ _ => trivial), F.out.below⟩)
    | true =>
      rw [if_pos rfl] at h
      unfold step_ at h
      by_cases q1 : u4 = true ∧ u1 = a1_1
      · rw [if_pos q1] at h
        replace h := Option.some.inj h
        simp only [Prod.mk.injEq] at h
        obtain ⟨rfl, rfl, rfl, rfl, rfl⟩ := h
        obtain ⟨rfl, q1⟩ := q1
        have q1b := eq_true q1
        have q1c : (u1 == a1_1) = true := beq_iff_eq.2 q1
        have q1d : decide (a1_1 < u1) = false := decide_eq_false (by omega)
        have q1e : (a1_1 < u1) = False := eq_false (by omega)
        clear q1
        go_enter Try.func12, Try.ntmps12
        go_wp2_with (first
            | ((with_reducible refine gate_dst (N := 2) rfl ?_); refine box_event ?hg (N := 2) ?hd (cs := #[.slice A0_0 l0_0.length c0_0, .slice A0_1 l0_1.length c0_1]) (t := 31) ?hr ?_; (case hd => rfl); (case hg => rfl); (case hr => first | (go_simp; done) | (go_simp; rfl)); intro gM hg wM hbox hb; have F1 := Aside0.mk (F.out.new hg hbox hb); clear hbox hb hg; clear F; have F := F1; clear F1)
            | ((with_reducible refine gate_dst (N := 3) rfl ?_); refine box_event ?hg (N := 3) ?hd (cs := #[.int .i64 a1_0, .int .i64 a1_1, .int .i64 a1_2, .int .i64 a1_3, .int .i64 a1_4, .int .i64 a1_5]) (t := 37) ?hr ?_; (case hd => rfl); (case hg => rfl); (case hr => first | (go_simp; done) | (go_simp; rfl)); intro gO hg wO hbox hb; have F1 := Aside0.mk (F.out.new hg hbox hb); clear hbox hb hg; clear F; have F := F1; clear F1)
            | ((with_reducible refine gate_dst (N := 4) rfl ?_); refine box_event ?hg (N := 4) ?hd (cs := #[.slice none 0 0, .slice none 0 0]) (t := 31) ?hr ?_; (case hd => rfl); (case hg => rfl); (case hr => first | (go_simp; done) | (go_simp; rfl)); intro gQ hg wQ hbox hb; have F1 := Aside0.mk (F.out.new hg hbox hb); clear hbox hb hg; clear F; have F := F1; clear F1)
            | ((with_reducible refine gate_dst (N := 5) rfl ?_); refine box_event ?hg (N := 5) ?hd (cs := #[.bool false, .int .i64 0]) (t := 33) ?hr ?_; (case hd => rfl); (case hg => rfl); (case hr => first | (go_simp; done) | (go_simp; rfl)); intro gV hg wV hbox hb; have F1 := Aside0.mk (F.out.new hg hbox hb); clear hbox hb hg; clear F; have F := F1; clear F1; have hcM_0 : wV.cell? ⟨gM, 0, none⟩ = some (.slice A0_0 l0_0.length c0_0) := (F.out.cell 0 rfl 0).trans rfl; have hcM_1 : wV.cell? ⟨gM, 1, none⟩ = some (.slice A0_1 l0_1.length c0_1) := (F.out.cell 0 rfl 1).trans rfl)
            | ((with_reducible refine gate_callee (f := 49) rfl ?_); refine goesL_ (some 14) rfl rfl Try.func49 (by kernel_rfl) rfl #[.agg #[.slice A0_0 l0_0.length c0_0, .slice A0_1 l0_1.length c0_1]] rfl (by (try simp only [List.map_toArray, List.map_cons, List.map_nil]); first | done | rfl) ?_; (with_reducible refine (impl_machineCopy.calls _ _ l0_0 _ _ l0_1 t0 t1 _ ?s0 ?s1 ?s2 ?s3 B1.out).mono ?_); (case s0 => exact Kd.C_below HR0_0.out F.out.below); (case s1 => exact HC0_0.out); (case s2 => exact Kd.C_below HR0_1.out F.out.below); (case s3 => exact HC0_1.out); rintro e wA ⟨v0, v1, rfl, ho0, ho1, hb⟩; refine ⟨_, rfl, ?_⟩; clear hcM_0 hcM_1; have F1 := Aside0.mk (F.out.rows hb ho0 ho1); clear hb; clear F; have F := F1; clear F1; (obtain ⟨Ao, co, e0⟩ := Kd.R_slice ho0); (obtain ⟨As, cs, e1⟩ := Kd.R_slice ho1); subst e0; subst e1; clear ho0 ho1)
            | ((with_reducible refine gate_dst (N := 7) rfl ?_); refine box_event ?hg (N := 7) ?hd (cs := #[.slice none 0 0, .slice none 0 0]) (t := 31) ?hr ?_; (case hd => rfl); (case hg => rfl); (case hr => first | (go_simp; done) | (go_simp; rfl)); intro gX hg wX hbox hb; have F1 := Aside0.mk (F.out.new hg hbox hb); clear hbox hb hg; clear F; have F := F1; clear F1; have hcX_0 : wX.cell? ⟨gX, 0, none⟩ = some (.slice none 0 0) := (F.out.cell 4 rfl 0).trans rfl; have hfX_0 : wX.frozen? ⟨gX, 0, none⟩ = false := F.out.fro 4 rfl 0; have hcX_1 : wX.cell? ⟨gX, 1, none⟩ = some (.slice none 0 0) := (F.out.cell 4 rfl 1).trans rfl; have hfX_1 : wX.frozen? ⟨gX, 1, none⟩ = false := F.out.fro 4 rfl 1)
            | ((with_reducible refine gate_store (t := 31) (p := 7) rfl ?_); refine store_event (t := 31) (p := 7) (v := ?vo_9) (w1 := ((wX.setCell ⟨gX, 0, none⟩ (.slice Ao t0.length co)).setCell ⟨gX, 1, none⟩ (.slice As t1.length cs))) ?hg ?ho ?hn ?hr ?_; (case ho => rfl); (case hg => rfl); (case hn => rfl); (case hr => first | (go_simp; done) | (go_simp; rfl)); intro wB hw_; clear hcX_0 hfX_0 hcX_1 hfX_1; have F1 := Aside0.mk (F.out.put2 4 rfl (.slice Ao t0.length co) (.slice As t1.length cs) hw_); clear hw_; clear F; have F := F1; clear F1; have hcM_0 : wB.cell? ⟨gM, 0, none⟩ = some (.slice A0_0 l0_0.length c0_0) := (F.out.cell 0 rfl 0).trans rfl; have hcM_1 : wB.cell? ⟨gM, 1, none⟩ = some (.slice A0_1 l0_1.length c0_1) := (F.out.cell 0 rfl 1).trans rfl; have hcO_0 : wB.cell? ⟨gO, 0, none⟩ = some (.int .i64 a1_0) := (F.out.cell 1 rfl 0).trans rfl)
            | ((with_reducible refine gate_callee (f := 22) rfl ?_); refine goesL_ (some 19) rfl rfl Try.func22 (by kernel_rfl) rfl #[.agg #[.slice A0_0 l0_0.length c0_0, .slice A0_1 l0_1.length c0_1], .int .i64 a1_0] rfl (by (try simp only [List.map_toArray, List.map_cons, List.map_nil]); first | done | rfl) ?_; (with_reducible refine (impl_SessionOf.calls k _ _ l0_0 _ _ l0_1 a1_0 u0 u1 u2 u3 true _ ?s0 ?s1 ?s2 ?s3 B4.out).mono ?_); (case s0 => exact Kd.C_below HR0_0.out F.out.below); (case s1 => exact HC0_0.out); (case s2 => exact Kd.C_below HR0_1.out F.out.below); (case s3 => exact HC0_1.out); rintro e wE ⟨rfl, hb⟩; refine ⟨_, rfl, ?_⟩; clear hcM_0 hcM_1 hcO_0; have F1 := Aside0.mk (F.out.step hb); clear hb; clear F; have F := F1; clear F1)
            | ((with_reducible refine gate_dst (N := 8) rfl ?_); refine box_event ?hg (N := 8) ?hd (cs := #[.int .i64 0, .int .i64 0, .bool false, .int .i64 0]) (t := 49) ?hr ?_; (case hd => rfl); (case hg => rfl); (case hr => first | (go_simp; done) | (go_simp; rfl)); intro gS hg wS hbox hb; have F1 := Aside0.mk (F.out.new hg hbox hb); clear hbox hb hg; clear F; have F := F1; clear F1; have hcS_0 : wS.cell? ⟨gS, 0, none⟩ = some (.int .i64 0) := (F.out.cell 5 rfl 0).trans rfl; have hfS_0 : wS.frozen? ⟨gS, 0, none⟩ = false := F.out.fro 5 rfl 0; have hcS_1 : wS.cell? ⟨gS, 1, none⟩ = some (.int .i64 0) := (F.out.cell 5 rfl 1).trans rfl; have hfS_1 : wS.frozen? ⟨gS, 1, none⟩ = false := F.out.fro 5 rfl 1; have hcS_2 : wS.cell? ⟨gS, 2, none⟩ = some (.bool false) := (F.out.cell 5 rfl 2).trans rfl; have hfS_2 : wS.frozen? ⟨gS, 2, none⟩ = false := F.out.fro 5 rfl 2; have hcS_3 : wS.cell? ⟨gS, 3, none⟩ = some (.int .i64 0) := (F.out.cell 5 rfl 3).trans rfl; have hfS_3 : wS.frozen? ⟨gS, 3, none⟩ = false := F.out.fro 5 rfl 3)
            | ((with_reducible refine gate_store (t := 49) (p := 8) rfl ?_); refine store_event (t := 49) (p := 8) (v := ?vo_10) (w1 := ((((wS.setCell ⟨gS, 0, none⟩ (.int .i64 u0)).setCell ⟨gS, 1, none⟩ (.int .i64 u1)).setCell ⟨gS, 2, none⟩ (.bool u2)).setCell ⟨gS, 3, none⟩ (.int .i64 u3))) ?hg ?ho ?hn ?hr ?_; (case ho => rfl); (case hg => rfl); (case hn => rfl); (case hr => first | (go_simp; done) | (go_simp; rfl)); intro wG hw_; clear hcS_0 hfS_0 hcS_1 hfS_1 hcS_2 hfS_2 hcS_3 hfS_3; have F1 := Aside0.mk (F.out.put4 5 rfl (.int .i64 u0) (.int .i64 u1) (.bool u2) (.int .i64 u3) hw_); clear hw_; clear F; have F := F1; clear F1; have hcM_0 : wG.cell? ⟨gM, 0, none⟩ = some (.slice A0_0 l0_0.length c0_0) := (F.out.cell 0 rfl 0).trans rfl; have hcM_1 : wG.cell? ⟨gM, 1, none⟩ = some (.slice A0_1 l0_1.length c0_1) := (F.out.cell 0 rfl 1).trans rfl)
            | ((with_reducible refine gate_callee (f := 20) rfl ?_); refine goesL_ (some 24) rfl rfl Try.func20 (by kernel_rfl) rfl #[.agg #[.slice A0_0 l0_0.length c0_0, .slice A0_1 l0_1.length c0_1]] rfl (by (try simp only [List.map_toArray, List.map_cons, List.map_nil]); first | done | rfl) ?_; (with_reducible refine (impl_IsValidMachine.calls k _ _ l0_0 _ _ l0_1 true _ ?s0 ?s1 ?s2 ?s3 B2.out).mono ?_); (case s0 => exact Kd.C_below HR0_0.out F.out.below); (case s1 => exact HC0_0.out); (case s2 => exact Kd.C_below HR0_1.out F.out.below); (case s3 => exact HC0_1.out); rintro e wC ⟨rfl, hb⟩; refine ⟨_, rfl, ?_⟩; clear hcM_0 hcM_1; have F1 := Aside0.mk (F.out.step hb); clear hb; clear F; have F := F1; clear F1; have hcO_0 : wC.cell? ⟨gO, 0, none⟩ = some (.int .i64 a1_0) := (F.out.cell 1 rfl 0).trans rfl; have hcO_1 : wC.cell? ⟨gO, 1, none⟩ = some (.int .i64 a1_1) := (F.out.cell 1 rfl 1).trans rfl; have hcO_2 : wC.cell? ⟨gO, 2, none⟩ = some (.int .i64 a1_2) := (F.out.cell 1 rfl 2).trans rfl; have hcO_3 : wC.cell? ⟨gO, 3, none⟩ = some (.int .i64 a1_3) := (F.out.cell 1 rfl 3).trans rfl; have hcO_4 : wC.cell? ⟨gO, 4, none⟩ = some (.int .i64 a1_4) := (F.out.cell 1 rfl 4).trans rfl; have hcO_5 : wC.cell? ⟨gO, 5, none⟩ = some (.int .i64 a1_5) := (F.out.cell 1 rfl 5).trans rfl)
            | (go_at_call 50; (with_reducible refine (impl_IsValidOp.calls a1_0 a1_1 a1_2 a1_3 a1_4 a1_5 true _ B3.out).mono ?_); rintro e wD ⟨rfl, hb⟩; clear hcO_0 hcO_1 hcO_2 hcO_3 hcO_4 hcO_5; have F1 := Aside0.mk (F.out.step hb); clear hb; clear F; have F := F1; clear F1; have hcS_1 : wD.cell? ⟨gS, 1, none⟩ = some (.int .i64 u1) := (F.out.cell 5 rfl 1).trans rfl; have hcO_1 : wD.cell? ⟨gO, 1, none⟩ = some (.int .i64 a1_1) := (F.out.cell 1 rfl 1).trans rfl))
        clear hcS_1 hcO_1
        refine start_ (n := 6) (S := fun w' => w'.cell? ⟨gX, 0, none⟩ = some (.slice Ao t0.length co) ∧ w'.cell? ⟨gX, 1, none⟩ = some (.slice As t1.length cs) ∧ w'.cell? ⟨gS, 2, none⟩ = some (.bool u2) ∧ w'.cell? ⟨gS, 3, none⟩ = some (.int .i64 u3)) (ds := []) #[false, false, false, false, false, false] (by kernel_rfl) rfl rfl (⟨(F.out.cell 4 rfl 0).trans rfl, (F.out.cell 4 rfl 1).trans rfl, (F.out.cell 5 rfl 2).trans rfl, (F.out.cell 5 rfl 3).trans rfl⟩) (fun hHeld => ?_)
        have F1 := Aside0.mk F.out.drew
        clear F
        have F := F1
        clear F1
        generalize wD.drew = wH at F hHeld ⊢
        refine pureTk 1 (some 53) #[false, true, false, false, false, false] ?_
        refine takeTk 0 (some 52) #[true, true, false, false, false, false] ?_
        refine takeTk 2 (some 54) #[true, true, true, false, false, false] ?_
        refine one_ (i := 3) (N := none) #[true, true, true, true, false, false] rfl rfl (by kernel_rfl) (by decide) (fun K hK => ?_)
        have hcQ_0 : wH.cell? ⟨gQ, 0, none⟩ = some (.slice none 0 0) := (F.out.cell 2 rfl 0).trans rfl
        have hfQ_0 : wH.frozen? ⟨gQ, 0, none⟩ = false := F.out.fro 2 rfl 0
        have hcQ_1 : wH.cell? ⟨gQ, 1, none⟩ = some (.slice none 0 0) := (F.out.cell 2 rfl 1).trans rfl
        have hfQ_1 : wH.frozen? ⟨gQ, 1, none⟩ = false := F.out.fro 2 rfl 1
        refine skip_ (w1 := ((wH.setCell ⟨gQ, 0, none⟩ (.slice Ao t0.length co)).setCell ⟨gQ, 1, none⟩ (.slice As t1.length cs))) (by rfl) rfl ?_ ?_
        · first | (go_simp; done) | (go_simp; rfl)
        clear hcQ_0 hfQ_0 hcQ_1 hfQ_1
        obtain ⟨wP, hw_⟩ : ∃ W_, W_ = ((wH.setCell ⟨gQ, 0, none⟩ (.slice Ao t0.length co)).setCell ⟨gQ, 1, none⟩ (.slice As t1.length cs)) := ⟨_, rfl⟩
        rw [← hw_]
        have F1 := Aside0.mk (F.out.put2 2 rfl (.slice Ao t0.length co) (.slice As t1.length cs) hw_)
        clear hw_
        clear F
        have F := F1
        clear F1
        refine hK.out _ _ (⟨(F.out.cell 4 rfl 0).trans rfl, (F.out.cell 4 rfl 1).trans rfl, (F.out.cell 5 rfl 2).trans rfl, (F.out.cell 5 rfl 3).trans rfl⟩) (fun hHeld => ?_)
        clear hK K
        refine one_ (i := 4) (N := none) #[true, true, true, true, true, false] rfl rfl (by kernel_rfl) (by decide) (fun K hK => ?_)
        have hcV_0 : wP.cell? ⟨gV, 0, none⟩ = some (.bool false) := (F.out.cell 3 rfl 0).trans rfl
        have hfV_0 : wP.frozen? ⟨gV, 0, none⟩ = false := F.out.fro 3 rfl 0
        have hcV_1 : wP.cell? ⟨gV, 1, none⟩ = some (.int .i64 0) := (F.out.cell 3 rfl 1).trans rfl
        have hfV_1 : wP.frozen? ⟨gV, 1, none⟩ = false := F.out.fro 3 rfl 1
        refine skip_ (w1 := ((wP.setCell ⟨gV, 0, none⟩ (.bool u2)).setCell ⟨gV, 1, none⟩ (.int .i64 u3))) (by rfl) rfl ?_ ?_
        · first | (go_simp; done) | (go_simp; rfl)
        clear hcV_0 hfV_0 hcV_1 hfV_1
        obtain ⟨wR, hw_⟩ : ∃ W_, W_ = ((wP.setCell ⟨gV, 0, none⟩ (.bool u2)).setCell ⟨gV, 1, none⟩ (.int .i64 u3)) := ⟨_, rfl⟩
        rw [← hw_]
        have F1 := Aside0.mk (F.out.put2 3 rfl (.bool u2) (.int .i64 u3) hw_)
        clear hw_
        clear F
        have F := F1
        clear F1
        refine hK.out _ _ (⟨(F.out.cell 4 rfl 0).trans rfl, (F.out.cell 4 rfl 1).trans rfl, (F.out.cell 5 rfl 2).trans rfl, (F.out.cell 5 rfl 3).trans rfl⟩) (fun hHeld => ?_)
        clear hK K
        refine pureTk 5 (some 6) #[true, true, true, true, true, true] ?_
        refine done_ (by kernel_rfl) ?_
        go_wp2
        all_goals (refine bodyPost_ret (results_cct rfl _ _ gQ gV 31 33 #[.slice Ao t0.length co, .slice As t1.length cs] #[.bool u2, .int .i64 u3] _ _ rfl (F.out.at_ 2 rfl) Try.underlying31 rfl (by kernel_rfl) rfl (F.out.at_ 3 rfl) Try.underlying33 rfl (by kernel_rfl)) rfl ?_; exact ⟨_, _, rfl, Kd.R_mono F.out.ro (fun _ _ => trivial), Kd.R_mono F.out.rs (fun _ _ => trivial), F.out.below⟩)
      rw [if_neg q1] at h
      by_cases q2 : u4 = true ∧ a1_1 < u1
      · rw [if_pos q2] at h
        replace h := Option.some.inj h
        simp only [Prod.mk.injEq] at h
        obtain ⟨rfl, rfl, rfl, rfl, rfl⟩ := h
        obtain ⟨rfl, q2⟩ := q2
        have q2b := eq_true q2
        have q2c : decide (a1_1 < u1) = true := decide_eq_true q2
        clear q1 q2
        go_enter Try.func12, Try.ntmps12
        go_wp2_with (first
            | ((with_reducible refine gate_dst (N := 2) rfl ?_); refine box_event ?hg (N := 2) ?hd (cs := #[.slice A0_0 l0_0.length c0_0, .slice A0_1 l0_1.length c0_1]) (t := 31) ?hr ?_; (case hd => rfl); (case hg => rfl); (case hr => first | (go_simp; done) | (go_simp; rfl)); intro gM hg wM hbox hb; have F1 := Aside0.mk (F.out.new hg hbox hb); clear hbox hb hg; clear F; have F := F1; clear F1)
            | ((with_reducible refine gate_dst (N := 3) rfl ?_); refine box_event ?hg (N := 3) ?hd (cs := #[.int .i64 a1_0, .int .i64 a1_1, .int .i64 a1_2, .int .i64 a1_3, .int .i64 a1_4, .int .i64 a1_5]) (t := 37) ?hr ?_; (case hd => rfl); (case hg => rfl); (case hr => first | (go_simp; done) | (go_simp; rfl)); intro gO hg wO hbox hb; have F1 := Aside0.mk (F.out.new hg hbox hb); clear hbox hb hg; clear F; have F := F1; clear F1)
            | ((with_reducible refine gate_dst (N := 4) rfl ?_); refine box_event ?hg (N := 4) ?hd (cs := #[.slice none 0 0, .slice none 0 0]) (t := 31) ?hr ?_; (case hd => rfl); (case hg => rfl); (case hr => first | (go_simp; done) | (go_simp; rfl)); intro gQ hg wQ hbox hb; have F1 := Aside0.mk (F.out.new hg hbox hb); clear hbox hb hg; clear F; have F := F1; clear F1)
            | ((with_reducible refine gate_dst (N := 5) rfl ?_); refine box_event ?hg (N := 5) ?hd (cs := #[.bool false, .int .i64 0]) (t := 33) ?hr ?_; (case hd => rfl); (case hg => rfl); (case hr => first | (go_simp; done) | (go_simp; rfl)); intro gV hg wV hbox hb; have F1 := Aside0.mk (F.out.new hg hbox hb); clear hbox hb hg; clear F; have F := F1; clear F1; have hcM_0 : wV.cell? ⟨gM, 0, none⟩ = some (.slice A0_0 l0_0.length c0_0) := (F.out.cell 0 rfl 0).trans rfl; have hcM_1 : wV.cell? ⟨gM, 1, none⟩ = some (.slice A0_1 l0_1.length c0_1) := (F.out.cell 0 rfl 1).trans rfl)
            | ((with_reducible refine gate_callee (f := 49) rfl ?_); refine goesL_ (some 14) rfl rfl Try.func49 (by kernel_rfl) rfl #[.agg #[.slice A0_0 l0_0.length c0_0, .slice A0_1 l0_1.length c0_1]] rfl (by (try simp only [List.map_toArray, List.map_cons, List.map_nil]); first | done | rfl) ?_; (with_reducible refine (impl_machineCopy.calls _ _ l0_0 _ _ l0_1 t0 t1 _ ?s0 ?s1 ?s2 ?s3 B1.out).mono ?_); (case s0 => exact Kd.C_below HR0_0.out F.out.below); (case s1 => exact HC0_0.out); (case s2 => exact Kd.C_below HR0_1.out F.out.below); (case s3 => exact HC0_1.out); rintro e wA ⟨v0, v1, rfl, ho0, ho1, hb⟩; refine ⟨_, rfl, ?_⟩; clear hcM_0 hcM_1; have F1 := Aside0.mk (F.out.rows hb ho0 ho1); clear hb; clear F; have F := F1; clear F1; (obtain ⟨Ao, co, e0⟩ := Kd.R_slice ho0); (obtain ⟨As, cs, e1⟩ := Kd.R_slice ho1); subst e0; subst e1; clear ho0 ho1)
            | ((with_reducible refine gate_dst (N := 7) rfl ?_); refine box_event ?hg (N := 7) ?hd (cs := #[.slice none 0 0, .slice none 0 0]) (t := 31) ?hr ?_; (case hd => rfl); (case hg => rfl); (case hr => first | (go_simp; done) | (go_simp; rfl)); intro gX hg wX hbox hb; have F1 := Aside0.mk (F.out.new hg hbox hb); clear hbox hb hg; clear F; have F := F1; clear F1; have hcX_0 : wX.cell? ⟨gX, 0, none⟩ = some (.slice none 0 0) := (F.out.cell 4 rfl 0).trans rfl; have hfX_0 : wX.frozen? ⟨gX, 0, none⟩ = false := F.out.fro 4 rfl 0; have hcX_1 : wX.cell? ⟨gX, 1, none⟩ = some (.slice none 0 0) := (F.out.cell 4 rfl 1).trans rfl; have hfX_1 : wX.frozen? ⟨gX, 1, none⟩ = false := F.out.fro 4 rfl 1)
            | ((with_reducible refine gate_store (t := 31) (p := 7) rfl ?_); refine store_event (t := 31) (p := 7) (v := ?vo_13) (w1 := ((wX.setCell ⟨gX, 0, none⟩ (.slice Ao t0.length co)).setCell ⟨gX, 1, none⟩ (.slice As t1.length cs))) ?hg ?ho ?hn ?hr ?_; (case ho => rfl); (case hg => rfl); (case hn => rfl); (case hr => first | (go_simp; done) | (go_simp; rfl)); intro wB hw_; clear hcX_0 hfX_0 hcX_1 hfX_1; have F1 := Aside0.mk (F.out.put2 4 rfl (.slice Ao t0.length co) (.slice As t1.length cs) hw_); clear hw_; clear F; have F := F1; clear F1; have hcM_0 : wB.cell? ⟨gM, 0, none⟩ = some (.slice A0_0 l0_0.length c0_0) := (F.out.cell 0 rfl 0).trans rfl; have hcM_1 : wB.cell? ⟨gM, 1, none⟩ = some (.slice A0_1 l0_1.length c0_1) := (F.out.cell 0 rfl 1).trans rfl; have hcO_0 : wB.cell? ⟨gO, 0, none⟩ = some (.int .i64 a1_0) := (F.out.cell 1 rfl 0).trans rfl)
            | ((with_reducible refine gate_callee (f := 22) rfl ?_); refine goesL_ (some 19) rfl rfl Try.func22 (by kernel_rfl) rfl #[.agg #[.slice A0_0 l0_0.length c0_0, .slice A0_1 l0_1.length c0_1], .int .i64 a1_0] rfl (by (try simp only [List.map_toArray, List.map_cons, List.map_nil]); first | done | rfl) ?_; (with_reducible refine (impl_SessionOf.calls k _ _ l0_0 _ _ l0_1 a1_0 u0 u1 u2 u3 true _ ?s0 ?s1 ?s2 ?s3 B4.out).mono ?_); (case s0 => exact Kd.C_below HR0_0.out F.out.below); (case s1 => exact HC0_0.out); (case s2 => exact Kd.C_below HR0_1.out F.out.below); (case s3 => exact HC0_1.out); rintro e wE ⟨rfl, hb⟩; refine ⟨_, rfl, ?_⟩; clear hcM_0 hcM_1 hcO_0; have F1 := Aside0.mk (F.out.step hb); clear hb; clear F; have F := F1; clear F1)
            | ((with_reducible refine gate_dst (N := 8) rfl ?_); refine box_event ?hg (N := 8) ?hd (cs := #[.int .i64 0, .int .i64 0, .bool false, .int .i64 0]) (t := 49) ?hr ?_; (case hd => rfl); (case hg => rfl); (case hr => first | (go_simp; done) | (go_simp; rfl)); intro gS hg wS hbox hb; have F1 := Aside0.mk (F.out.new hg hbox hb); clear hbox hb hg; clear F; have F := F1; clear F1; have hcS_0 : wS.cell? ⟨gS, 0, none⟩ = some (.int .i64 0) := (F.out.cell 5 rfl 0).trans rfl; have hfS_0 : wS.frozen? ⟨gS, 0, none⟩ = false := F.out.fro 5 rfl 0; have hcS_1 : wS.cell? ⟨gS, 1, none⟩ = some (.int .i64 0) := (F.out.cell 5 rfl 1).trans rfl; have hfS_1 : wS.frozen? ⟨gS, 1, none⟩ = false := F.out.fro 5 rfl 1; have hcS_2 : wS.cell? ⟨gS, 2, none⟩ = some (.bool false) := (F.out.cell 5 rfl 2).trans rfl; have hfS_2 : wS.frozen? ⟨gS, 2, none⟩ = false := F.out.fro 5 rfl 2; have hcS_3 : wS.cell? ⟨gS, 3, none⟩ = some (.int .i64 0) := (F.out.cell 5 rfl 3).trans rfl; have hfS_3 : wS.frozen? ⟨gS, 3, none⟩ = false := F.out.fro 5 rfl 3)
            | ((with_reducible refine gate_store (t := 49) (p := 8) rfl ?_); refine store_event (t := 49) (p := 8) (v := ?vo_14) (w1 := ((((wS.setCell ⟨gS, 0, none⟩ (.int .i64 u0)).setCell ⟨gS, 1, none⟩ (.int .i64 u1)).setCell ⟨gS, 2, none⟩ (.bool u2)).setCell ⟨gS, 3, none⟩ (.int .i64 u3))) ?hg ?ho ?hn ?hr ?_; (case ho => rfl); (case hg => rfl); (case hn => rfl); (case hr => first | (go_simp; done) | (go_simp; rfl)); intro wG hw_; clear hcS_0 hfS_0 hcS_1 hfS_1 hcS_2 hfS_2 hcS_3 hfS_3; have F1 := Aside0.mk (F.out.put4 5 rfl (.int .i64 u0) (.int .i64 u1) (.bool u2) (.int .i64 u3) hw_); clear hw_; clear F; have F := F1; clear F1; have hcM_0 : wG.cell? ⟨gM, 0, none⟩ = some (.slice A0_0 l0_0.length c0_0) := (F.out.cell 0 rfl 0).trans rfl; have hcM_1 : wG.cell? ⟨gM, 1, none⟩ = some (.slice A0_1 l0_1.length c0_1) := (F.out.cell 0 rfl 1).trans rfl)
            | ((with_reducible refine gate_callee (f := 20) rfl ?_); refine goesL_ (some 24) rfl rfl Try.func20 (by kernel_rfl) rfl #[.agg #[.slice A0_0 l0_0.length c0_0, .slice A0_1 l0_1.length c0_1]] rfl (by (try simp only [List.map_toArray, List.map_cons, List.map_nil]); first | done | rfl) ?_; (with_reducible refine (impl_IsValidMachine.calls k _ _ l0_0 _ _ l0_1 true _ ?s0 ?s1 ?s2 ?s3 B2.out).mono ?_); (case s0 => exact Kd.C_below HR0_0.out F.out.below); (case s1 => exact HC0_0.out); (case s2 => exact Kd.C_below HR0_1.out F.out.below); (case s3 => exact HC0_1.out); rintro e wC ⟨rfl, hb⟩; refine ⟨_, rfl, ?_⟩; clear hcM_0 hcM_1; have F1 := Aside0.mk (F.out.step hb); clear hb; clear F; have F := F1; clear F1; have hcO_0 : wC.cell? ⟨gO, 0, none⟩ = some (.int .i64 a1_0) := (F.out.cell 1 rfl 0).trans rfl; have hcO_1 : wC.cell? ⟨gO, 1, none⟩ = some (.int .i64 a1_1) := (F.out.cell 1 rfl 1).trans rfl; have hcO_2 : wC.cell? ⟨gO, 2, none⟩ = some (.int .i64 a1_2) := (F.out.cell 1 rfl 2).trans rfl; have hcO_3 : wC.cell? ⟨gO, 3, none⟩ = some (.int .i64 a1_3) := (F.out.cell 1 rfl 3).trans rfl; have hcO_4 : wC.cell? ⟨gO, 4, none⟩ = some (.int .i64 a1_4) := (F.out.cell 1 rfl 4).trans rfl; have hcO_5 : wC.cell? ⟨gO, 5, none⟩ = some (.int .i64 a1_5) := (F.out.cell 1 rfl 5).trans rfl)
            | (go_at_call 50; (with_reducible refine (impl_IsValidOp.calls a1_0 a1_1 a1_2 a1_3 a1_4 a1_5 true _ B3.out).mono ?_); rintro e wD ⟨rfl, hb⟩; clear hcO_0 hcO_1 hcO_2 hcO_3 hcO_4 hcO_5; have F1 := Aside0.mk (F.out.step hb); clear hb; clear F; have F := F1; clear F1; have hcS_1 : wD.cell? ⟨gS, 1, none⟩ = some (.int .i64 u1) := (F.out.cell 5 rfl 1).trans rfl; have hcO_1 : wD.cell? ⟨gO, 1, none⟩ = some (.int .i64 a1_1) := (F.out.cell 1 rfl 1).trans rfl; have hcX_0 : wD.cell? ⟨gX, 0, none⟩ = some (.slice Ao t0.length co) := (F.out.cell 4 rfl 0).trans rfl; have hcX_1 : wD.cell? ⟨gX, 1, none⟩ = some (.slice As t1.length cs) := (F.out.cell 4 rfl 1).trans rfl; have hcQ_0 : wD.cell? ⟨gQ, 0, none⟩ = some (.slice none 0 0) := (F.out.cell 2 rfl 0).trans rfl; have hfQ_0 : wD.frozen? ⟨gQ, 0, none⟩ = false := F.out.fro 2 rfl 0; have hcQ_1 : wD.cell? ⟨gQ, 1, none⟩ = some (.slice none 0 0) := (F.out.cell 2 rfl 1).trans rfl; have hfQ_1 : wD.frozen? ⟨gQ, 1, none⟩ = false := F.out.fro 2 rfl 1)
            | ((with_reducible refine gate_store (t := 31) (p := 4) rfl ?_); refine store_event (t := 31) (p := 4) (v := ?vo_15) (w1 := ((wD.setCell ⟨gQ, 0, none⟩ (.slice Ao t0.length co)).setCell ⟨gQ, 1, none⟩ (.slice As t1.length cs))) ?hg ?ho ?hn ?hr ?_; (case ho => rfl); (case hg => rfl); (case hn => rfl); (case hr => first | (go_simp; done) | (go_simp; rfl)); intro wP hw_; clear hcS_1 hcO_1 hcX_0 hcX_1 hcQ_0 hfQ_0 hcQ_1 hfQ_1; have F1 := Aside0.mk (F.out.put2 2 rfl (.slice Ao t0.length co) (.slice As t1.length cs) hw_); clear hw_; clear F; have F := F1; clear F1; have hcV_0 : wP.cell? ⟨gV, 0, none⟩ = some (.bool false) := (F.out.cell 3 rfl 0).trans rfl; have hfV_0 : wP.frozen? ⟨gV, 0, none⟩ = false := F.out.fro 3 rfl 0; have hcV_1 : wP.cell? ⟨gV, 1, none⟩ = some (.int .i64 0) := (F.out.cell 3 rfl 1).trans rfl; have hfV_1 : wP.frozen? ⟨gV, 1, none⟩ = false := F.out.fro 3 rfl 1)
            | ((with_reducible refine gate_store (t := 33) (p := 5) rfl ?_); refine store_event (t := 33) (p := 5) (v := ?vo_16) (w1 := ((wP.setCell ⟨gV, 0, none⟩ (.bool false)).setCell ⟨gV, 1, none⟩ (.int .i64 0))) ?hg ?ho ?hn ?hr ?_; (case ho => rfl); (case hg => rfl); (case hn => rfl); (case hr => first | (go_simp; done) | (go_simp; rfl)); intro wR hw_; clear hcV_0 hfV_0 hcV_1 hfV_1; have F1 := Aside0.mk (F.out.put2 3 rfl (.bool false) (.int .i64 0) hw_); clear hw_; clear F; have F := F1; clear F1))
        all_goals (refine bodyPost_ret (results_cct rfl _ _ gQ gV 31 33 #[.slice Ao t0.length co, .slice As t1.length cs] #[.bool false, .int .i64 0] _ _ rfl (F.out.at_ 2 rfl) Try.underlying31 rfl (by kernel_rfl) rfl (F.out.at_ 3 rfl) Try.underlying33 rfl (by kernel_rfl)) rfl ?_; exact ⟨_, _, rfl, Kd.R_mono F.out.ro (fun _ _ => trivial), Kd.R_mono F.out.rs (fun _ _ => trivial), F.out.below⟩)
      rw [if_neg q2] at h
      by_cases q5 : 0 ≤ a1_3 ∧ a1_3 < (l0_0.length : Int) ∧ a1_3 < (t0.length : Int) ∧ t1.length < 1099511627776 ∧ (u4 = true → insAt_ a1_0 t1 < t1.length)
      · rw [if_pos q5] at h
        replace h := Option.some.inj h
        simp only [Prod.mk.injEq] at h
        obtain ⟨rfl, rfl, rfl, rfl, rfl⟩ := h
        obtain ⟨ob0, ob1, ob2, lim, hin⟩ := q5
        have OB0 := Aside0.mk ob0
        have OB2 := Aside0.mk ob2
        have LIM := Aside0.mk lim
        have HIN := Aside0.mk hin
        have T0p := Aside0.mk (show 0 < t0.length by omega)
        obtain ⟨ad, e0, hx0⟩ := Kd.at_int HR0_0.out a1_3 ob0 ob1
        subst e0
        have HX0 := Aside0.mk hx0
        have hp0 := eq_true ob0
        have hp1 := eq_true ob1
        have hp2 := eq_true ob2
        have hE : u4 = true → (u1 == a1_1) = false := fun h => beq_eq_false_iff_ne.2 (fun e => q1 ⟨h, e⟩)
        have hG : u4 = true → (a1_1 < u1) = False := fun h => eq_false (fun e => q2 ⟨h, e⟩)
        obtain ⟨b1, hb1⟩ : ∃ b, (a1_2 == 1) = b := ⟨_, rfl⟩
        obtain ⟨b2, hb2⟩ : ∃ b, (rd l0_0 a1_3 == a1_4) = b := ⟨_, rfl⟩
        have hd : decide (a1_2 = 1 ∨ rd l0_0 a1_3 = a1_4) = (b1 || b2) := by rw [← hb1, ← hb2, Bool.decide_or]; rfl
        have hd2 : (if a1_2 = 1 ∨ rd l0_0 a1_3 = a1_4 then t0.set a1_3.toNat a1_5 else t0) = (if (b1 || b2) = true then t0.set a1_3.toNat a1_5 else t0) := by rw [← hd]; simp
        rw [hd, hd2]
        clear hd hd2 q1 q2 hx0 ob0 ob1 ob2 lim hin
        obtain ⟨n0, hn0⟩ : ∃ n, n = t0.length := ⟨_, rfl⟩
        rw [← hn0] at hp2
        have HN0 := Aside0.mk hn0
        clear hn0
        rcases (show (b1 = true) ∨ (b1 = false ∧ b2 = true) ∨ (b1 = false ∧ b2 = false) by cases b1 <;> cases b2 <;> simp) with rfl | ⟨rfl, rfl⟩ | ⟨rfl, rfl⟩ <;> cases u4
        all_goals (first | (have HI2 : Aside0 (insAt_ a1_0 t1 < t1.length) := ⟨HIN.out rfl⟩; replace hE := hE rfl; replace hG := hG rfl; rw [if_pos rfl]; clear HIN) | (rw [if_neg (show ¬ (false = true) by decide)]; clear HIN hE hG))
        all_goals (first | (rw [show (true || b2) = true from rfl]) | (rw [show (false || true) = true from rfl]) | (rw [show (false || false) = false from rfl]))
        all_goals (first | (rw [if_pos (rfl : true = true)]; obtain ⟨xo, hxo⟩ : ∃ x, x = t0.set a1_3.toNat a1_5 := ⟨_, rfl⟩; obtain ⟨dn, hdn⟩ : ∃ d, d = true := ⟨_, rfl⟩) | (rw [if_neg (show ¬ (false = true) by decide)]; obtain ⟨xo, hxo⟩ : ∃ x, x = t0 := ⟨_, rfl⟩; obtain ⟨dn, hdn⟩ : ∃ d, d = false := ⟨_, rfl⟩))
        all_goals (generalize hRL : (List.take (insAt_ a1_0 t1) t1 ++ _ ++ _) = RL; rw [← hdn] at hRL; have NRL := Aside0.mk hRL; clear hRL)
        all_goals (have HDN := Aside0.mk hdn; have HXO := Aside0.mk hxo; clear hdn hxo)
        all_goals (go_enter Try.func12, Try.ntmps12)
        all_goals (go_wp2_with (first
            | ((with_reducible refine gate_dst (N := 2) rfl ?_); refine box_event ?hg (N := 2) ?hd (cs := #[.slice (some ad) l0_0.length c0_0, .slice A0_1 l0_1.length c0_1]) (t := 31) ?hr ?_; (case hd => rfl); (case hg => rfl); (case hr => first | (go_simp; done) | (go_simp; rfl)); intro gM hg wM hbox hb; have F1 := Aside0.mk (F.out.new hg hbox hb); clear hbox hb hg; clear F; have F := F1; clear F1)
            | ((with_reducible refine gate_dst (N := 3) rfl ?_); refine box_event ?hg (N := 3) ?hd (cs := #[.int .i64 a1_0, .int .i64 a1_1, .int .i64 a1_2, .int .i64 a1_3, .int .i64 a1_4, .int .i64 a1_5]) (t := 37) ?hr ?_; (case hd => rfl); (case hg => rfl); (case hr => first | (go_simp; done) | (go_simp; rfl)); intro gO hg wO hbox hb; have F1 := Aside0.mk (F.out.new hg hbox hb); clear hbox hb hg; clear F; have F := F1; clear F1)
            | ((with_reducible refine gate_dst (N := 4) rfl ?_); refine box_event ?hg (N := 4) ?hd (cs := #[.slice none 0 0, .slice none 0 0]) (t := 31) ?hr ?_; (case hd => rfl); (case hg => rfl); (case hr => first | (go_simp; done) | (go_simp; rfl)); intro gQ hg wQ hbox hb; have F1 := Aside0.mk (F.out.new hg hbox hb); clear hbox hb hg; clear F; have F := F1; clear F1)
            | ((with_reducible refine gate_dst (N := 5) rfl ?_); refine box_event ?hg (N := 5) ?hd (cs := #[.bool false, .int .i64 0]) (t := 33) ?hr ?_; (case hd => rfl); (case hg => rfl); (case hr => first | (go_simp; done) | (go_simp; rfl)); intro gV hg wV hbox hb; have F1 := Aside0.mk (F.out.new hg hbox hb); clear hbox hb hg; clear F; have F := F1; clear F1; have hcM_0 : wV.cell? ⟨gM, 0, none⟩ = some (.slice (some ad) l0_0.length c0_0) := (F.out.cell 0 rfl 0).trans rfl; have hcM_1 : wV.cell? ⟨gM, 1, none⟩ = some (.slice A0_1 l0_1.length c0_1) := (F.out.cell 0 rfl 1).trans rfl)
            | ((with_reducible refine gate_callee (f := 49) rfl ?_); refine goesL_ (some 14) rfl rfl Try.func49 (by kernel_rfl) rfl #[.agg #[.slice (some ad) l0_0.length c0_0, .slice A0_1 l0_1.length c0_1]] rfl (by (try simp only [List.map_toArray, List.map_cons, List.map_nil]); first | done | rfl) ?_; (with_reducible refine (impl_machineCopy.calls _ _ l0_0 _ _ l0_1 t0 t1 _ ?s0 ?s1 ?s2 ?s3 B1.out).mono ?_); (case s0 => exact Kd.C_below HR0_0.out F.out.below); (case s1 => exact HC0_0.out); (case s2 => exact Kd.C_below HR0_1.out F.out.below); (case s3 => exact HC0_1.out); rintro e wA ⟨v0, v1, rfl, ho0, ho1, hb⟩; refine ⟨_, rfl, ?_⟩; clear hcM_0 hcM_1; have F1 := Aside0.mk (F.out.rows hb ho0 ho1); clear hb; clear F; have F := F1; clear F1; (obtain ⟨go, co, e0, _⟩ := Kd.R_form ho0 T0p.out); (obtain ⟨As, cs, e1, hls, _⟩ := Kd.R_reads ho1); subst e0; subst e1; clear ho0 ho1; have HLS := Aside0.mk hls; clear hls; rw [← HN0.out] at F ⊢)
            | ((with_reducible refine gate_dst (N := 7) rfl ?_); refine box_event ?hg (N := 7) ?hd (cs := #[.slice none 0 0, .slice none 0 0]) (t := 31) ?hr ?_; (case hd => rfl); (case hg => rfl); (case hr => first | (go_simp; done) | (go_simp; rfl)); intro gX hg wX hbox hb; have F1 := Aside0.mk (F.out.new hg hbox hb); clear hbox hb hg; clear F; have F := F1; clear F1; have hcX_0 : wX.cell? ⟨gX, 0, none⟩ = some (.slice none 0 0) := (F.out.cell 4 rfl 0).trans rfl; have hfX_0 : wX.frozen? ⟨gX, 0, none⟩ = false := F.out.fro 4 rfl 0; have hcX_1 : wX.cell? ⟨gX, 1, none⟩ = some (.slice none 0 0) := (F.out.cell 4 rfl 1).trans rfl; have hfX_1 : wX.frozen? ⟨gX, 1, none⟩ = false := F.out.fro 4 rfl 1)
            | ((with_reducible refine gate_store (t := 31) (p := 7) rfl ?_); refine store_event (t := 31) (p := 7) (v := ?vo_17) (w1 := ((wX.setCell ⟨gX, 0, none⟩ (.slice (some ⟨go, 0, none⟩) n0 co)).setCell ⟨gX, 1, none⟩ (.slice As t1.length cs))) ?hg ?ho ?hn ?hr ?_; (case ho => rfl); (case hg => rfl); (case hn => rfl); (case hr => first | (go_simp; done) | (go_simp; rfl)); intro wB hw_; clear hcX_0 hfX_0 hcX_1 hfX_1; have F1 := Aside0.mk (F.out.put2 4 rfl (.slice (some ⟨go, 0, none⟩) n0 co) (.slice As t1.length cs) hw_); clear hw_; clear F; have F := F1; clear F1; have hcM_0 : wB.cell? ⟨gM, 0, none⟩ = some (.slice (some ad) l0_0.length c0_0) := (F.out.cell 0 rfl 0).trans rfl; have hcM_1 : wB.cell? ⟨gM, 1, none⟩ = some (.slice A0_1 l0_1.length c0_1) := (F.out.cell 0 rfl 1).trans rfl; have hcO_0 : wB.cell? ⟨gO, 0, none⟩ = some (.int .i64 a1_0) := (F.out.cell 1 rfl 0).trans rfl)
            | ((with_reducible refine gate_callee (f := 22) rfl ?_); refine goesL_ (some 19) rfl rfl Try.func22 (by kernel_rfl) rfl #[.agg #[.slice (some ad) l0_0.length c0_0, .slice A0_1 l0_1.length c0_1], .int .i64 a1_0] rfl (by (try simp only [List.map_toArray, List.map_cons, List.map_nil]); first | done | rfl) ?_; (with_reducible refine (impl_SessionOf.calls k _ _ l0_0 _ _ l0_1 a1_0 u0 u1 u2 u3 _ _ ?s0 ?s1 ?s2 ?s3 B4.out).mono ?_); (case s0 => exact Kd.C_below HR0_0.out F.out.below); (case s1 => exact HC0_0.out); (case s2 => exact Kd.C_below HR0_1.out F.out.below); (case s3 => exact HC0_1.out); rintro e wE ⟨rfl, hb⟩; refine ⟨_, rfl, ?_⟩; clear hcM_0 hcM_1 hcO_0; have F1 := Aside0.mk (F.out.step hb); clear hb; clear F; have F := F1; clear F1)
            | ((with_reducible refine gate_dst (N := 8) rfl ?_); refine box_event ?hg (N := 8) ?hd (cs := #[.int .i64 0, .int .i64 0, .bool false, .int .i64 0]) (t := 49) ?hr ?_; (case hd => rfl); (case hg => rfl); (case hr => first | (go_simp; done) | (go_simp; rfl)); intro gS hg wS hbox hb; have F1 := Aside0.mk (F.out.new hg hbox hb); clear hbox hb hg; clear F; have F := F1; clear F1; have hcS_0 : wS.cell? ⟨gS, 0, none⟩ = some (.int .i64 0) := (F.out.cell 5 rfl 0).trans rfl; have hfS_0 : wS.frozen? ⟨gS, 0, none⟩ = false := F.out.fro 5 rfl 0; have hcS_1 : wS.cell? ⟨gS, 1, none⟩ = some (.int .i64 0) := (F.out.cell 5 rfl 1).trans rfl; have hfS_1 : wS.frozen? ⟨gS, 1, none⟩ = false := F.out.fro 5 rfl 1; have hcS_2 : wS.cell? ⟨gS, 2, none⟩ = some (.bool false) := (F.out.cell 5 rfl 2).trans rfl; have hfS_2 : wS.frozen? ⟨gS, 2, none⟩ = false := F.out.fro 5 rfl 2; have hcS_3 : wS.cell? ⟨gS, 3, none⟩ = some (.int .i64 0) := (F.out.cell 5 rfl 3).trans rfl; have hfS_3 : wS.frozen? ⟨gS, 3, none⟩ = false := F.out.fro 5 rfl 3)
            | ((with_reducible refine gate_store (t := 49) (p := 8) rfl ?_); refine store_event (t := 49) (p := 8) (v := ?vo_18) (w1 := ((((wS.setCell ⟨gS, 0, none⟩ (.int .i64 u0)).setCell ⟨gS, 1, none⟩ (.int .i64 u1)).setCell ⟨gS, 2, none⟩ (.bool u2)).setCell ⟨gS, 3, none⟩ (.int .i64 u3))) ?hg ?ho ?hn ?hr ?_; (case ho => rfl); (case hg => rfl); (case hn => rfl); (case hr => first | (go_simp; done) | (go_simp; rfl)); intro wG hw_; clear hcS_0 hfS_0 hcS_1 hfS_1 hcS_2 hfS_2 hcS_3 hfS_3; have F1 := Aside0.mk (F.out.put4 5 rfl (.int .i64 u0) (.int .i64 u1) (.bool u2) (.int .i64 u3) hw_); clear hw_; clear F; have F := F1; clear F1; have hcM_0 : wG.cell? ⟨gM, 0, none⟩ = some (.slice (some ad) l0_0.length c0_0) := (F.out.cell 0 rfl 0).trans rfl; have hcM_1 : wG.cell? ⟨gM, 1, none⟩ = some (.slice A0_1 l0_1.length c0_1) := (F.out.cell 0 rfl 1).trans rfl)
            | ((with_reducible refine gate_callee (f := 20) rfl ?_); refine goesL_ (some 24) rfl rfl Try.func20 (by kernel_rfl) rfl #[.agg #[.slice (some ad) l0_0.length c0_0, .slice A0_1 l0_1.length c0_1]] rfl (by (try simp only [List.map_toArray, List.map_cons, List.map_nil]); first | done | rfl) ?_; (with_reducible refine (impl_IsValidMachine.calls k _ _ l0_0 _ _ l0_1 true _ ?s0 ?s1 ?s2 ?s3 B2.out).mono ?_); (case s0 => exact Kd.C_below HR0_0.out F.out.below); (case s1 => exact HC0_0.out); (case s2 => exact Kd.C_below HR0_1.out F.out.below); (case s3 => exact HC0_1.out); rintro e wC ⟨rfl, hb⟩; refine ⟨_, rfl, ?_⟩; clear hcM_0 hcM_1; have F1 := Aside0.mk (F.out.step hb); clear hb; clear F; have F := F1; clear F1; have hcO_0 : wC.cell? ⟨gO, 0, none⟩ = some (.int .i64 a1_0) := (F.out.cell 1 rfl 0).trans rfl; have hcO_1 : wC.cell? ⟨gO, 1, none⟩ = some (.int .i64 a1_1) := (F.out.cell 1 rfl 1).trans rfl; have hcO_2 : wC.cell? ⟨gO, 2, none⟩ = some (.int .i64 a1_2) := (F.out.cell 1 rfl 2).trans rfl; have hcO_3 : wC.cell? ⟨gO, 3, none⟩ = some (.int .i64 a1_3) := (F.out.cell 1 rfl 3).trans rfl; have hcO_4 : wC.cell? ⟨gO, 4, none⟩ = some (.int .i64 a1_4) := (F.out.cell 1 rfl 4).trans rfl; have hcO_5 : wC.cell? ⟨gO, 5, none⟩ = some (.int .i64 a1_5) := (F.out.cell 1 rfl 5).trans rfl)
            | (go_at_call 50; (with_reducible refine (impl_IsValidOp.calls a1_0 a1_1 a1_2 a1_3 a1_4 a1_5 true _ B3.out).mono ?_); rintro e wD ⟨rfl, hb⟩; clear hcO_0 hcO_1 hcO_2 hcO_3 hcO_4 hcO_5; have F1 := Aside0.mk (F.out.step hb); clear hb; clear F; have F := F1; clear F1; have hcS_1 : wD.cell? ⟨gS, 1, none⟩ = some (.int .i64 u1) := (F.out.cell 5 rfl 1).trans rfl; have hcO_1 : wD.cell? ⟨gO, 1, none⟩ = some (.int .i64 a1_1) := (F.out.cell 1 rfl 1).trans rfl; have hcM_0 : wD.cell? ⟨gM, 0, none⟩ = some (.slice (some ad) l0_0.length c0_0) := (F.out.cell 0 rfl 0).trans rfl; have hcO_3 : wD.cell? ⟨gO, 3, none⟩ = some (.int .i64 a1_3) := (F.out.cell 1 rfl 3).trans rfl; have hcO_2 : wD.cell? ⟨gO, 2, none⟩ = some (.int .i64 a1_2) := (F.out.cell 1 rfl 2).trans rfl; have hcO_4 : wD.cell? ⟨gO, 4, none⟩ = some (.int .i64 a1_4) := (F.out.cell 1 rfl 4).trans rfl; have hx0 := pw_cell_below F.out.below HX0.out)
            | ((with_reducible refine gate_dst (N := 11) rfl ?_); refine box_event ?hg (N := 11) ?hd (cs := #[.bool false, .int .i64 0]) (t := 33) ?hr ?_; (case hd => rfl); (case hg => rfl); (case hr => first | (go_simp; done) | (go_simp; rfl)); intro gR hg wR hbox hb; clear hcS_1 hcO_1 hcM_0 hcO_3 hcO_2 hcO_4; have F1 := Aside0.mk (F.out.new hg hbox hb); clear hbox hb hg; clear F; have F := F1; clear F1; have hcR_0 : wR.cell? ⟨gR, 0, none⟩ = some (.bool false) := (F.out.cell 6 rfl 0).trans rfl; have hfR_0 : wR.frozen? ⟨gR, 0, none⟩ = false := F.out.fro 6 rfl 0; have hcR_1 : wR.cell? ⟨gR, 1, none⟩ = some (.int .i64 0) := (F.out.cell 6 rfl 1).trans rfl; have hfR_1 : wR.frozen? ⟨gR, 1, none⟩ = false := F.out.fro 6 rfl 1; clear hx0)
            | ((with_reducible refine gate_store (t := 33) (p := 11) rfl ?_); refine store_event (t := 33) (p := 11) (v := ?vo_19) (w1 := ((wR.setCell ⟨gR, 0, none⟩ (.bool true)).setCell ⟨gR, 1, none⟩ (.int .i64 (rd l0_0 a1_3)))) ?hg ?ho ?hn ?hr ?_; (case ho => rfl); (case hg => rfl); (case hn => rfl); (case hr => first | (go_simp; done) | (go_simp; rfl)); intro wT hw_; clear hcR_0 hfR_0 hcR_1 hfR_1; have F1 := Aside0.mk (F.out.put2 6 rfl (.bool true) (.int .i64 (rd l0_0 a1_3)) hw_); clear hw_; clear F; have F := F1; clear F1; have hcR_0 : wT.cell? ⟨gR, 0, none⟩ = some (.bool true) := (F.out.cell 6 rfl 0).trans rfl; have hcX_0 : wT.cell? ⟨gX, 0, none⟩ = some (.slice (some ⟨go, 0, none⟩) n0 co) := (F.out.cell 4 rfl 0).trans rfl; have hcO_3 : wT.cell? ⟨gO, 3, none⟩ = some (.int .i64 a1_3) := (F.out.cell 1 rfl 3).trans rfl; have hcO_5 : wT.cell? ⟨gO, 5, none⟩ = some (.int .i64 a1_5) := (F.out.cell 1 rfl 5).trans rfl; have hx1 : wT.cell? ⟨go, a1_3.toNat, none⟩ = some (.int .i64 (rd t0 a1_3)) := cell_row F.out.ro a1_3 OB0.out OB2.out; have hx2 : wT.frozen? ⟨go, a1_3.toNat, none⟩ = false := fro_row F.out.ro a1_3 OB0.out OB2.out)
            | ((with_reducible refine gate_store (t := 33) (p := 11) rfl ?_); refine store_event (t := 33) (p := 11) (v := ?vo_20) (w1 := ((wR.setCell ⟨gR, 0, none⟩ (.bool false)).setCell ⟨gR, 1, none⟩ (.int .i64 (rd l0_0 a1_3)))) ?hg ?ho ?hn ?hr ?_; (case ho => rfl); (case hg => rfl); (case hn => rfl); (case hr => first | (go_simp; done) | (go_simp; rfl)); intro wT hw_; clear hcR_0 hfR_0 hcR_1 hfR_1; have F1 := Aside0.mk (F.out.put2 6 rfl (.bool false) (.int .i64 (rd l0_0 a1_3)) hw_); clear hw_; clear F; have F := F1; clear F1; have hcR_0 : wT.cell? ⟨gR, 0, none⟩ = some (.bool false) := (F.out.cell 6 rfl 0).trans rfl)
            | ((with_reducible refine gate_store (t := 3) (p := 80) rfl ?_); refine store_event (t := 3) (p := 80) (v := ?vo_21) (w1 := (wT.setCell ⟨go, a1_3.toNat, none⟩ (.int .i64 a1_5))) ?hg ?ho ?hn ?hr ?_; (case ho => rfl); (case hg => rfl); (case hn => rfl); (case hr => first | (go_simp; done) | (go_simp; rfl)); intro wT hw_; clear hcR_0 hcX_0 hcO_3 hcO_5; have F1 := Aside0.mk (F.out.setOW a1_3 a1_5 hw_); clear hw_ hx1 hx2; clear F; have F := F1; clear F1)))
        all_goals (have F1 : Aside0 (Fr w wT [(gM, #[.slice (some ad) l0_0.length c0_0, .slice A0_1 l0_1.length c0_1], 31), (gO, #[.int .i64 a1_0, .int .i64 a1_1, .int .i64 a1_2, .int .i64 a1_3, .int .i64 a1_4, .int .i64 a1_5], 37), (gQ, #[.slice none 0 0, .slice none 0 0], 31), (gV, #[.bool false, .int .i64 0], 33), (gX, #[.slice (some ⟨go, 0, none⟩) n0 co, .slice As t1.length cs], 31), (gS, #[.int .i64 u0, .int .i64 u1, .bool u2, .int .i64 u3], 49), (gR, #[.bool dn, .int .i64 (rd l0_0 a1_3)], 33)] (.slice (some ⟨go, 0, none⟩) n0 co) (.slice As t1.length cs) xo t1) := ⟨by rw [HDN.out, HXO.out]; exact F.out⟩; clear F; have F := F1; clear F1)
        all_goals (
        (try clear hcR_0)
        have F0 := F
        clear F
        go_loopg [12] t1.length (fun gg s12 wr => ∃ kk : Nat, s12 = .int .i64 kk ∧ Aside0 (kk ≤ t1.length ∧ t1.length - kk ≤ gg) ∧ Aside0 (Fr w wr [(gM, #[.slice (some ad) l0_0.length c0_0, .slice A0_1 l0_1.length c0_1], 31), (gO, #[.int .i64 a1_0, .int .i64 a1_1, .int .i64 a1_2, .int .i64 a1_3, .int .i64 a1_4, .int .i64 a1_5], 37), (gQ, #[.slice none 0 0, .slice none 0 0], 31), (gV, #[.bool false, .int .i64 0], 33), (gX, #[.slice (some ⟨go, 0, none⟩) n0 co, .slice As t1.length cs], 31), (gS, #[.int .i64 u0, .int .i64 u1, .bool u2, .int .i64 u3], 49), (gR, #[.bool dn, .int .i64 (rd l0_0 a1_3)], 33)] (.slice (some ⟨go, 0, none⟩) n0 co) (.slice As t1.length cs) xo t1) ∧ Aside0 (∀ j, j < kk → (rd_T49 t1 (j : Int)).f0 < a1_0))
        case atStart => exact ⟨0, rfl, ⟨by omega, by omega⟩, F0, ⟨fun j hj => by omega⟩⟩
        case round =>
          clear F0
          obtain ⟨kk, rfl, HK, F, HA⟩ := hrel
          have hcX_1 : wr.cell? ⟨gX, 1, none⟩ = some (.slice As t1.length cs) := (F.out.cell 4 rfl 1).trans rfl
          have hcO_0 : wr.cell? ⟨gO, 0, none⟩ = some (.int .i64 a1_0) := (F.out.cell 1 rfl 0).trans rfl
          have hkz : (0 : Int) ≤ (kk : Int) := by omega
          by_cases hcn : (kk : Int) < (t1.length : Int) ∧ (rd_T49 t1 (kk : Int)).f0 < a1_0
          · obtain ⟨hlt, hls⟩ := hcn
            obtain ⟨ad2, e2, hx_0, _, _, _⟩ := at_T49 (Kd.R_reads' F.out.rs).2.2 (kk : Int) hkz hlt
            subst e2
            simp only [Int.toNat_natCast] at hx_0
            have hltb := eq_true hlt
            have hkzb := eq_true hkz
            have hlsb := eq_true hls
            go_wp2
            go_quiet (fail)
            go_wp2
            go_roundg (t1.length - (kk + 1))
            case measure => have := HK.out; omega
            case rel =>
              refine ⟨kk + 1, by rw [show wrap64 ((kk : Int) + 1) = ((kk + 1 : Nat) : Int) by have := LIM.out; unfold wrap64; omega], ⟨by omega, by omega⟩, ⟨F.out.drewN _⟩, ⟨fun j hj => ?_⟩⟩
              rcases Nat.lt_succ_iff_lt_or_eq.1 hj with hj | rfl
              · exact HA.out j hj
              · exact hls
          have hIA := insAt_stop a1_0 t1 kk HK.out.1 HA.out (fun h1 h2 => hcn ⟨by omega, h2⟩)
          have HCN := Aside0.mk hcn
          clear hcn HA
          rcases Decidable.em ((kk : Int) < (t1.length : Int)) with hlt | hlt
          all_goals (first
            | (obtain ⟨ad2, e2, hx_0, _, _, _⟩ := at_T49 (Kd.R_reads' F.out.rs).2.2 (kk : Int) hkz hlt
               subst e2
               simp only [Int.toNat_natCast] at hx_0
               have hlsb := eq_false (fun h => HCN.out ⟨hlt, h⟩)
               have hltb := eq_true hlt
               have hkzb := eq_true hkz
               go_wp2
               go_quiet (fail)
               clear hcX_1 hcO_0
               have F1 := Aside0.mk (F.out.drewN nq)
               clear F hx_0 hltb hkzb hlsb hlt hkz
               have F := F1
               clear F1
               generalize (some ad2) = As at F HLS ⊢)
            | (have hltb := eq_false hlt
               go_wp2
               go_quiet (fail)
               clear hcX_1 hcO_0
               have F1 := Aside0.mk (F.out.drewN nq)
               clear F hltb hlt hkz
               have F := F1
               clear F1))
          all_goals (
            first
            | (have hlt2 := HI2.out
               rw [hIA] at hlt2
               generalize wr.drewN nq = wd at F ⊢
               obtain ⟨ys, hys⟩ : ∃ ys, ys = t1 := ⟨_, rfl⟩
               have HYS := Aside0.mk (show ys.set kk (⟨a1_0, a1_1, ⟨dn, rd l0_0 a1_3⟩⟩ : S49) = RL by rw [hys, set_in t1 kk hlt2, ← NRL.out, hIA])
               rw [← hys] at F ⊢
               have hkl : kk < ys.length := by rw [hys]; exact hlt2
               clear hys hlt2
               (obtain ⟨gy, c2, ey, _⟩ := Kd.R_form F.out.rs (by omega))
               injection ey with e1 e2 e3
               subst e1
               subst e3
               have hk1 := eq_true (show (kk : Int) < (ys.length : Int) by omega)
               have hk0 := eq_true (show (0 : Int) ≤ (kk : Int) by omega)
               have hcX_1 : wd.cell? ⟨gX, 1, none⟩ = some (.slice (some ⟨gy, 0, none⟩) ys.length cs) := (F.out.cell 4 rfl 1).trans rfl
               have hcO_0 : wd.cell? ⟨gO, 0, none⟩ = some (.int .i64 a1_0) := (F.out.cell 1 rfl 0).trans rfl
               have hcO_1 : wd.cell? ⟨gO, 1, none⟩ = some (.int .i64 a1_1) := (F.out.cell 1 rfl 1).trans rfl
               have hcR_0 : wd.cell? ⟨gR, 0, none⟩ = some (.bool dn) := (F.out.cell 6 rfl 0).trans rfl
               have hcR_1 : wd.cell? ⟨gR, 1, none⟩ = some (.int .i64 (rd l0_0 a1_3)) := (F.out.cell 6 rfl 1).trans rfl
               (obtain ⟨q0, q1, q2, q3, hq0, hq1, hq2, hq3, hqf⟩ := cells_at F.out.rs kk hkl)
               have hqz : wd.frozen? ⟨gy, kk * 4, none⟩ = false := hqf 0
               go_wp2_with ((with_reducible refine gate_store (t := 49) (p := 117) rfl ?_); refine store_event (t := 49) (p := 117) (v := ?vt_27) (w1 := ((((wd.setCell ⟨gy, kk * 4, none⟩ (.int .i64 a1_0)).setCell ⟨gy, kk * 4 + 1, none⟩ (.int .i64 a1_1)).setCell ⟨gy, kk * 4 + 2, none⟩ (.bool dn)).setCell ⟨gy, kk * 4 + 3, none⟩ (.int .i64 (rd l0_0 a1_3)))) ?hg ?ho ?hn ?hr ?_; (case ho => rfl); (case hg => rfl); (case hn => rfl); (case hr => first | (go_simp; done) | (go_simp; rfl)); intro we hw_; clear hcX_1 hcO_0 hcO_1 hcR_0 hcR_1 hq0 hq1 hq2 hq3 hqf hqz hk0 hk1; have F1 := Aside0.mk (F.out.setS hkl (⟨a1_0, a1_1, ⟨dn, rd l0_0 a1_3⟩⟩ : S49) hw_); clear hw_; clear F; have F := F1; clear F1)
               generalize cs = cy at F ⊢)
            | (generalize wr.drewN nq = wq at F ⊢
               have hcX_1 : wq.cell? ⟨gX, 1, none⟩ = some (.slice As t1.length cs) := (F.out.cell 4 rfl 1).trans rfl
               go_wp2_with (first
                  | ((with_reducible refine gate_dst (N := 105) rfl ?_); refine (Gr.start F.out).litL rfl (N := 105) rfl (⟨0, 0, ⟨false, 0⟩⟩ : S49) ?hr ?_; (case hr => first | (go_simp; done) | (go_simp; rfl)); intro v105 wb hG; have G := Aside0.mk hG; clear hG; clear hcX_1; (obtain ⟨gt, ct, et, _⟩ := Kd.R_form G.out.rt (by decide)); subst et; clear F)
                  | ((with_reducible refine gate_callee (f := 51) rfl ?_); refine goesL_ (some 106) rfl rfl Try.func51 (by kernel_rfl) rfl #[.slice As t1.length cs, .int .i64 (kk : Int), .slice (some ⟨gt, 0, none⟩) 1 ct] rfl (by (try simp only [List.map_toArray, List.map_cons, List.map_nil]); first | done | rfl) ?_; (with_reducible refine (ins_any G.out LIM.out HK.out.1).mono ?_); rintro e wc ⟨v106, rfl, F⟩; refine ⟨_, rfl, ?_⟩; clear G; obtain ⟨ys, hys⟩ : ∃ ys, ys = (t1.take kk ++ (⟨0, 0, ⟨false, 0⟩⟩ : S49) :: t1.drop kk) := ⟨_, rfl⟩; rw [← hys] at F; have HYE := Aside0.mk hys; clear hys; (obtain ⟨Ay, cy, ey⟩ := Kd.R_slice F.out.rs); subst ey; have hcX_1 : wc.cell? ⟨gX, 1, none⟩ = some (.slice As t1.length cs) := (F.out.cell 4 rfl 1).trans rfl; have hfX_1 : wc.frozen? ⟨gX, 1, none⟩ = false := F.out.fro 4 rfl 1)
                  | ((with_reducible refine gate_store (t := 29) (p := 107) rfl ?_); refine store_event (t := 29) (p := 107) (v := ?vs_1) (w1 := (wc.setCell ⟨gX, 1, none⟩ (.slice Ay ys.length cy))) ?hg ?ho ?hn ?hr ?_; (case ho => rfl); (case hg => rfl); (case hn => rfl); (case hr => first | (go_simp; done) | (go_simp; rfl)); intro wd hw_; clear hcX_1 hfX_1; have F1 := Aside0.mk (F.out.put1 4 rfl 1 (.slice Ay ys.length cy) hw_); clear hw_; clear F; have F := F1; clear F1; have hys := HYE.out; have HYS := Aside0.mk (show ys.set kk (⟨a1_0, a1_1, ⟨dn, rd l0_0 a1_3⟩⟩ : S49) = RL by rw [hys, set_mid t1 kk HK.out.1, ← NRL.out, hIA]); have hkl : kk < ys.length := (by rw [hys]; have := HK.out.1; simp only [List.length_append, List.length_take, List.length_cons, List.length_drop]; omega); clear hys; (obtain ⟨gy, c2, ey, _⟩ := Kd.R_form F.out.rs (by omega)); injection ey with e1 e2 e3; subst e1; subst e3; have hk1 := eq_true (show (kk : Int) < (ys.length : Int) by omega); have hk0 := eq_true (show (0 : Int) ≤ (kk : Int) by omega); have hcX_1 : wd.cell? ⟨gX, 1, none⟩ = some (.slice (some ⟨gy, 0, none⟩) ys.length cy) := (F.out.cell 4 rfl 1).trans rfl; have hcO_0 : wd.cell? ⟨gO, 0, none⟩ = some (.int .i64 a1_0) := (F.out.cell 1 rfl 0).trans rfl; have hcO_1 : wd.cell? ⟨gO, 1, none⟩ = some (.int .i64 a1_1) := (F.out.cell 1 rfl 1).trans rfl; have hcR_0 : wd.cell? ⟨gR, 0, none⟩ = some (.bool dn) := (F.out.cell 6 rfl 0).trans rfl; have hcR_1 : wd.cell? ⟨gR, 1, none⟩ = some (.int .i64 (rd l0_0 a1_3)) := (F.out.cell 6 rfl 1).trans rfl; (obtain ⟨q0, q1, q2, q3, hq0, hq1, hq2, hq3, hqf⟩ := cells_at F.out.rs kk hkl); have hqz : wd.frozen? ⟨gy, kk * 4, none⟩ = false := hqf 0)
                  | ((with_reducible refine gate_store (t := 49) (p := 117) rfl ?_); refine store_event (t := 49) (p := 117) (v := ?vt_28) (w1 := ((((wd.setCell ⟨gy, kk * 4, none⟩ (.int .i64 a1_0)).setCell ⟨gy, kk * 4 + 1, none⟩ (.int .i64 a1_1)).setCell ⟨gy, kk * 4 + 2, none⟩ (.bool dn)).setCell ⟨gy, kk * 4 + 3, none⟩ (.int .i64 (rd l0_0 a1_3)))) ?hg ?ho ?hn ?hr ?_; (case ho => rfl); (case hg => rfl); (case hn => rfl); (case hr => first | (go_simp; done) | (go_simp; rfl)); intro we hw_; clear hcX_1 hcO_0 hcO_1 hcR_0 hcR_1 hq0 hq1 hq2 hq3 hqf hqz hk0 hk1; have F1 := Aside0.mk (F.out.setS hkl (⟨a1_0, a1_1, ⟨dn, rd l0_0 a1_3⟩⟩ : S49) hw_); clear hw_; clear F; have F := F1; clear F1)))
            refine start_ (n := 5) (S := fun w' => w'.cell? ⟨gX, 0, none⟩ = some (.slice (some ⟨go, 0, none⟩) n0 co) ∧ w'.cell? ⟨gX, 1, none⟩ = some (.slice (some ⟨gy, 0, none⟩) ys.length cy) ∧ w'.cell? ⟨gR, 0, none⟩ = some (.bool dn) ∧ w'.cell? ⟨gR, 1, none⟩ = some (.int .i64 (rd l0_0 a1_3))) (ds := []) #[false, false, false, false, false] (by kernel_rfl) rfl rfl (⟨(F.out.cell 4 rfl 0).trans rfl, (F.out.cell 4 rfl 1).trans rfl, (F.out.cell 6 rfl 0).trans rfl, (F.out.cell 6 rfl 1).trans rfl⟩) (fun hHeld => ?_)
            have F1 := Aside0.mk F.out.drew
            clear F
            have F := F1
            clear F1
            generalize we.drew = wi at F hHeld ⊢
            refine takeTk 0 (some 118) #[true, false, false, false, false] ?_
            refine takeTk 1 (some 119) #[true, true, false, false, false] ?_
            refine one_ (i := 2) (N := none) #[true, true, true, false, false] rfl rfl (by kernel_rfl) (by decide) (fun K hK => ?_)
            have hcQ_0 : wi.cell? ⟨gQ, 0, none⟩ = some (.slice none 0 0) := (F.out.cell 2 rfl 0).trans rfl
            have hfQ_0 : wi.frozen? ⟨gQ, 0, none⟩ = false := F.out.fro 2 rfl 0
            have hcQ_1 : wi.cell? ⟨gQ, 1, none⟩ = some (.slice none 0 0) := (F.out.cell 2 rfl 1).trans rfl
            have hfQ_1 : wi.frozen? ⟨gQ, 1, none⟩ = false := F.out.fro 2 rfl 1
            refine skip_ (w1 := ((wi.setCell ⟨gQ, 0, none⟩ (.slice (some ⟨go, 0, none⟩) n0 co)).setCell ⟨gQ, 1, none⟩ (.slice (some ⟨gy, 0, none⟩) ys.length cy))) (by rfl) rfl ?_ ?_
            · first | (go_simp; done) | (go_simp; rfl)
            clear hcQ_0 hfQ_0 hcQ_1 hfQ_1
            obtain ⟨wj, hw_⟩ : ∃ W_, W_ = ((wi.setCell ⟨gQ, 0, none⟩ (.slice (some ⟨go, 0, none⟩) n0 co)).setCell ⟨gQ, 1, none⟩ (.slice (some ⟨gy, 0, none⟩) ys.length cy)) := ⟨_, rfl⟩
            rw [← hw_]
            have F1 := Aside0.mk (F.out.put2 2 rfl (.slice (some ⟨go, 0, none⟩) n0 co) (.slice (some ⟨gy, 0, none⟩) ys.length cy) hw_)
            clear hw_
            clear F
            have F := F1
            clear F1
            refine hK.out _ _ (⟨(F.out.cell 4 rfl 0).trans rfl, (F.out.cell 4 rfl 1).trans rfl, (F.out.cell 6 rfl 0).trans rfl, (F.out.cell 6 rfl 1).trans rfl⟩) (fun hHeld => ?_)
            clear hK K
            refine one_ (i := 3) (N := none) #[true, true, true, true, false] rfl rfl (by kernel_rfl) (by decide) (fun K hK => ?_)
            have hcV_0 : wj.cell? ⟨gV, 0, none⟩ = some (.bool false) := (F.out.cell 3 rfl 0).trans rfl
            have hfV_0 : wj.frozen? ⟨gV, 0, none⟩ = false := F.out.fro 3 rfl 0
            have hcV_1 : wj.cell? ⟨gV, 1, none⟩ = some (.int .i64 0) := (F.out.cell 3 rfl 1).trans rfl
            have hfV_1 : wj.frozen? ⟨gV, 1, none⟩ = false := F.out.fro 3 rfl 1
            refine skip_ (w1 := ((wj.setCell ⟨gV, 0, none⟩ (.bool dn)).setCell ⟨gV, 1, none⟩ (.int .i64 (rd l0_0 a1_3)))) (by rfl) rfl ?_ ?_
            · first | (go_simp; done) | (go_simp; rfl)
            clear hcV_0 hfV_0 hcV_1 hfV_1
            obtain ⟨wk, hw_⟩ : ∃ W_, W_ = ((wj.setCell ⟨gV, 0, none⟩ (.bool dn)).setCell ⟨gV, 1, none⟩ (.int .i64 (rd l0_0 a1_3))) := ⟨_, rfl⟩
            rw [← hw_]
            have F1 := Aside0.mk (F.out.put2 3 rfl (.bool dn) (.int .i64 (rd l0_0 a1_3)) hw_)
            clear hw_
            clear F
            have F := F1
            clear F1
            refine hK.out _ _ (⟨(F.out.cell 4 rfl 0).trans rfl, (F.out.cell 4 rfl 1).trans rfl, (F.out.cell 6 rfl 0).trans rfl, (F.out.cell 6 rfl 1).trans rfl⟩) (fun hHeld => ?_)
            clear hK K
            refine pureTk 4 (some 6) #[true, true, true, true, true] ?_
            refine done_ (by kernel_rfl) ?_
            go_wp2
            refine bodyPost_ret (results_cct rfl _ _ gQ gV 31 33 #[.slice (some ⟨go, 0, none⟩) n0 co, .slice (some ⟨gy, 0, none⟩) ys.length cy] #[.bool dn, .int .i64 (rd l0_0 a1_3)] _ _ rfl (F.out.at_ 2 rfl) Try.underlying31 rfl (by kernel_rfl) rfl (F.out.at_ 3 rfl) Try.underlying33 rfl (by kernel_rfl)) rfl ?_
            exact ⟨.slice (some ⟨go, 0, none⟩) n0 co, .slice (some ⟨gy, 0, none⟩) ys.length cy, (by rw [← HDN.out]; first | done | rfl), (by rw [← HXO.out]; exact Kd.R_mono F.out.ro (fun _ _ => trivial)), (by rw [← HYS.out]; exact Kd.R_mono F.out.rs (fun _ _ => trivial)), F.out.below⟩))
      rw [if_neg q5] at h
      exact absurd h (by simp)


end Go.Proofs.Ytcikahnmiiichaa.A
