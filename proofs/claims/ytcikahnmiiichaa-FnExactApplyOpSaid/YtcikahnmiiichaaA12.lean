/- Go functions as Lean functions, and the proof that the code comes to them: written by a program of this session out of the translation. -/
import Derived.Test.YtcikahnmiiichaaA0
import Derived.Test.YtcikahnmiiichaaA1
import Derived.Test.YtcikahnmiiichaaA5
import Derived.Test.YtcikahnmiiichaaA9
import Derived.Test.YtcikahnmiiichaaA10
import Derived.Test.YtcikahnmiiichaaA11
namespace Go.Proofs.Ytcikahnmiiichaa.A
open Go.RowKit Go.Proofs.YtcikahnmiiichaaW.PrintWords Go.Proofs.YtcikahnmiiichaaW.PrintLast Go.Proofs.YtcikahnmiiichaaW.PrintMore
attribute [local go_sem] max2_int min2_int max_two min_two max_three min_three max_four min_four   -- for this text's walks alone
set_option linter.unusedVariables false
set_option linter.unusedSimpArgs false

/-! ### laws_FnExactApplyOp: function 3 -/
/-- An order drawn, by what stands whatever has come up: each operation that may come up carries it on. -/
theorem drawn_inv {P : Program} {md : Region.Mode} {ops : Array Oper} {Q : Exit → Act → World → Prop} {T : Bool × List (List Nat × List Nat)} (hT : rtab md ops = T)
    (hlow : ((List.range T.2.length).all fun i => ((T.2[i]?.map (·.1)).getD []).all (fun j => decide (j < i))) = true) (Inv : List Bool → Act → World → Prop)
    (hstep : ∀ l a w, Inv l a w → ∀ i, readyAt T.2 l i = true → wpOp P ops Q i (Inv (l.set i true)) a w)
    (hend : ∀ l a w, Inv l a w → (∀ i, i < T.2.length → l.getD i false = true) → Q .normal a w) :
    ∀ (fuel : Nat) (l : Array Bool) (a : Act) (w : World), l.size = ops.size → l.toList.countP (fun b => !b) ≤ fuel → Inv l.toList a w → wpAny P md ops Q fuel l a w := by
  have hr : ∀ l : Array Bool, Region.ready md ops l = readyT T.2 l.toList := fun l => by rw [ready_eq, hT]
  have hlen : T.2.length = ops.size := by rw [← hT]; exact rtab_length
  have hall : ∀ l : List Bool, l.length = T.2.length → readyT T.2 l = [] → ∀ i, i < T.2.length → l.getD i false = true := by
    intro l hl he i
    induction i using Nat.strongRecOn with
    | ind i ih =>
      intro hi
      have h1 := List.all_eq_true.1 hlow i (List.mem_range.2 hi)
      by_cases hn : l.getD i false = true
      · exact hn
      · exfalso
        have hmem : i ∈ readyT T.2 l := by
          unfold readyT
          rw [List.mem_filter, List.mem_range]
          refine ⟨hi, ?_⟩
          unfold readyAt
          have h2 : l.getD i true = false := by
            have hi' : i < l.length := by omega
            rw [List.getD_eq_getElem?_getD, List.getElem?_eq_getElem hi'] at hn ⊢
            simpa using hn
          rw [h2]
          obtain ⟨r, hr'⟩ : ∃ r, T.2[i]? = some r := ⟨_, List.getElem?_eq_getElem hi⟩
          rw [hr'] at h1 ⊢
          simp only [Bool.not_false, Bool.true_and, List.all_eq_true]
          intro j hj
          have hji : j < i := by
            have := List.all_eq_true.1 h1 j (by simpa using hj)
            simpa using this
          exact ih j hji (by omega)
        rw [he] at hmem
        cases hmem
  have hset : ∀ (l : List Bool) (i : Nat), l.getD i true = false → (l.set i true).countP (fun b => !b) + 1 = l.countP (fun b => !b) := by
    intro l
    induction l with
    | nil => intro i h; simp at h
    | cons b r ih =>
      intro i h
      cases i with
      | zero => simp at h; subst h; simp
      | succ i =>
        simp at h
        have := ih i (by simpa using h)
        simp only [List.set_cons_succ, List.countP_cons]
        omega
  intro fuel
  induction fuel with
  | zero =>
    intro l a w hs hc hI
    have he : Region.ready md ops l = [] := by
      rw [hr]
      unfold readyT
      rw [List.filter_eq_nil_iff]
      intro i hi h
      unfold readyAt at h
      rw [Bool.and_eq_true] at h
      have := hset l.toList i (by simpa using h.1)
      omega
    refine ⟨he, hend _ _ _ hI (hall _ (by rw [Array.length_toList, hs, hlen]) (by rw [← hr]; exact he))⟩
  | succ fuel ih =>
    intro l a w hs hc hI
    refine ⟨fun he => hend _ _ _ hI (hall _ (by rw [Array.length_toList, hs, hlen]) (by rw [← hr]; exact he)), fun i hi => ?_⟩
    rw [hr] at hi
    unfold readyT at hi
    rw [List.mem_filter] at hi
    have hg : l.toList.getD i true = false := by
      have h := hi.2
      unfold readyAt at h
      rw [Bool.and_eq_true] at h
      simpa using h.1
    refine wpOp_mono (fun a' w' h => ?_) (hstep l.toList a w hI i hi.2)
    have := hset l.toList i hg
    refine ih _ a' w' (by simpa using hs) (by rw [Array.toList_setIfInBounds]; omega) (by rw [Array.toList_setIfInBounds]; exact h)
theorem region_inv {P : Program} {ops : Array Oper} {id : Nat} {Q : Exit → Act → World → Prop} {T : Bool × List (List Nat × List Nat)} (hm : P.follows .mixedOrders = true) (hT : rtab .any ops = T)
    (hlow : ((List.range T.2.length).all fun i => ((T.2[i]?.map (·.1)).getD []).all (fun j => decide (j < i))) = true) (Inv : List Bool → Act → World → Prop) {a : Act} {w : World}
    (hstart : Inv (List.replicate ops.size false) a w.drew)
    (hstep : ∀ l a w, Inv l a w → ∀ i, readyAt T.2 l i = true → wpOp P ops Q i (Inv (l.set i true)) a w)
    (hend : ∀ l a w, Inv l a w → (∀ i, i < T.2.length → l.getD i false = true) → Q .normal a w) : (Code.region id ops true).wp P Q a w :=
  wp_region_any hm (drawn_inv hT hlow Inv hstep hend ops.size _ a _ (by simp) (by rw [Array.toList_replicate]; exact Nat.le_trans List.countP_le_length (by simp)) (by rw [Array.toList_replicate]; exact hstart))
/-- What an act holds beyond the places ds is what a0 held. -/
def SameBut (ds : List Nat) (a0 a : Act) : Prop := a.defers = a0.defers ∧ a.tmps.size = a0.tmps.size ∧ ∀ j : Nat, j ∉ ds → a.tmps[j]? = a0.tmps[j]?
theorem SameBut.refl (ds : List Nat) (a : Act) : SameBut ds a a := ⟨rfl, rfl, fun _ _ => rfl⟩
theorem SameBut.put {ds : List Nat} {a0 a : Act} (h : SameBut ds a0 a) {d : Nat} (hd : d ∈ ds) (v : Value) : SameBut ds a0 (a.put (some d) v) := by
  refine ⟨h.1, by simpa [Act.put] using h.2.1, fun j hj => ?_⟩
  have hne : d ≠ j := by rintro rfl; exact hj hd
  rw [← h.2.2 j hj]
  simp only [Act.put]
  rw [Array.getElem?_setIfInBounds_ne hne]
theorem act_ext {a b : Act} (h1 : a.defers = b.defers) (h2 : ∀ j : Nat, a.tmps[j]? = b.tmps[j]?) : a = b := by
  cases a; cases b
  simp only at h1 h2
  subst h1
  congr 1
  exact Array.ext_getElem? h2
theorem SameBut.all {ds : List Nat} : ∀ {a0 a : Act}, SameBut ds a0 a → a = putAll a0 (ds.map fun d => (d, a.eval (.tmp d))) := by
  induction ds with
  | nil => intro a0 a h; exact act_ext h.1 (fun j => h.2.2 j (by simp))
  | cons d r ih =>
    intro a0 a h
    refine ih (a0 := a0.put (some d) (a.eval (.tmp d))) ⟨h.1, by simpa [Act.put] using h.2.1, fun j hj => ?_⟩
    simp only [Act.put]
    by_cases hjd : d = j
    · subst hjd
      rw [Array.getElem?_setIfInBounds_self]
      have hs := h.2.1
      by_cases hlt : d < a.tmps.size
      · rw [if_pos (by omega)]
        simp [Act.eval, hlt]
      · rw [if_neg (by omega)]
        simp [hlt]
    · rw [Array.getElem?_setIfInBounds_ne hjd]
      exact h.2.2 j (by simp; exact ⟨fun e => hjd e.symm, hj⟩)
theorem ev_same {a : Act} {d : Nat} (v : Value) (h : d < a.tmps.size) : (a.put (some d) v).eval (.tmp d) = v := by simp [Act.put, Act.eval, h]
theorem ev_ne {a : Act} {d j : Nat} (v : Value) (h : d ≠ j) : (a.put (some d) v).eval (.tmp j) = a.eval (.tmp j) := by
  simp only [Act.put, Act.eval, Array.getD_eq_getD_getElem?]
  rw [Array.getElem?_setIfInBounds_ne h]
theorem ev_but {ds : List Nat} {a0 a : Act} (h : SameBut ds a0 a) {j : Nat} (hj : j ∉ ds) : a.eval (.tmp j) = a0.eval (.tmp j) := by
  simp only [Act.eval, Array.getD_eq_getD_getElem?]
  rw [h.2.2 j hj]
theorem below_row {B g : Nat} {w0 w : World} (hb : Below B w0 w) (hBg : B ≤ g) (cs : Array Value) : Below B w0 (w.setRow g cs) :=
  hb.trans ⟨rfl, rfl, rfl, by simp [World.setRow], fun k hk => setRow_other w g k cs (by omega)⟩
theorem wpOp_un {P : Program} {ops : Array Oper} {Q : Exit → Act → World → Prop} {i : Nat} {o : Oper} {K : Act → World → Prop} {a : Act} {w : World} (ho : ops[i]? = some o) (hg : o.guard = none) (h : Oper.wp P o a w K Q) : wpOp P ops Q i K a w := by
  unfold wpOp
  rw [ho]
  have hw : Region.wanted o (yielded ops a.tmps) = true := by unfold Region.wanted; rw [hg]
  show if Region.wanted o (yielded ops a.tmps) = true then _ else _
  rw [if_pos hw]
  exact .inl h
/-- TwoR rows that were made from b on. -/
def TwoR (b : Nat) (W : World) (v0 v1 : Value) (y1 : List Int) (y2 : List S49) : Prop := Kd.R (Kd.int .i64) 3 W b (fun _ => True) v0 y1 ∧ Kd.R k49 49 W b (fun _ => True) v1 y2
theorem TwoR.below {b : Nat} {W W1 : World} {v0 v1 : Value} {y1 : List Int} {y2 : List S49} (h : TwoR b W v0 v1 y1 y2) (hb : Below W.heap.size W W1) : TwoR b W1 v0 v1 y1 y2 := ⟨Kd.R_below h.1 hb, Kd.R_below h.2 hb⟩
theorem TwoR.lower {b b' : Nat} {W : World} {v0 v1 : Value} {y1 : List Int} {y2 : List S49} (h : TwoR b W v0 v1 y1 y2) (hb : b' ≤ b) : TwoR b' W v0 v1 y1 y2 := ⟨Kd.R_lower h.1 hb, Kd.R_lower h.2 hb⟩
/-- The place of a variable: none of a row's blocks has its type. -/
def VarT (t : Nat) : Prop := (∀ q, q ∈ 3 :: (Kd.int .i64).E → q ≠ t) ∧ ∀ q, q ∈ 49 :: (k49).E → q ≠ t
theorem TwoR.row {b : Nat} {W : World} {v0 v1 : Value} {y1 : List Int} {y2 : List S49} (h : TwoR b W v0 v1 y1 y2) {g t : Nat} {cs : Array Value} (hg : W.heap[g]? = some (.cells cs t (0, 0))) (ht : VarT t) (cs' : Array Value) : TwoR b (W.setRow g cs') v0 v1 y1 y2 :=
  ⟨Kd.R_mono (Kd.R_step (Kd.R_types h.1 hg ht.1) (fun k hk _ => setRow_other W g k cs' hk.2)) (fun _ _ => trivial), Kd.R_mono (Kd.R_step (Kd.R_types h.2 hg ht.2) (fun k hk _ => setRow_other W g k cs' hk.2)) (fun _ _ => trivial)⟩
/-- What is said of a value stands when memory is made, and when a variable of one of two types is written. -/
structure Good (tm tr : Nat) (p : Value → World → Prop) : Prop where
  below : ∀ x W W1, Below W.heap.size W W1 → p x W → p x W1
  row : ∀ x W g t cs u v, W.heap[g]? = some (.cells cs t (0, 0)) → (t = tm ∨ t = tr) → p x W → p x (W.setRow g #[u, v])
def pIs (v : Value) : Value → World → Prop := fun x _ => x = v
def pTwo (b : Nat) (y1 : List Int) (y2 : List S49) : Value → World → Prop := fun x W => ∃ v0 v1, x = .agg #[v0, v1] ∧ TwoR b W v0 v1 y1 y2
def pTup (b : Nat) (y1 : List Int) (y2 : List S49) (r f : Value) : Value → World → Prop := fun x W => ∃ v0 v1, x = .tuple #[.agg #[v0, v1], r, f] ∧ TwoR b W v0 v1 y1 y2
def pBox (b t : Nat) : Value → World → Prop := fun x W => ∃ g u0 u1, x = .pointer (some ⟨g, 0, none⟩) ∧ b ≤ g ∧ W.heap[g]? = some (.cells #[u0, u1] t (0, 0))
theorem Good.pIs {tm tr : Nat} (v : Value) : Good tm tr (pIs v) := ⟨fun _ _ _ _ h => h, fun _ _ _ _ _ _ _ _ _ h => h⟩
theorem Good.pTwo {tm tr : Nat} (hm : VarT tm) (hr : VarT tr) (b : Nat) (y1 : List Int) (y2 : List S49) : Good tm tr (pTwo b y1 y2) :=
  ⟨fun _ _ _ hb ⟨v0, v1, e, h⟩ => ⟨v0, v1, e, h.below hb⟩, fun _ _ _ t _ _ _ hg ht ⟨v0, v1, e, h⟩ => ⟨v0, v1, e, h.row hg (by rcases ht with rfl | rfl; exact hm; exact hr) _⟩⟩
theorem Good.pTup {tm tr : Nat} (hm : VarT tm) (hr : VarT tr) (b : Nat) (y1 : List Int) (y2 : List S49) (r f : Value) : Good tm tr (pTup b y1 y2 r f) :=
  ⟨fun _ _ _ hb ⟨v0, v1, e, h⟩ => ⟨v0, v1, e, h.below hb⟩, fun _ _ _ t _ _ _ hg ht ⟨v0, v1, e, h⟩ => ⟨v0, v1, e, h.row hg (by rcases ht with rfl | rfl; exact hm; exact hr) _⟩⟩
theorem Good.pBox {tm tr : Nat} (b t : Nat) : Good tm tr (pBox b t) := by
  refine ⟨fun _ _ _ hb ⟨g, u0, u1, e, hbg, h⟩ => ⟨g, u0, u1, e, hbg, blk_below h hb⟩, fun _ W g' t' cs u v hg ht ⟨g, u0, u1, e, hbg, h⟩ => ?_⟩
  by_cases hgg : g = g'
  · subst hgg
    have : t = t' := by rw [h] at hg; injection hg with hg; injection hg
    subst this
    exact ⟨g, u, v, e, hbg, setRow_heap W g cs _ t _ hg⟩
  · exact ⟨g, u0, u1, e, hbg, (setRow_other W g' g _ hgg).trans h⟩
/-- What stands in an act's places, by what has come up. -/
def Slots (ds : List (Option Nat)) (ps : List (Value → World → Prop)) (l : List Bool) (a : Act) (W : World) : Prop := ∀ i d p, ds[i]? = some (some d) → ps[i]? = some p → l.getD i false = true → p (a.eval (.tmp d)) W
/-- No place stands twice in it. -/
def apartB (ds : List (Option Nat)) : Bool := (List.range ds.length).all fun i => (List.range ds.length).all fun j => i == j || ((ds[i]?).getD none).isNone || (ds[i]?).getD none != (ds[j]?).getD none
theorem apartB_ne {ds : List (Option Nat)} (h : apartB ds = true) {i j d d' : Nat} (hi : ds[i]? = some (some d)) (hj : ds[j]? = some (some d')) (hne : i ≠ j) : d ≠ d' := by
  rintro rfl
  have h1 := List.all_eq_true.1 (List.all_eq_true.1 h i (List.mem_range.2 (List.getElem?_eq_some_iff.1 hi).1)) j (List.mem_range.2 (List.getElem?_eq_some_iff.1 hj).1)
  rw [hi, hj] at h1
  simp [hne] at h1
theorem getD_set_of {l : List Bool} {i j : Nat} (hne : i ≠ j) : (l.set i true).getD j false = l.getD j false := by
  rw [List.getD_eq_getElem?_getD, List.getD_eq_getElem?_getD, List.getElem?_set_ne hne]
/-- What stands whatever has come up, in a region that calls, makes two variables (a machine's, a result's) and writes them. -/
structure Rg (iM iR sM sR m r tm tr : Nat) (ds : List (Option Nat)) (dl : List Nat) (ps : List (Value → World → Prop)) (w : World) (a0 : Act) (r1 : List Int) (r2 : List S49) (rv : Array Value) (l : List Bool) (a : Act) (W : World) : Prop where
  sb : SameBut dl a0 a
  bl : Below w.heap.size w W
  sl : Slots ds ps l a W
  sm : l.getD sM false = true → l.getD iM false = true ∧ ∃ g v0 v1, a.eval (.tmp m) = .pointer (some ⟨g, 0, none⟩) ∧ w.heap.size ≤ g ∧ W.heap[g]? = some (.cells #[v0, v1] tm (0, 0)) ∧ TwoR w.heap.size W v0 v1 r1 r2
  sr : l.getD sR false = true → l.getD iR false = true ∧ ∃ g, a.eval (.tmp r) = .pointer (some ⟨g, 0, none⟩) ∧ w.heap.size ≤ g ∧ W.heap[g]? = some (.cells rv tr (0, 0))
section
variable {iM iR sM sR m r tm tr : Nat} {ds : List (Option Nat)} {dl : List Nat} {ps : List (Value → World → Prop)} {w : World} {a0 : Act} {r1 : List Int} {r2 : List S49} {rv : Array Value} {l : List Bool} {a : Act} {W W1 : World}
theorem Rg.put (h : Rg iM iR sM sR m r tm tr ds dl ps w a0 r1 r2 rv l a W) (hA : apartB ds = true) (hgood : ∀ p, p ∈ ps → Good tm tr p) (hiM : ds[iM]? = some (some m)) (hiR : ds[iR]? = some (some r)) (hsM : ds[sM]? = some none) (hsR : ds[sR]? = some none)
    {i d : Nat} {p : Value → World → Prop} {v : Value} (hun : l.getD i true = false) (hi : ds[i]? = some (some d)) (hdl : d ∈ dl) (hsz : d < a0.tmps.size) (hp : ps[i]? = some p) (hv : p v W1) (hb : Below W.heap.size W W1) :
    Rg iM iR sM sR m r tm tr ds dl ps w a0 r1 r2 rv (l.set i true) (a.put (some d) v) W1 := by
  have hun' : l.getD i false = false := by
    rw [List.getD_eq_getElem?_getD] at hun ⊢
    cases hq : l[i]? with
    | none => rfl
    | some b => rw [hq] at hun; exact hun
  refine ⟨h.sb.put hdl v, below_step h.bl hb, fun j d' p' hj hp' hl => ?_, fun hl => ?_, fun hl => ?_⟩
  · by_cases hij : i = j
    · subst hij
      rw [hi] at hj
      obtain rfl := Option.some.inj (Option.some.inj hj)
      rw [hp] at hp'
      obtain rfl := Option.some.inj hp'
      rw [ev_same v (by rw [h.sb.2.1]; exact hsz)]
      exact hv
    · rw [getD_set_of hij] at hl
      rw [ev_ne v (apartB_ne hA hi hj hij)]
      exact (hgood p' (List.mem_of_getElem? hp')).below _ _ _ hb (h.sl j d' p' hj hp' hl)
  · have h1 : i ≠ sM := by rintro rfl; rw [hi] at hsM; simp at hsM
    rw [getD_set_of h1] at hl
    obtain ⟨hq, g, v0, v1, e, hg, hc, h2⟩ := h.sm hl
    have h3 : i ≠ iM := by rintro rfl; rw [hun'] at hq; cases hq
    exact ⟨by rw [getD_set_of h3]; exact hq, g, v0, v1, by rw [ev_ne v (apartB_ne hA hi hiM h3)]; exact e, hg, blk_below hc hb, h2.below hb⟩
  · have h1 : i ≠ sR := by rintro rfl; rw [hi] at hsR; simp at hsR
    rw [getD_set_of h1] at hl
    obtain ⟨hq, g, e, hg, hc⟩ := h.sr hl
    have h3 : i ≠ iR := by rintro rfl; rw [hun'] at hq; cases hq
    exact ⟨by rw [getD_set_of h3]; exact hq, g, by rw [ev_ne v (apartB_ne hA hi hiR h3)]; exact e, hg, blk_below hc hb⟩
/-- The machine's variable is written. -/
theorem Rg.stM (h : Rg iM iR sM sR m r tm tr ds dl ps w a0 r1 r2 rv l a W) (hgood : ∀ p, p ∈ ps → Good tm tr p) (hsM : ds[sM]? = some none) (hne : sM ≠ sR) (hni : sM ≠ iM) (hnr : sM ≠ iR) (htt : tr ≠ tm) (hVm : VarT tm)
    {g : Nat} {cs : Array Value} {v0 v1 : Value} (hq : l.getD iM false = true) (e : a.eval (.tmp m) = .pointer (some ⟨g, 0, none⟩)) (hg : w.heap.size ≤ g) (hc : W.heap[g]? = some (.cells cs tm (0, 0))) (h2 : TwoR w.heap.size W v0 v1 r1 r2) :
    Rg iM iR sM sR m r tm tr ds dl ps w a0 r1 r2 rv (l.set sM true) a (W.setRow g #[v0, v1]) := by
  refine ⟨h.sb, below_row h.bl hg _, fun j d' p' hj hp' hl => ?_, fun hl => ?_, fun hl => ?_⟩
  · have hij : sM ≠ j := by rintro rfl; rw [hsM] at hj; simp at hj
    rw [getD_set_of hij] at hl
    exact (hgood p' (List.mem_of_getElem? hp')).row _ _ _ _ _ _ _ hc (.inl rfl) (h.sl j d' p' hj hp' hl)
  · exact ⟨by rw [getD_set_of hni]; exact hq, g, v0, v1, e, hg, setRow_heap W g cs _ tm _ hc, h2.row hc hVm _⟩
  · rw [getD_set_of hne] at hl
    obtain ⟨hq', g', e', hg', hc'⟩ := h.sr hl
    refine ⟨by rw [getD_set_of hnr]; exact hq', g', e', hg', (setRow_other W g g' _ ?_).trans hc'⟩
    rintro rfl
    rw [hc] at hc'
    injection hc' with hc'
    injection hc' with _ hc'
    exact htt hc'.symm
/-- The result's variable is written. -/
theorem Rg.stR {u0 u1 : Value} (h : Rg iM iR sM sR m r tm tr ds dl ps w a0 r1 r2 #[u0, u1] l a W) (hgood : ∀ p, p ∈ ps → Good tm tr p) (hsR : ds[sR]? = some none) (hne : sR ≠ sM) (hni : sR ≠ iM) (hnr : sR ≠ iR) (htt : tr ≠ tm) (hVr : VarT tr)
    {g : Nat} {cs : Array Value} (hq : l.getD iR false = true) (e : a.eval (.tmp r) = .pointer (some ⟨g, 0, none⟩)) (hg : w.heap.size ≤ g) (hc : W.heap[g]? = some (.cells cs tr (0, 0))) :
    Rg iM iR sM sR m r tm tr ds dl ps w a0 r1 r2 #[u0, u1] (l.set sR true) a (W.setRow g #[u0, u1]) := by
  refine ⟨h.sb, below_row h.bl hg _, fun j d' p' hj hp' hl => ?_, fun hl => ?_, fun hl => ?_⟩
  · have hij : sR ≠ j := by rintro rfl; rw [hsR] at hj; simp at hj
    rw [getD_set_of hij] at hl
    exact (hgood p' (List.mem_of_getElem? hp')).row _ _ _ _ _ _ _ hc (.inr rfl) (h.sl j d' p' hj hp' hl)
  · rw [getD_set_of hne] at hl
    obtain ⟨hq', g', v0, v1, e', hg', hc', h2⟩ := h.sm hl
    refine ⟨by rw [getD_set_of hni]; exact hq', g', v0, v1, e', hg', (setRow_other W g g' _ ?_).trans hc', h2.row hc hVr _⟩
    rintro rfl
    rw [hc] at hc'
    injection hc' with hc'
    injection hc' with _ hc'
    exact htt hc'
  · exact ⟨by rw [getD_set_of hnr]; exact hq, g, e, hg, setRow_heap W g cs _ tr _ hc⟩
end
theorem ready_lt {T : List (List Nat × List Nat)} {l : List Bool} {i : Nat} (h : readyAt T l i = true) : i < T.length := by
  unfold readyAt at h
  rw [Bool.and_eq_true] at h
  cases hq : T[i]? with
  | none => rw [hq] at h; simp at h
  | some r => exact (List.getElem?_eq_some_iff.1 hq).1
theorem ready_dep {T : List (List Nat × List Nat)} {l : List Bool} {i : Nat} (h : readyAt T l i = true) {j : Nat} (hj : ((T[i]?.map (·.1)).getD []).contains j = true) : l.getD j false = true := by
  unfold readyAt at h
  rw [Bool.and_eq_true] at h
  cases hq : T[i]? with
  | none => rw [hq] at h; simp at h
  | some r =>
    rw [hq] at h hj
    exact List.all_eq_true.1 h.2 j (by simpa using hj)
theorem wp_extr_ {P : Program} {o : Oper} {a : Act} {w : World} {K : Act → World → Prop} {Q : Exit → Act → World → Prop} (x : Operand) (n : Nat) (h : o.op = .extract x n) {vs : Array Value} (hx : a.eval x = .tuple vs) {v : Value} (hv : vs[n]? = some v) (hk : K (a.put o.dst v) w) : o.wp P a w K Q := by
  unfold Oper.wp execOp
  simp only [h, hx, Instr.extract, hv]
  exact hk
theorem wp_mv_ {P : Program} {o : Oper} {a : Act} {w : World} {K : Act → World → Prop} {Q : Exit → Act → World → Prop} (x : Operand) (h : o.op = .move x) (hk : K (a.put o.dst (a.eval x)) w) : o.wp P a w K Q := by
  unfold Oper.wp execOp
  rw [h]
  exact hk
theorem wp_as_ {P : Program} {o : Oper} {a : Act} {w : World} {K : Act → World → Prop} {Q : Exit → Act → World → Prop} (x : Operand) (h : o.op = .assign x) (hk : K (a.put o.dst (a.eval x)) w) : o.wp P a w K Q := by
  unfold Oper.wp execOp
  rw [h]
  exact hk
def ap_reg5.T : Bool × List (List Nat × List Nat) := (true, [([], []), ([0], [0]), ([], []), ([2, 1], [2]), ([1, 3, 3], [1, 3]), ([4], [4]), ([5], [5]), ([5], [5]), ([5], [5]), ([], []), ([], []), ([9, 6, 4, 0, 1, 2, 3, 4, 5, 6, 9, 10], [6, 9]), ([10, 7, 11, 0, 1, 2, 3, 4, 5, 6, 7, 9, 10, 11], [7, 10]), ([8, 12, 0, 1, 2, 3, 4, 5, 6, 7, 8, 9, 10, 11, 12], [8])])
theorem ap_reg5.tab : rtab .any (opsOf Try.f3 5) = ap_reg5.T := by kernel_rfl
set_option maxHeartbeats 4000000 in
set_option maxRecDepth 100000 in
theorem ap_reg5 {Q : Exit → Act → World → Prop} {a0 : Act} {w : World} (k : Nat) {gm go : Nat} {A0 A1 : Option Addr} {c0 c1 : Nat} {l0 : List Int} {l1 : List S107} {o0 o1 o2 o3 o4 o5 : Int} (hm : w.heap[gm]? = some (.cells #[.slice A0 l0.length c0, .slice A1 l1.length c1] 25 (0, 0))) (ho : w.heap[go]? = some (.cells #[.int .i64 o0, .int .i64 o1, .int .i64 o2, .int .i64 o3, .int .i64 o4, .int .i64 o5] 27 (0, 0))) (hr0 : Kd.C (Kd.int .i64) w A0 l0.length l0) (hc0 : l0.length ≤ c0) (hr1 : Kd.C k107 w A1 l1.length l1) (hc1 : l1.length ≤ c1) {x1 : List Int} {x2 : List S49} (hx : laws_toMachine.f k l0 l1 = some (x1, x2)) {r1 : List Int} {r2 : List S49} {r3 : Bool} {r4 : Int} {r5 : Bool} (hs : spec_ApplyOp.f k x1 x2 o0 o1 o2 o3 o4 o5 = some (r1, r2, r3, r4, r5)) (e2 : a0.eval (.tmp 2) = .pointer (some ⟨gm, 0, none⟩)) (e3 : a0.eval (.tmp 3) = .pointer (some ⟨go, 0, none⟩)) (hsz : a0.tmps.size = 128)
    (hQ : ∀ (u25 u26 u27 u28 u29 u24 u30 u31 u32 : Value) (gm' gr' : Nat) (v0 v1 : Value) (w' : World), Below w.heap.size w w' → w.heap.size ≤ gm' → w.heap.size ≤ gr' → w'.heap[gm']? = some (.cells #[v0, v1] 31 (0, 0)) → w'.heap[gr']? = some (.cells #[.bool r3, .int .i64 r4] 33 (0, 0)) → TwoR w.heap.size w' v0 v1 r1 r2 → Q .normal (putAll a0 [(25, u25), (26, u26), (27, u27), (28, u28), (29, u29), (24, u24), (30, u30), (31, u31), (32, u32), (6, .pointer (some ⟨gm', 0, none⟩)), (7, .pointer (some ⟨gr', 0, none⟩)), (8, .bool r5)]) w') :
    (Code.region 5 (opsOf Try.f3 5) true).wp Try.prog Q a0 w := by
  have hVm : VarT 31 := ⟨by decide, by decide⟩
  have hVr : VarT 33 := ⟨by decide, by decide⟩
  have hA : apartB [some 25, some 26, some 27, some 28, some 29, some 24, some 30, some 31, some 32, some 6, some 7, none, none, some 8] = true := by decide
  have hgood : ∀ p, p ∈ ([pIs (.agg #[.slice A0 l0.length c0, .slice A1 l1.length c1]), pTwo w.heap.size x1 x2, pIs (.agg #[.int .i64 o0, .int .i64 o1, .int .i64 o2, .int .i64 o3, .int .i64 o4, .int .i64 o5]), pIs (.agg #[.int .i64 o0, .int .i64 o1, .int .i64 o2, .int .i64 o3, .int .i64 o4, .int .i64 o5]), pTup w.heap.size r1 r2 (.agg #[.bool r3, .int .i64 r4]) (.bool r5), pTup w.heap.size r1 r2 (.agg #[.bool r3, .int .i64 r4]) (.bool r5), pTwo w.heap.size r1 r2, pIs (.agg #[.bool r3, .int .i64 r4]), pIs (.bool r5), pBox w.heap.size 31, pBox w.heap.size 33, fun _ _ => True, fun _ _ => True, pIs (.bool r5)] : List (Value → World → Prop)) → Good 31 33 p := by
    intro p hp
    simp only [List.mem_cons, List.mem_nil_iff, or_false] at hp
    rcases hp with rfl | rfl | rfl | rfl | rfl | rfl | rfl | rfl | rfl | rfl | rfl | rfl | rfl | rfl
    all_goals first | exact Good.pIs _ | exact Good.pTwo hVm hVr _ _ _ | exact Good.pTup hVm hVr _ _ _ _ _ | exact Good.pBox _ _ | exact ⟨fun _ _ _ _ h => h, fun _ _ _ _ _ _ _ _ _ h => h⟩
  refine region_inv (by kernel_rfl) ap_reg5.tab (by decide) (Rg 9 10 11 12 6 7 31 33 [some 25, some 26, some 27, some 28, some 29, some 24, some 30, some 31, some 32, some 6, some 7, none, none, some 8] [25, 26, 27, 28, 29, 24, 30, 31, 32, 6, 7, 8] [pIs (.agg #[.slice A0 l0.length c0, .slice A1 l1.length c1]), pTwo w.heap.size x1 x2, pIs (.agg #[.int .i64 o0, .int .i64 o1, .int .i64 o2, .int .i64 o3, .int .i64 o4, .int .i64 o5]), pIs (.agg #[.int .i64 o0, .int .i64 o1, .int .i64 o2, .int .i64 o3, .int .i64 o4, .int .i64 o5]), pTup w.heap.size r1 r2 (.agg #[.bool r3, .int .i64 r4]) (.bool r5), pTup w.heap.size r1 r2 (.agg #[.bool r3, .int .i64 r4]) (.bool r5), pTwo w.heap.size r1 r2, pIs (.agg #[.bool r3, .int .i64 r4]), pIs (.bool r5), pBox w.heap.size 31, pBox w.heap.size 33, fun _ _ => True, fun _ _ => True, pIs (.bool r5)] w a0 r1 r2 #[.bool r3, .int .i64 r4]) ⟨SameBut.refl _ _, below_drew1 (Below.refl _ _), fun i d p _ _ hl => ?_, fun hl => ?_, fun hl => ?_⟩ (fun l a W h i hr => ?_) (fun l a W h hl => ?_)
  · rw [List.getD_eq_getElem?_getD, List.getElem?_replicate] at hl; split at hl <;> simp at hl
  · rw [List.getD_eq_getElem?_getD, List.getElem?_replicate] at hl; split at hl <;> simp at hl
  · rw [List.getD_eq_getElem?_getD, List.getElem?_replicate] at hl; split at hl <;> simp at hl
  · have hun : l.getD i true = false := by
      unfold readyAt at hr
      rw [Bool.and_eq_true] at hr
      simpa using hr.1
    have hi : i < 14 := ready_lt hr
    rcases (by omega : i = 0 ∨ i = 1 ∨ i = 2 ∨ i = 3 ∨ i = 4 ∨ i = 5 ∨ i = 6 ∨ i = 7 ∨ i = 8 ∨ i = 9 ∨ i = 10 ∨ i = 11 ∨ i = 12 ∨ i = 13) with rfl | rfl | rfl | rfl | rfl | rfl | rfl | rfl | rfl | rfl | rfl | rfl | rfl | rfl
    · refine wpOp_un rfl rfl (wp_load_row 25 (.tmp 2) rfl gm ((ev_but h.sb (by decide)).trans e2) _ _ (0, 0) _ (blk_below hm h.bl) Try.underlying25 rfl (by rfl) ?_)
      exact h.put hA hgood rfl rfl rfl rfl hun rfl (by decide) (by omega) rfl rfl (Below.refl _ _)
    · have e := h.sl 0 _ _ rfl rfl (ready_dep hr (j := 0) rfl)
      have e : a.eval (.tmp 25) = _ := e
      refine wpOp_step rfl (fun K hK => goes_ Try.func10 (by kernel_rfl) rfl #[.agg #[.slice A0 l0.length c0, .slice A1 l1.length c1]] (by rfl) rfl rfl (by simp only [List.map_toArray, List.map_cons, List.map_nil, e]) ((laws_toMachine.calls k _ _ l0 _ _ l1 x1 x2 _ (Kd.C_below hr0 h.bl) hc0 (Kd.C_below hr1 h.bl) hc1 hx).mono ?_))
      rintro e' W1 ⟨v0, v1, rfl, ho0, ho1, hb⟩
      exact ⟨_, rfl, hK _ _ (h.put hA hgood rfl rfl rfl rfl hun rfl (by decide) (by omega) rfl ⟨v0, v1, rfl, Kd.R_lower ho0 h.bl.size, Kd.R_lower ho1 h.bl.size⟩ hb)⟩
    · refine wpOp_un rfl rfl (wp_load_row 27 (.tmp 3) rfl go ((ev_but h.sb (by decide)).trans e3) _ _ (0, 0) _ (blk_below ho h.bl) Try.underlying27 rfl (by rfl) ?_)
      exact h.put hA hgood rfl rfl rfl rfl hun rfl (by decide) (by omega) rfl rfl (Below.refl _ _)
    · have e := h.sl 2 _ _ rfl rfl (ready_dep hr (j := 2) rfl)
      have e : a.eval (.tmp 27) = _ := e
      refine wpOp_step rfl (fun K hK => goes_ Try.func11 (by kernel_rfl) rfl #[.agg #[.int .i64 o0, .int .i64 o1, .int .i64 o2, .int .i64 o3, .int .i64 o4, .int .i64 o5]] (by rfl) rfl rfl (by simp only [List.map_toArray, List.map_cons, List.map_nil, e]) ((laws_toOp.calls o0 o1 o2 o3 o4 o5 o0 o1 o2 o3 o4 o5 _ rfl).mono ?_))
      rintro e' W1 ⟨rfl, hb⟩
      exact ⟨_, rfl, hK _ _ (h.put hA hgood rfl rfl rfl rfl hun rfl (by decide) (by omega) rfl rfl hb)⟩
    · obtain ⟨y0, y1, ey, hy⟩ := h.sl 1 _ _ rfl rfl (ready_dep hr (j := 1) rfl)
      have ey : a.eval (.tmp 26) = _ := ey
      have e := h.sl 3 _ _ rfl rfl (ready_dep hr (j := 3) rfl)
      have e : a.eval (.tmp 28) = _ := e
      obtain ⟨B0, b0, rfl, hb0, hC0⟩ := Kd.R_reads hy.1
      obtain ⟨B1, b1, rfl, hb1, hC1⟩ := Kd.R_reads hy.2
      refine wpOp_step rfl (fun K hK => goes_ Try.func9 (by kernel_rfl) rfl #[.agg #[.slice B0 x1.length b0, .slice B1 x2.length b1], .agg #[.int .i64 o0, .int .i64 o1, .int .i64 o2, .int .i64 o3, .int .i64 o4, .int .i64 o5]] (by rfl) rfl rfl (by simp only [List.map_toArray, List.map_cons, List.map_nil, ey, e]) ((spec_ApplyOp.calls k _ _ x1 _ _ x2 o0 o1 o2 o3 o4 o5 r1 r2 r3 r4 r5 _ hC0 hb0 hC1 hb1 hs).mono ?_))
      rintro e' W1 ⟨v0, v1, rfl, ho0, ho1, hb⟩
      exact ⟨_, rfl, hK _ _ (h.put hA hgood rfl rfl rfl rfl hun rfl (by decide) (by omega) rfl ⟨v0, v1, rfl, Kd.R_lower ho0 h.bl.size, Kd.R_lower ho1 h.bl.size⟩ hb)⟩
    · obtain ⟨y0, y1, ey, hy⟩ := h.sl 4 _ _ rfl rfl (ready_dep hr (j := 4) rfl)
      have ey : a.eval (.tmp 29) = _ := ey
      refine wpOp_un rfl rfl (wp_mv_ (.tmp 29) rfl ?_)
      exact h.put hA hgood rfl rfl rfl rfl hun rfl (by decide) (by omega) rfl ⟨y0, y1, ey, hy⟩ (Below.refl _ _)
    · obtain ⟨y0, y1, ey, hy⟩ := h.sl 5 _ _ rfl rfl (ready_dep hr (j := 5) rfl)
      have ey : a.eval (.tmp 24) = _ := ey
      refine wpOp_un rfl rfl (wp_extr_ (.tmp 24) 0 rfl ey rfl ?_)
      exact h.put hA hgood rfl rfl rfl rfl hun rfl (by decide) (by omega) rfl ⟨y0, y1, rfl, hy⟩ (Below.refl _ _)
    · obtain ⟨y0, y1, ey, hy⟩ := h.sl 5 _ _ rfl rfl (ready_dep hr (j := 5) rfl)
      have ey : a.eval (.tmp 24) = _ := ey
      refine wpOp_un rfl rfl (wp_extr_ (.tmp 24) 1 rfl ey rfl ?_)
      exact h.put hA hgood rfl rfl rfl rfl hun rfl (by decide) (by omega) rfl rfl (Below.refl _ _)
    · obtain ⟨y0, y1, ey, hy⟩ := h.sl 5 _ _ rfl rfl (ready_dep hr (j := 5) rfl)
      have ey : a.eval (.tmp 24) = _ := ey
      refine wpOp_un rfl rfl (wp_extr_ (.tmp 24) 2 rfl ey rfl ?_)
      exact h.put hA hgood rfl rfl rfl rfl hun rfl (by decide) (by omega) rfl rfl (Below.refl _ _)
    · have hu := Try.underlying31
      refine wpOp_step rfl (fun K hK => box_step ?hg (N := 6) ?hd (cs := #[.slice none 0 0, .slice none 0 0]) (t := 31) ?hr ?_)
      case hd => rfl
      case hg => rfl
      case hr => first | (go_simp; done) | (go_simp; rfl)
      intro g hg W1 hbox hb
      exact hK _ _ (h.put hA hgood rfl rfl rfl rfl hun rfl (by decide) (by omega) rfl ⟨g, _, _, rfl, by rw [hg]; exact h.bl.size, hbox⟩ hb)
    · have hu := Try.underlying33
      refine wpOp_step rfl (fun K hK => box_step ?hg (N := 7) ?hd (cs := #[.bool false, .int .i64 0]) (t := 33) ?hr ?_)
      case hd => rfl
      case hg => rfl
      case hr => first | (go_simp; done) | (go_simp; rfl)
      intro g hg W1 hbox hb
      exact hK _ _ (h.put hA hgood rfl rfl rfl rfl hun rfl (by decide) (by omega) rfl ⟨g, _, _, rfl, by rw [hg]; exact h.bl.size, hbox⟩ hb)
    · obtain ⟨g, z0, z1, eg, hg, hc⟩ := h.sl 9 _ _ rfl rfl (ready_dep hr (j := 9) rfl)
      have eg : a.eval (.tmp 6) = _ := eg
      obtain ⟨y0, y1, ey, hy⟩ := h.sl 6 _ _ rfl rfl (ready_dep hr (j := 6) rfl)
      have ey : a.eval (.tmp 30) = _ := ey
      have hone : (#[y0, y1] : Array Value).all (·.oneCell') = true := by
        obtain ⟨B0, b0, rfl, _, _⟩ := Kd.R_reads hy.1
        obtain ⟨B1, b1, rfl, _, _⟩ := Kd.R_reads hy.2
        simp [Value.oneCell']
      refine wpOp_un rfl rfl (wp_store_row 31 (.tmp 6) (.tmp 30) rfl g _ eg ey _ _ hc (by rfl) rfl hone ?_)
      exact h.stM hgood rfl (by decide) (by decide) (by decide) (by decide) hVm (ready_dep hr (j := 9) rfl) eg hg hc hy
    · obtain ⟨g, z0, z1, eg, hg, hc⟩ := h.sl 10 _ _ rfl rfl (ready_dep hr (j := 10) rfl)
      have eg : a.eval (.tmp 7) = _ := eg
      have ey := h.sl 7 _ _ rfl rfl (ready_dep hr (j := 7) rfl)
      have ey : a.eval (.tmp 31) = _ := ey
      refine wpOp_un rfl rfl (wp_store_row 33 (.tmp 7) (.tmp 31) rfl g _ eg ey _ _ hc (by rfl) rfl (by simp [Value.oneCell']) ?_)
      exact h.stR hgood rfl (by decide) (by decide) (by decide) (by decide) hVr (ready_dep hr (j := 10) rfl) eg hg hc
    · have ey := h.sl 8 _ _ rfl rfl (ready_dep hr (j := 8) rfl)
      have ey : a.eval (.tmp 32) = _ := ey
      refine wpOp_un rfl rfl (wp_as_ (.tmp 32) rfl ?_)
      exact h.put hA hgood rfl rfl rfl rfl hun rfl (by decide) (by omega) rfl ey (Below.refl _ _)
  · obtain ⟨_, gm', v0, v1, em, hgm, hcm, h2⟩ := h.sm (hl 11 (by decide))
    obtain ⟨_, gr', er, hgr, hcr⟩ := h.sr (hl 12 (by decide))
    have ef := h.sl 13 _ _ rfl rfl (hl 13 (by decide))
    have ef : a.eval (.tmp 8) = _ := ef
    have hq := hQ (a.eval (.tmp 25)) (a.eval (.tmp 26)) (a.eval (.tmp 27)) (a.eval (.tmp 28)) (a.eval (.tmp 29)) (a.eval (.tmp 24)) (a.eval (.tmp 30)) (a.eval (.tmp 31)) (a.eval (.tmp 32)) gm' gr' v0 v1 W h.bl hgm hgr hcm hcr h2
    rw [← em, ← er, ← ef] at hq
    rw [h.sb.all]
    exact hq
def ap_reg7.T : Bool × List (List Nat × List Nat) := (true, [([], []), ([], []), ([1], [1]), ([0, 2, 2], [0, 2]), ([3], [3]), ([4], [4]), ([4], [4]), ([4], [4]), ([], []), ([], []), ([8, 5, 3, 0, 1, 2, 3, 4, 5, 8, 9], [5, 8]), ([9, 6, 10, 0, 1, 2, 3, 4, 5, 6, 8, 9, 10], [6, 9]), ([7, 11, 0, 1, 2, 3, 4, 5, 6, 7, 8, 9, 10, 11], [7])])
theorem ap_reg7.tab : rtab .any (opsOf Try.f3 7) = ap_reg7.T := by kernel_rfl
set_option maxHeartbeats 4000000 in
set_option maxRecDepth 100000 in
theorem ap_reg7 {Q : Exit → Act → World → Prop} {a0 : Act} {w : World} (k : Nat) {gm go : Nat} {A0 A1 : Option Addr} {c0 c1 : Nat} {l0 : List Int} {l1 : List S49} {o0 o1 o2 o3 o4 o5 : Int} (hm : w.heap[gm]? = some (.cells #[.slice A0 l0.length c0, .slice A1 l1.length c1] 31 (0, 0))) (ho : w.heap[go]? = some (.cells #[.int .i64 o0, .int .i64 o1, .int .i64 o2, .int .i64 o3, .int .i64 o4, .int .i64 o5] 27 (0, 0))) (hr0 : Kd.C (Kd.int .i64) w A0 l0.length l0) (hc0 : l0.length ≤ c0) (hr1 : Kd.C k49 w A1 l1.length l1) (hc1 : l1.length ≤ c1) {r1 : List Int} {r2 : List S49} {r3 : Bool} {r4 : Int} {r5 : Bool} (hs : impl_ApplyOp.f k l0 l1 o0 o1 o2 o3 o4 o5 = some (r1, r2, r3, r4, r5)) (e2 : a0.eval (.tmp 9) = .pointer (some ⟨gm, 0, none⟩)) (e3 : a0.eval (.tmp 3) = .pointer (some ⟨go, 0, none⟩)) (hsz : a0.tmps.size = 128)
    (hQ : ∀ (u36 u37 u38 u39 u35 u40 u41 u42 : Value) (gm' gr' : Nat) (v0 v1 : Value) (w' : World), Below w.heap.size w w' → w.heap.size ≤ gm' → w.heap.size ≤ gr' → w'.heap[gm']? = some (.cells #[v0, v1] 31 (0, 0)) → w'.heap[gr']? = some (.cells #[.bool r3, .int .i64 r4] 33 (0, 0)) → TwoR w.heap.size w' v0 v1 r1 r2 → Q .normal (putAll a0 [(36, u36), (37, u37), (38, u38), (39, u39), (35, u35), (40, u40), (41, u41), (42, u42), (10, .pointer (some ⟨gm', 0, none⟩)), (11, .pointer (some ⟨gr', 0, none⟩)), (12, .bool r5)]) w') :
    (Code.region 7 (opsOf Try.f3 7) true).wp Try.prog Q a0 w := by
  have hVm : VarT 31 := ⟨by decide, by decide⟩
  have hVr : VarT 33 := ⟨by decide, by decide⟩
  have hA : apartB [some 36, some 37, some 38, some 39, some 35, some 40, some 41, some 42, some 10, some 11, none, none, some 12] = true := by decide
  have hgood : ∀ p, p ∈ ([pIs (.agg #[.slice A0 l0.length c0, .slice A1 l1.length c1]), pIs (.agg #[.int .i64 o0, .int .i64 o1, .int .i64 o2, .int .i64 o3, .int .i64 o4, .int .i64 o5]), pIs (.agg #[.int .i64 o0, .int .i64 o1, .int .i64 o2, .int .i64 o3, .int .i64 o4, .int .i64 o5]), pTup w.heap.size r1 r2 (.agg #[.bool r3, .int .i64 r4]) (.bool r5), pTup w.heap.size r1 r2 (.agg #[.bool r3, .int .i64 r4]) (.bool r5), pTwo w.heap.size r1 r2, pIs (.agg #[.bool r3, .int .i64 r4]), pIs (.bool r5), pBox w.heap.size 31, pBox w.heap.size 33, fun _ _ => True, fun _ _ => True, pIs (.bool r5)] : List (Value → World → Prop)) → Good 31 33 p := by
    intro p hp
    simp only [List.mem_cons, List.mem_nil_iff, or_false] at hp
    rcases hp with rfl | rfl | rfl | rfl | rfl | rfl | rfl | rfl | rfl | rfl | rfl | rfl | rfl
    all_goals first | exact Good.pIs _ | exact Good.pTwo hVm hVr _ _ _ | exact Good.pTup hVm hVr _ _ _ _ _ | exact Good.pBox _ _ | exact ⟨fun _ _ _ _ h => h, fun _ _ _ _ _ _ _ _ _ h => h⟩
  refine region_inv (by kernel_rfl) ap_reg7.tab (by decide) (Rg 8 9 10 11 10 11 31 33 [some 36, some 37, some 38, some 39, some 35, some 40, some 41, some 42, some 10, some 11, none, none, some 12] [36, 37, 38, 39, 35, 40, 41, 42, 10, 11, 12] [pIs (.agg #[.slice A0 l0.length c0, .slice A1 l1.length c1]), pIs (.agg #[.int .i64 o0, .int .i64 o1, .int .i64 o2, .int .i64 o3, .int .i64 o4, .int .i64 o5]), pIs (.agg #[.int .i64 o0, .int .i64 o1, .int .i64 o2, .int .i64 o3, .int .i64 o4, .int .i64 o5]), pTup w.heap.size r1 r2 (.agg #[.bool r3, .int .i64 r4]) (.bool r5), pTup w.heap.size r1 r2 (.agg #[.bool r3, .int .i64 r4]) (.bool r5), pTwo w.heap.size r1 r2, pIs (.agg #[.bool r3, .int .i64 r4]), pIs (.bool r5), pBox w.heap.size 31, pBox w.heap.size 33, fun _ _ => True, fun _ _ => True, pIs (.bool r5)] w a0 r1 r2 #[.bool r3, .int .i64 r4]) ⟨SameBut.refl _ _, below_drew1 (Below.refl _ _), fun i d p _ _ hl => ?_, fun hl => ?_, fun hl => ?_⟩ (fun l a W h i hr => ?_) (fun l a W h hl => ?_)
  · rw [List.getD_eq_getElem?_getD, List.getElem?_replicate] at hl; split at hl <;> simp at hl
  · rw [List.getD_eq_getElem?_getD, List.getElem?_replicate] at hl; split at hl <;> simp at hl
  · rw [List.getD_eq_getElem?_getD, List.getElem?_replicate] at hl; split at hl <;> simp at hl
  · have hun : l.getD i true = false := by
      unfold readyAt at hr
      rw [Bool.and_eq_true] at hr
      simpa using hr.1
    have hi : i < 13 := ready_lt hr
    rcases (by omega : i = 0 ∨ i = 1 ∨ i = 2 ∨ i = 3 ∨ i = 4 ∨ i = 5 ∨ i = 6 ∨ i = 7 ∨ i = 8 ∨ i = 9 ∨ i = 10 ∨ i = 11 ∨ i = 12) with rfl | rfl | rfl | rfl | rfl | rfl | rfl | rfl | rfl | rfl | rfl | rfl | rfl
    · refine wpOp_un rfl rfl (wp_load_row 31 (.tmp 9) rfl gm ((ev_but h.sb (by decide)).trans e2) _ _ (0, 0) _ (blk_below hm h.bl) Try.underlying31 rfl (by rfl) ?_)
      exact h.put hA hgood rfl rfl rfl rfl hun rfl (by decide) (by omega) rfl rfl (Below.refl _ _)
    · refine wpOp_un rfl rfl (wp_load_row 27 (.tmp 3) rfl go ((ev_but h.sb (by decide)).trans e3) _ _ (0, 0) _ (blk_below ho h.bl) Try.underlying27 rfl (by rfl) ?_)
      exact h.put hA hgood rfl rfl rfl rfl hun rfl (by decide) (by omega) rfl rfl (Below.refl _ _)
    · have e := h.sl 1 _ _ rfl rfl (ready_dep hr (j := 1) rfl)
      have e : a.eval (.tmp 37) = _ := e
      refine wpOp_step rfl (fun K hK => goes_ Try.func11 (by kernel_rfl) rfl #[.agg #[.int .i64 o0, .int .i64 o1, .int .i64 o2, .int .i64 o3, .int .i64 o4, .int .i64 o5]] (by rfl) rfl rfl (by simp only [List.map_toArray, List.map_cons, List.map_nil, e]) ((laws_toOp.calls o0 o1 o2 o3 o4 o5 o0 o1 o2 o3 o4 o5 _ rfl).mono ?_))
      rintro e' W1 ⟨rfl, hb⟩
      exact ⟨_, rfl, hK _ _ (h.put hA hgood rfl rfl rfl rfl hun rfl (by decide) (by omega) rfl rfl hb)⟩
    · have ey := h.sl 0 _ _ rfl rfl (ready_dep hr (j := 0) rfl)
      have ey : a.eval (.tmp 36) = _ := ey
      have e := h.sl 2 _ _ rfl rfl (ready_dep hr (j := 2) rfl)
      have e : a.eval (.tmp 38) = _ := e
      refine wpOp_step rfl (fun K hK => goes_ Try.func12 (by kernel_rfl) rfl #[.agg #[.slice A0 l0.length c0, .slice A1 l1.length c1], .agg #[.int .i64 o0, .int .i64 o1, .int .i64 o2, .int .i64 o3, .int .i64 o4, .int .i64 o5]] (by rfl) rfl rfl (by simp only [List.map_toArray, List.map_cons, List.map_nil, ey, e]) ((impl_ApplyOp.calls k _ _ l0 _ _ l1 o0 o1 o2 o3 o4 o5 r1 r2 r3 r4 r5 _ (Kd.C_below hr0 h.bl) hc0 (Kd.C_below hr1 h.bl) hc1 hs).mono ?_))
      rintro e' W1 ⟨v0, v1, rfl, ho0, ho1, hb⟩
      exact ⟨_, rfl, hK _ _ (h.put hA hgood rfl rfl rfl rfl hun rfl (by decide) (by omega) rfl ⟨v0, v1, rfl, Kd.R_lower ho0 h.bl.size, Kd.R_lower ho1 h.bl.size⟩ hb)⟩
    · obtain ⟨y0, y1, ey, hy⟩ := h.sl 3 _ _ rfl rfl (ready_dep hr (j := 3) rfl)
      have ey : a.eval (.tmp 39) = _ := ey
      refine wpOp_un rfl rfl (wp_mv_ (.tmp 39) rfl ?_)
      exact h.put hA hgood rfl rfl rfl rfl hun rfl (by decide) (by omega) rfl ⟨y0, y1, ey, hy⟩ (Below.refl _ _)
    · obtain ⟨y0, y1, ey, hy⟩ := h.sl 4 _ _ rfl rfl (ready_dep hr (j := 4) rfl)
      have ey : a.eval (.tmp 35) = _ := ey
      refine wpOp_un rfl rfl (wp_extr_ (.tmp 35) 0 rfl ey rfl ?_)
      exact h.put hA hgood rfl rfl rfl rfl hun rfl (by decide) (by omega) rfl ⟨y0, y1, rfl, hy⟩ (Below.refl _ _)
    · obtain ⟨y0, y1, ey, hy⟩ := h.sl 4 _ _ rfl rfl (ready_dep hr (j := 4) rfl)
      have ey : a.eval (.tmp 35) = _ := ey
      refine wpOp_un rfl rfl (wp_extr_ (.tmp 35) 1 rfl ey rfl ?_)
      exact h.put hA hgood rfl rfl rfl rfl hun rfl (by decide) (by omega) rfl rfl (Below.refl _ _)
    · obtain ⟨y0, y1, ey, hy⟩ := h.sl 4 _ _ rfl rfl (ready_dep hr (j := 4) rfl)
      have ey : a.eval (.tmp 35) = _ := ey
      refine wpOp_un rfl rfl (wp_extr_ (.tmp 35) 2 rfl ey rfl ?_)
      exact h.put hA hgood rfl rfl rfl rfl hun rfl (by decide) (by omega) rfl rfl (Below.refl _ _)
    · have hu := Try.underlying31
      refine wpOp_step rfl (fun K hK => box_step ?hg (N := 10) ?hd (cs := #[.slice none 0 0, .slice none 0 0]) (t := 31) ?hr ?_)
      case hd => rfl
      case hg => rfl
      case hr => first | (go_simp; done) | (go_simp; rfl)
      intro g hg W1 hbox hb
      exact hK _ _ (h.put hA hgood rfl rfl rfl rfl hun rfl (by decide) (by omega) rfl ⟨g, _, _, rfl, by rw [hg]; exact h.bl.size, hbox⟩ hb)
    · have hu := Try.underlying33
      refine wpOp_step rfl (fun K hK => box_step ?hg (N := 11) ?hd (cs := #[.bool false, .int .i64 0]) (t := 33) ?hr ?_)
      case hd => rfl
      case hg => rfl
      case hr => first | (go_simp; done) | (go_simp; rfl)
      intro g hg W1 hbox hb
      exact hK _ _ (h.put hA hgood rfl rfl rfl rfl hun rfl (by decide) (by omega) rfl ⟨g, _, _, rfl, by rw [hg]; exact h.bl.size, hbox⟩ hb)
    · obtain ⟨g, z0, z1, eg, hg, hc⟩ := h.sl 8 _ _ rfl rfl (ready_dep hr (j := 8) rfl)
      have eg : a.eval (.tmp 10) = _ := eg
      obtain ⟨y0, y1, ey, hy⟩ := h.sl 5 _ _ rfl rfl (ready_dep hr (j := 5) rfl)
      have ey : a.eval (.tmp 40) = _ := ey
      have hone : (#[y0, y1] : Array Value).all (·.oneCell') = true := by
        obtain ⟨B0, b0, rfl, _, _⟩ := Kd.R_reads hy.1
        obtain ⟨B1, b1, rfl, _, _⟩ := Kd.R_reads hy.2
        simp [Value.oneCell']
      refine wpOp_un rfl rfl (wp_store_row 31 (.tmp 10) (.tmp 40) rfl g _ eg ey _ _ hc (by rfl) rfl hone ?_)
      exact h.stM hgood rfl (by decide) (by decide) (by decide) (by decide) hVm (ready_dep hr (j := 8) rfl) eg hg hc hy
    · obtain ⟨g, z0, z1, eg, hg, hc⟩ := h.sl 9 _ _ rfl rfl (ready_dep hr (j := 9) rfl)
      have eg : a.eval (.tmp 11) = _ := eg
      have ey := h.sl 6 _ _ rfl rfl (ready_dep hr (j := 6) rfl)
      have ey : a.eval (.tmp 41) = _ := ey
      refine wpOp_un rfl rfl (wp_store_row 33 (.tmp 11) (.tmp 41) rfl g _ eg ey _ _ hc (by rfl) rfl (by simp [Value.oneCell']) ?_)
      exact h.stR hgood rfl (by decide) (by decide) (by decide) (by decide) hVr (ready_dep hr (j := 9) rfl) eg hg hc
    · have ey := h.sl 7 _ _ rfl rfl (ready_dep hr (j := 7) rfl)
      have ey : a.eval (.tmp 42) = _ := ey
      refine wpOp_un rfl rfl (wp_as_ (.tmp 42) rfl ?_)
      exact h.put hA hgood rfl rfl rfl rfl hun rfl (by decide) (by omega) rfl ey (Below.refl _ _)
  · obtain ⟨_, gm', v0, v1, em, hgm, hcm, h2⟩ := h.sm (hl 10 (by decide))
    obtain ⟨_, gr', er, hgr, hcr⟩ := h.sr (hl 11 (by decide))
    have ef := h.sl 12 _ _ rfl rfl (hl 12 (by decide))
    have ef : a.eval (.tmp 12) = _ := ef
    have hq := hQ (a.eval (.tmp 36)) (a.eval (.tmp 37)) (a.eval (.tmp 38)) (a.eval (.tmp 39)) (a.eval (.tmp 35)) (a.eval (.tmp 40)) (a.eval (.tmp 41)) (a.eval (.tmp 42)) gm' gr' v0 v1 W h.bl hgm hgr hcm hcr h2
    rw [← em, ← er, ← ef] at hq
    rw [h.sb.all]
    exact hq
def ap_reg24.T : Bool × List (List Nat × List Nat) := (true, [([], []), ([0], [0]), ([], []), ([2, 1], [2]), ([1, 3, 3], [1, 3]), ([4], [4]), ([5], [5]), ([5], [5]), ([5], [5]), ([], []), ([], []), ([9, 6, 4, 0, 1, 2, 3, 4, 5, 6, 9, 10], [6, 9]), ([10, 7, 11, 0, 1, 2, 3, 4, 5, 6, 7, 9, 10, 11], [7, 10]), ([8, 12, 0, 1, 2, 3, 4, 5, 6, 7, 8, 9, 10, 11, 12], [8])])
theorem ap_reg24.tab : rtab .any (opsOf Try.f3 24) = ap_reg24.T := by kernel_rfl
set_option maxHeartbeats 4000000 in
set_option maxRecDepth 100000 in
theorem ap_reg24 {Q : Exit → Act → World → Prop} {a0 : Act} {w : World} (k : Nat) {gm go : Nat} {A0 A1 : Option Addr} {c0 c1 : Nat} {l0 : List Int} {l1 : List S107} {o0 o1 o2 o3 o4 o5 : Int} (hm : w.heap[gm]? = some (.cells #[.slice A0 l0.length c0, .slice A1 l1.length c1] 25 (0, 0))) (ho : w.heap[go]? = some (.cells #[.int .i64 o0, .int .i64 o1, .int .i64 o2, .int .i64 o3, .int .i64 o4, .int .i64 o5] 27 (0, 0))) (hr0 : Kd.C (Kd.int .i64) w A0 l0.length l0) (hc0 : l0.length ≤ c0) (hr1 : Kd.C k107 w A1 l1.length l1) (hc1 : l1.length ≤ c1) {x1 : List Int} {x2 : List S49} (hx : laws_toMachine.f k l0 l1 = some (x1, x2)) {r1 : List Int} {r2 : List S49} {r3 : Bool} {r4 : Int} {r5 : Bool} (hs : impl_ApplyOp.f k x1 x2 o0 o1 o2 o3 o4 o5 = some (r1, r2, r3, r4, r5)) (e2 : a0.eval (.tmp 2) = .pointer (some ⟨gm, 0, none⟩)) (e3 : a0.eval (.tmp 3) = .pointer (some ⟨go, 0, none⟩)) (hsz : a0.tmps.size = 128)
    (hQ : ∀ (u97 u98 u99 u100 u101 u96 u102 u103 u104 : Value) (gm' gr' : Nat) (v0 v1 : Value) (w' : World), Below w.heap.size w w' → w.heap.size ≤ gm' → w.heap.size ≤ gr' → w'.heap[gm']? = some (.cells #[v0, v1] 31 (0, 0)) → w'.heap[gr']? = some (.cells #[.bool r3, .int .i64 r4] 33 (0, 0)) → TwoR w.heap.size w' v0 v1 r1 r2 → Q .normal (putAll a0 [(97, u97), (98, u98), (99, u99), (100, u100), (101, u101), (96, u96), (102, u102), (103, u103), (104, u104), (16, .pointer (some ⟨gm', 0, none⟩)), (17, .pointer (some ⟨gr', 0, none⟩)), (18, .bool r5)]) w') :
    (Code.region 24 (opsOf Try.f3 24) true).wp Try.prog Q a0 w := by
  have hVm : VarT 31 := ⟨by decide, by decide⟩
  have hVr : VarT 33 := ⟨by decide, by decide⟩
  have hA : apartB [some 97, some 98, some 99, some 100, some 101, some 96, some 102, some 103, some 104, some 16, some 17, none, none, some 18] = true := by decide
  have hgood : ∀ p, p ∈ ([pIs (.agg #[.slice A0 l0.length c0, .slice A1 l1.length c1]), pTwo w.heap.size x1 x2, pIs (.agg #[.int .i64 o0, .int .i64 o1, .int .i64 o2, .int .i64 o3, .int .i64 o4, .int .i64 o5]), pIs (.agg #[.int .i64 o0, .int .i64 o1, .int .i64 o2, .int .i64 o3, .int .i64 o4, .int .i64 o5]), pTup w.heap.size r1 r2 (.agg #[.bool r3, .int .i64 r4]) (.bool r5), pTup w.heap.size r1 r2 (.agg #[.bool r3, .int .i64 r4]) (.bool r5), pTwo w.heap.size r1 r2, pIs (.agg #[.bool r3, .int .i64 r4]), pIs (.bool r5), pBox w.heap.size 31, pBox w.heap.size 33, fun _ _ => True, fun _ _ => True, pIs (.bool r5)] : List (Value → World → Prop)) → Good 31 33 p := by
    intro p hp
    simp only [List.mem_cons, List.mem_nil_iff, or_false] at hp
    rcases hp with rfl | rfl | rfl | rfl | rfl | rfl | rfl | rfl | rfl | rfl | rfl | rfl | rfl | rfl
    all_goals first | exact Good.pIs _ | exact Good.pTwo hVm hVr _ _ _ | exact Good.pTup hVm hVr _ _ _ _ _ | exact Good.pBox _ _ | exact ⟨fun _ _ _ _ h => h, fun _ _ _ _ _ _ _ _ _ h => h⟩
  refine region_inv (by kernel_rfl) ap_reg24.tab (by decide) (Rg 9 10 11 12 16 17 31 33 [some 97, some 98, some 99, some 100, some 101, some 96, some 102, some 103, some 104, some 16, some 17, none, none, some 18] [97, 98, 99, 100, 101, 96, 102, 103, 104, 16, 17, 18] [pIs (.agg #[.slice A0 l0.length c0, .slice A1 l1.length c1]), pTwo w.heap.size x1 x2, pIs (.agg #[.int .i64 o0, .int .i64 o1, .int .i64 o2, .int .i64 o3, .int .i64 o4, .int .i64 o5]), pIs (.agg #[.int .i64 o0, .int .i64 o1, .int .i64 o2, .int .i64 o3, .int .i64 o4, .int .i64 o5]), pTup w.heap.size r1 r2 (.agg #[.bool r3, .int .i64 r4]) (.bool r5), pTup w.heap.size r1 r2 (.agg #[.bool r3, .int .i64 r4]) (.bool r5), pTwo w.heap.size r1 r2, pIs (.agg #[.bool r3, .int .i64 r4]), pIs (.bool r5), pBox w.heap.size 31, pBox w.heap.size 33, fun _ _ => True, fun _ _ => True, pIs (.bool r5)] w a0 r1 r2 #[.bool r3, .int .i64 r4]) ⟨SameBut.refl _ _, below_drew1 (Below.refl _ _), fun i d p _ _ hl => ?_, fun hl => ?_, fun hl => ?_⟩ (fun l a W h i hr => ?_) (fun l a W h hl => ?_)
  · rw [List.getD_eq_getElem?_getD, List.getElem?_replicate] at hl; split at hl <;> simp at hl
  · rw [List.getD_eq_getElem?_getD, List.getElem?_replicate] at hl; split at hl <;> simp at hl
  · rw [List.getD_eq_getElem?_getD, List.getElem?_replicate] at hl; split at hl <;> simp at hl
  · have hun : l.getD i true = false := by
      unfold readyAt at hr
      rw [Bool.and_eq_true] at hr
      simpa using hr.1
    have hi : i < 14 := ready_lt hr
    rcases (by omega : i = 0 ∨ i = 1 ∨ i = 2 ∨ i = 3 ∨ i = 4 ∨ i = 5 ∨ i = 6 ∨ i = 7 ∨ i = 8 ∨ i = 9 ∨ i = 10 ∨ i = 11 ∨ i = 12 ∨ i = 13) with rfl | rfl | rfl | rfl | rfl | rfl | rfl | rfl | rfl | rfl | rfl | rfl | rfl | rfl
    · refine wpOp_un rfl rfl (wp_load_row 25 (.tmp 2) rfl gm ((ev_but h.sb (by decide)).trans e2) _ _ (0, 0) _ (blk_below hm h.bl) Try.underlying25 rfl (by rfl) ?_)
      exact h.put hA hgood rfl rfl rfl rfl hun rfl (by decide) (by omega) rfl rfl (Below.refl _ _)
    · have e := h.sl 0 _ _ rfl rfl (ready_dep hr (j := 0) rfl)
      have e : a.eval (.tmp 97) = _ := e
      refine wpOp_step rfl (fun K hK => goes_ Try.func10 (by kernel_rfl) rfl #[.agg #[.slice A0 l0.length c0, .slice A1 l1.length c1]] (by rfl) rfl rfl (by simp only [List.map_toArray, List.map_cons, List.map_nil, e]) ((laws_toMachine.calls k _ _ l0 _ _ l1 x1 x2 _ (Kd.C_below hr0 h.bl) hc0 (Kd.C_below hr1 h.bl) hc1 hx).mono ?_))
      rintro e' W1 ⟨v0, v1, rfl, ho0, ho1, hb⟩
      exact ⟨_, rfl, hK _ _ (h.put hA hgood rfl rfl rfl rfl hun rfl (by decide) (by omega) rfl ⟨v0, v1, rfl, Kd.R_lower ho0 h.bl.size, Kd.R_lower ho1 h.bl.size⟩ hb)⟩
    · refine wpOp_un rfl rfl (wp_load_row 27 (.tmp 3) rfl go ((ev_but h.sb (by decide)).trans e3) _ _ (0, 0) _ (blk_below ho h.bl) Try.underlying27 rfl (by rfl) ?_)
      exact h.put hA hgood rfl rfl rfl rfl hun rfl (by decide) (by omega) rfl rfl (Below.refl _ _)
    · have e := h.sl 2 _ _ rfl rfl (ready_dep hr (j := 2) rfl)
      have e : a.eval (.tmp 99) = _ := e
      refine wpOp_step rfl (fun K hK => goes_ Try.func11 (by kernel_rfl) rfl #[.agg #[.int .i64 o0, .int .i64 o1, .int .i64 o2, .int .i64 o3, .int .i64 o4, .int .i64 o5]] (by rfl) rfl rfl (by simp only [List.map_toArray, List.map_cons, List.map_nil, e]) ((laws_toOp.calls o0 o1 o2 o3 o4 o5 o0 o1 o2 o3 o4 o5 _ rfl).mono ?_))
      rintro e' W1 ⟨rfl, hb⟩
      exact ⟨_, rfl, hK _ _ (h.put hA hgood rfl rfl rfl rfl hun rfl (by decide) (by omega) rfl rfl hb)⟩
    · obtain ⟨y0, y1, ey, hy⟩ := h.sl 1 _ _ rfl rfl (ready_dep hr (j := 1) rfl)
      have ey : a.eval (.tmp 98) = _ := ey
      have e := h.sl 3 _ _ rfl rfl (ready_dep hr (j := 3) rfl)
      have e : a.eval (.tmp 100) = _ := e
      obtain ⟨B0, b0, rfl, hb0, hC0⟩ := Kd.R_reads hy.1
      obtain ⟨B1, b1, rfl, hb1, hC1⟩ := Kd.R_reads hy.2
      refine wpOp_step rfl (fun K hK => goes_ Try.func12 (by kernel_rfl) rfl #[.agg #[.slice B0 x1.length b0, .slice B1 x2.length b1], .agg #[.int .i64 o0, .int .i64 o1, .int .i64 o2, .int .i64 o3, .int .i64 o4, .int .i64 o5]] (by rfl) rfl rfl (by simp only [List.map_toArray, List.map_cons, List.map_nil, ey, e]) ((impl_ApplyOp.calls k _ _ x1 _ _ x2 o0 o1 o2 o3 o4 o5 r1 r2 r3 r4 r5 _ hC0 hb0 hC1 hb1 hs).mono ?_))
      rintro e' W1 ⟨v0, v1, rfl, ho0, ho1, hb⟩
      exact ⟨_, rfl, hK _ _ (h.put hA hgood rfl rfl rfl rfl hun rfl (by decide) (by omega) rfl ⟨v0, v1, rfl, Kd.R_lower ho0 h.bl.size, Kd.R_lower ho1 h.bl.size⟩ hb)⟩
    · obtain ⟨y0, y1, ey, hy⟩ := h.sl 4 _ _ rfl rfl (ready_dep hr (j := 4) rfl)
      have ey : a.eval (.tmp 101) = _ := ey
      refine wpOp_un rfl rfl (wp_mv_ (.tmp 101) rfl ?_)
      exact h.put hA hgood rfl rfl rfl rfl hun rfl (by decide) (by omega) rfl ⟨y0, y1, ey, hy⟩ (Below.refl _ _)
    · obtain ⟨y0, y1, ey, hy⟩ := h.sl 5 _ _ rfl rfl (ready_dep hr (j := 5) rfl)
      have ey : a.eval (.tmp 96) = _ := ey
      refine wpOp_un rfl rfl (wp_extr_ (.tmp 96) 0 rfl ey rfl ?_)
      exact h.put hA hgood rfl rfl rfl rfl hun rfl (by decide) (by omega) rfl ⟨y0, y1, rfl, hy⟩ (Below.refl _ _)
    · obtain ⟨y0, y1, ey, hy⟩ := h.sl 5 _ _ rfl rfl (ready_dep hr (j := 5) rfl)
      have ey : a.eval (.tmp 96) = _ := ey
      refine wpOp_un rfl rfl (wp_extr_ (.tmp 96) 1 rfl ey rfl ?_)
      exact h.put hA hgood rfl rfl rfl rfl hun rfl (by decide) (by omega) rfl rfl (Below.refl _ _)
    · obtain ⟨y0, y1, ey, hy⟩ := h.sl 5 _ _ rfl rfl (ready_dep hr (j := 5) rfl)
      have ey : a.eval (.tmp 96) = _ := ey
      refine wpOp_un rfl rfl (wp_extr_ (.tmp 96) 2 rfl ey rfl ?_)
      exact h.put hA hgood rfl rfl rfl rfl hun rfl (by decide) (by omega) rfl rfl (Below.refl _ _)
    · have hu := Try.underlying31
      refine wpOp_step rfl (fun K hK => box_step ?hg (N := 16) ?hd (cs := #[.slice none 0 0, .slice none 0 0]) (t := 31) ?hr ?_)
      case hd => rfl
      case hg => rfl
      case hr => first | (go_simp; done) | (go_simp; rfl)
      intro g hg W1 hbox hb
      exact hK _ _ (h.put hA hgood rfl rfl rfl rfl hun rfl (by decide) (by omega) rfl ⟨g, _, _, rfl, by rw [hg]; exact h.bl.size, hbox⟩ hb)
    · have hu := Try.underlying33
      refine wpOp_step rfl (fun K hK => box_step ?hg (N := 17) ?hd (cs := #[.bool false, .int .i64 0]) (t := 33) ?hr ?_)
      case hd => rfl
      case hg => rfl
      case hr => first | (go_simp; done) | (go_simp; rfl)
      intro g hg W1 hbox hb
      exact hK _ _ (h.put hA hgood rfl rfl rfl rfl hun rfl (by decide) (by omega) rfl ⟨g, _, _, rfl, by rw [hg]; exact h.bl.size, hbox⟩ hb)
    · obtain ⟨g, z0, z1, eg, hg, hc⟩ := h.sl 9 _ _ rfl rfl (ready_dep hr (j := 9) rfl)
      have eg : a.eval (.tmp 16) = _ := eg
      obtain ⟨y0, y1, ey, hy⟩ := h.sl 6 _ _ rfl rfl (ready_dep hr (j := 6) rfl)
      have ey : a.eval (.tmp 102) = _ := ey
      have hone : (#[y0, y1] : Array Value).all (·.oneCell') = true := by
        obtain ⟨B0, b0, rfl, _, _⟩ := Kd.R_reads hy.1
        obtain ⟨B1, b1, rfl, _, _⟩ := Kd.R_reads hy.2
        simp [Value.oneCell']
      refine wpOp_un rfl rfl (wp_store_row 31 (.tmp 16) (.tmp 102) rfl g _ eg ey _ _ hc (by rfl) rfl hone ?_)
      exact h.stM hgood rfl (by decide) (by decide) (by decide) (by decide) hVm (ready_dep hr (j := 9) rfl) eg hg hc hy
    · obtain ⟨g, z0, z1, eg, hg, hc⟩ := h.sl 10 _ _ rfl rfl (ready_dep hr (j := 10) rfl)
      have eg : a.eval (.tmp 17) = _ := eg
      have ey := h.sl 7 _ _ rfl rfl (ready_dep hr (j := 7) rfl)
      have ey : a.eval (.tmp 103) = _ := ey
      refine wpOp_un rfl rfl (wp_store_row 33 (.tmp 17) (.tmp 103) rfl g _ eg ey _ _ hc (by rfl) rfl (by simp [Value.oneCell']) ?_)
      exact h.stR hgood rfl (by decide) (by decide) (by decide) (by decide) hVr (ready_dep hr (j := 10) rfl) eg hg hc
    · have ey := h.sl 8 _ _ rfl rfl (ready_dep hr (j := 8) rfl)
      have ey : a.eval (.tmp 104) = _ := ey
      refine wpOp_un rfl rfl (wp_as_ (.tmp 104) rfl ?_)
      exact h.put hA hgood rfl rfl rfl rfl hun rfl (by decide) (by omega) rfl ey (Below.refl _ _)
  · obtain ⟨_, gm', v0, v1, em, hgm, hcm, h2⟩ := h.sm (hl 11 (by decide))
    obtain ⟨_, gr', er, hgr, hcr⟩ := h.sr (hl 12 (by decide))
    have ef := h.sl 13 _ _ rfl rfl (hl 13 (by decide))
    have ef : a.eval (.tmp 18) = _ := ef
    have hq := hQ (a.eval (.tmp 97)) (a.eval (.tmp 98)) (a.eval (.tmp 99)) (a.eval (.tmp 100)) (a.eval (.tmp 101)) (a.eval (.tmp 96)) (a.eval (.tmp 102)) (a.eval (.tmp 103)) (a.eval (.tmp 104)) gm' gr' v0 v1 W h.bl hgm hgr hcm hcr h2
    rw [← em, ← er, ← ef] at hq
    rw [h.sb.all]
    exact hq
/-- TwoR rows of machines' kind, in blocks that ok admits. -/
def RowP (b : Nat) (ok : Nat → Prop) (W : World) (v0 v1 : Value) (y1 : List Int) (y2 : List S49) : Prop := Kd.R (Kd.int .i64) 3 W b ok v0 y1 ∧ Kd.R k49 49 W b ok v1 y2
abbrev Rw_ := (Nat → Prop) × Value × Value × List Int × List S49
/-- Blocks from lo on, below hi. -/
def Iv (lo hi : Nat) : Nat → Prop := fun k => lo ≤ k ∧ k < hi
theorem TwoR.iv {b b0 : Nat} {W : World} {v0 v1 : Value} {y1 : List Int} {y2 : List S49} (h : TwoR b W v0 v1 y1 y2) (hb : b0 ≤ b) : RowP b0 (Iv b W.heap.size) W v0 v1 y1 y2 :=
  ⟨Kd.R_lower (Kd.R_mono (Kd.R_bound h.1) (fun _ hk => ⟨hk.2.1, hk.2.2.1⟩)) hb, Kd.R_lower (Kd.R_mono (Kd.R_bound h.2) (fun _ hk => ⟨hk.2.1, hk.2.2.1⟩)) hb⟩
theorem RowP.mono {b : Nat} {ok ok' : Nat → Prop} {W : World} {v0 v1 : Value} {y1 : List Int} {y2 : List S49} (h : RowP b ok W v0 v1 y1 y2) (hm : ∀ k, ok k → ok' k) : RowP b ok' W v0 v1 y1 y2 := ⟨Kd.R_mono h.1 hm, Kd.R_mono h.2 hm⟩
/-- What stands between the statements of the law: its variables, the rows that they lead to. -/
structure St (w W : World) (bs : List Bx_) (rs : List Rw_) : Prop where
  below : Below w.heap.size w W
  box : ∀ p ∈ bs, W.heap[p.1]? = some (.cells p.2.1 p.2.2 (0, 0))
  row : ∀ q ∈ rs, RowP w.heap.size q.1 W q.2.1 q.2.2.1 q.2.2.2.1 q.2.2.2.2
section
variable {w W W1 : World} {bs bs' : List Bx_} {rs rs' : List Rw_}
theorem St.step (h : St w W bs rs) (hb : Below W.heap.size W W1) : St w W1 bs rs :=
  ⟨below_step h.below hb, fun p hp => blk_below (h.box p hp) hb, fun q hq => ⟨Kd.R_below (h.row q hq).1 hb, Kd.R_below (h.row q hq).2 hb⟩⟩
theorem St.addB (h : St w W bs rs) {g : Nat} {cs : Array Value} {t : Nat} (hc : W.heap[g]? = some (.cells cs t (0, 0))) : St w W ((g, cs, t) :: bs) rs :=
  ⟨h.below, fun p hp => by rcases List.mem_cons.1 hp with rfl | hp; exact hc; exact h.box p hp, h.row⟩
theorem St.addR (h : St w W bs rs) {ok : Nat → Prop} {v0 v1 : Value} {y1 : List Int} {y2 : List S49} (hc : RowP w.heap.size ok W v0 v1 y1 y2) : St w W bs ((ok, v0, v1, y1, y2) :: rs) :=
  ⟨h.below, h.box, fun q hq => by rcases List.mem_cons.1 hq with rfl | hq; exact hc; exact h.row q hq⟩
theorem St.at_ (h : St w W bs rs) (i : Nat) {p : Bx_} (hi : bs[i]? = some p) : W.heap[p.1]? = some (.cells p.2.1 p.2.2 (0, 0)) := h.box p (List.mem_of_getElem? hi)
theorem St.rat (h : St w W bs rs) (i : Nat) {q : Rw_} (hi : rs[i]? = some q) : RowP w.heap.size q.1 W q.2.1 q.2.2.1 q.2.2.2.1 q.2.2.2.2 := h.row q (List.mem_of_getElem? hi)
/-- A variable that was made last is written. -/
theorem St.put2 {g t : Nat} {u0 u1 : Value} (h : St w W ((g, #[u0, u1], t) :: bs) rs) (hg : w.heap.size ≤ g) (hne : ∀ p ∈ bs, p.1 ≠ g) (hV : VarT t) (a b : Value) : St w ((W.setCell ⟨g, 0, none⟩ a).setCell ⟨g, 1, none⟩ b) ((g, #[a, b], t) :: bs) rs := by
  have hc := h.box _ List.mem_cons_self
  have far : ∀ k, k ≠ g → ((W.setCell ⟨g, 0, none⟩ a).setCell ⟨g, 1, none⟩ b).heap[k]? = W.heap[k]? := fun k hk => (Below.heap_setCell _ ⟨g, 1, none⟩ b k hk).trans (Below.heap_setCell W ⟨g, 0, none⟩ a k hk)
  refine ⟨(h.below.setCell (p := ⟨g, 0, none⟩) hg a).setCell (p := ⟨g, 1, none⟩) hg b, fun p hp => ?_, fun q hq => ?_⟩
  · rcases List.mem_cons.1 hp with rfl | hp
    · exact blk_put (cs := #[a, u1]) (blk_put (cs := #[u0, u1]) hc 0 a rfl) 1 b rfl
    · exact (far _ (hne p hp)).trans (h.box p (List.mem_cons_of_mem _ hp))
  · have hr := h.row q hq
    exact ⟨Kd.R_mono (Kd.R_step (Kd.R_types hr.1 hc hV.1) (fun k hk _ => far k hk.2)) (fun _ hk => hk.1), Kd.R_mono (Kd.R_step (Kd.R_types hr.2 hc hV.2) (fun k hk _ => far k hk.2)) (fun _ hk => hk.1)⟩
/-- The blocks that a mark may write: of the rows' types, between lo and hi. -/
def MkP (lo hi : Nat) (W : World) : Nat → Prop := fun k => Iv lo hi k ∧ ∃ q, (q ∈ 3 :: (Kd.int .i64).E ∨ q ∈ 49 :: (k49).E) ∧ ∃ cells, W.heap[k]? = some (.cells cells q (0, 0))
theorem RowP.mk {b lo hi : Nat} {v0 v1 : Value} {y1 : List Int} {y2 : List S49} (h : RowP b (Iv lo hi) W v0 v1 y1 y2) : RowP b (MkP lo hi W) W v0 v1 y1 y2 :=
  ⟨Kd.R_mono (Kd.R_bound h.1) (fun _ hk => ⟨hk.1, by obtain ⟨_, _, _, q, hq, hc⟩ := hk; exact ⟨q, .inl hq, hc⟩⟩), Kd.R_mono (Kd.R_bound h.2) (fun _ hk => ⟨hk.1, by obtain ⟨_, _, _, q, hq, hc⟩ := hk; exact ⟨q, .inr hq, hc⟩⟩)⟩
/-- A row has been marked: the variables stand, and the rows in other blocks. -/
theorem St.marked (h : St w W bs rs) {lo hi : Nat} (hb : Below w.heap.size w W1) (hk : Kept W W1 (fun k => MkP lo hi W k ∨ MkP lo hi W k)) (hV : ∀ p ∈ bs, VarT p.2.2) (hsub : ∀ q ∈ rs', q ∈ rs ∧ ∀ k, q.1 k → ¬ Iv lo hi k) : St w W1 bs rs' := by
  refine ⟨hb, fun p hp => ?_, fun q hq => ?_⟩
  · refine blk_kept (h.box p hp) hk ?_
    have hn : ¬ MkP lo hi W p.1 := by
      rintro ⟨_, q, hq, cells, hc⟩
      have hbx := h.box p hp
      rw [hc] at hbx
      injection hbx with hbx
      injection hbx with _ hbx
      rcases hq with hq | hq
      · exact (hV p hp).1 q hq hbx
      · exact (hV p hp).2 q hq hbx
    exact fun hs => hs.elim hn hn
  · obtain ⟨hm, hd⟩ := hsub q hq
    have hr := h.row q hm
    have hne : ∀ k, q.1 k → ¬ (MkP lo hi W k ∨ MkP lo hi W k) := fun k ho hs => hd k ho (hs.elim (·.1) (·.1))
    exact ⟨Kd.R_kept hr.1 hk hne, Kd.R_kept hr.2 hk hne⟩
end
theorem wp_not_ {P : Program} {o : Oper} {a : Act} {w : World} {K : Act → World → Prop} {Q : Exit → Act → World → Prop} (x : Operand) {t : TypeId} (h : o.op = .unOp .not t x) {b : Bool} (hx : a.eval x = .bool b) (hk : K (a.put o.dst (.bool (!b))) w) : o.wp P a w K Q := by
  unfold Oper.wp execOp
  simp only [h, hx]
  exact hk
def ap_reg10.T : Bool × List (List Nat × List Nat) := (true, [([], []), ([], []), ([1], [1]), ([0, 2, 2], [0, 2]), ([3], [3])])
theorem ap_reg10.tab : rtab .any (opsOf Try.f3 10) = ap_reg10.T := by kernel_rfl
set_option maxHeartbeats 4000000 in
set_option maxRecDepth 100000 in
/-- The law's region that asks whether the argument stands as it was. -/
theorem ap_reg10 {Q : Exit → Act → World → Prop} {a0 : Act} {w : World} (k : Nat) {gx gm : Nat} {A0 A1 : Option Addr} {c0 c1 : Nat} {l0 : List Int} {l1 : List S107} (hm : w.heap[gm]? = some (.cells #[.slice A0 l0.length c0, .slice A1 l1.length c1] 25 (0, 0))) (hr0 : Kd.C (Kd.int .i64) w A0 l0.length l0) (hc0 : l0.length ≤ c0) (hr1 : Kd.C k107 w A1 l1.length l1) (hc1 : l1.length ≤ c1)
    {B0 B1 : Option Addr} {d0 d1 : Nat} {x1 : List Int} {x2 : List S49} (hx : laws_toMachine.f k l0 l1 = some (x1, x2)) (ho : w.heap[gx]? = some (.cells #[.slice B0 x1.length d0, .slice B1 x2.length d1] 31 (0, 0))) (hs0 : Kd.C (Kd.int .i64) w B0 x1.length x1) (hd0 : x1.length ≤ d0) (hs1 : Kd.C k49 w B1 x2.length x2) (hd1 : x2.length ≤ d1)
    (he : laws_eqMachine.f k x1 x2 x1 x2 = some true) (e2 : a0.eval (.tmp 2) = .pointer (some ⟨gm, 0, none⟩)) (e9 : a0.eval (.tmp 9) = .pointer (some ⟨gx, 0, none⟩)) (hsz : a0.tmps.size = 128)
    (hQ : ∀ (u58 u59 u60 u61 : Value) (w' : World), Below w.heap.size w w' → Q .normal (putAll a0 [(58, u58), (59, u59), (60, u60), (61, u61), (62, .bool false)]) w') :
    (Code.region 10 (opsOf Try.f3 10) true).wp Try.prog Q a0 w := by
  have hVm : VarT 31 := ⟨by decide, by decide⟩
  have hVr : VarT 33 := ⟨by decide, by decide⟩
  have hA : apartB [some 58, some 59, some 60, some 61, some 62, none, none] = true := by decide
  have hgood : ∀ p, p ∈ ([pIs (.agg #[.slice B0 x1.length d0, .slice B1 x2.length d1]), pIs (.agg #[.slice A0 l0.length c0, .slice A1 l1.length c1]), pTwo w.heap.size x1 x2, pIs (.bool true), pIs (.bool false)] : List (Value → World → Prop)) → Good 31 33 p := by
    intro p hp
    simp only [List.mem_cons, List.mem_nil_iff, or_false] at hp
    rcases hp with rfl | rfl | rfl | rfl | rfl
    all_goals first | exact Good.pIs _ | exact Good.pTwo hVm hVr _ _ _
  refine region_inv (by kernel_rfl) ap_reg10.tab (by decide) (Rg 0 1 5 6 58 59 31 33 [some 58, some 59, some 60, some 61, some 62, none, none] [58, 59, 60, 61, 62] [pIs (.agg #[.slice B0 x1.length d0, .slice B1 x2.length d1]), pIs (.agg #[.slice A0 l0.length c0, .slice A1 l1.length c1]), pTwo w.heap.size x1 x2, pIs (.bool true), pIs (.bool false)] w a0 [] [] #[]) ⟨SameBut.refl _ _, below_drew1 (Below.refl _ _), fun i d p _ _ hl => ?_, fun hl => ?_, fun hl => ?_⟩ (fun l a W h i hr => ?_) (fun l a W h hl => ?_)
  · rw [List.getD_eq_getElem?_getD, List.getElem?_replicate] at hl; split at hl <;> simp at hl
  · rw [List.getD_eq_getElem?_getD, List.getElem?_replicate] at hl; split at hl <;> simp at hl
  · rw [List.getD_eq_getElem?_getD, List.getElem?_replicate] at hl; split at hl <;> simp at hl
  · have hun : l.getD i true = false := by
      unfold readyAt at hr
      rw [Bool.and_eq_true] at hr
      simpa using hr.1
    have hi : i < 5 := ready_lt hr
    rcases (by omega : i = 0 ∨ i = 1 ∨ i = 2 ∨ i = 3 ∨ i = 4) with rfl | rfl | rfl | rfl | rfl
    · refine wpOp_un rfl rfl (wp_load_row 31 (.tmp 9) rfl gx ((ev_but h.sb (by decide)).trans e9) _ _ (0, 0) _ (blk_below ho h.bl) Try.underlying31 rfl (by rfl) ?_)
      exact h.put hA hgood rfl rfl rfl rfl hun rfl (by decide) (by omega) rfl rfl (Below.refl _ _)
    · refine wpOp_un rfl rfl (wp_load_row 25 (.tmp 2) rfl gm ((ev_but h.sb (by decide)).trans e2) _ _ (0, 0) _ (blk_below hm h.bl) Try.underlying25 rfl (by rfl) ?_)
      exact h.put hA hgood rfl rfl rfl rfl hun rfl (by decide) (by omega) rfl rfl (Below.refl _ _)
    · have e := h.sl 1 _ _ rfl rfl (ready_dep hr (j := 1) rfl)
      have e : a.eval (.tmp 59) = _ := e
      refine wpOp_step rfl (fun K hK => goes_ Try.func10 (by kernel_rfl) rfl #[.agg #[.slice A0 l0.length c0, .slice A1 l1.length c1]] (by rfl) rfl rfl (by simp only [List.map_toArray, List.map_cons, List.map_nil, e]) ((laws_toMachine.calls k _ _ l0 _ _ l1 x1 x2 _ (Kd.C_below hr0 h.bl) hc0 (Kd.C_below hr1 h.bl) hc1 hx).mono ?_))
      rintro e' W1 ⟨v0, v1, rfl, ho0, ho1, hb⟩
      exact ⟨_, rfl, hK _ _ (h.put hA hgood rfl rfl rfl rfl hun rfl (by decide) (by omega) rfl ⟨v0, v1, rfl, Kd.R_lower ho0 h.bl.size, Kd.R_lower ho1 h.bl.size⟩ hb)⟩
    · have e := h.sl 0 _ _ rfl rfl (ready_dep hr (j := 0) rfl)
      have e : a.eval (.tmp 58) = _ := e
      obtain ⟨y0, y1, ey, hy⟩ := h.sl 2 _ _ rfl rfl (ready_dep hr (j := 2) rfl)
      have ey : a.eval (.tmp 60) = _ := ey
      obtain ⟨D0, b0, rfl, hb0, hC0⟩ := Kd.R_reads hy.1
      obtain ⟨D1, b1, rfl, hb1, hC1⟩ := Kd.R_reads hy.2
      refine wpOp_step rfl (fun K hK => goes_ Try.func13 (by kernel_rfl) rfl #[.agg #[.slice B0 x1.length d0, .slice B1 x2.length d1], .agg #[.slice D0 x1.length b0, .slice D1 x2.length b1]] (by rfl) rfl rfl (by simp only [List.map_toArray, List.map_cons, List.map_nil, e, ey]) ((laws_eqMachine.calls k _ _ x1 _ _ x2 _ _ x1 _ _ x2 true _ (Kd.C_below hs0 h.bl) hd0 (Kd.C_below hs1 h.bl) hd1 hC0 hb0 hC1 hb1 he).mono ?_))
      rintro e' W1 ⟨rfl, hb⟩
      exact ⟨_, rfl, hK _ _ (h.put hA hgood rfl rfl rfl rfl hun rfl (by decide) (by omega) rfl rfl hb)⟩
    · have e := h.sl 3 _ _ rfl rfl (ready_dep hr (j := 3) rfl)
      have e : a.eval (.tmp 61) = _ := e
      refine wpOp_un rfl rfl (wp_not_ (.tmp 61) rfl e ?_)
      exact h.put hA hgood rfl rfl rfl rfl hun rfl (by decide) (by omega) rfl rfl (Below.refl _ _)
  · have ef := h.sl 4 _ _ rfl rfl (hl 4 (by decide))
    have ef : a.eval (.tmp 62) = _ := ef
    have hq := hQ (a.eval (.tmp 58)) (a.eval (.tmp 59)) (a.eval (.tmp 60)) (a.eval (.tmp 61)) W h.bl
    rw [← ef] at hq
    rw [h.sb.all]
    exact hq
theorem St.fresh {w W : World} {bs : List Bx_} {rs : List Rw_} (h : St w W bs rs) {g : Nat} (hg : g = W.heap.size) : ∀ p ∈ bs, p.1 ≠ g := fun p hp => by rw [hg]; exact Nat.ne_of_lt (blk_lt (h.box p hp))
theorem size_put2 (W : World) (p q : Addr) (a b : Value) : ((W.setCell p a).setCell q b).heap.size = W.heap.size := by simp [World.setCell]
/-- What the law asks, in the order of its text; the calls that it makes twice with the same arguments stand once. -/
def laws_FnExactApplyOp.f (k : Nat) (l0_0 : List Int) (l0_1 : List S107) (a1_0 a1_1 a1_2 a1_3 a1_4 a1_5 : Int) : Option Bool :=
  (laws_szMachine.f l0_0 l0_1 1048576).bind fun t => if t < 0 then some true else
  (laws_toMachine.f k l0_0 l0_1).bind fun x =>
  (spec_ApplyOp.f k x.1 x.2 a1_0 a1_1 a1_2 a1_3 a1_4 a1_5).bind fun W =>
  (impl_ApplyOp.f k x.1 x.2 a1_0 a1_1 a1_2 a1_3 a1_4 a1_5).bind fun G =>
  (laws_eqMachine.f k G.1 G.2.1 W.1 W.2.1).bind fun e1 =>
  (laws_eqResult.f G.2.2.1 G.2.2.2.1 W.2.2.1 W.2.2.2.1).bind fun e2 =>
  (laws_eqMachine.f k x.1 x.2 x.1 x.2).bind fun e3 =>
  (laws_markMachine.f k x.1 x.2 1).bind fun n =>
  (laws_markMachine.f k G.1 G.2.1 1).bind fun m =>
  (laws_heldMachine.f k m.2.1 m.2.2 1).bind fun q =>
  if e1 = true ∧ e2 = true ∧ e3 = true ∧ G.2.2.2.2 = W.2.2.2.2 ∧ 0 ≤ n.1 ∧ 0 ≤ q ∧ q = m.1 then some true else none
/-- What is known where the law holds. -/
structure ApF (k : Nat) (l0 : List Int) (l1 : List S107) (o0 o1 o2 o3 o4 o5 : Int) (x1 : List Int) (x2 : List S49) (r1 : List Int) (r2 : List S49) (r3 : Bool) (r4 : Int) (y1 : List Int) (y2 : List S49) (y3 : Bool) (y4 : Int) (b : Bool) (n0 : Int) (n1 : List Int) (n2 : List S49) (m0 : Int) (m1 : List Int) (m2 : List S49) : Prop where
  x : laws_toMachine.f k l0 l1 = some (x1, x2)
  s : spec_ApplyOp.f k x1 x2 o0 o1 o2 o3 o4 o5 = some (r1, r2, r3, r4, b)
  i : impl_ApplyOp.f k x1 x2 o0 o1 o2 o3 o4 o5 = some (y1, y2, y3, y4, b)
  e1 : laws_eqMachine.f k y1 y2 r1 r2 = some true
  e2 : laws_eqResult.f y3 y4 r3 r4 = some true
  e3 : laws_eqMachine.f k x1 x2 x1 x2 = some true
  n : laws_markMachine.f k x1 x2 1 = some (n0, n1, n2)
  m : laws_markMachine.f k y1 y2 1 = some (m0, m1, m2)
  q : laws_heldMachine.f k m1 m2 1 = some m0
  n0 : 0 ≤ n0
  m0 : 0 ≤ m0
theorem laws_FnExactApplyOp.facts {k : Nat} {l0 : List Int} {l1 : List S107} {o0 o1 o2 o3 o4 o5 : Int} (h : laws_FnExactApplyOp.f k l0 l1 o0 o1 o2 o3 o4 o5 = some true) :
    ∃ t, laws_szMachine.f l0 l1 1048576 = some t ∧ (¬ t < 0 → ∃ x1 x2 r1 r2 r3 r4 y1 y2 y3 y4 b n0 n1 n2 m0 m1 m2, ApF k l0 l1 o0 o1 o2 o3 o4 o5 x1 x2 r1 r2 r3 r4 y1 y2 y3 y4 b n0 n1 n2 m0 m1 m2) := by
  unfold laws_FnExactApplyOp.f at h
  obtain ⟨t, hsz, h⟩ := Option.bind_eq_some_iff.mp h
  refine ⟨t, hsz, fun hn => ?_⟩
  rw [if_neg hn] at h
  obtain ⟨⟨x1, x2⟩, hx, h⟩ := Option.bind_eq_some_iff.mp h
  obtain ⟨⟨r1, r2, r3, r4, r5⟩, hs, h⟩ := Option.bind_eq_some_iff.mp h
  obtain ⟨⟨y1, y2, y3, y4, y5⟩, hi, h⟩ := Option.bind_eq_some_iff.mp h
  obtain ⟨e1, he1, h⟩ := Option.bind_eq_some_iff.mp h
  obtain ⟨e2, he2, h⟩ := Option.bind_eq_some_iff.mp h
  obtain ⟨e3, he3, h⟩ := Option.bind_eq_some_iff.mp h
  obtain ⟨⟨n0, n1, n2⟩, hn, h⟩ := Option.bind_eq_some_iff.mp h
  obtain ⟨⟨m0, m1, m2⟩, hmk, h⟩ := Option.bind_eq_some_iff.mp h
  obtain ⟨q, hq, h⟩ := Option.bind_eq_some_iff.mp h
  by_cases hall : e1 = true ∧ e2 = true ∧ e3 = true ∧ y5 = r5 ∧ 0 ≤ n0 ∧ 0 ≤ q ∧ q = m0
  · obtain ⟨rfl, rfl, rfl, rfl, hn0, hq0, rfl⟩ := hall
    exact ⟨x1, x2, r1, r2, r3, r4, y1, y2, y3, y4, y5, n0, n1, n2, q, m1, m2, ⟨hx, hs, hi, he1, he2, he3, hn, hmk, hq, hn0, hq0⟩⟩
  · rw [if_neg hall] at h
    exact absurd h (by simp)
set_option maxHeartbeats 8000000 in
set_option maxRecDepth 100000 in
theorem laws_FnExactApplyOp.calls (k : Nat) (A0_0 : Option Addr) (c0_0 : Nat) (l0_0 : List Int) (A0_1 : Option Addr) (c0_1 : Nat) (l0_1 : List (S107)) (a1_0 : Int) (a1_1 : Int) (a1_2 : Int) (a1_3 : Int) (a1_4 : Int) (a1_5 : Int) (w : World) (hr0_0 : Kd.C (Kd.int .i64) w A0_0 l0_0.length l0_0) (hc0_0 : l0_0.length ≤ c0_0) (hr0_1 : Kd.C k107 w A0_1 l0_1.length l0_1) (hc0_1 : l0_1.length ≤ c0_1) (h : laws_FnExactApplyOp.f k l0_0 l0_1 a1_0 a1_1 a1_2 a1_3 a1_4 a1_5 = some true) :
    Calls Try.prog 3 #[.agg #[.slice A0_0 l0_0.length c0_0, .slice A0_1 l0_1.length c0_1], .agg #[.int .i64 a1_0, .int .i64 a1_1, .int .i64 a1_2, .int .i64 a1_3, .int .i64 a1_4, .int .i64 a1_5]] w fun e w' => e = .returned (.bool true) ∧ Below w.heap.size w w' := by
  have hu25 := Try.underlying25
  have hu27 := Try.underlying27
  have hu31 := Try.underlying31
  have hu33 := Try.underlying33
  have HR0 := Aside0.mk hr0_0
  have HC0 := Aside0.mk hc0_0
  have HR1 := Aside0.mk hr0_1
  have HC1 := Aside0.mk hc0_1
  clear hr0_0 hc0_0 hr0_1 hc0_1
  have hV31 : VarT 31 := ⟨by decide, by decide⟩
  have hV33 : VarT 33 := ⟨by decide, by decide⟩
  have hV25 : VarT 25 := ⟨by decide, by decide⟩
  have hV27 : VarT 27 := ⟨by decide, by decide⟩
  have HS : Aside0 (St w w [] []) := ⟨⟨Below.refl _ _, by simp, by simp⟩⟩
  obtain ⟨t, FSZ0, FH0⟩ := laws_FnExactApplyOp.facts h
  have FSZ := Aside0.mk FSZ0
  have FH := Aside0.mk FH0
  clear h FSZ0 FH0
  go_enter Try.func3, Try.ntmps3
  go_wp2_with (first | ((with_reducible refine gate_dst (N := 2) rfl ?_); refine bxe 2 #[.slice A0_0 l0_0.length c0_0, .slice A0_1 l0_1.length c0_1] 25 ?_; intro g2 hg w5 hbox hb; have HG2 := Aside0.mk (show w.heap.size ≤ g2 by rw [hg]; exact HS.out.below.size); replace HS := Aside0.mk ((HS.out.step hb).addB hbox); clear hb hbox hg) | ((with_reducible refine gate_dst (N := 3) rfl ?_); refine bxe 3 #[.int .i64 a1_0, .int .i64 a1_1, .int .i64 a1_2, .int .i64 a1_3, .int .i64 a1_4, .int .i64 a1_5] 27 ?_; intro g3 hg w6 hbox hb; have HG3 := Aside0.mk (show w.heap.size ≤ g3 by rw [hg]; exact HS.out.below.size); replace HS := Aside0.mk ((HS.out.step hb).addB hbox); clear hb hbox hg; have hz0 : w6.cell? ⟨g2, 0, none⟩ = some (.slice A0_0 l0_0.length c0_0) := (blk_cell (HS.out.at_ 1 rfl) 0).trans rfl; have hz1 : w6.cell? ⟨g2, 1, none⟩ = some (.slice A0_1 l0_1.length c0_1) := (blk_cell (HS.out.at_ 1 rfl) 1).trans rfl) | ((with_reducible refine gate_callee (f := 8) rfl ?_); refine goesM (some 21) Try.func8 #[.agg #[.slice A0_0 l0_0.length c0_0, .slice A0_1 l0_1.length c0_1], .int .i64 1048576] ?_; (with_reducible refine (laws_szMachine.calls _ _ l0_0 _ _ l0_1 1048576 t _ (Kd.C_below HR0.out HS.out.below) HC0.out (Kd.C_below HR1.out HS.out.below) HC1.out FSZ.out).mono ?_); rintro e w9 ⟨rfl, hb⟩; refine ⟨_, rfl, ?_⟩; replace HS := Aside0.mk (HS.out.step hb); clear hb hz0 hz1; refine ?roundEnd))
  case roundEnd =>
  by_cases c4 : t < 0
  · have c4b0 := decide_eq_true c4
    clear c4
    go_wp2
    go_ret
    exact ⟨by first | rfl | (simp; done), HS.out.below⟩
  obtain ⟨x1, x2, r1, r2, r3, r4, y1, y2, y3, y4, b, n0, n1, n2, m0, m1, m2, HF0⟩ := FH.out c4
  have HF := Aside0.mk HF0
  have c4b0 := decide_eq_false c4
  clear c4 FH HF0 FSZ
  try go_wp2
  refine ap_reg5 k (HS.out.at_ 1 rfl) (HS.out.at_ 0 rfl) (Kd.C_below HR0.out HS.out.below) HC0.out (Kd.C_below HR1.out HS.out.below) HC1.out HF.out.x HF.out.s rfl rfl rfl ?_
  intro u25 u26 u27 u28 u29 u24 u30 u31 u32 g6 g7 v0 v1 w10 hb hg6 hg7 hc6 hc7 h2
  have HG6 := Aside0.mk (Nat.le_trans HS.out.below.size hg6)
  have HG7 := Aside0.mk (Nat.le_trans HS.out.below.size hg7)
  have HL9 := Aside0.mk hb.size
  obtain ⟨AW0, cW0, rfl⟩ := Kd.R_slice h2.1
  obtain ⟨AW1, cW1, rfl⟩ := Kd.R_slice h2.2
  replace HS := Aside0.mk ((((HS.out.step hb).addB hc7).addB hc6).addR (h2.iv HS.out.below.size))
  clear hb hg6 hg7 hc6 hc7 h2
  simp only [putAll, Act.put, List.setIfInBounds_toArray, List.set_cons_zero, List.set_cons_succ]
  have hz0 : w10.cell? ⟨g2, 0, none⟩ = some (.slice A0_0 l0_0.length c0_0) := (blk_cell (HS.out.at_ 3 rfl) 0).trans rfl
  have hz1 : w10.cell? ⟨g2, 1, none⟩ = some (.slice A0_1 l0_1.length c0_1) := (blk_cell (HS.out.at_ 3 rfl) 1).trans rfl
  try go_wp2_with (first | ((with_reducible refine gate_callee (f := 10) rfl ?_); refine goesM (some 34) Try.func10 #[.agg #[.slice A0_0 l0_0.length c0_0, .slice A0_1 l0_1.length c0_1]] ?_; (refine (laws_toMachine.calls k _ _ l0_0 _ _ l0_1 x1 x2 _ (Kd.C_below HR0.out HS.out.below) HC0.out (Kd.C_below HR1.out HS.out.below) HC1.out HF.out.x).mono ?_); rintro e w11 ⟨v2, v3, rfl, ho0, ho1, hb⟩; refine ⟨_, rfl, ?_⟩; obtain ⟨AX0, cX0, rfl⟩ := Kd.R_slice ho0; obtain ⟨AX1, cX1, rfl⟩ := Kd.R_slice ho1; have HL10 := Aside0.mk hb.size; replace HS := Aside0.mk ((HS.out.step hb).addR (TwoR.iv ⟨ho0, ho1⟩ HS.out.below.size)); clear hb ho0 ho1 hz0 hz1) | ((with_reducible refine gate_dst (N := 9) rfl ?_); refine bxe 9 #[.slice none 0 0, .slice none 0 0] 31 ?_; intro g9 hg w12 hbox hb; have HG9 := Aside0.mk (show w.heap.size ≤ g9 by rw [hg]; exact HS.out.below.size); have HN9 := Aside0.mk (HS.out.fresh hg); have HL11 := Aside0.mk hb.size; replace HS := Aside0.mk ((HS.out.step hb).addB hbox); clear hb hbox hg; obtain ⟨hz0, hz1, hf0, hf1⟩ := cz2 (Aside0.mk (HS.out.at_ 0 rfl))))
  replace HS := Aside0.mk (HS.out.put2 HG9.out HN9.out hV31 (.slice AX0 x1.length cX0) (.slice AX1 x2.length cX1))
  have HL12 := Aside0.mk (size_put2 w12 ⟨g9, 0, none⟩ ⟨g9, 1, none⟩ (.slice AX0 x1.length cX0) (.slice AX1 x2.length cX1))
  clear hz0 hz1 hf0 hf1 HN9 HG9
  generalize ((w12.setCell ⟨g9, 0, none⟩ (.slice AX0 x1.length cX0)).setCell ⟨g9, 1, none⟩ (.slice AX1 x2.length cX1)) = w13 at HS HL12 ⊢
  refine ap_reg7 k (HS.out.at_ 0 rfl) (HS.out.at_ 3 rfl) (Kd.R_reads' (HS.out.rat 0 rfl).1).2.2 (Kd.R_reads' (HS.out.rat 0 rfl).1).2.1 (Kd.R_reads' (HS.out.rat 0 rfl).2).2.2 (Kd.R_reads' (HS.out.rat 0 rfl).2).2.1 HF.out.i rfl rfl rfl ?_
  intro u36 u37 u38 u39 u35 u40 u41 u42 g10 g11 v0 v1 w14 hb hg10 hg11 hc10 hc11 h2
  have HL13 := Aside0.mk hb.size
  obtain ⟨AG0, cG0, rfl⟩ := Kd.R_slice h2.1
  obtain ⟨AG1, cG1, rfl⟩ := Kd.R_slice h2.2
  replace HS := Aside0.mk ((((HS.out.step hb).addB hc11).addB hc10).addR (h2.iv HS.out.below.size))
  clear hb hg10 hg11 hc10 hc11 h2
  simp only [putAll, Act.put, List.setIfInBounds_toArray, List.set_cons_zero, List.set_cons_succ]
  obtain ⟨hz0, hz1, _, _⟩ := cz2 (Aside0.mk (HS.out.at_ 0 rfl))
  obtain ⟨hz2, hz3, _, _⟩ := cz2 (Aside0.mk (HS.out.at_ 3 rfl))
  try go_wp2_with (first | ((with_reducible refine gate_dst (N := 45) rfl ?_); refine goesM (some 45) Try.func13 #[.agg #[.slice AG0 y1.length cG0, .slice AG1 y2.length cG1], .agg #[.slice AW0 r1.length cW0, .slice AW1 r2.length cW1]] ?_; (refine (laws_eqMachine.calls k _ _ y1 _ _ y2 _ _ r1 _ _ r2 true _ (Kd.R_reads' (HS.out.rat 0 rfl).1).2.2 (Kd.R_reads' (HS.out.rat 0 rfl).1).2.1 (Kd.R_reads' (HS.out.rat 0 rfl).2).2.2 (Kd.R_reads' (HS.out.rat 0 rfl).2).2.1 (Kd.R_reads' (HS.out.rat 2 rfl).1).2.2 (Kd.R_reads' (HS.out.rat 2 rfl).1).2.1 (Kd.R_reads' (HS.out.rat 2 rfl).2).2.2 (Kd.R_reads' (HS.out.rat 2 rfl).2).2.1 HF.out.e1).mono ?_); rintro e w15 ⟨rfl, hb⟩; refine ⟨_, rfl, ?_⟩; replace HS := Aside0.mk (HS.out.step hb); clear hb hz0 hz1 hz2 hz3; obtain ⟨hz0, hz1, _, _⟩ := cz2 (Aside0.mk (HS.out.at_ 1 rfl)); obtain ⟨hz2, hz3, _, _⟩ := cz2 (Aside0.mk (HS.out.at_ 4 rfl))) | ((go_at_call 14); (refine (laws_eqResult.calls y3 y4 r3 r4 true _ HF.out.e2).mono ?_); rintro e w16 ⟨rfl, hb⟩; replace HS := Aside0.mk (HS.out.step hb); clear hb hz0 hz1 hz2 hz3))
  have hqq : decide (n0 < 0) = false := decide_eq_false (by have := HF.out.n0; omega)
  have hqm : decide (m0 < 0) = false := decide_eq_false (by have := HF.out.m0; omega)
  refine ap_reg10 k (HS.out.at_ 6 rfl) (Kd.C_below HR0.out HS.out.below) HC0.out (Kd.C_below HR1.out HS.out.below) HC1.out HF.out.x (HS.out.at_ 2 rfl) (Kd.R_reads' (HS.out.rat 1 rfl).1).2.2 (Kd.R_reads' (HS.out.rat 1 rfl).1).2.1 (Kd.R_reads' (HS.out.rat 1 rfl).2).2.2 (Kd.R_reads' (HS.out.rat 1 rfl).2).2.1 HF.out.e3 rfl rfl rfl ?_
  intro u58 u59 u60 u61 w17 hb
  replace HS := Aside0.mk (HS.out.step hb)
  clear hb
  simp only [putAll, Act.put, List.setIfInBounds_toArray, List.set_cons_zero, List.set_cons_succ]
  obtain ⟨hz0, hz1, _, _⟩ := cz2 (Aside0.mk (HS.out.at_ 2 rfl))
  try go_wp2_with (first | ((with_reducible refine gate_dst (N := 65) rfl ?_); refine goesM (some 65) Try.func15 #[.agg #[.slice AX0 x1.length cX0, .slice AX1 x2.length cX1], .int .i64 1] ?_; (refine (laws_markMachine.calls k (MkP w10.heap.size w11.heap.size _) (.slice AX0 x1.length cX0) x1 (MkP w10.heap.size w11.heap.size _) (.slice AX1 x2.length cX1) x2 1 n0 n1 n2 w _ HS.out.below (RowP.mk (HS.out.rat 1 rfl)).1 (RowP.mk (HS.out.rat 1 rfl)).2 HF.out.n).mono ?_); rintro e w18 ⟨rfl, ho0, ho1, hb, hk⟩; refine ⟨_, rfl, ?_⟩; replace HS := Aside0.mk (HS.out.marked (rs' := [(Iv w13.heap.size w14.heap.size, .slice AG0 y1.length cG0, .slice AG1 y2.length cG1, y1, y2), (Iv w9.heap.size w10.heap.size, .slice AW0 r1.length cW0, .slice AW1 r2.length cW1, r1, r2)]) hb hk (by intro p hp; simp only [List.mem_cons, List.not_mem_nil, or_false] at hp; rcases hp with rfl | rfl | rfl | rfl | rfl | rfl | rfl <;> first | exact hV31 | exact hV33 | exact hV27 | exact hV25) (by intro q hq; simp only [List.mem_cons, List.not_mem_nil, or_false] at hq; rcases hq with rfl | rfl <;> refine ⟨by simp, fun k_ ho_ hi_ => ?_⟩ <;> (have q9 := HL9.out; have q10 := HL10.out; have q11 := HL11.out; have q12 := HL12.out; have q13 := HL13.out; have q1 := ho_.1; have q2 := ho_.2; have q3 := hi_.1; have q4 := hi_.2; omega))); clear hb hk ho0 ho1 hz0 hz1; obtain ⟨hz0, hz1, _, _⟩ := cz2 (Aside0.mk (HS.out.at_ 0 rfl)); obtain ⟨hz2, hz3, _, _⟩ := cz2 (Aside0.mk (HS.out.at_ 3 rfl))) | ((go_at_call 13); (refine (laws_eqMachine.calls k _ _ y1 _ _ y2 _ _ r1 _ _ r2 true _ (Kd.R_reads' (HS.out.rat 0 rfl).1).2.2 (Kd.R_reads' (HS.out.rat 0 rfl).1).2.1 (Kd.R_reads' (HS.out.rat 0 rfl).2).2.2 (Kd.R_reads' (HS.out.rat 0 rfl).2).2.1 (Kd.R_reads' (HS.out.rat 1 rfl).1).2.2 (Kd.R_reads' (HS.out.rat 1 rfl).1).2.1 (Kd.R_reads' (HS.out.rat 1 rfl).2).2.2 (Kd.R_reads' (HS.out.rat 1 rfl).2).2.1 HF.out.e1).mono ?_); rintro e w19 ⟨rfl, hb⟩; replace HS := Aside0.mk (HS.out.step hb); clear hb hz0 hz1 hz2 hz3; obtain ⟨hz0, hz1, _, _⟩ := cz2 (Aside0.mk (HS.out.at_ 1 rfl)); obtain ⟨hz2, hz3, _, _⟩ := cz2 (Aside0.mk (HS.out.at_ 4 rfl))) | ((go_at_call 14); (refine (laws_eqResult.calls y3 y4 r3 r4 true _ HF.out.e2).mono ?_); rintro e w20 ⟨rfl, hb⟩; replace HS := Aside0.mk (HS.out.step hb); clear hb hz0 hz1 hz2 hz3; obtain ⟨hz0, hz1, _, _⟩ := cz2 (Aside0.mk (HS.out.at_ 0 rfl))) | ((with_reducible refine gate_dst (N := 87) rfl ?_); refine goesM (some 87) Try.func15 #[.agg #[.slice AG0 y1.length cG0, .slice AG1 y2.length cG1], .int .i64 1] ?_; (refine (laws_markMachine.calls k (MkP w13.heap.size w14.heap.size _) (.slice AG0 y1.length cG0) y1 (MkP w13.heap.size w14.heap.size _) (.slice AG1 y2.length cG1) y2 1 m0 m1 m2 w _ HS.out.below (RowP.mk (HS.out.rat 0 rfl)).1 (RowP.mk (HS.out.rat 0 rfl)).2 HF.out.m).mono ?_); rintro e w21 ⟨rfl, ho0, ho1, hb, hk⟩; refine ⟨_, rfl, ?_⟩; have hl1 := (Kd.R_reads' ho0).1; have hl2 := (Kd.R_reads' ho1).1; replace HS := Aside0.mk ((HS.out.marked (rs' := [(Iv w9.heap.size w10.heap.size, .slice AW0 r1.length cW0, .slice AW1 r2.length cW1, r1, r2)]) hb hk (by intro p hp; simp only [List.mem_cons, List.not_mem_nil, or_false] at hp; rcases hp with rfl | rfl | rfl | rfl | rfl | rfl | rfl <;> first | exact hV31 | exact hV33 | exact hV27 | exact hV25) (by intro q hq; simp only [List.mem_cons, List.not_mem_nil, or_false] at hq; rcases hq with rfl <;> refine ⟨by simp, fun k_ ho_ hi_ => ?_⟩ <;> (have q9 := HL9.out; have q10 := HL10.out; have q11 := HL11.out; have q12 := HL12.out; have q13 := HL13.out; have q1 := ho_.1; have q2 := ho_.2; have q3 := hi_.1; have q4 := hi_.2; omega))).addR ⟨ho0, ho1⟩); clear hb hk ho0 ho1 hz0 hz1; rw [hl1, hl2] at HS; clear hl1 hl2; obtain ⟨hz0, hz1, _, _⟩ := cz2 (Aside0.mk (HS.out.at_ 0 rfl))) | ((with_reducible refine gate_dst (N := 90) rfl ?_); refine goesM (some 90) Try.func16 #[.agg #[.slice AG0 m1.length cG0, .slice AG1 m2.length cG1], .int .i64 1] ?_; (refine (laws_heldMachine.calls k _ _ m1 _ _ m2 1 m0 _ (Kd.R_reads' (HS.out.rat 0 rfl).1).2.2 (Kd.R_reads' (HS.out.rat 0 rfl).1).2.1 (Kd.R_reads' (HS.out.rat 0 rfl).2).2.2 (Kd.R_reads' (HS.out.rat 0 rfl).2).2.1 HF.out.q).mono ?_); rintro e w22 ⟨rfl, hb⟩; refine ⟨_, rfl, ?_⟩; replace HS := Aside0.mk (HS.out.step hb); clear hb hz0 hz1))
  refine ap_reg24 k (HS.out.at_ 6 rfl) (HS.out.at_ 5 rfl) (Kd.C_below HR0.out HS.out.below) HC0.out (Kd.C_below HR1.out HS.out.below) HC1.out HF.out.x HF.out.i rfl rfl rfl ?_
  intro u97 u98 u99 u100 u101 u96 u102 u103 u104 g16 g17 v0 v1 w23 hb hg16 hg17 hc16 hc17 h2
  obtain ⟨AH0, cH0, rfl⟩ := Kd.R_slice h2.1
  obtain ⟨AH1, cH1, rfl⟩ := Kd.R_slice h2.2
  replace HS := Aside0.mk ((((HS.out.step hb).addB hc17).addB hc16).addR (h2.iv HS.out.below.size))
  clear hb hg16 hg17 hc16 hc17 h2
  simp only [putAll, Act.put, List.setIfInBounds_toArray, List.set_cons_zero, List.set_cons_succ]
  obtain ⟨hz0, hz1, _, _⟩ := cz2 (Aside0.mk (HS.out.at_ 0 rfl))
  obtain ⟨hz2, hz3, _, _⟩ := cz2 (Aside0.mk (HS.out.at_ 5 rfl))
  go_wp2_with (first | ((with_reducible refine gate_dst (N := 107) rfl ?_); refine goesM (some 107) Try.func13 #[.agg #[.slice AH0 y1.length cH0, .slice AH1 y2.length cH1], .agg #[.slice AW0 r1.length cW0, .slice AW1 r2.length cW1]] ?_; (refine (laws_eqMachine.calls k _ _ y1 _ _ y2 _ _ r1 _ _ r2 true _ (Kd.R_reads' (HS.out.rat 0 rfl).1).2.2 (Kd.R_reads' (HS.out.rat 0 rfl).1).2.1 (Kd.R_reads' (HS.out.rat 0 rfl).2).2.2 (Kd.R_reads' (HS.out.rat 0 rfl).2).2.1 (Kd.R_reads' (HS.out.rat 2 rfl).1).2.2 (Kd.R_reads' (HS.out.rat 2 rfl).1).2.1 (Kd.R_reads' (HS.out.rat 2 rfl).2).2.2 (Kd.R_reads' (HS.out.rat 2 rfl).2).2.1 HF.out.e1).mono ?_); rintro e w24 ⟨rfl, hb⟩; refine ⟨_, rfl, ?_⟩; replace HS := Aside0.mk (HS.out.step hb); clear hb hz0 hz1 hz2 hz3; obtain ⟨hz0, hz1, _, _⟩ := cz2 (Aside0.mk (HS.out.at_ 1 rfl)); obtain ⟨hz2, hz3, _, _⟩ := cz2 (Aside0.mk (HS.out.at_ 6 rfl))) | ((go_at_call 14); (refine (laws_eqResult.calls y3 y4 r3 r4 true _ HF.out.e2).mono ?_); rintro e w25 ⟨rfl, hb⟩; replace HS := Aside0.mk (HS.out.step hb); clear hb hz0 hz1 hz2 hz3; obtain ⟨hz0, hz1, _, _⟩ := cz2 (Aside0.mk (HS.out.at_ 2 rfl))) | ((with_reducible refine gate_dst (N := 122) rfl ?_); refine goesM (some 122) Try.func16 #[.agg #[.slice AG0 m1.length cG0, .slice AG1 m2.length cG1], .int .i64 1] ?_; (refine (laws_heldMachine.calls k _ _ m1 _ _ m2 1 m0 _ (Kd.R_reads' (HS.out.rat 1 rfl).1).2.2 (Kd.R_reads' (HS.out.rat 1 rfl).1).2.1 (Kd.R_reads' (HS.out.rat 1 rfl).2).2.2 (Kd.R_reads' (HS.out.rat 1 rfl).2).2.1 HF.out.q).mono ?_); rintro e w26 ⟨rfl, hb⟩; refine ⟨_, rfl, ?_⟩; replace HS := Aside0.mk (HS.out.step hb); clear hb hz0 hz1))
  go_ret
  exact ⟨by first | rfl | (simp; done), HS.out.below⟩

end Go.Proofs.Ytcikahnmiiichaa.A
