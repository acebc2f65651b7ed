/- What the walks ask of the world, and library functions by their contracts: plain Lean functions, and that the machine's call does what they say. -/
import Derived.Lib.LaidTab
import Derived.Sort.Grow
import Derived.Test.YtcikahnmiiichaaDoorShelf
import Derived.Test.YtcikahnmiiichaaDoorRows
import Derived.Test.YtcikahnmiiichaaDoorProg
set_option linter.unusedVariables false
set_option linter.unusedSimpArgs false
namespace Go.Proofs.YtcikahnmiiichaaDoor.Given
open Go.RowKit Go.Sort

theorem tabIs_below {P : Program} {n : String} {k : IntKind} {zs : List Int} {w w' : World} (h : Lib.TabIs P w n k zs) (hz : zs ≠ []) (hb : Below w.heap.size w w') : Lib.TabIs P w' n k zs := by
  unfold Lib.TabIs World.var? at h ⊢
  cases hg : P.globalNamed n with
  | none => rw [hg] at h; cases h
  | some g =>
    rw [hg] at h
    simp only [Option.bind_some] at h ⊢
    have hlt : g < w.heap.size := by
      rcases Nat.lt_or_ge g w.heap.size with h' | h'
      · exact h'
      · rw [Array.getElem?_eq_none h'] at h; cases h
    rw [hb.block g hlt]
    exact h
/-- What the walks ask of the world: the listed table reads as its text says. -/
def WF (w : World) : Prop := Lib.TabIs Tryd.prog w "internal/strconv.uint64pow10" .u64 Lib.pow10Tab
theorem WF_below {w w' : World} (h : WF w) (hb : Below w.heap.size w w') : WF w' := tabIs_below h (by simp [Lib.pow10Tab]) hb
theorem below_grown (w : World) (k : Nat) (os : Array Obj) : Below w.heap.size w (grow (w.drewN k) os) :=
  ⟨rfl, rfl, rfl, by simp [grow, World.drewN], fun b hb => by simp only [grow, World.drewN]; rw [Array.getElem?_append_left hb]⟩

theorem laidVars_reads {P : Program} {w : World} : ∀ {l : List (String × DataW Unit)} {ps : List MemPlace}, DataW.LaidVars P w l ps → ∀ n d, (n, d) ∈ l →
    ∃ g t cs fuel p, P.globalNamed n = some g ∧ (P.globals[g]?).map (·.type) = some t ∧ w.var? P n = some cs ∧ DataW.trod (fun _ => ()) P w 0 (fun _ => true) false fuel t cs.toList = some (d, p)
  | [], _, _, _, _, hm => by cases hm
  | (n', d') :: r, ps, h, n, d, hm => by
    obtain ⟨g, t, cs, fuel, p, q, h1, h2, h3, h4, h5, _⟩ := h
    rcases List.mem_cons.1 hm with e | e
    · cases e
      exact ⟨g, t, cs, fuel, p, h1, h2, h3, h4⟩
    · exact laidVars_reads h5 n d e
theorem wf_of_laid {l : List (String × DataW Unit)} {W : World} (h : laidMet Tryd.prog l W) (hm : ("internal/strconv.uint64pow10", Rows.laid_internal_strconv_uint64pow10) ∈ l) : WF W := by
  obtain ⟨_, hv, _⟩ := h
  obtain ⟨g, t, cs, fuel, p, h1, h2, h3, h4⟩ := laidVars_reads hv _ _ hm
  obtain rfl := Option.some.inj ((show Tryd.prog.globalNamed "internal/strconv.uint64pow10" = some 3 by kernel_rfl).symm.trans h1)
  obtain rfl := Option.some.inj ((show (Tryd.prog.globals[3]?).map (·.type) = some 175 by kernel_rfl).symm.trans h2)
  unfold WF Lib.TabIs
  rw [h3, ← Lib.cells_of_tab (k := .u64) (zs := Lib.pow10Tab) Tryd.underlying175 Tryd.underlying165 (by kernel_rfl) (by kernel_rfl) h4]

def strconv_Itoa.f (a0 : Int) : Option ByteArray := if -9223372036854775808 ≤ a0 ∧ a0 ≤ 9223372036854775807 then some ⟨(Lib.itoa a0).toArray⟩ else none
theorem strconv_Itoa.calls (a0 : Int) (r : ByteArray) (w : World) (hWF : WF w) (h : strconv_Itoa.f a0 = some r) :
    Calls Tryd.prog 112 #[.int .i64 a0] w fun e w' => e = .returned (.string r) ∧ Below w.heap.size w w' := by
  unfold strconv_Itoa.f at h
  by_cases c : -9223372036854775808 ≤ a0 ∧ a0 ≤ 9223372036854775807
  · rw [if_pos c] at h
    obtain rfl := Option.some.inj h
    refine (Tryd.strconv_Itoa a0 c.1 c.2 w hWF).mono ?_
    rintro e w' ⟨he, k, os, rfl⟩
    exact ⟨he, below_grown w k os⟩
  · rw [if_neg c] at h; cases h

end Go.Proofs.YtcikahnmiiichaaDoor.Given
