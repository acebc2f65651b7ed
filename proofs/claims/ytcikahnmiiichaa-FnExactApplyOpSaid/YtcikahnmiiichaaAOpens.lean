/- How a datum of each type of the law's arguments is opened. -/
import Derived.Test.YtcikahnmiiichaaA0
import Derived.ChangeArms
import Derived.Deep.Slices
import Derived.DataElems
import Derived.KernelRfl
set_option linter.unusedVariables false
namespace Go.Proofs.Ytcikahnmiiichaa.Opens
open Go.RowKit Go.Proofs.Ytcikahnmiiichaa.A Go.Proofs.YtcikahnmiiichaaW.PrintWords Go.Proofs.YtcikahnmiiichaaW.PrintLast
open Go.Deep Go.ChangeShapes Go.WideShapes

/- Opening a datum by its kind: whatever reads at type t is a value of kind d. -/
/-- Whatever reads at type t is a value of kind d that meets W. -/
structure Opens (P : Program) (t : TypeId) {α : Type} (d : Kd α) (W : α → Prop) : Prop where
  go : ∀ (H : Type) (enc : TypeId × Value → H) (w : World) (base : Nat) (sp : Nat → Bool) (held : Bool) (fuel : Nat) (cs : List Value) (x : DataW H × List MemPlace),
    DataW.trod enc P w base sp held fuel t cs = some x → ∃ a : α, d.K w a cs ∧ W a
theorem opens_int {P : Program} {t : TypeId} {k : IntKind} (ht : P.underlying t = some (.int k)) : Opens P t (Kd.int k) (fun n => (Lit.int k n).wf = true) := by
  refine ⟨?_⟩
  intro H enc w base sp held fuel cs x h
  obtain ⟨n, rfl, _, hw⟩ := DataW.trod_int ht h
  exact ⟨n, rfl, hw⟩
theorem opens_bool {P : Program} {t : TypeId} (ht : P.underlying t = some .bool) : Opens P t Kd.bool (fun _ => True) := by
  refine ⟨?_⟩
  intro H enc w base sp held fuel cs x h
  obtain ⟨b, rfl, _⟩ := DataW.trod_bool ht h
  exact ⟨b, rfl, trivial⟩
theorem opens_string {P : Program} {t : TypeId} (ht : P.underlying t = some .string) : Opens P t Kd.string (fun s => s.size ≤ maxLen) := by
  refine ⟨?_⟩
  intro H enc w base sp held fuel cs x h
  obtain ⟨s, rfl, _, hw⟩ := DataW.trod_string ht h
  exact ⟨s, rfl, hw⟩
theorem opens_slice {P : Program} {t e : TypeId} {α : Type} {d : Kd α} {W : α → Prop} (ht : P.underlying t = some (.slice e)) (hsz : d.sz = P.cellsOf e) (hd : Opens P e d W) :
    Opens P t (Kd.slice e d) (fun xs => xs.length ≤ maxLen ∧ ∀ a ∈ xs, W a) := by
  refine ⟨?_⟩
  intro H enc w base sp held fuel cs x h
  rcases open_slice ht h with ⟨rfl, _⟩ | ⟨ad, len, cap, m, n, D, Pl, rfl, hb, hl, hm, hmm, _, hx⟩
  · exact ⟨[], ⟨none, 0, rfl, Nat.le_refl _, Kd.C_nil _ _⟩, by simp, by simp⟩
  · have hlm : len ≤ m := by rw [hmm]; split <;> omega
    have hx2 : ∀ i, i < len → ∃ a : α, W a ∧ ∃ cs', cs'.length = d.sz ∧ d.K w a cs' ∧ ∀ j u, cs'[j]? = some u → w.cell? (ad.add (i * d.sz + j)) = some u := by
      intro i hi
      obtain ⟨cs', h1, h2⟩ := hx i (by omega)
      obtain ⟨a, hK, hW⟩ := hd.go H enc w base sp held n cs' _ h2
      obtain ⟨_, hlen, hc⟩ := World.cells?_some h1
      refine ⟨a, hW, cs', by rw [hlen, hsz], hK, fun j u hu => ?_⟩
      have hj : j < P.cellsOf e := by
        have := (List.getElem?_eq_some_iff.1 hu).1
        omega
      rw [hsz, ← Addr.add_add, hc j hj, hu]
    rcases Nat.eq_zero_or_pos len with h0 | hp
    · subst h0
      exact ⟨[], ⟨some ad, cap, rfl, by simp, by simp, by simp, fun h => absurd h (by simp)⟩, by simp, by simp⟩
    · obtain ⟨a0, _⟩ := hx2 0 hp
      haveI : Inhabited α := ⟨a0⟩
      obtain ⟨f, hf⟩ := choose_lt hx2
      have hget : ∀ j p, ((List.range len).map f)[j]? = some p → j < len ∧ p = f j := by
        intro j p hj
        rw [List.getElem?_map] at hj
        obtain ⟨q, hq, rfl⟩ := Option.map_eq_some_iff.1 hj
        obtain ⟨hlt, he⟩ := List.getElem?_eq_some_iff.1 hq
        rw [List.getElem_range] at he
        rw [List.length_range] at hlt
        exact ⟨hlt, by rw [he]⟩
      refine ⟨(List.range len).map f, ⟨some ad, cap, by simp, by simpa using hl, rfl, ?_, fun _ => ⟨ad, rfl, fun j p hj => ?_⟩⟩, ?_, ?_⟩
      · simp only [List.length_map, List.length_range]; unfold maxLen at hm; omega
      · obtain ⟨hlt, rfl⟩ := hget j p hj
        obtain ⟨_, cs', h1, h2, h3⟩ := hf j hlt
        exact ⟨cs', h1, h2, h3⟩
      · simp only [List.length_map, List.length_range]; omega
      · intro a ha
        obtain ⟨j, hj, rfl⟩ := List.mem_map.1 ha
        exact (hf j (List.mem_range.1 hj)).1
/-- The fields of a struct from cell 'off' on, as values of kind d. -/
structure OpensF (P : Program) (off : Nat) (fs : List Field) {α : Type} (d : Kd α) (W : α → Prop) : Prop where
  go : ∀ (H : Type) (enc : TypeId × Value → H) (w : World) (base : Nat) (sp : Nat → Bool) (held : Bool) (fuel : Nat) (cs : List Value), cs.length = off + d.sz →
    (∀ f ∈ fs, ∃ x, DataW.trod enc P w base sp held fuel f.type ((cs.drop f.offset).take (P.cellsOf f.type)) = some x) → ∃ a : α, d.K w a (cs.drop off) ∧ W a
theorem opensF_one {P : Program} {f : Field} {off : Nat} {α : Type} {d : Kd α} {W : α → Prop} (ho : f.offset = off) (hsz : d.sz = P.cellsOf f.type) (hd : Opens P f.type d W) : OpensF P off [f] d W := by
  refine ⟨?_⟩
  intro H enc w base sp held fuel cs hl hx
  obtain ⟨x, hx⟩ := hx f (by simp)
  obtain ⟨a, hK, hW⟩ := hd.go H enc w base sp held fuel _ x hx
  refine ⟨a, ?_, hW⟩
  rw [ho, ← hsz, List.take_of_length_le (by simp; omega)] at hK
  exact hK
theorem opensF_cons {P : Program} {f : Field} {fs : List Field} {off off' : Nat} {α β : Type} {d : Kd α} {d' : Kd β} {W : α → Prop} {W' : β → Prop} (ho : f.offset = off) (hsz : d.sz = P.cellsOf f.type) (ho' : off' = off + d.sz)
    (hd : Opens P f.type d W) (hr : OpensF P off' fs d' W') : OpensF P off (f :: fs) (Kd.pair d d') (fun p => W p.1 ∧ W' p.2) := by
  subst ho'
  refine ⟨?_⟩
  intro H enc w base sp held fuel cs hl hx
  have hl' : cs.length = off + (d.sz + d'.sz) := hl
  obtain ⟨x, hx0⟩ := hx f (by simp)
  obtain ⟨a, hK, hW⟩ := hd.go H enc w base sp held fuel _ x hx0
  obtain ⟨b, hK', hW'⟩ := hr.go H enc w base sp held fuel cs (by omega) (fun g hg => hx g (by simp [hg]))
  refine ⟨(a, b), ⟨(cs.drop off).take d.sz, cs.drop (off + d.sz), ?_, ?_, hK'⟩, hW, hW'⟩
  · rw [← List.drop_drop, List.take_append_drop]
  · rw [ho, ← hsz] at hK
    exact hK
theorem opens_struct {P : Program} {t : TypeId} {fs : Array Field} {α β : Type} {d : Kd α} {W : α → Prop} {f : β → α} (g : α → β) (hg : ∀ a, f (g a) = a) (ht : P.underlying t = some (.struct fs)) (hsz : d.sz = P.cellsOf t)
    (hf : OpensF P 0 fs.toList d W) : Opens P t (Kd.iso d f) (fun x => W (f x)) := by
  refine ⟨?_⟩
  intro H enc w base sp held fuel cs x h
  obtain ⟨xs, n, _, _, hl, hlen, hx⟩ := DataW.trod_struct ht h
  obtain ⟨a, hK, hW⟩ := hf.go H enc w base sp held n cs (by omega) (fun q hq => by
    obtain ⟨i, hi, rfl⟩ := List.getElem_of_mem hq
    have hi' : i < fs.size := by simpa using hi
    have := hx i fs[i] (Array.getElem?_eq_getElem hi')
    rw [List.getElem?_eq_getElem (by omega)] at this
    exact ⟨_, by simpa using this⟩)
  refine ⟨g a, ?_, by show W (f (g a)); rw [hg]; exact hW⟩
  show d.K w (f (g a)) cs
  rw [hg]
  simpa using hK

def wf105 (x : S105) : Prop := (True) ∧ ((Lit.int .i64 x.f1).wf = true)
theorem opens105 : Opens Try.prog 105 k105 wf105 := opens_struct (β := S105) (f := fun x : S105 => (x.f0, x.f1)) (fun (p : (Bool) × (Int)) => ⟨p.1, p.2⟩) (fun _ => rfl) Try.underlying105 (by kernel_rfl) (opensF_cons rfl (by kernel_rfl) rfl (opens_bool Try.underlying4) (opensF_one rfl (by kernel_rfl) (opens_int Try.underlying3)))
def wf107 (x : S107) : Prop := ((Lit.int .i64 x.f0).wf = true) ∧ ((Lit.int .i64 x.f1).wf = true) ∧ (wf105 x.f2)
theorem opens107 : Opens Try.prog 107 k107 wf107 := opens_struct (β := S107) (f := fun x : S107 => (x.f0, x.f1, x.f2)) (fun (p : (Int) × (Int) × (S105)) => ⟨p.1, p.2.1, p.2.2⟩) (fun _ => rfl) Try.underlying107 (by kernel_rfl) (opensF_cons rfl (by kernel_rfl) rfl (opens_int Try.underlying3) (opensF_cons rfl (by kernel_rfl) rfl (opens_int Try.underlying3) (opensF_one rfl (by kernel_rfl) opens105)))
def wf25 (x : S25) : Prop := ((x.f0.length ≤ maxLen ∧ ∀ zxf0 ∈ x.f0, (Lit.int .i64 zxf0).wf = true)) ∧ ((x.f1.length ≤ maxLen ∧ ∀ zxf1 ∈ x.f1, wf107 zxf1))
theorem opens25 : Opens Try.prog 25 k25 wf25 := opens_struct (β := S25) (f := fun x : S25 => (x.f0, x.f1)) (fun (p : (List Int) × (List (S107))) => ⟨p.1, p.2⟩) (fun _ => rfl) Try.underlying25 (by kernel_rfl) (opensF_cons rfl (by kernel_rfl) rfl (opens_slice Try.underlying22 (by kernel_rfl) (opens_int Try.underlying3)) (opensF_one rfl (by kernel_rfl) (opens_slice Try.underlying23 (by kernel_rfl) opens107)))
def wf27 (x : S27) : Prop := ((Lit.int .i64 x.f0).wf = true) ∧ ((Lit.int .i64 x.f1).wf = true) ∧ ((Lit.int .i64 x.f2).wf = true) ∧ ((Lit.int .i64 x.f3).wf = true) ∧ ((Lit.int .i64 x.f4).wf = true) ∧ ((Lit.int .i64 x.f5).wf = true)
theorem opens27 : Opens Try.prog 27 k27 wf27 := opens_struct (β := S27) (f := fun x : S27 => (x.f0, x.f1, x.f2, x.f3, x.f4, x.f5)) (fun (p : (Int) × (Int) × (Int) × (Int) × (Int) × (Int)) => ⟨p.1, p.2.1, p.2.2.1, p.2.2.2.1, p.2.2.2.2.1, p.2.2.2.2.2⟩) (fun _ => rfl) Try.underlying27 (by kernel_rfl) (opensF_cons rfl (by kernel_rfl) rfl (opens_int Try.underlying3) (opensF_cons rfl (by kernel_rfl) rfl (opens_int Try.underlying3) (opensF_cons rfl (by kernel_rfl) rfl (opens_int Try.underlying3) (opensF_cons rfl (by kernel_rfl) rfl (opens_int Try.underlying3) (opensF_cons rfl (by kernel_rfl) rfl (opens_int Try.underlying3) (opensF_one rfl (by kernel_rfl) (opens_int Try.underlying3)))))))
end Go.Proofs.Ytcikahnmiiichaa.Opens
