/- Go functions as Lean functions, and the proof that the code comes to them: written by a program of this session out of the translation. -/
import Derived.Test.YtnibkllpodpokaaDoorB0
import Derived.Test.YtnibkllpodpokaaDoorB1
import Derived.Test.YtnibkllpodpokaaDoorB2
namespace Go.Proofs.YtnibkllpodpokaaDoor.B
open Go.Proofs.YtnibkllpodpokaaDoor.Given
open Go.RowKit Go.Proofs.YtnibkllpodpokaaDoorW.PrintWords Go.Proofs.YtnibkllpodpokaaDoorW.PrintLast Go.Proofs.YtnibkllpodpokaaDoorW.PrintMore
attribute [local go_sem] max2_int min2_int max_two min_two max_three min_three max_four min_four   -- for this text's walks alone
set_option linter.unusedVariables false
set_option linter.unusedSimpArgs false

/-! ### laws_FnExactEncodeChunks: function 7 -/
def laws_FnExactEncodeChunks.f (k : Nat) (a0 : ByteArray) (a1 : Int) : Option (Bool) := if (a0.size : Int) > 1048576 then (some true) else ((spec_EncodeChunks.f k a0 a1).bind fun t139 => ((impl_EncodeChunks.f k a0 a1).bind fun t142 => ((laws_eqStringS.f k t142 t139).bind fun t145 => (if t145 = true then ((laws_markStringS.f k t142 1).bind fun bt146 => ((laws_heldStringS.f k bt146.2 1).bind fun t148 => (if t148 < 0 then (some false) else (if t148 = bt146.1 then ((impl_EncodeChunks.f k a0 a1).bind fun t149 => ((laws_eqStringS.f k t149 t139).bind fun t152 => (if t152 = true then ((laws_heldStringS.f k bt146.2 1).bind fun t153 => (if t153 < 0 then (some false) else (if t153 = bt146.1 then (some true) else (some false)))) else (some false)))) else (some false))))) else (some false)))))
theorem laws_FnExactEncodeChunks.mono : ∀ a0 a1 k, LeO (laws_FnExactEncodeChunks.f k a0 a1) (laws_FnExactEncodeChunks.f (k + 1) a0 a1) := by
  intro a0 a1 k
  unfold laws_FnExactEncodeChunks.f
  repeat' first
      | (with_reducible exact impl_EncodeChunks.mono _ _ _)
      | (with_reducible exact laws_eqStringS.mono _ _ _)
      | (with_reducible exact laws_heldStringS.mono _ _ _)
      | (with_reducible exact laws_markStringS.mono _ _ _)
      | (with_reducible exact spec_EncodeChunks.mono _ _ _)
      | (with_reducible exact LeO.refl _)
      | (with_reducible exact LeO.none _)
      | (with_reducible refine LeO.ite ?_ ?_)
      | (with_reducible refine LeO.bind ?_ (fun _ => ?_))
      | exact impl_EncodeChunks.mono _ _ _
      | exact laws_eqStringS.mono _ _ _
      | exact laws_heldStringS.mono _ _ _
      | exact laws_markStringS.mono _ _ _
      | exact spec_EncodeChunks.mono _ _ _
      | exact LeO.none _
      | refine LeO.ite ?_ ?_
      | refine LeO.bind ?_ (fun _ => ?_)
set_option maxHeartbeats 8000000 in
set_option maxRecDepth 100000 in
theorem laws_FnExactEncodeChunks.calls (k : Nat) (a0 : ByteArray) (a1 : Int) (w : World) (hWF : WF w) (h : laws_FnExactEncodeChunks.f k a0 a1 = some true) :
    Calls Tryd.prog 7 #[.string a0, .int .i64 a1] w fun e w' => e = .returned (.bool true) ∧ Below w.heap.size w w' := by
  have HB := Aside0.mk (Below.refl w.heap.size w)
  have H : (if (a0.size : Int) > 1048576 then (some true) else ((spec_EncodeChunks.f k a0 a1).bind fun t139 => ((impl_EncodeChunks.f k a0 a1).bind fun t142 => ((laws_eqStringS.f k t142 t139).bind fun t145 => (if t145 = true then ((laws_markStringS.f k t142 1).bind fun bt146 => ((laws_heldStringS.f k bt146.2 1).bind fun t148 => (if t148 < 0 then (some false) else (if t148 = bt146.1 then ((impl_EncodeChunks.f k a0 a1).bind fun t149 => ((laws_eqStringS.f k t149 t139).bind fun t152 => (if t152 = true then ((laws_heldStringS.f k bt146.2 1).bind fun t153 => (if t153 < 0 then (some false) else (if t153 = bt146.1 then (some true) else (some false)))) else (some false)))) else (some false))))) else (some false)))))) = some true := h
  clear h
  by_cases c3 : (a0.size : Int) > 1048576
  · rw [if_pos c3] at H
    have c3b0 : decide (1048576 < (a0.size : Int)) = true := decide_eq_true c3
    have c3b1 : decide (1048576 < a0.size) = true := decide_eq_true (by omega)
    clear c3
    go_enter Tryd.func7, Tryd.ntmps7
    go_wp2
    go_ret
    exact ⟨by first | rfl | (simp [errW_none, errW_some] <;> rfl) | (simp [*, errW_none, errW_some] <;> rfl), by repeat (first | (with_reducible first | exact HB.out | apply below_alloc | apply pw_below_drewN | apply below_drew1) | exact HB.out)⟩
  · rw [if_neg c3] at H
    have c3b0 : decide (1048576 < (a0.size : Int)) = false := decide_eq_false c3
    have c3b1 : decide (1048576 < a0.size) = false := decide_eq_false (by omega)
    clear c3
    replace H := Option.bind_eq_some_iff.mp H
    obtain ⟨t139, A40, H⟩ := H
    replace H : ((impl_EncodeChunks.f k a0 a1).bind fun t142 => ((laws_eqStringS.f k t142 t139).bind fun t145 => (if t145 = true then ((laws_markStringS.f k t142 1).bind fun bt146 => ((laws_heldStringS.f k bt146.2 1).bind fun t148 => (if t148 < 0 then (some false) else (if t148 = bt146.1 then ((impl_EncodeChunks.f k a0 a1).bind fun t149 => ((laws_eqStringS.f k t149 t139).bind fun t152 => (if t152 = true then ((laws_heldStringS.f k bt146.2 1).bind fun t153 => (if t153 < 0 then (some false) else (if t153 = bt146.1 then (some true) else (some false)))) else (some false)))) else (some false))))) else (some false)))) = some true := H
    have A4 := Aside0.mk A40
    clear A40
    replace H := Option.bind_eq_some_iff.mp H
    obtain ⟨t142, A50, H⟩ := H
    replace H : ((laws_eqStringS.f k t142 t139).bind fun t145 => (if t145 = true then ((laws_markStringS.f k t142 1).bind fun bt146 => ((laws_heldStringS.f k bt146.2 1).bind fun t148 => (if t148 < 0 then (some false) else (if t148 = bt146.1 then ((impl_EncodeChunks.f k a0 a1).bind fun t149 => ((laws_eqStringS.f k t149 t139).bind fun t152 => (if t152 = true then ((laws_heldStringS.f k bt146.2 1).bind fun t153 => (if t153 < 0 then (some false) else (if t153 = bt146.1 then (some true) else (some false)))) else (some false)))) else (some false))))) else (some false))) = some true := H
    have A5 := Aside0.mk A50
    clear A50
    replace H := Option.bind_eq_some_iff.mp H
    obtain ⟨t145, A60, H⟩ := H
    replace H : (if t145 = true then ((laws_markStringS.f k t142 1).bind fun bt146 => ((laws_heldStringS.f k bt146.2 1).bind fun t148 => (if t148 < 0 then (some false) else (if t148 = bt146.1 then ((impl_EncodeChunks.f k a0 a1).bind fun t149 => ((laws_eqStringS.f k t149 t139).bind fun t152 => (if t152 = true then ((laws_heldStringS.f k bt146.2 1).bind fun t153 => (if t153 < 0 then (some false) else (if t153 = bt146.1 then (some true) else (some false)))) else (some false)))) else (some false))))) else (some false)) = some true := H
    have A6 := Aside0.mk A60
    clear A60
    by_cases c7 : t145 = true
    · subst c7
      have H1 : ((laws_markStringS.f k t142 1).bind fun bt146 => ((laws_heldStringS.f k bt146.2 1).bind fun t148 => (if t148 < 0 then (some false) else (if t148 = bt146.1 then ((impl_EncodeChunks.f k a0 a1).bind fun t149 => ((laws_eqStringS.f k t149 t139).bind fun t152 => (if t152 = true then ((laws_heldStringS.f k bt146.2 1).bind fun t153 => (if t153 < 0 then (some false) else (if t153 = bt146.1 then (some true) else (some false)))) else (some false)))) else (some false))))) = some true := by first | (rw [if_pos rfl] at H; exact H) | rfl
      clear H
      have H := H1
      clear H1
      replace H := Option.bind_eq_some_iff.mp H
      obtain ⟨⟨t146, t147⟩, A80, H⟩ := H
      replace H : ((laws_heldStringS.f k t147 1).bind fun t148 => (if t148 < 0 then (some false) else (if t148 = t146 then ((impl_EncodeChunks.f k a0 a1).bind fun t149 => ((laws_eqStringS.f k t149 t139).bind fun t152 => (if t152 = true then ((laws_heldStringS.f k t147 1).bind fun t153 => (if t153 < 0 then (some false) else (if t153 = t146 then (some true) else (some false)))) else (some false)))) else (some false)))) = some true := H
      have A8 := Aside0.mk A80
      clear A80
      replace H := Option.bind_eq_some_iff.mp H
      obtain ⟨t148, A90, H⟩ := H
      replace H : (if t148 < 0 then (some false) else (if t148 = t146 then ((impl_EncodeChunks.f k a0 a1).bind fun t149 => ((laws_eqStringS.f k t149 t139).bind fun t152 => (if t152 = true then ((laws_heldStringS.f k t147 1).bind fun t153 => (if t153 < 0 then (some false) else (if t153 = t146 then (some true) else (some false)))) else (some false)))) else (some false))) = some true := H
      have A9 := Aside0.mk A90
      clear A90
      by_cases c10 : t148 < 0
      · rw [if_pos c10] at H
        have c10b0 : decide (t148 < 0) = true := decide_eq_true c10
        clear c10
        exact absurd H (by simp)
      · rw [if_neg c10] at H
        have c10b0 : decide (t148 < 0) = false := decide_eq_false c10
        clear c10
        by_cases c11 : t148 = t146
        · rw [if_pos c11] at H
          have c11b0 : (t148 == t146) = true := beq_iff_eq.mpr c11
          have c11b1 : (t148 != t146) = false := bne_eq_false_iff_eq.mpr c11
          clear c11
          replace H := Option.bind_eq_some_iff.mp H
          obtain ⟨t149, A120, H⟩ := H
          replace H : ((laws_eqStringS.f k t149 t139).bind fun t152 => (if t152 = true then ((laws_heldStringS.f k t147 1).bind fun t153 => (if t153 < 0 then (some false) else (if t153 = t146 then (some true) else (some false)))) else (some false))) = some true := H
          have A12 := Aside0.mk A120
          clear A120
          replace H := Option.bind_eq_some_iff.mp H
          obtain ⟨t152, A130, H⟩ := H
          replace H : (if t152 = true then ((laws_heldStringS.f k t147 1).bind fun t153 => (if t153 < 0 then (some false) else (if t153 = t146 then (some true) else (some false)))) else (some false)) = some true := H
          have A13 := Aside0.mk A130
          clear A130
          by_cases c14 : t152 = true
          · subst c14
            have H1 : ((laws_heldStringS.f k t147 1).bind fun t153 => (if t153 < 0 then (some false) else (if t153 = t146 then (some true) else (some false)))) = some true := by first | (rw [if_pos rfl] at H; exact H) | rfl
            clear H
            have H := H1
            clear H1
            replace H := Option.bind_eq_some_iff.mp H
            obtain ⟨t153, A150, H⟩ := H
            replace H : (if t153 < 0 then (some false) else (if t153 = t146 then (some true) else (some false))) = some true := H
            have A15 := Aside0.mk A150
            clear A150
            by_cases c16 : t153 < 0
            · rw [if_pos c16] at H
              have c16b0 : decide (t153 < 0) = true := decide_eq_true c16
              clear c16
              exact absurd H (by simp)
            · rw [if_neg c16] at H
              have c16b0 : decide (t153 < 0) = false := decide_eq_false c16
              clear c16
              by_cases c17 : t153 = t146
              · rw [if_pos c17] at H
                have c17b0 : (t153 == t146) = true := beq_iff_eq.mpr c17
                have c17b1 : (t153 != t146) = false := bne_eq_false_iff_eq.mpr c17
                clear c17
                go_enter Tryd.func7, Tryd.ntmps7
                go_wp2_with (first | ((with_reducible refine gate_callee (f := 35) rfl ?_); refine goesL_ (some 15) rfl rfl Tryd.func35 (by kernel_rfl) rfl #[.string a0, .int .i64 a1] rfl (by (try simp only [List.map_toArray, List.map_cons, List.map_nil]); first | done | rfl | (simp only [List.length_drop, List.length_take]; rfl)) ?_; (with_reducible refine (spec_EncodeChunks.calls k a0 a1 t139 _ A4.out).mono ?_); rintro e w18 ⟨v140, rfl, ho0, hb⟩; refine ⟨_, rfl, ?_⟩; have n0_ := Aside0.mk (Kd.R_lower ho0 (below_size (by repeat (first | (with_reducible first | exact HB.out | apply below_alloc | apply pw_below_drewN | apply below_drew1) | exact HB.out)))); have n1_ := Aside0.mk (below_step (by repeat (first | (with_reducible first | exact HB.out | apply below_alloc | apply pw_below_drewN | apply below_drew1) | exact HB.out)) hb); clear HB; have HO141 := n0_; have HB := n1_; clear n0_ n1_; (try clear hb); (try clear hb2); (try clear hk); (try clear hi); (try clear ho0)) | ((with_reducible refine gate_callee (f := 36) rfl ?_); refine goesL_ (some 18) rfl rfl Tryd.func36 (by kernel_rfl) rfl #[.string a0, .int .i64 a1] rfl (by (try simp only [List.map_toArray, List.map_cons, List.map_nil]); first | done | rfl | (simp only [List.length_drop, List.length_take]; rfl)) ?_; (with_reducible refine (impl_EncodeChunks.calls k a0 a1 t142 _ ?side1 A5.out).mono ?_); (case side1 => exact WF_below hWF (by repeat (first | (with_reducible first | exact HB.out | apply below_alloc | apply pw_below_drewN | apply below_drew1) | exact HB.out))); rintro e w19 ⟨v143, rfl, ho0, hb⟩; refine ⟨_, rfl, ?_⟩; have n0_ := Aside0.mk (Kd.R_elder' (by (with_reducible repeat (first | apply Kd.R_alloc | apply Kd.R_drewN | apply Kd.R_drew)); exact HO141.out) (Kd.R_base ho0) hb); have n1_ := Aside0.mk (Kd.R_lower (Kd.R_new' ho0 (Kd.R_lt (by (with_reducible repeat (first | apply Kd.R_alloc | apply Kd.R_drewN | apply Kd.R_drew)); exact HO141.out))) (below_size (by repeat (first | (with_reducible first | exact HB.out | apply below_alloc | apply pw_below_drewN | apply below_drew1) | exact HB.out)))); have n2_ := Aside0.mk (below_step (by repeat (first | (with_reducible first | exact HB.out | apply below_alloc | apply pw_below_drewN | apply below_drew1) | exact HB.out)) hb); clear HO141; clear HB; have HO141 := n0_; have HO144 := n1_; have HB := n2_; clear n0_ n1_ n2_; (try clear hb); (try clear hb2); (try clear hk); (try clear hi); (try clear ho0); obtain ⟨Ao20, co20, eo20⟩ := Kd.R_slice HO144.out; subst eo20; obtain ⟨Ao21, co21, eo21⟩ := Kd.R_slice HO141.out; subst eo21) | ((with_reducible refine gate_callee (f := 37) rfl ?_); refine goesL_ (some 21) rfl rfl Tryd.func37 (by kernel_rfl) rfl #[.slice Ao20 t142.length co20, .slice Ao21 t139.length co21] rfl (by (try simp only [List.map_toArray, List.map_cons, List.map_nil]); first | done | rfl | (simp only [List.length_drop, List.length_take]; rfl)) ?_; (with_reducible refine (laws_eqStringS.calls k _ _ t142 _ _ t139 true _ ?side1 ?side2 ?side3 ?side4 A6.out).mono ?_); (case side1 => repeat (first | exact (Kd.R_reads' HO144.out).2.2 | (with_reducible refine Kd.C_alloc ?_ _) | (with_reducible refine Kd.C_drewN ?_ _) | (with_reducible refine Kd.C_drew ?_))); (case side2 => exact (Kd.R_reads' HO144.out).2.1); (case side3 => repeat (first | exact (Kd.R_reads' HO141.out).2.2 | (with_reducible refine Kd.C_alloc ?_ _) | (with_reducible refine Kd.C_drewN ?_ _) | (with_reducible refine Kd.C_drew ?_))); (case side4 => exact (Kd.R_reads' HO141.out).2.1); rintro e w' ⟨rfl, ⟨nd, rfl⟩⟩; refine ⟨_, rfl, ?_⟩) | ((with_reducible refine gate_callee (f := 38) rfl ?_); refine goesL_ (some 25) rfl rfl Tryd.func38 (by kernel_rfl) rfl #[.slice Ao20 t142.length co20, .int .i64 1] rfl (by (try simp only [List.map_toArray, List.map_cons, List.map_nil]); first | done | rfl | (simp only [List.length_drop, List.length_take]; rfl)) ?_; (with_reducible refine (laws_markStringS.calls k (fun k_ => some k_ = (.slice Ao20 t142.length co20 : Value).ownBlock) (.slice Ao20 t142.length co20) t142 1 t146 t147 w _ ?side1 ?side2 A8.out).mono ?_); (case side1 => repeat (first | (with_reducible first | exact HB.out | apply below_alloc | apply pw_below_drewN | apply below_drew1) | exact HB.out)); (case side2 => exact Kd.R_tight rfl HO144.out); rintro e w22 ⟨rfl, hy0, hb, hkp⟩; refine ⟨_, rfl, ?_⟩; have n0_ := Aside0.mk (Kd.R_mono (ok' := fun k_ => some k_ ≠ (.slice Ao20 t142.length co20 : Value).ownBlock) (Kd.R_keptB (HO141.out) hkp (fun k_ hk_ hs_ => (hk_.2) hs_)) (fun k_ hk_ => hk_.1.2)); have n1_ := Aside0.mk (Kd.R_reok rfl hy0 (fun k_ e_ => HO144.out.1 k_ e_)); have n2_ := Aside0.mk (hb); clear HO141; clear HO144; clear HB; have HO141 := n0_; have HO144 := n1_; have HB := n2_; clear n0_ n1_ n2_; (try clear hb); (try clear hkp); (try clear hy0)) | ((with_reducible refine gate_callee (f := 39) rfl ?_); refine goesL_ (some 28) rfl rfl Tryd.func39 (by kernel_rfl) rfl #[.slice Ao20 t147.length co20, .int .i64 1] rfl (by (try simp only [List.map_toArray, List.map_cons, List.map_nil]); first | done | (rw [show t147.length = t142.length from (Kd.R_reads' HO144.out).1.symm] <;> rfl) | rfl | (simp only [List.length_drop, List.length_take]; rfl)) ?_; (with_reducible refine (laws_heldStringS.calls k _ _ t147 1 t148 _ ?side1 ?side2 A9.out).mono ?_); (case side1 => repeat (first | exact (Kd.R_reads' HO144.out).2.2 | (with_reducible refine Kd.C_alloc ?_ _) | (with_reducible refine Kd.C_drewN ?_ _) | (with_reducible refine Kd.C_drew ?_))); (case side2 => rw [show t147.length = t142.length from (Kd.R_reads' HO144.out).1.symm]; exact (Kd.R_reads' HO144.out).2.1); rintro e w23 ⟨rfl, hb⟩; refine ⟨_, rfl, ?_⟩; have n0_ := Aside0.mk (Kd.R_below (by (with_reducible repeat (first | apply Kd.R_alloc | apply Kd.R_drewN | apply Kd.R_drew)); exact HO141.out) hb); have n1_ := Aside0.mk (Kd.R_below (by (with_reducible repeat (first | apply Kd.R_alloc | apply Kd.R_drewN | apply Kd.R_drew)); exact HO144.out) hb); have n2_ := Aside0.mk (below_step (by repeat (first | (with_reducible first | exact HB.out | apply below_alloc | apply pw_below_drewN | apply below_drew1) | exact HB.out)) hb); clear HO141; clear HO144; clear HB; have HO141 := n0_; have HO144 := n1_; have HB := n2_; clear n0_ n1_ n2_; (try clear hb); (try clear hb2); (try clear hk); (try clear hi)) | ((with_reducible refine gate_callee (f := 36) rfl ?_); refine goesL_ (some 36) rfl rfl Tryd.func36 (by kernel_rfl) rfl #[.string a0, .int .i64 a1] rfl (by (try simp only [List.map_toArray, List.map_cons, List.map_nil]); first | done | rfl | (simp only [List.length_drop, List.length_take]; rfl)) ?_; (with_reducible refine (impl_EncodeChunks.calls k a0 a1 t149 _ ?side1 A12.out).mono ?_); (case side1 => exact WF_below hWF (by repeat (first | (with_reducible first | exact HB.out | apply below_alloc | apply pw_below_drewN | apply below_drew1) | exact HB.out))); rintro e w24 ⟨v150, rfl, ho0, hb⟩; refine ⟨_, rfl, ?_⟩; have n0_ := Aside0.mk (Kd.R_elder' (by (with_reducible repeat (first | apply Kd.R_alloc | apply Kd.R_drewN | apply Kd.R_drew)); exact HO141.out) (Kd.R_base ho0) hb); have n1_ := Aside0.mk (Kd.R_elder' (by (with_reducible repeat (first | apply Kd.R_alloc | apply Kd.R_drewN | apply Kd.R_drew)); exact HO144.out) (Kd.R_base ho0) hb); have n2_ := Aside0.mk (Kd.R_lower (Kd.R_new' (Kd.R_new' ho0 (Kd.R_lt (by (with_reducible repeat (first | apply Kd.R_alloc | apply Kd.R_drewN | apply Kd.R_drew)); exact HO141.out))) (Kd.R_lt (by (with_reducible repeat (first | apply Kd.R_alloc | apply Kd.R_drewN | apply Kd.R_drew)); exact HO144.out))) (below_size (by repeat (first | (with_reducible first | exact HB.out | apply below_alloc | apply pw_below_drewN | apply below_drew1) | exact HB.out)))); have n3_ := Aside0.mk (below_step (by repeat (first | (with_reducible first | exact HB.out | apply below_alloc | apply pw_below_drewN | apply below_drew1) | exact HB.out)) hb); clear HO141; clear HO144; clear HB; have HO141 := n0_; have HO144 := n1_; have HO151 := n2_; have HB := n3_; clear n0_ n1_ n2_ n3_; (try clear hb); (try clear hb2); (try clear hk); (try clear hi); (try clear ho0); obtain ⟨Ao25, co25, eo25⟩ := Kd.R_slice HO151.out; subst eo25) | ((with_reducible refine gate_callee (f := 37) rfl ?_); refine goesL_ (some 39) rfl rfl Tryd.func37 (by kernel_rfl) rfl #[.slice Ao25 t149.length co25, .slice Ao21 t139.length co21] rfl (by (try simp only [List.map_toArray, List.map_cons, List.map_nil]); first | done | rfl | (simp only [List.length_drop, List.length_take]; rfl)) ?_; (with_reducible refine (laws_eqStringS.calls k _ _ t149 _ _ t139 true _ ?side1 ?side2 ?side3 ?side4 A13.out).mono ?_); (case side1 => repeat (first | exact (Kd.R_reads' HO151.out).2.2 | (with_reducible refine Kd.C_alloc ?_ _) | (with_reducible refine Kd.C_drewN ?_ _) | (with_reducible refine Kd.C_drew ?_))); (case side2 => exact (Kd.R_reads' HO151.out).2.1); (case side3 => repeat (first | exact (Kd.R_reads' HO141.out).2.2 | (with_reducible refine Kd.C_alloc ?_ _) | (with_reducible refine Kd.C_drewN ?_ _) | (with_reducible refine Kd.C_drew ?_))); (case side4 => exact (Kd.R_reads' HO141.out).2.1); rintro e w' ⟨rfl, ⟨nd, rfl⟩⟩; refine ⟨_, rfl, ?_⟩) | ((with_reducible refine gate_callee (f := 39) rfl ?_); refine goesL_ (some 43) rfl rfl Tryd.func39 (by kernel_rfl) rfl #[.slice Ao20 t147.length co20, .int .i64 1] rfl (by (try simp only [List.map_toArray, List.map_cons, List.map_nil]); first | done | (rw [show t147.length = t142.length from (Kd.R_reads' HO144.out).1.symm] <;> rfl) | rfl | (simp only [List.length_drop, List.length_take]; rfl)) ?_; (with_reducible refine (laws_heldStringS.calls k _ _ t147 1 t153 _ ?side1 ?side2 A15.out).mono ?_); (case side1 => repeat (first | exact (Kd.R_reads' HO144.out).2.2 | (with_reducible refine Kd.C_alloc ?_ _) | (with_reducible refine Kd.C_drewN ?_ _) | (with_reducible refine Kd.C_drew ?_))); (case side2 => rw [show t147.length = t142.length from (Kd.R_reads' HO144.out).1.symm]; exact (Kd.R_reads' HO144.out).2.1); rintro e w26 ⟨rfl, hb⟩; refine ⟨_, rfl, ?_⟩; have n0_ := Aside0.mk (Kd.R_below (by (with_reducible repeat (first | apply Kd.R_alloc | apply Kd.R_drewN | apply Kd.R_drew)); exact HO141.out) hb); have n1_ := Aside0.mk (Kd.R_below (by (with_reducible repeat (first | apply Kd.R_alloc | apply Kd.R_drewN | apply Kd.R_drew)); exact HO144.out) hb); have n2_ := Aside0.mk (Kd.R_below (by (with_reducible repeat (first | apply Kd.R_alloc | apply Kd.R_drewN | apply Kd.R_drew)); exact HO151.out) hb); have n3_ := Aside0.mk (below_step (by repeat (first | (with_reducible first | exact HB.out | apply below_alloc | apply pw_below_drewN | apply below_drew1) | exact HB.out)) hb); clear HO141; clear HO144; clear HO151; clear HB; have HO141 := n0_; have HO144 := n1_; have HO151 := n2_; have HB := n3_; clear n0_ n1_ n2_ n3_; (try clear hb); (try clear hb2); (try clear hk); (try clear hi)))
                go_ret
                exact ⟨by first | rfl | (simp [errW_none, errW_some] <;> rfl) | (simp [*, errW_none, errW_some] <;> rfl), by repeat (first | (with_reducible first | exact HB.out | apply below_alloc | apply pw_below_drewN | apply below_drew1) | exact HB.out)⟩
              · rw [if_neg c17] at H
                have c17b0 : (t153 == t146) = false := beq_eq_false_iff_ne.mpr c17
                have c17b1 : (t153 != t146) = true := bne_iff_ne.mpr c17
                exact absurd H (by simp)
          · replace c14 := Bool.eq_false_iff.mpr c14
            subst c14
            have H1 : (some false) = some true := by first | (rw [if_neg (show ¬ (false = true) by decide)] at H; exact H) | rfl
            clear H
            have H := H1
            clear H1
            exact absurd H (by simp)
        · rw [if_neg c11] at H
          have c11b0 : (t148 == t146) = false := beq_eq_false_iff_ne.mpr c11
          have c11b1 : (t148 != t146) = true := bne_iff_ne.mpr c11
          exact absurd H (by simp)
    · replace c7 := Bool.eq_false_iff.mpr c7
      subst c7
      have H1 : (some false) = some true := by first | (rw [if_neg (show ¬ (false = true) by decide)] at H; exact H) | rfl
      clear H
      have H := H1
      clear H1
      exact absurd H (by simp)

end Go.Proofs.YtnibkllpodpokaaDoor.B
