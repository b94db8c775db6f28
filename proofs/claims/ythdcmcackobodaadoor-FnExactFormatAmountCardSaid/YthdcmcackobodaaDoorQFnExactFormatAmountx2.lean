-- Written by a program of this session out of the translation; Lean checks it.
import Derived.Test.YthdcmcackobodaaDoorQFnExactFormatAmountx0
import Derived.Test.YthdcmcackobodaaDoorQFnExactFormatAmountx1
namespace Go.Proofs.YthdcmcackobodaaDoor.QFnExactFormatAmount
open Go.RowKit Go.Proofs.YthdcmcackobodaaDoorW.PrintWords Go.Proofs.YthdcmcackobodaaDoorW.PrintLast Go.Proofs.YthdcmcackobodaaDoorW.PrintMore
attribute [local go_sem] Instr.field asAgg
attribute [local go_sem] max2_int min2_int max_two min_two max_three min_three max_four min_four   -- for this text's walks alone
set_option linter.unusedVariables false
set_option linter.unusedSimpArgs false

/-! ### laws_FnExactFormatAmount: function 4 -/
def laws_FnExactFormatAmount.f (k : Nat) (a0 : Int) : Option (Bool) := (spec_FormatAmount.f k a0).bind fun bt117 => ((impl_FormatAmount.f k a0).bind fun bt119 => (if bt119.1.toList = bt117.1.toList then (if (bt119.2 != bt117.2) = true then (some false) else (some true)) else (some false)))
theorem laws_FnExactFormatAmount.mono : ∀ a0 k, LeO (laws_FnExactFormatAmount.f k a0) (laws_FnExactFormatAmount.f (k + 1) a0) := by
  intro a0 k
  unfold laws_FnExactFormatAmount.f
  repeat' first
      | (with_reducible exact impl_FormatAmount.mono _ _)
      | (with_reducible exact spec_FormatAmount.mono _ _)
      | (with_reducible exact LeO.refl _)
      | (with_reducible exact LeO.none _)
      | (with_reducible refine LeO.ite ?_ ?_)
      | (with_reducible refine LeO.bind ?_ (fun _ => ?_))
      | exact impl_FormatAmount.mono _ _
      | exact spec_FormatAmount.mono _ _
      | exact LeO.none _
      | refine LeO.ite ?_ ?_
      | refine LeO.bind ?_ (fun _ => ?_)
set_option maxHeartbeats 8000000 in
set_option maxRecDepth 100000 in
theorem laws_FnExactFormatAmount.calls (k : Nat) (a0 : Int) (r : Bool) (w : World) (hG : Own.Glob w) (h : laws_FnExactFormatAmount.f k a0 = some r) (hr_ : Aside0 (r = true)) :
    Calls Tryd.prog 4 #[.int .i64 a0] w fun e w' => e = .returned (.bool r) ∧ Below w.heap.size w w' := by
  have HB := Aside0.mk (Below.refl w.heap.size w)
  have HG := Aside0.mk hG
  clear hG
  have H : ((spec_FormatAmount.f k a0).bind fun bt117 => ((impl_FormatAmount.f k a0).bind fun bt119 => (if bt119.1.toList = bt117.1.toList then (if (bt119.2 != bt117.2) = true then (some false) else (some true)) else (some false)))) = some r := h
  clear h
  replace H := Option.bind_eq_some_iff.mp H
  obtain ⟨⟨t117, t118⟩, A20, H⟩ := H
  replace H : ((impl_FormatAmount.f k a0).bind fun bt119 => (if bt119.1.toList = t117.toList then (if (bt119.2 != t118) = true then (some false) else (some true)) else (some false))) = some r := H
  have A2 := Aside0.mk A20
  clear A20
  replace H := Option.bind_eq_some_iff.mp H
  obtain ⟨⟨t119, t120⟩, A30, H⟩ := H
  replace H : (if t119.toList = t117.toList then (if (t120 != t118) = true then (some false) else (some true)) else (some false)) = some r := H
  have A3 := Aside0.mk A30
  clear A30
  by_cases c4 : t119.toList = t117.toList
  · rw [if_pos c4] at H
    have c4b0 : (t119.toList == t117.toList) = true := beq_iff_eq.mpr c4
    have c4b1 : (t119.toList != t117.toList) = false := bne_eq_false_iff_eq.mpr c4
    clear c4
    by_cases c5 : (t120 != t118) = true
    · rw [if_pos c5] at H
      have c5b0 : (t120 != t118) = true := c5
      (try (have c5b1 : decide (t120 = t118) = false := by simpa using c5))
      (try (have c5b2 : (t120 == t118) = false := by simpa using c5))
      (try (have c5b3 : ¬ (t120 = t118) := by simpa using c5))
      clear c5
      exact absurd (Option.some.inj H) (by rw [hr_.out]; decide)
    · rw [if_neg c5] at H
      have c5b0 : (t120 != t118) = false := by simpa using c5
      (try (have c5b1 : decide (t120 = t118) = true := by simpa using c5))
      (try (have c5b2 : (t120 == t118) = true := by simpa using c5))
      clear c5
      obtain rfl := Option.some.inj H
      go_enter Tryd.func4, Tryd.ntmps4
      go_wp2_with (first | ((with_reducible refine gate_callee (f := 16) rfl ?_); refine goesL_ (some 9) rfl rfl Tryd.func16 (by kernel_rfl) rfl #[.int .i64 a0] rfl (by (try simp only [List.map_toArray, List.map_cons, List.map_nil]); first | done | rfl | (simp only [List.length_drop, List.length_take]; rfl)) ?_; (with_reducible refine (spec_FormatAmount.calls k a0 t117 t118 _ A2.out).mono ?_); rintro e w6 ⟨rfl, hb⟩; refine ⟨_, rfl, ?_⟩; have n0_ := Aside0.mk (below_step (by repeat (first | (with_reducible first | exact HB.out | apply below_alloc | apply pw_below_drewN | apply below_drew1) | exact HB.out)) hb); clear HB; have HB := n0_; clear n0_; (try clear hb); (try clear hb2); (try clear hk); (try clear hi)) | ((with_reducible refine gate_callee (f := 17) rfl ?_); refine goesL_ (some 14) rfl rfl Tryd.func17 (by kernel_rfl) rfl #[.int .i64 a0] rfl (by (try simp only [List.map_toArray, List.map_cons, List.map_nil]); first | done | rfl | (simp only [List.length_drop, List.length_take]; rfl)) ?_; (with_reducible refine (impl_FormatAmount.calls k a0 t119 t120 _ ?side1 A3.out).mono ?_); (case side1 => first | exact HG.out | exact Own.Glob.drewN HG.out _ | exact Own.Glob.drew HG.out | exact Own.Glob.below HG.out (by repeat (first | (with_reducible first | exact HB.out | apply below_alloc | apply pw_below_drewN | apply below_drew1) | exact HB.out))); rintro e w7 ⟨rfl, hb⟩; refine ⟨_, rfl, ?_⟩; have n0_ := Aside0.mk (below_step (by repeat (first | (with_reducible first | exact HB.out | apply below_alloc | apply pw_below_drewN | apply below_drew1) | exact HB.out)) hb); clear HB; have HB := n0_; clear n0_; (try clear hb); (try clear hb2); (try clear hk); (try clear hi)))
      go_ret
      exact ⟨by first | rfl | (simp [errW_none, errW_some] <;> rfl) | (simp [*, errW_none, errW_some] <;> rfl), by repeat (first | (with_reducible first | exact HB.out | apply below_alloc | apply pw_below_drewN | apply below_drew1) | exact HB.out)⟩
  · rw [if_neg c4] at H
    have c4b0 : (t119.toList == t117.toList) = false := beq_eq_false_iff_ne.mpr c4
    have c4b1 : (t119.toList != t117.toList) = true := bne_iff_ne.mpr c4
    exact absurd (Option.some.inj H) (by rw [hr_.out]; decide)

end Go.Proofs.YthdcmcackobodaaDoor.QFnExactFormatAmount
