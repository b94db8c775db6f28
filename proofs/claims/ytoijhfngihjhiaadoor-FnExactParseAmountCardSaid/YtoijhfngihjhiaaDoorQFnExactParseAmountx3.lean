-- Written by a program of this session out of the translation; Lean checks it.
import Derived.Test.YtoijhfngihjhiaaDoorQFnExactParseAmountx0
import Derived.Test.YtoijhfngihjhiaaDoorQFnExactParseAmountx2
namespace Go.Proofs.YtoijhfngihjhiaaDoor.QFnExactParseAmount
open Go.RowKit Go.Proofs.YtoijhfngihjhiaaDoorW.PrintWords Go.Proofs.YtoijhfngihjhiaaDoorW.PrintLast Go.Proofs.YtoijhfngihjhiaaDoorW.PrintMore
attribute [local go_sem] Instr.field asAgg Own.str_leq Own.str_gtr Own.str_geq
attribute [local go_sem] max2_int min2_int max_two min_two max_three min_three max_four min_four   -- for this text's walks alone
set_option linter.unusedVariables false
set_option linter.unusedSimpArgs false

/-! ### laws_FnExactParseAmount: function 5 -/
def laws_FnExactParseAmount.f (k : Nat) (a0 : ByteArray) : Option (Bool) := if (a0.size : Int) > 1048576 then (some true) else ((spec_ParseAmount.f k a0).bind fun bt116 => ((impl_ParseAmount.f k a0).bind fun bt118 => (if bt118.1 = bt116.1 then (if (bt118.2 != bt116.2) = true then (some false) else (some true)) else (some false))))
theorem laws_FnExactParseAmount.mono : ∀ a0 k, LeO (laws_FnExactParseAmount.f k a0) (laws_FnExactParseAmount.f (k + 1) a0) := by
 intro a0 k
 unfold laws_FnExactParseAmount.f
 repeat' first
   | (with_reducible first | exact impl_ParseAmount.mono _ _ | exact spec_ParseAmount.mono _ _ | exact LeO.refl _ | exact LeO.none _ | refine LeO.ite ?_ ?_ | refine LeO.bind ?_ (fun _ => ?_))
set_option maxHeartbeats 8000000 in
set_option maxRecDepth 100000 in
theorem laws_FnExactParseAmount.calls (k : Nat) (a0 : ByteArray) (r : Bool) (w : World) (hG : Own.Glob w) (h : laws_FnExactParseAmount.f k a0 = some r) (hr_ : Aside0 (r = true)) :
  Calls Tryd.prog 5 #[.string a0] w fun e w' => e = .returned (.bool r) ∧ Below w.heap.size w w' := by
 have HB := Aside0.mk (Below.refl w.heap.size w)
 have HG := Aside0.mk hG
 clear hG
 have H : (if (a0.size : Int) > 1048576 then (some true) else ((spec_ParseAmount.f k a0).bind fun bt116 => ((impl_ParseAmount.f k a0).bind fun bt118 => (if bt118.1 = bt116.1 then (if (bt118.2 != bt116.2) = true then (some false) else (some true)) else (some false))))) = some r := h
 clear h
 by_cases c2 : (a0.size : Int) > 1048576
 ·
  rw [if_pos c2] at H
  have c2b0 : decide (1048576 < (a0.size : Int)) = true := decide_eq_true c2
  have c2b1 : decide (1048576 < a0.size) = true := decide_eq_true (by omega)
  clear c2
  obtain rfl := Option.some.inj H
  go_enter Tryd.func5, Tryd.ntmps5
  go_wp2
  go_ret
  exact ⟨Own.rr, Own.bl⟩
 rw [if_neg c2] at H
 have c2b0 : decide (1048576 < (a0.size : Int)) = false := decide_eq_false c2
 have c2b1 : decide (1048576 < a0.size) = false := decide_eq_false (by omega)
 clear c2
 replace H := Option.bind_eq_some_iff.mp H
 obtain ⟨⟨t116, t117⟩, A30, H⟩ := H
 replace H : ((impl_ParseAmount.f k a0).bind fun bt118 => (if bt118.1 = t116 then (if (bt118.2 != t117) = true then (some false) else (some true)) else (some false))) = some r := H
 have A3 := Aside0.mk A30
 clear A30
 replace H := Option.bind_eq_some_iff.mp H
 obtain ⟨⟨t118, t119⟩, A40, H⟩ := H
 replace H : (if t118 = t116 then (if (t119 != t117) = true then (some false) else (some true)) else (some false)) = some r := H
 have A4 := Aside0.mk A40
 clear A40
 by_cases c5 : t118 = t116
 rotate_left
 ·
  rw [if_neg c5] at H
  have c5b0 : (t118 == t116) = false := beq_eq_false_iff_ne.mpr c5
  have c5b1 : (t118 != t116) = true := bne_iff_ne.mpr c5
  exact absurd (Option.some.inj H) (by rw [hr_.out]; decide)
 rw [if_pos c5] at H
 have c5b0 : (t118 == t116) = true := beq_iff_eq.mpr c5
 have c5b1 : (t118 != t116) = false := bne_eq_false_iff_eq.mpr c5
 clear c5
 by_cases c6 : (t119 != t117) = true
 ·
  rw [if_pos c6] at H
  have c6b0 : (t119 != t117) = true := c6
  (try (have c6b1 : decide (t119 = t117) = false := by simpa using c6))
  (try (have c6b2 : (t119 == t117) = false := by simpa using c6))
  (try (have c6b3 : ¬ (t119 = t117) := by simpa using c6))
  clear c6
  exact absurd (Option.some.inj H) (by rw [hr_.out]; decide)
 rw [if_neg c6] at H
 have c6b0 : (t119 != t117) = false := by simpa using c6
 (try (have c6b1 : decide (t119 = t117) = true := by simpa using c6))
 (try (have c6b2 : (t119 == t117) = true := by simpa using c6))
 clear c6
 obtain rfl := Option.some.inj H
 go_enter Tryd.func5, Tryd.ntmps5
 go_wp2_with (first | ((with_reducible refine gate_callee (f := 10) rfl ?_); refine goesL_ (some 12) rfl rfl Tryd.func10 (by kernel_rfl) rfl #[.string a0] rfl Own.ha ?_; (with_reducible refine (spec_ParseAmount.calls k a0 t116 t117 _ A3.out).mono ?_); rintro e w7 ⟨rfl, hb⟩; refine ⟨_, rfl, ?_⟩; replace HB := Own.bs hb; (try clear hb)) | ((with_reducible refine gate_callee (f := 11) rfl ?_); refine goesL_ (some 17) rfl rfl Tryd.func11 (by kernel_rfl) rfl #[.string a0] rfl Own.ha ?_; (with_reducible refine (impl_ParseAmount.calls k a0 t118 t119 _ ?side1 A4.out).mono ?_); (case side1 => exact Own.gl HG.out); rintro e w8 ⟨rfl, hb⟩; refine ⟨_, rfl, ?_⟩; replace HB := Own.bs hb; (try clear hb)))
 go_ret
 exact ⟨Own.rr, Own.bl⟩

end Go.Proofs.YtoijhfngihjhiaaDoor.QFnExactParseAmount
