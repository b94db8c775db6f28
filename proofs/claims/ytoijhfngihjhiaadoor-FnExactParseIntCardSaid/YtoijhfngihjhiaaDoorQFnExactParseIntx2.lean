-- Written by a program of this session out of the translation; Lean checks it.
import Derived.Test.YtoijhfngihjhiaaDoorQFnExactParseIntx0
import Derived.Test.YtoijhfngihjhiaaDoorQFnExactParseIntx1
namespace Go.Proofs.YtoijhfngihjhiaaDoor.QFnExactParseInt
open Go.RowKit Go.Proofs.YtoijhfngihjhiaaDoorW.PrintWords Go.Proofs.YtoijhfngihjhiaaDoorW.PrintLast Go.Proofs.YtoijhfngihjhiaaDoorW.PrintMore
attribute [local go_sem] Instr.field asAgg Own.str_leq Own.str_gtr Own.str_geq
attribute [local go_sem] max2_int min2_int max_two min_two max_three min_three max_four min_four   -- for this text's walks alone
set_option linter.unusedVariables false
set_option linter.unusedSimpArgs false

/-! ### laws_FnExactParseInt: function 3 -/
def laws_FnExactParseInt.f (k : Nat) (a0 : ByteArray) : Option (Bool) := if (a0.size : Int) > 1048576 then (some true) else ((spec_ParseInt.f k a0).bind fun bt109 => ((impl_ParseInt.f a0).bind fun bt111 => (if bt111.1 = bt109.1 then (if (bt111.2 != bt109.2) = true then (some false) else (some true)) else (some false))))
theorem laws_FnExactParseInt.mono : ∀ a0 k, LeO (laws_FnExactParseInt.f k a0) (laws_FnExactParseInt.f (k + 1) a0) := by
 intro a0 k
 unfold laws_FnExactParseInt.f
 repeat' first
   | (with_reducible first | exact spec_ParseInt.mono _ _ | exact LeO.refl _ | exact LeO.none _ | refine LeO.ite ?_ ?_ | refine LeO.bind ?_ (fun _ => ?_))
set_option maxHeartbeats 8000000 in
set_option maxRecDepth 100000 in
theorem laws_FnExactParseInt.calls (k : Nat) (a0 : ByteArray) (r : Bool) (w : World) (hG : Own.Glob w) (h : laws_FnExactParseInt.f k a0 = some r) (hr_ : Aside0 (r = true)) :
  Calls Tryd.prog 3 #[.string a0] w fun e w' => e = .returned (.bool r) ∧ Below w.heap.size w w' := by
 have HB := Aside0.mk (Below.refl w.heap.size w)
 have HG := Aside0.mk hG
 clear hG
 have H : (if (a0.size : Int) > 1048576 then (some true) else ((spec_ParseInt.f k a0).bind fun bt109 => ((impl_ParseInt.f a0).bind fun bt111 => (if bt111.1 = bt109.1 then (if (bt111.2 != bt109.2) = true then (some false) else (some true)) else (some false))))) = some r := h
 clear h
 by_cases c2 : (a0.size : Int) > 1048576
 ·
  rw [if_pos c2] at H
  have c2b0 : decide (1048576 < (a0.size : Int)) = true := decide_eq_true c2
  have c2b1 : decide (1048576 < a0.size) = true := decide_eq_true (by omega)
  clear c2
  obtain rfl := Option.some.inj H
  go_enter Tryd.func3, Tryd.ntmps3
  go_wp2
  go_ret
  exact ⟨Own.rr, Own.bl⟩
 rw [if_neg c2] at H
 have c2b0 : decide (1048576 < (a0.size : Int)) = false := decide_eq_false c2
 have c2b1 : decide (1048576 < a0.size) = false := decide_eq_false (by omega)
 clear c2
 replace H := Option.bind_eq_some_iff.mp H
 obtain ⟨⟨t109, t110⟩, A30, H⟩ := H
 replace H : ((impl_ParseInt.f a0).bind fun bt111 => (if bt111.1 = t109 then (if (bt111.2 != t110) = true then (some false) else (some true)) else (some false))) = some r := H
 have A3 := Aside0.mk A30
 clear A30
 replace H := Option.bind_eq_some_iff.mp H
 obtain ⟨⟨t111, t112⟩, A40, H⟩ := H
 replace H : (if t111 = t109 then (if (t112 != t110) = true then (some false) else (some true)) else (some false)) = some r := H
 have A4 := Aside0.mk A40
 clear A40
 by_cases c5 : t111 = t109
 rotate_left
 ·
  rw [if_neg c5] at H
  have c5b0 : (t111 == t109) = false := beq_eq_false_iff_ne.mpr c5
  have c5b1 : (t111 != t109) = true := bne_iff_ne.mpr c5
  exact absurd (Option.some.inj H) (by rw [hr_.out]; decide)
 rw [if_pos c5] at H
 have c5b0 : (t111 == t109) = true := beq_iff_eq.mpr c5
 have c5b1 : (t111 != t109) = false := bne_eq_false_iff_eq.mpr c5
 clear c5
 by_cases c6 : (t112 != t110) = true
 ·
  rw [if_pos c6] at H
  have c6b0 : (t112 != t110) = true := c6
  (try (have c6b1 : decide (t112 = t110) = false := by simpa using c6))
  (try (have c6b2 : (t112 == t110) = false := by simpa using c6))
  (try (have c6b3 : ¬ (t112 = t110) := by simpa using c6))
  clear c6
  exact absurd (Option.some.inj H) (by rw [hr_.out]; decide)
 rw [if_neg c6] at H
 have c6b0 : (t112 != t110) = false := by simpa using c6
 (try (have c6b1 : decide (t112 = t110) = true := by simpa using c6))
 (try (have c6b2 : (t112 == t110) = true := by simpa using c6))
 clear c6
 obtain rfl := Option.some.inj H
 go_enter Tryd.func3, Tryd.ntmps3
 go_wp2_with (first | ((with_reducible refine gate_callee (f := 6) rfl ?_); refine goesL_ (some 12) rfl rfl Tryd.func6 (by kernel_rfl) rfl #[.string a0] rfl Own.ha ?_; (with_reducible refine (spec_ParseInt.calls k a0 t109 t110 _ A3.out).mono ?_); rintro e w7 ⟨rfl, hb⟩; refine ⟨_, rfl, ?_⟩; replace HB := Own.bs hb; (try clear hb)) | ((with_reducible refine gate_callee (f := 7) rfl ?_); refine goesL_ (some 17) rfl rfl Tryd.func7 (by kernel_rfl) rfl #[.string a0] rfl Own.ha ?_; (with_reducible refine (impl_ParseInt.calls a0 t111 t112 _ ?side1 A4.out).mono ?_); (case side1 => exact Own.gl HG.out); rintro e w8 ⟨rfl, hb⟩; refine ⟨_, rfl, ?_⟩; replace HB := Own.bs hb; (try clear hb)))
 go_ret
 exact ⟨Own.rr, Own.bl⟩

end Go.Proofs.YtoijhfngihjhiaaDoor.QFnExactParseInt
