-- Written by a program of this session out of the translation; Lean checks it.
import Derived.Test.YtgpphkghgdcamaaQFnMonthsx0
import Derived.Test.YtgpphkghgdcamaaQFnMonthsx1
import Derived.Test.YtgpphkghgdcamaaQFnMonthsx2
import Derived.Test.YtgpphkghgdcamaaQFnMonthsx3
import Derived.Test.YtgpphkghgdcamaaQFnMonthsx4
import Derived.Test.YtgpphkghgdcamaaQFnMonthsx5
namespace Go.Proofs.Ytgpphkghgdcamaa.QFnMonths
open Go.RowKit Go.Proofs.YtgpphkghgdcamaaW.PrintWords Go.Proofs.YtgpphkghgdcamaaW.PrintLast Go.Proofs.YtgpphkghgdcamaaW.PrintMore
attribute [local go_sem] Instr.field asAgg
attribute [local go_sem] max2_int min2_int max_two min_two max_three min_three max_four min_four   -- for this text's walks alone
set_option linter.unusedVariables false
set_option linter.unusedSimpArgs false

/-! ### laws_FnMonths: function 14 -/
def laws_FnMonths.j0 : Nat → List Int → Option (Bool)
  | 0, _ => none
  | k + 1, x0 => (spec_DrawNthWeekday.f k x0).bind fun bt298 => ((impl_NthWeekday.f k bt298.1 bt298.2.1 bt298.2.2.1 bt298.2.2.2).bind fun bt302 => ((spec_NthWeekday.f k bt298.1 bt298.2.1 bt298.2.2.1 bt298.2.2.2).bind fun bt304 => (if (bt302.2 != bt304.2) = true then (some false) else (if bt302.2 = true then ((spec_DateOf.f k bt302.1).bind fun bt306 => ((spec_Weekday.f bt302.1).bind fun bt311 => (if bt306.1 = bt298.1 then (if bt306.2.1 = bt298.2.1 then (if bt311.1 = bt298.2.2.1 then (if bt298.2.2.2 = (-1) then (some true) else (some ((wrap64 (Int.tdiv (wrap64 (bt306.2.2.1 - 1)) 7)) == (wrap64 (bt298.2.2.2 - 1))))) else (some false)) else (some false)) else (some false)))) else (some (bt302.1 == 0))))))
def laws_FnMonths.f (k : Nat) (l0 : List Int) : Option (Bool) := (laws_vBig.f l0).bind fun t279 => (if t279 = true then (some true) else ((spec_DrawAddMonths.f l0).bind fun bt280 => ((impl_AddMonths.f k bt280.1 bt280.2).bind fun bt282 => ((spec_AddMonths.f k bt280.1 bt280.2).bind fun bt284 => (if (bt282.2 != bt284.2) = true then (some false) else (if bt282.2 = true then ((spec_DateOf.f k bt280.1).bind fun bt286 => ((spec_DateOf.f k bt282.1).bind fun bt291 => ((impl_DaysInMonth.f bt291.1 bt291.2.1).bind fun bt296 => (if (wrap64 ((wrap64 (12 * bt291.1)) + bt291.2.1)) = (wrap64 ((wrap64 ((wrap64 (12 * bt286.1)) + bt286.2.1)) + bt280.2)) then (if bt291.2.2.1 = bt286.2.2.1 then (laws_FnMonths.j0 k l0) else (if bt291.2.2.1 = bt296.1 then (if bt286.2.2.1 < bt296.1 then (some false) else (laws_FnMonths.j0 k l0)) else (some false))) else (some false))))) else (laws_FnMonths.j0 k l0)))))))
theorem laws_FnMonths.mono_l : ∀ k, (∀ y0, LeO (laws_FnMonths.j0 k y0) (laws_FnMonths.j0 (k + 1) y0))
  | 0 => fun _ r h => by simp [laws_FnMonths.j0] at h
  | k + 1 => by
    have ih0 := laws_FnMonths.mono_l k
    · intro y0
      unfold laws_FnMonths.j0
      repeat' first
      | (with_reducible exact ih0 _)
      | (with_reducible exact impl_AddMonths.mono _ _ _)
      | (with_reducible exact impl_NthWeekday.mono _ _ _ _ _)
      | (with_reducible exact spec_AddMonths.mono _ _ _)
      | (with_reducible exact spec_DateOf.mono _ _)
      | (with_reducible exact spec_DrawNthWeekday.mono _ _)
      | (with_reducible exact spec_NthWeekday.mono _ _ _ _ _)
      | (with_reducible exact LeO.refl _)
      | (with_reducible exact LeO.none _)
      | (with_reducible refine LeO.ite ?_ ?_)
      | (with_reducible refine LeO.bind ?_ (fun _ => ?_))
      | exact ih0 _
      | exact impl_AddMonths.mono _ _ _
      | exact impl_NthWeekday.mono _ _ _ _ _
      | exact spec_AddMonths.mono _ _ _
      | exact spec_DateOf.mono _ _
      | exact spec_DrawNthWeekday.mono _ _
      | exact spec_NthWeekday.mono _ _ _ _ _
      | exact LeO.none _
      | refine LeO.ite ?_ ?_
      | refine LeO.bind ?_ (fun _ => ?_)
theorem laws_FnMonths.mono : ∀ a0 k, LeO (laws_FnMonths.f k a0) (laws_FnMonths.f (k + 1) a0) := by
  intro a0 k
  have ih0 := laws_FnMonths.mono_l k
  unfold laws_FnMonths.f
  repeat' first
      | (with_reducible exact ih0 _)
      | (with_reducible exact impl_AddMonths.mono _ _ _)
      | (with_reducible exact impl_NthWeekday.mono _ _ _ _ _)
      | (with_reducible exact spec_AddMonths.mono _ _ _)
      | (with_reducible exact spec_DateOf.mono _ _)
      | (with_reducible exact spec_DrawNthWeekday.mono _ _)
      | (with_reducible exact spec_NthWeekday.mono _ _ _ _ _)
      | (with_reducible exact LeO.refl _)
      | (with_reducible exact LeO.none _)
      | (with_reducible refine LeO.ite ?_ ?_)
      | (with_reducible refine LeO.bind ?_ (fun _ => ?_))
      | exact ih0 _
      | exact impl_AddMonths.mono _ _ _
      | exact impl_NthWeekday.mono _ _ _ _ _
      | exact spec_AddMonths.mono _ _ _
      | exact spec_DateOf.mono _ _
      | exact spec_DrawNthWeekday.mono _ _
      | exact spec_NthWeekday.mono _ _ _ _ _
      | exact LeO.none _
      | refine LeO.ite ?_ ?_
      | refine LeO.bind ?_ (fun _ => ?_)
set_option maxHeartbeats 8000000 in
set_option maxRecDepth 100000 in
theorem laws_FnMonths.calls (k : Nat) (A0 : Option Addr) (c0 : Nat) (l0 : List Int) (r : Bool) (w : World) (hr0 : Kd.C (Kd.int .u8) w A0 l0.length l0) (hc0 : l0.length ≤ c0) (h : laws_FnMonths.f k l0 = some r) (hr_ : Aside0 (r = true)) :
    Calls Try.prog 14 #[.slice A0 l0.length c0] w fun e w' => e = .returned (.bool r) ∧ Below w.heap.size w w' := by
  have hu34 := Try.underlying34
  have HR0 := Aside0.mk hr0
  have HC0 := Aside0.mk hc0
  clear hr0 hc0
  have HB := Aside0.mk (Below.refl w.heap.size w)
  have H : ((laws_vBig.f l0).bind fun t279 => (if t279 = true then (some true) else ((spec_DrawAddMonths.f l0).bind fun bt280 => ((impl_AddMonths.f k bt280.1 bt280.2).bind fun bt282 => ((spec_AddMonths.f k bt280.1 bt280.2).bind fun bt284 => (if (bt282.2 != bt284.2) = true then (some false) else (if bt282.2 = true then ((spec_DateOf.f k bt280.1).bind fun bt286 => ((spec_DateOf.f k bt282.1).bind fun bt291 => ((impl_DaysInMonth.f bt291.1 bt291.2.1).bind fun bt296 => (if (wrap64 ((wrap64 (12 * bt291.1)) + bt291.2.1)) = (wrap64 ((wrap64 ((wrap64 (12 * bt286.1)) + bt286.2.1)) + bt280.2)) then (if bt291.2.2.1 = bt286.2.2.1 then (laws_FnMonths.j0 k l0) else (if bt291.2.2.1 = bt296.1 then (if bt286.2.2.1 < bt296.1 then (some false) else (laws_FnMonths.j0 k l0)) else (some false))) else (some false))))) else (laws_FnMonths.j0 k l0)))))))) = some r := h
  clear h
  replace H := Option.bind_eq_some_iff.mp H
  obtain ⟨t279, A20, H⟩ := H
  replace H : (if t279 = true then (some true) else ((spec_DrawAddMonths.f l0).bind fun bt280 => ((impl_AddMonths.f k bt280.1 bt280.2).bind fun bt282 => ((spec_AddMonths.f k bt280.1 bt280.2).bind fun bt284 => (if (bt282.2 != bt284.2) = true then (some false) else (if bt282.2 = true then ((spec_DateOf.f k bt280.1).bind fun bt286 => ((spec_DateOf.f k bt282.1).bind fun bt291 => ((impl_DaysInMonth.f bt291.1 bt291.2.1).bind fun bt296 => (if (wrap64 ((wrap64 (12 * bt291.1)) + bt291.2.1)) = (wrap64 ((wrap64 ((wrap64 (12 * bt286.1)) + bt286.2.1)) + bt280.2)) then (if bt291.2.2.1 = bt286.2.2.1 then (laws_FnMonths.j0 k l0) else (if bt291.2.2.1 = bt296.1 then (if bt286.2.2.1 < bt296.1 then (some false) else (laws_FnMonths.j0 k l0)) else (some false))) else (some false))))) else (laws_FnMonths.j0 k l0))))))) = some r := H
  have A2 := Aside0.mk A20
  clear A20
  by_cases c3 : t279 = true
  · subst c3
    have H1 : (some true) = some r := by rw [if_pos rfl] at H; exact H
    clear H
    have H := H1
    clear H1
    obtain rfl := Option.some.inj H
    go_enter Try.func14, Try.ntmps14
    go_wp2_with (first | ((with_reducible refine gate_callee (f := 37) rfl ?_); refine goesL_ (some 28) rfl rfl Try.func37 (by kernel_rfl) rfl #[.slice A0 l0.length c0] rfl (by (try simp only [List.map_toArray, List.map_cons, List.map_nil]); first | done | rfl | (simp only [List.length_drop, List.length_take]; rfl)) ?_; (with_reducible refine (laws_vBig.calls _ _ l0 true _ ?side1 ?side2 A2.out).mono ?_); (case side1 => repeat (first | exact HR0.out | (with_reducible refine Kd.C_alloc ?_ _) | (with_reducible refine Kd.C_drewN ?_ _) | (with_reducible refine Kd.C_drew ?_))); (case side2 => exact HC0.out); rintro e w' ⟨rfl, ⟨nd, rfl⟩⟩; refine ⟨_, rfl, ?_⟩))
    go_ret
    exact ⟨by first | rfl | (simp [errW_none, errW_some] <;> rfl) | (simp [*, errW_none, errW_some] <;> rfl), by repeat (first | (with_reducible first | exact HB.out | apply below_alloc | apply pw_below_drewN | apply below_drew1) | exact HB.out)⟩
  · replace c3 := Bool.eq_false_iff.mpr c3
    subst c3
    have H1 : ((spec_DrawAddMonths.f l0).bind fun bt280 => ((impl_AddMonths.f k bt280.1 bt280.2).bind fun bt282 => ((spec_AddMonths.f k bt280.1 bt280.2).bind fun bt284 => (if (bt282.2 != bt284.2) = true then (some false) else (if bt282.2 = true then ((spec_DateOf.f k bt280.1).bind fun bt286 => ((spec_DateOf.f k bt282.1).bind fun bt291 => ((impl_DaysInMonth.f bt291.1 bt291.2.1).bind fun bt296 => (if (wrap64 ((wrap64 (12 * bt291.1)) + bt291.2.1)) = (wrap64 ((wrap64 ((wrap64 (12 * bt286.1)) + bt286.2.1)) + bt280.2)) then (if bt291.2.2.1 = bt286.2.2.1 then (laws_FnMonths.j0 k l0) else (if bt291.2.2.1 = bt296.1 then (if bt286.2.2.1 < bt296.1 then (some false) else (laws_FnMonths.j0 k l0)) else (some false))) else (some false))))) else (laws_FnMonths.j0 k l0)))))) = some r := by rw [if_neg (show ¬ (false = true) by decide)] at H; exact H
    clear H
    have H := H1
    clear H1
    replace H := Option.bind_eq_some_iff.mp H
    obtain ⟨⟨t280, t281⟩, A40, H⟩ := H
    replace H : ((impl_AddMonths.f k t280 t281).bind fun bt282 => ((spec_AddMonths.f k t280 t281).bind fun bt284 => (if (bt282.2 != bt284.2) = true then (some false) else (if bt282.2 = true then ((spec_DateOf.f k t280).bind fun bt286 => ((spec_DateOf.f k bt282.1).bind fun bt291 => ((impl_DaysInMonth.f bt291.1 bt291.2.1).bind fun bt296 => (if (wrap64 ((wrap64 (12 * bt291.1)) + bt291.2.1)) = (wrap64 ((wrap64 ((wrap64 (12 * bt286.1)) + bt286.2.1)) + t281)) then (if bt291.2.2.1 = bt286.2.2.1 then (laws_FnMonths.j0 k l0) else (if bt291.2.2.1 = bt296.1 then (if bt286.2.2.1 < bt296.1 then (some false) else (laws_FnMonths.j0 k l0)) else (some false))) else (some false))))) else (laws_FnMonths.j0 k l0))))) = some r := H
    have A4 := Aside0.mk A40
    clear A40
    replace H := Option.bind_eq_some_iff.mp H
    obtain ⟨⟨t282, t283⟩, A50, H⟩ := H
    replace H : ((spec_AddMonths.f k t280 t281).bind fun bt284 => (if (t283 != bt284.2) = true then (some false) else (if t283 = true then ((spec_DateOf.f k t280).bind fun bt286 => ((spec_DateOf.f k t282).bind fun bt291 => ((impl_DaysInMonth.f bt291.1 bt291.2.1).bind fun bt296 => (if (wrap64 ((wrap64 (12 * bt291.1)) + bt291.2.1)) = (wrap64 ((wrap64 ((wrap64 (12 * bt286.1)) + bt286.2.1)) + t281)) then (if bt291.2.2.1 = bt286.2.2.1 then (laws_FnMonths.j0 k l0) else (if bt291.2.2.1 = bt296.1 then (if bt286.2.2.1 < bt296.1 then (some false) else (laws_FnMonths.j0 k l0)) else (some false))) else (some false))))) else (laws_FnMonths.j0 k l0)))) = some r := H
    have A5 := Aside0.mk A50
    clear A50
    replace H := Option.bind_eq_some_iff.mp H
    obtain ⟨⟨t284, t285⟩, A60, H⟩ := H
    replace H : (if (t283 != t285) = true then (some false) else (if t283 = true then ((spec_DateOf.f k t280).bind fun bt286 => ((spec_DateOf.f k t282).bind fun bt291 => ((impl_DaysInMonth.f bt291.1 bt291.2.1).bind fun bt296 => (if (wrap64 ((wrap64 (12 * bt291.1)) + bt291.2.1)) = (wrap64 ((wrap64 ((wrap64 (12 * bt286.1)) + bt286.2.1)) + t281)) then (if bt291.2.2.1 = bt286.2.2.1 then (laws_FnMonths.j0 k l0) else (if bt291.2.2.1 = bt296.1 then (if bt286.2.2.1 < bt296.1 then (some false) else (laws_FnMonths.j0 k l0)) else (some false))) else (some false))))) else (laws_FnMonths.j0 k l0))) = some r := H
    have A6 := Aside0.mk A60
    clear A60
    by_cases c7 : (t283 != t285) = true
    · rw [if_pos c7] at H
      have c7b0 : (t283 != t285) = true := c7
      (try (have c7b1 : decide (t283 = t285) = false := by simpa using c7))
      (try (have c7b2 : (t283 == t285) = false := by simpa using c7))
      (try (have c7b3 : ¬ (t283 = t285) := by simpa using c7))
      clear c7
      exact absurd (Option.some.inj H) (by rw [hr_.out]; decide)
    · rw [if_neg c7] at H
      have c7b0 : (t283 != t285) = false := by simpa using c7
      (try (have c7b1 : decide (t283 = t285) = true := by simpa using c7))
      (try (have c7b2 : (t283 == t285) = true := by simpa using c7))
      clear c7
      have HC8 := Aside0.mk H
      clear H
      go_enter Try.func14, Try.ntmps14
      go_upto_if 49 with (first | ((with_reducible refine gate_callee (f := 37) rfl ?_); refine goesL_ (some 28) rfl rfl Try.func37 (by kernel_rfl) rfl #[.slice A0 l0.length c0] rfl (by (try simp only [List.map_toArray, List.map_cons, List.map_nil]); first | done | rfl | (simp only [List.length_drop, List.length_take]; rfl)) ?_; (with_reducible refine (laws_vBig.calls _ _ l0 false _ ?side1 ?side2 A2.out).mono ?_); (case side1 => repeat (first | exact HR0.out | (with_reducible refine Kd.C_alloc ?_ _) | (with_reducible refine Kd.C_drewN ?_ _) | (with_reducible refine Kd.C_drew ?_))); (case side2 => exact HC0.out); rintro e w' ⟨rfl, ⟨nd, rfl⟩⟩; refine ⟨_, rfl, ?_⟩) | ((with_reducible refine gate_callee (f := 38) rfl ?_); refine goesL_ (some 31) rfl rfl Try.func38 (by kernel_rfl) rfl #[.slice A0 l0.length c0] rfl (by (try simp only [List.map_toArray, List.map_cons, List.map_nil]); first | done | rfl | (simp only [List.length_drop, List.length_take]; rfl)) ?_; (with_reducible refine (spec_DrawAddMonths.calls _ _ l0 t280 t281 _ ?side1 ?side2 A4.out).mono ?_); (case side1 => repeat (first | exact HR0.out | (with_reducible refine Kd.C_alloc ?_ _) | (with_reducible refine Kd.C_drewN ?_ _) | (with_reducible refine Kd.C_drew ?_))); (case side2 => exact HC0.out); rintro e w9 ⟨rfl, hb⟩; refine ⟨_, rfl, ?_⟩; have n0_ := Aside0.mk (below_step (by repeat (first | (with_reducible first | exact HB.out | apply below_alloc | apply pw_below_drewN | apply below_drew1) | exact HB.out)) hb); clear HB; have HB := n0_; clear n0_; (try clear hb); (try clear hb2); (try clear hk); (try clear hi)) | ((with_reducible refine gate_callee (f := 36) rfl ?_); refine goesL_ (some 37) rfl rfl Try.func36 (by kernel_rfl) rfl #[.int .i64 t280, .int .i64 t281] rfl (by (try simp only [List.map_toArray, List.map_cons, List.map_nil]); first | done | rfl | (simp only [List.length_drop, List.length_take]; rfl)) ?_; (with_reducible refine (impl_AddMonths.calls k t280 t281 t282 t283 _ A5.out).mono ?_); rintro e w10 ⟨rfl, hb⟩; refine ⟨_, rfl, ?_⟩; have n0_ := Aside0.mk (below_step (by repeat (first | (with_reducible first | exact HB.out | apply below_alloc | apply pw_below_drewN | apply below_drew1) | exact HB.out)) hb); clear HB; have HB := n0_; clear n0_; (try clear hb); (try clear hb2); (try clear hk); (try clear hi)) | ((with_reducible refine gate_callee (f := 35) rfl ?_); refine goesL_ (some 43) rfl rfl Try.func35 (by kernel_rfl) rfl #[.int .i64 t280, .int .i64 t281] rfl (by (try simp only [List.map_toArray, List.map_cons, List.map_nil]); first | done | rfl | (simp only [List.length_drop, List.length_take]; rfl)) ?_; (with_reducible refine (spec_AddMonths.calls k t280 t281 t284 t285 _ A6.out).mono ?_); rintro e w11 ⟨rfl, hb⟩; refine ⟨_, rfl, ?_⟩; have n0_ := Aside0.mk (below_step (by repeat (first | (with_reducible first | exact HB.out | apply below_alloc | apply pw_below_drewN | apply below_drew1) | exact HB.out)) hb); clear HB; have HB := n0_; clear n0_; (try clear hb); (try clear hb2); (try clear hk); (try clear hi)))
      (try simp only [Act.put, List.setIfInBounds_toArray, List.set_cons_zero, List.set_cons_succ])
      go_cut [] (fun wc => ∃ (kq : Nat), Aside0 (laws_FnMonths.j0 kq l0 = some r) ∧ Aside0 (kq ≤ k) ∧ Aside0 (Below w.heap.size w wc))
      case first =>
        have H := HC8.out
        clear HC8
        by_cases c12 : t283 = true
        · subst c12
          have H1 : ((spec_DateOf.f k t280).bind fun bt286 => ((spec_DateOf.f k t282).bind fun bt291 => ((impl_DaysInMonth.f bt291.1 bt291.2.1).bind fun bt296 => (if (wrap64 ((wrap64 (12 * bt291.1)) + bt291.2.1)) = (wrap64 ((wrap64 ((wrap64 (12 * bt286.1)) + bt286.2.1)) + t281)) then (if bt291.2.2.1 = bt286.2.2.1 then (laws_FnMonths.j0 k l0) else (if bt291.2.2.1 = bt296.1 then (if bt286.2.2.1 < bt296.1 then (some false) else (laws_FnMonths.j0 k l0)) else (some false))) else (some false))))) = some r := by rw [if_pos rfl] at H; exact H
          clear H
          have H := H1
          clear H1
          replace H := Option.bind_eq_some_iff.mp H
          obtain ⟨⟨t286, t287, t288, t289⟩, A130, H⟩ := H
          replace H : ((spec_DateOf.f k t282).bind fun bt291 => ((impl_DaysInMonth.f bt291.1 bt291.2.1).bind fun bt296 => (if (wrap64 ((wrap64 (12 * bt291.1)) + bt291.2.1)) = (wrap64 ((wrap64 ((wrap64 (12 * t286)) + t287)) + t281)) then (if bt291.2.2.1 = t288 then (laws_FnMonths.j0 k l0) else (if bt291.2.2.1 = bt296.1 then (if t288 < bt296.1 then (some false) else (laws_FnMonths.j0 k l0)) else (some false))) else (some false)))) = some r := H
          have A13 := Aside0.mk A130
          clear A130
          replace H := Option.bind_eq_some_iff.mp H
          obtain ⟨⟨t291, t292, t293, t294⟩, A140, H⟩ := H
          replace H : ((impl_DaysInMonth.f t291 t292).bind fun bt296 => (if (wrap64 ((wrap64 (12 * t291)) + t292)) = (wrap64 ((wrap64 ((wrap64 (12 * t286)) + t287)) + t281)) then (if t293 = t288 then (laws_FnMonths.j0 k l0) else (if t293 = bt296.1 then (if t288 < bt296.1 then (some false) else (laws_FnMonths.j0 k l0)) else (some false))) else (some false))) = some r := H
          have A14 := Aside0.mk A140
          clear A140
          replace H := Option.bind_eq_some_iff.mp H
          obtain ⟨⟨t296, t297⟩, A150, H⟩ := H
          replace H : (if (wrap64 ((wrap64 (12 * t291)) + t292)) = (wrap64 ((wrap64 ((wrap64 (12 * t286)) + t287)) + t281)) then (if t293 = t288 then (laws_FnMonths.j0 k l0) else (if t293 = t296 then (if t288 < t296 then (some false) else (laws_FnMonths.j0 k l0)) else (some false))) else (some false)) = some r := H
          have A15 := Aside0.mk A150
          clear A150
          by_cases c16 : (wrap64 ((wrap64 (12 * t291)) + t292)) = (wrap64 ((wrap64 ((wrap64 (12 * t286)) + t287)) + t281))
          · rw [if_pos c16] at H
            have c16b0 : ((wrap64 ((wrap64 (12 * t291)) + t292)) == (wrap64 ((wrap64 ((wrap64 (12 * t286)) + t287)) + t281))) = true := beq_iff_eq.mpr c16
            have c16b1 : ((wrap64 ((wrap64 (12 * t291)) + t292)) != (wrap64 ((wrap64 ((wrap64 (12 * t286)) + t287)) + t281))) = false := bne_eq_false_iff_eq.mpr c16
            clear c16
            (first | rw [c16b0] | (simp only [i64_w, i32_w]; rw [c16b0]) | skip)
            by_cases c17 : t293 = t288
            · rw [if_pos c17] at H
              have c17b0 : (t293 == t288) = true := beq_iff_eq.mpr c17
              have c17b1 : (t293 != t288) = false := bne_eq_false_iff_eq.mpr c17
              clear c17
              have H' := Aside0.mk H
              clear H
              go_wp2_with (first | ((with_reducible refine gate_callee (f := 30) rfl ?_); refine goesL_ (some 52) rfl rfl Try.func30 (by kernel_rfl) rfl #[.int .i64 t280] rfl (by (try simp only [List.map_toArray, List.map_cons, List.map_nil]); first | done | rfl | (simp only [List.length_drop, List.length_take]; rfl)) ?_; (with_reducible refine (spec_DateOf.calls k t280 t286 t287 t288 t289 _ A13.out).mono ?_); rintro e w18 ⟨rfl, hb⟩; refine ⟨_, rfl, ?_⟩; have n0_ := Aside0.mk (below_step (by repeat (first | (with_reducible first | exact HB.out | apply below_alloc | apply pw_below_drewN | apply below_drew1) | exact HB.out)) hb); clear HB; have HB := n0_; clear n0_; (try clear hb); (try clear hb2); (try clear hk); (try clear hi)) | ((with_reducible refine gate_dst (N := 9) rfl ?_); refine box_event ?hg (N := 9) ?hd (cs := #[.int .i64 0, .int .i64 0, .int .i64 0]) (t := 34) ?hr ?_; (case hd => rfl); (case hg => rfl); (case hr => first | (go_simp; done) | (go_simp; rfl)); intro gb290 hg w19 hbox hb; have n0_ := Aside0.mk (below_step (by repeat (first | (with_reducible first | exact HB.out | apply below_alloc | apply pw_below_drewN | apply below_drew1) | exact HB.out)) hb); have n1_ := Aside0.mk (hbox); have n2_ := Aside0.mk ((by rw [hg]; exact (below_size (by repeat (first | (with_reducible first | exact HB.out | apply below_alloc | apply pw_below_drewN | apply below_drew1) | exact HB.out))) : w.heap.size ≤ gb290)); have n3_ := Aside0.mk ((by rw [hg]; exact (below_size (by repeat (first | (with_reducible first | exact HB.out | apply below_alloc | apply pw_below_drewN | apply below_drew1) | exact HB.out))) : w.heap.size ≤ gb290)); clear HB; have HB := n0_; have BK290 := n1_; have GW290 := n2_; have GE290 := n3_; clear n0_ n1_ n2_ n3_; clear hb hbox hg; have hcz20_0 : w19.cell? ⟨gb290, 0, none⟩ = some (.int .i64 0) := (blk_cell BK290.out 0).trans rfl; have hcz20_1 : w19.cell? ⟨gb290, 1, none⟩ = some (.int .i64 0) := (blk_cell BK290.out 1).trans rfl; have hcz20_2 : w19.cell? ⟨gb290, 2, none⟩ = some (.int .i64 0) := (blk_cell BK290.out 2).trans rfl; have hfz20_0 := blk_frozen BK290.out 0; have hfz20_1 := blk_frozen BK290.out 1; have hfz20_2 := blk_frozen BK290.out 2) | ((with_reducible refine gate_callee (f := 30) rfl ?_); refine goesL_ (some 57) rfl rfl Try.func30 (by kernel_rfl) rfl #[.int .i64 t282] rfl (by (try simp only [List.map_toArray, List.map_cons, List.map_nil]); first | done | rfl | (simp only [List.length_drop, List.length_take]; rfl)) ?_; (with_reducible refine (spec_DateOf.calls k t282 t291 t292 t293 t294 _ A14.out).mono ?_); rintro e w21 ⟨rfl, hb⟩; refine ⟨_, rfl, ?_⟩; have n0_ := Aside0.mk (blk_below (g := gb290) (o := .cells #[.int .i64 t286, .int .i64 t287, .int .i64 t288] 34 (0, 0)) (by (with_reducible repeat (first | refine blk_drewN ?_ _ | refine blk_drew ?_ | refine blk_alloc ?_ _)); refine blk_put (cs := #[.int .i64 t286, .int .i64 t287, .int .i64 0]) ?_ 2 _ rfl; (with_reducible repeat (first | refine blk_drewN ?_ _ | refine blk_drew ?_ | refine blk_alloc ?_ _)); refine blk_put (cs := #[.int .i64 t286, .int .i64 0, .int .i64 0]) ?_ 1 _ rfl; (with_reducible repeat (first | refine blk_drewN ?_ _ | refine blk_drew ?_ | refine blk_alloc ?_ _)); refine blk_put (cs := #[.int .i64 0, .int .i64 0, .int .i64 0]) ?_ 0 _ rfl; (with_reducible repeat (first | refine blk_drewN ?_ _ | refine blk_drew ?_ | refine blk_alloc ?_ _)); exact BK290.out) hb); have n1_ := Aside0.mk (below_step (by repeat (first | (with_reducible first | exact HB.out | apply below_alloc | apply pw_below_drewN | apply below_drew1 | refine below_set ?_ GE290.out) | exact HB.out)) hb); clear BK290; clear HB; have BK290 := n0_; have HB := n1_; clear n0_ n1_; (try clear hb); (try clear hb2); (try clear hk); (try clear hi)) | ((with_reducible refine gate_dst (N := 11) rfl ?_); refine box_event ?hg (N := 11) ?hd (cs := #[.int .i64 0, .int .i64 0, .int .i64 0]) (t := 34) ?hr ?_; (case hd => rfl); (case hg => rfl); (case hr => first | (go_simp; done) | (go_simp; rfl)); intro gb295 hg w22 hbox hb; have n0_ := Aside0.mk (blk_below (g := gb290) (o := .cells #[.int .i64 t286, .int .i64 t287, .int .i64 t288] 34 (0, 0)) (by (with_reducible repeat (first | refine blk_drewN ?_ _ | refine blk_drew ?_ | refine blk_alloc ?_ _)); exact BK290.out) hb); have n1_ := Aside0.mk (below_step (by repeat (first | (with_reducible first | exact HB.out | apply below_alloc | apply pw_below_drewN | apply below_drew1 | refine below_set ?_ GE290.out) | exact HB.out)) hb); have n2_ := Aside0.mk (hbox); have n3_ := Aside0.mk ((by rw [hg]; exact (below_size (by repeat (first | (with_reducible first | exact HB.out | apply below_alloc | apply pw_below_drewN | apply below_drew1 | refine below_set ?_ GE290.out) | exact HB.out))) : w.heap.size ≤ gb295)); have n4_ := Aside0.mk ((by rw [hg]; exact (below_size (by repeat (first | (with_reducible first | exact HB.out | apply below_alloc | apply pw_below_drewN | apply below_drew1 | refine below_set ?_ GE290.out) | exact HB.out))) : w.heap.size ≤ gb295)); have n5_ := Aside0.mk ((by rw [hg]; exact Nat.ne_of_lt (blk_lt (g := gb290) (o := .cells #[.int .i64 t286, .int .i64 t287, .int .i64 t288] 34 (0, 0)) (by (with_reducible repeat (first | refine blk_drewN ?_ _ | refine blk_drew ?_ | refine blk_alloc ?_ _)); exact BK290.out)) : gb290 ≠ gb295)); have n6_ := Aside0.mk ((by rw [hg]; exact Nat.ne_of_gt (blk_lt (g := gb290) (o := .cells #[.int .i64 t286, .int .i64 t287, .int .i64 t288] 34 (0, 0)) (by (with_reducible repeat (first | refine blk_drewN ?_ _ | refine blk_drew ?_ | refine blk_alloc ?_ _)); exact BK290.out)) : gb295 ≠ gb290)); clear BK290; clear HB; have BK290 := n0_; have HB := n1_; have BK295 := n2_; have GW295 := n3_; have GE295 := n4_; have NB290_295 := n5_; have NB295_290 := n6_; clear n0_ n1_ n2_ n3_ n4_ n5_ n6_; clear hb hbox hg; have hnb23 := NB295_290.out; have hnc23 := NB290_295.out; have hcz24_0 : w22.cell? ⟨gb295, 0, none⟩ = some (.int .i64 0) := (blk_cell BK295.out 0).trans rfl; have hcz24_1 : w22.cell? ⟨gb295, 1, none⟩ = some (.int .i64 0) := (blk_cell BK295.out 1).trans rfl; have hcz24_2 : w22.cell? ⟨gb295, 2, none⟩ = some (.int .i64 0) := (blk_cell BK295.out 2).trans rfl; have hfz24_0 := blk_frozen BK295.out 0; have hfz24_1 := blk_frozen BK295.out 1; have hfz24_2 := blk_frozen BK295.out 2) | ((with_reducible refine gate_callee (f := 22) rfl ?_); refine goesL_ (some 65) rfl rfl Try.func22 (by kernel_rfl) rfl #[.int .i64 t291, .int .i64 t292] rfl (by (try simp only [List.map_toArray, List.map_cons, List.map_nil]); first | done | rfl | (simp only [List.length_drop, List.length_take]; rfl)) ?_; (with_reducible refine (impl_DaysInMonth.calls t291 t292 t296 t297 _ A15.out).mono ?_); rintro e w' ⟨rfl, ⟨nd, rfl⟩⟩; refine ⟨_, rfl, ?_⟩; have hcz25_0 : w22.cell? ⟨gb290, 0, none⟩ = some (.int .i64 t286) := (blk_cell BK290.out 0).trans rfl; have hcz25_1 : w22.cell? ⟨gb290, 1, none⟩ = some (.int .i64 t287) := (blk_cell BK290.out 1).trans rfl; have hcz25_2 : w22.cell? ⟨gb290, 2, none⟩ = some (.int .i64 t288) := (blk_cell BK290.out 2).trans rfl; have hfz25_0 := blk_frozen BK290.out 0; have hfz25_1 := blk_frozen BK290.out 1; have hfz25_2 := blk_frozen BK290.out 2))
              go_meet
              case rel => exact ⟨_, H', ⟨by first | omega | exact Nat.le_refl _⟩, ⟨by repeat (first | (with_reducible first | exact HB.out | apply below_alloc | apply pw_below_drewN | apply below_drew1 | refine below_set ?_ GE290.out | refine below_set ?_ GE295.out) | exact HB.out)⟩⟩
            · rw [if_neg c17] at H
              have c17b0 : (t293 == t288) = false := beq_eq_false_iff_ne.mpr c17
              have c17b1 : (t293 != t288) = true := bne_iff_ne.mpr c17
              by_cases c26 : t293 = t296
              · rw [if_pos c26] at H
                have c26b0 : (t293 == t296) = true := beq_iff_eq.mpr c26
                have c26b1 : (t293 != t296) = false := bne_eq_false_iff_eq.mpr c26
                clear c26
                by_cases c27 : t288 < t296
                · rw [if_pos c27] at H
                  have c27b0 : decide (t288 < t296) = true := decide_eq_true c27
                  clear c27
                  exact absurd (Option.some.inj H) (by rw [hr_.out]; decide)
                · rw [if_neg c27] at H
                  have c27b0 : decide (t288 < t296) = false := decide_eq_false c27
                  clear c27
                  have H' := Aside0.mk H
                  clear H
                  go_wp2_with (first | ((with_reducible refine gate_callee (f := 30) rfl ?_); refine goesL_ (some 52) rfl rfl Try.func30 (by kernel_rfl) rfl #[.int .i64 t280] rfl (by (try simp only [List.map_toArray, List.map_cons, List.map_nil]); first | done | rfl | (simp only [List.length_drop, List.length_take]; rfl)) ?_; (with_reducible refine (spec_DateOf.calls k t280 t286 t287 t288 t289 _ A13.out).mono ?_); rintro e w28 ⟨rfl, hb⟩; refine ⟨_, rfl, ?_⟩; have n0_ := Aside0.mk (below_step (by repeat (first | (with_reducible first | exact HB.out | apply below_alloc | apply pw_below_drewN | apply below_drew1) | exact HB.out)) hb); clear HB; have HB := n0_; clear n0_; (try clear hb); (try clear hb2); (try clear hk); (try clear hi)) | ((with_reducible refine gate_dst (N := 9) rfl ?_); refine box_event ?hg (N := 9) ?hd (cs := #[.int .i64 0, .int .i64 0, .int .i64 0]) (t := 34) ?hr ?_; (case hd => rfl); (case hg => rfl); (case hr => first | (go_simp; done) | (go_simp; rfl)); intro gb290 hg w29 hbox hb; have n0_ := Aside0.mk (below_step (by repeat (first | (with_reducible first | exact HB.out | apply below_alloc | apply pw_below_drewN | apply below_drew1) | exact HB.out)) hb); have n1_ := Aside0.mk (hbox); have n2_ := Aside0.mk ((by rw [hg]; exact (below_size (by repeat (first | (with_reducible first | exact HB.out | apply below_alloc | apply pw_below_drewN | apply below_drew1) | exact HB.out))) : w.heap.size ≤ gb290)); have n3_ := Aside0.mk ((by rw [hg]; exact (below_size (by repeat (first | (with_reducible first | exact HB.out | apply below_alloc | apply pw_below_drewN | apply below_drew1) | exact HB.out))) : w.heap.size ≤ gb290)); clear HB; have HB := n0_; have BK290 := n1_; have GW290 := n2_; have GE290 := n3_; clear n0_ n1_ n2_ n3_; clear hb hbox hg; have hcz30_0 : w29.cell? ⟨gb290, 0, none⟩ = some (.int .i64 0) := (blk_cell BK290.out 0).trans rfl; have hcz30_1 : w29.cell? ⟨gb290, 1, none⟩ = some (.int .i64 0) := (blk_cell BK290.out 1).trans rfl; have hcz30_2 : w29.cell? ⟨gb290, 2, none⟩ = some (.int .i64 0) := (blk_cell BK290.out 2).trans rfl; have hfz30_0 := blk_frozen BK290.out 0; have hfz30_1 := blk_frozen BK290.out 1; have hfz30_2 := blk_frozen BK290.out 2) | ((with_reducible refine gate_callee (f := 30) rfl ?_); refine goesL_ (some 57) rfl rfl Try.func30 (by kernel_rfl) rfl #[.int .i64 t282] rfl (by (try simp only [List.map_toArray, List.map_cons, List.map_nil]); first | done | rfl | (simp only [List.length_drop, List.length_take]; rfl)) ?_; (with_reducible refine (spec_DateOf.calls k t282 t291 t292 t293 t294 _ A14.out).mono ?_); rintro e w31 ⟨rfl, hb⟩; refine ⟨_, rfl, ?_⟩; have n0_ := Aside0.mk (blk_below (g := gb290) (o := .cells #[.int .i64 t286, .int .i64 t287, .int .i64 t288] 34 (0, 0)) (by (with_reducible repeat (first | refine blk_drewN ?_ _ | refine blk_drew ?_ | refine blk_alloc ?_ _)); refine blk_put (cs := #[.int .i64 t286, .int .i64 t287, .int .i64 0]) ?_ 2 _ rfl; (with_reducible repeat (first | refine blk_drewN ?_ _ | refine blk_drew ?_ | refine blk_alloc ?_ _)); refine blk_put (cs := #[.int .i64 t286, .int .i64 0, .int .i64 0]) ?_ 1 _ rfl; (with_reducible repeat (first | refine blk_drewN ?_ _ | refine blk_drew ?_ | refine blk_alloc ?_ _)); refine blk_put (cs := #[.int .i64 0, .int .i64 0, .int .i64 0]) ?_ 0 _ rfl; (with_reducible repeat (first | refine blk_drewN ?_ _ | refine blk_drew ?_ | refine blk_alloc ?_ _)); exact BK290.out) hb); have n1_ := Aside0.mk (below_step (by repeat (first | (with_reducible first | exact HB.out | apply below_alloc | apply pw_below_drewN | apply below_drew1 | refine below_set ?_ GE290.out) | exact HB.out)) hb); clear BK290; clear HB; have BK290 := n0_; have HB := n1_; clear n0_ n1_; (try clear hb); (try clear hb2); (try clear hk); (try clear hi)) | ((with_reducible refine gate_dst (N := 11) rfl ?_); refine box_event ?hg (N := 11) ?hd (cs := #[.int .i64 0, .int .i64 0, .int .i64 0]) (t := 34) ?hr ?_; (case hd => rfl); (case hg => rfl); (case hr => first | (go_simp; done) | (go_simp; rfl)); intro gb295 hg w32 hbox hb; have n0_ := Aside0.mk (blk_below (g := gb290) (o := .cells #[.int .i64 t286, .int .i64 t287, .int .i64 t288] 34 (0, 0)) (by (with_reducible repeat (first | refine blk_drewN ?_ _ | refine blk_drew ?_ | refine blk_alloc ?_ _)); exact BK290.out) hb); have n1_ := Aside0.mk (below_step (by repeat (first | (with_reducible first | exact HB.out | apply below_alloc | apply pw_below_drewN | apply below_drew1 | refine below_set ?_ GE290.out) | exact HB.out)) hb); have n2_ := Aside0.mk (hbox); have n3_ := Aside0.mk ((by rw [hg]; exact (below_size (by repeat (first | (with_reducible first | exact HB.out | apply below_alloc | apply pw_below_drewN | apply below_drew1 | refine below_set ?_ GE290.out) | exact HB.out))) : w.heap.size ≤ gb295)); have n4_ := Aside0.mk ((by rw [hg]; exact (below_size (by repeat (first | (with_reducible first | exact HB.out | apply below_alloc | apply pw_below_drewN | apply below_drew1 | refine below_set ?_ GE290.out) | exact HB.out))) : w.heap.size ≤ gb295)); have n5_ := Aside0.mk ((by rw [hg]; exact Nat.ne_of_lt (blk_lt (g := gb290) (o := .cells #[.int .i64 t286, .int .i64 t287, .int .i64 t288] 34 (0, 0)) (by (with_reducible repeat (first | refine blk_drewN ?_ _ | refine blk_drew ?_ | refine blk_alloc ?_ _)); exact BK290.out)) : gb290 ≠ gb295)); have n6_ := Aside0.mk ((by rw [hg]; exact Nat.ne_of_gt (blk_lt (g := gb290) (o := .cells #[.int .i64 t286, .int .i64 t287, .int .i64 t288] 34 (0, 0)) (by (with_reducible repeat (first | refine blk_drewN ?_ _ | refine blk_drew ?_ | refine blk_alloc ?_ _)); exact BK290.out)) : gb295 ≠ gb290)); clear BK290; clear HB; have BK290 := n0_; have HB := n1_; have BK295 := n2_; have GW295 := n3_; have GE295 := n4_; have NB290_295 := n5_; have NB295_290 := n6_; clear n0_ n1_ n2_ n3_ n4_ n5_ n6_; clear hb hbox hg; have hnb33 := NB295_290.out; have hnc33 := NB290_295.out; have hcz34_0 : w32.cell? ⟨gb295, 0, none⟩ = some (.int .i64 0) := (blk_cell BK295.out 0).trans rfl; have hcz34_1 : w32.cell? ⟨gb295, 1, none⟩ = some (.int .i64 0) := (blk_cell BK295.out 1).trans rfl; have hcz34_2 : w32.cell? ⟨gb295, 2, none⟩ = some (.int .i64 0) := (blk_cell BK295.out 2).trans rfl; have hfz34_0 := blk_frozen BK295.out 0; have hfz34_1 := blk_frozen BK295.out 1; have hfz34_2 := blk_frozen BK295.out 2) | ((with_reducible refine gate_callee (f := 22) rfl ?_); refine goesL_ (some 65) rfl rfl Try.func22 (by kernel_rfl) rfl #[.int .i64 t291, .int .i64 t292] rfl (by (try simp only [List.map_toArray, List.map_cons, List.map_nil]); first | done | rfl | (simp only [List.length_drop, List.length_take]; rfl)) ?_; (with_reducible refine (impl_DaysInMonth.calls t291 t292 t296 t297 _ A15.out).mono ?_); rintro e w' ⟨rfl, ⟨nd, rfl⟩⟩; refine ⟨_, rfl, ?_⟩; have hcz35_0 : w32.cell? ⟨gb290, 0, none⟩ = some (.int .i64 t286) := (blk_cell BK290.out 0).trans rfl; have hcz35_1 : w32.cell? ⟨gb290, 1, none⟩ = some (.int .i64 t287) := (blk_cell BK290.out 1).trans rfl; have hcz35_2 : w32.cell? ⟨gb290, 2, none⟩ = some (.int .i64 t288) := (blk_cell BK290.out 2).trans rfl; have hfz35_0 := blk_frozen BK290.out 0; have hfz35_1 := blk_frozen BK290.out 1; have hfz35_2 := blk_frozen BK290.out 2))
                  go_meet
                  case rel => exact ⟨_, H', ⟨by first | omega | exact Nat.le_refl _⟩, ⟨by repeat (first | (with_reducible first | exact HB.out | apply below_alloc | apply pw_below_drewN | apply below_drew1 | refine below_set ?_ GE290.out | refine below_set ?_ GE295.out) | exact HB.out)⟩⟩
              · rw [if_neg c26] at H
                have c26b0 : (t293 == t296) = false := beq_eq_false_iff_ne.mpr c26
                have c26b1 : (t293 != t296) = true := bne_iff_ne.mpr c26
                exact absurd (Option.some.inj H) (by rw [hr_.out]; decide)
          · rw [if_neg c16] at H
            have c16b0 : ((wrap64 ((wrap64 (12 * t291)) + t292)) == (wrap64 ((wrap64 ((wrap64 (12 * t286)) + t287)) + t281))) = false := beq_eq_false_iff_ne.mpr c16
            have c16b1 : ((wrap64 ((wrap64 (12 * t291)) + t292)) != (wrap64 ((wrap64 ((wrap64 (12 * t286)) + t287)) + t281))) = true := bne_iff_ne.mpr c16
            (first | rw [c16b0] | (simp only [i64_w, i32_w]; rw [c16b0]) | skip)
            exact absurd (Option.some.inj H) (by rw [hr_.out]; decide)
        · replace c12 := Bool.eq_false_iff.mpr c12
          subst c12
          have H1 : (laws_FnMonths.j0 k l0) = some r := by rw [if_neg (show ¬ (false = true) by decide)] at H; exact H
          clear H
          have H := H1
          clear H1
          have H' := Aside0.mk H
          clear H
          go_wp2
          go_meet
          case rel => exact ⟨_, H', ⟨by first | omega | exact Nat.le_refl _⟩, ⟨by repeat (first | (with_reducible first | exact HB.out | apply below_alloc | apply pw_below_drewN | apply below_drew1) | exact HB.out)⟩⟩
      case rest =>
        clear HC8
        try clear c1
        try clear c2
        try clear p2
        try clear c3
        try clear p6
        try clear c7
        try clear c7b0
        try clear c7b1
        try clear c7b2
        try clear c12
        try clear c14
        try clear c16
        try clear c16b0
        try clear c16b1
        try clear c17
        try clear c17b0
        try clear c17b1
        try clear c22
        try clear c23
        try clear c26
        try clear c26b0
        try clear c26b1
        try clear c27
        try clear c27b0
        try clear c30
        try clear c33
        try clear c35
        try clear hcz20_0
        try clear hcz20_1
        try clear hcz20_2
        try clear hcz24_0
        try clear hcz24_1
        try clear hcz24_2
        try clear hcz25_0
        try clear hcz25_1
        try clear hcz25_2
        try clear hcz30_0
        try clear hcz30_1
        try clear hcz30_2
        try clear hcz34_0
        try clear hcz34_1
        try clear hcz34_2
        try clear hcz35_0
        try clear hcz35_1
        try clear hcz35_2
        try clear hfz20_0
        try clear hfz20_1
        try clear hfz20_2
        try clear hfz24_0
        try clear hfz24_1
        try clear hfz24_2
        try clear hfz25_0
        try clear hfz25_1
        try clear hfz25_2
        try clear hfz30_0
        try clear hfz30_1
        try clear hfz30_2
        try clear hfz34_0
        try clear hfz34_1
        try clear hfz34_2
        try clear hfz35_0
        try clear hfz35_1
        try clear hfz35_2
        obtain ⟨kq, HA, HJ7, HB⟩ := hcut
        cases kq with
        | zero => exact absurd HA.out (by simp [laws_FnMonths.j0])
        | succ kj7 =>
          have H := HA.out
          clear HA
          simp only [laws_FnMonths.j0] at H
          replace H := Option.bind_eq_some_iff.mp H
          obtain ⟨⟨t298, t299, t300, t301⟩, A360, H⟩ := H
          replace H : ((impl_NthWeekday.f kj7 t298 t299 t300 t301).bind fun bt302 => ((spec_NthWeekday.f kj7 t298 t299 t300 t301).bind fun bt304 => (if (bt302.2 != bt304.2) = true then (some false) else (if bt302.2 = true then ((spec_DateOf.f kj7 bt302.1).bind fun bt306 => ((spec_Weekday.f bt302.1).bind fun bt311 => (if bt306.1 = t298 then (if bt306.2.1 = t299 then (if bt311.1 = t300 then (if t301 = (-1) then (some true) else (some ((wrap64 (Int.tdiv (wrap64 (bt306.2.2.1 - 1)) 7)) == (wrap64 (t301 - 1))))) else (some false)) else (some false)) else (some false)))) else (some (bt302.1 == 0)))))) = some r := H
          have A36 := Aside0.mk A360
          clear A360
          replace H := Option.bind_eq_some_iff.mp H
          obtain ⟨⟨t302, t303⟩, A370, H⟩ := H
          replace H : ((spec_NthWeekday.f kj7 t298 t299 t300 t301).bind fun bt304 => (if (t303 != bt304.2) = true then (some false) else (if t303 = true then ((spec_DateOf.f kj7 t302).bind fun bt306 => ((spec_Weekday.f t302).bind fun bt311 => (if bt306.1 = t298 then (if bt306.2.1 = t299 then (if bt311.1 = t300 then (if t301 = (-1) then (some true) else (some ((wrap64 (Int.tdiv (wrap64 (bt306.2.2.1 - 1)) 7)) == (wrap64 (t301 - 1))))) else (some false)) else (some false)) else (some false)))) else (some (t302 == 0))))) = some r := H
          have A37 := Aside0.mk A370
          clear A370
          replace H := Option.bind_eq_some_iff.mp H
          obtain ⟨⟨t304, t305⟩, A380, H⟩ := H
          replace H : (if (t303 != t305) = true then (some false) else (if t303 = true then ((spec_DateOf.f kj7 t302).bind fun bt306 => ((spec_Weekday.f t302).bind fun bt311 => (if bt306.1 = t298 then (if bt306.2.1 = t299 then (if bt311.1 = t300 then (if t301 = (-1) then (some true) else (some ((wrap64 (Int.tdiv (wrap64 (bt306.2.2.1 - 1)) 7)) == (wrap64 (t301 - 1))))) else (some false)) else (some false)) else (some false)))) else (some (t302 == 0)))) = some r := H
          have A38 := Aside0.mk A380
          clear A380
          by_cases c39 : (t303 != t305) = true
          · rw [if_pos c39] at H
            have c39b0 : (t303 != t305) = true := c39
            (try (have c39b1 : decide (t303 = t305) = false := by simpa using c39))
            (try (have c39b2 : (t303 == t305) = false := by simpa using c39))
            (try (have c39b3 : ¬ (t303 = t305) := by simpa using c39))
            clear c39
            exact absurd (Option.some.inj H) (by rw [hr_.out]; decide)
          · rw [if_neg c39] at H
            have c39b0 : (t303 != t305) = false := by simpa using c39
            (try (have c39b1 : decide (t303 = t305) = true := by simpa using c39))
            (try (have c39b2 : (t303 == t305) = true := by simpa using c39))
            clear c39
            by_cases c40 : t303 = true
            · subst c40
              have H1 : ((spec_DateOf.f kj7 t302).bind fun bt306 => ((spec_Weekday.f t302).bind fun bt311 => (if bt306.1 = t298 then (if bt306.2.1 = t299 then (if bt311.1 = t300 then (if t301 = (-1) then (some true) else (some ((wrap64 (Int.tdiv (wrap64 (bt306.2.2.1 - 1)) 7)) == (wrap64 (t301 - 1))))) else (some false)) else (some false)) else (some false)))) = some r := by rw [if_pos rfl] at H; exact H
              clear H
              have H := H1
              clear H1
              replace H := Option.bind_eq_some_iff.mp H
              obtain ⟨⟨t306, t307, t308, t309⟩, A410, H⟩ := H
              replace H : ((spec_Weekday.f t302).bind fun bt311 => (if t306 = t298 then (if t307 = t299 then (if bt311.1 = t300 then (if t301 = (-1) then (some true) else (some ((wrap64 (Int.tdiv (wrap64 (t308 - 1)) 7)) == (wrap64 (t301 - 1))))) else (some false)) else (some false)) else (some false))) = some r := H
              have A41 := Aside0.mk A410
              clear A410
              replace H := Option.bind_eq_some_iff.mp H
              obtain ⟨⟨t311, t312⟩, A420, H⟩ := H
              replace H : (if t306 = t298 then (if t307 = t299 then (if t311 = t300 then (if t301 = (-1) then (some true) else (some ((wrap64 (Int.tdiv (wrap64 (t308 - 1)) 7)) == (wrap64 (t301 - 1))))) else (some false)) else (some false)) else (some false)) = some r := H
              have A42 := Aside0.mk A420
              clear A420
              by_cases c43 : t306 = t298
              · rw [if_pos c43] at H
                have c43b0 : (t306 == t298) = true := beq_iff_eq.mpr c43
                have c43b1 : (t306 != t298) = false := bne_eq_false_iff_eq.mpr c43
                clear c43
                by_cases c44 : t307 = t299
                · rw [if_pos c44] at H
                  have c44b0 : (t307 == t299) = true := beq_iff_eq.mpr c44
                  have c44b1 : (t307 != t299) = false := bne_eq_false_iff_eq.mpr c44
                  clear c44
                  by_cases c45 : t311 = t300
                  · rw [if_pos c45] at H
                    have c45b0 : (t311 == t300) = true := beq_iff_eq.mpr c45
                    have c45b1 : (t311 != t300) = false := bne_eq_false_iff_eq.mpr c45
                    clear c45
                    by_cases c46 : t301 = (-1)
                    · rw [if_pos c46] at H
                      have c46b0 : (t301 == (-1)) = true := beq_iff_eq.mpr c46
                      have c46b1 : (t301 != (-1)) = false := bne_eq_false_iff_eq.mpr c46
                      clear c46
                      obtain rfl := Option.some.inj H
                      go_wp2_with (first | ((with_reducible refine gate_callee (f := 39) rfl ?_); refine goesL_ (some 104) rfl rfl Try.func39 (by kernel_rfl) rfl #[.slice A0 l0.length c0] rfl (by (try simp only [List.map_toArray, List.map_cons, List.map_nil]); first | done | rfl | (simp only [List.length_drop, List.length_take]; rfl)) ?_; (with_reducible refine (spec_DrawNthWeekday.calls kj7 _ _ l0 t298 t299 t300 t301 _ ?side1 ?side2 A36.out).mono ?_); (case side1 => repeat (first | exact (Kd.C_below HR0.out HB.out) | (with_reducible refine Kd.C_alloc ?_ _) | (with_reducible refine Kd.C_drewN ?_ _) | (with_reducible refine Kd.C_drew ?_))); (case side2 => exact HC0.out); rintro e w47 ⟨rfl, hb⟩; refine ⟨_, rfl, ?_⟩; have n0_ := Aside0.mk (below_step (by repeat (first | (with_reducible first | exact HB.out | apply below_alloc | apply pw_below_drewN | apply below_drew1) | exact HB.out)) hb); clear HB; have HB := n0_; clear n0_; (try clear hb); (try clear hb2); (try clear hk); (try clear hi)) | ((with_reducible refine gate_callee (f := 34) rfl ?_); refine goesL_ (some 114) rfl rfl Try.func34 (by kernel_rfl) rfl #[.int .i64 t298, .int .i64 t299, .int .i64 t300, .int .i64 t301] rfl (by (try simp only [List.map_toArray, List.map_cons, List.map_nil]); first | done | rfl | (simp only [List.length_drop, List.length_take]; rfl)) ?_; (with_reducible refine (impl_NthWeekday.calls kj7 t298 t299 t300 t301 t302 true _ A37.out).mono ?_); rintro e w48 ⟨rfl, hb⟩; refine ⟨_, rfl, ?_⟩; have n0_ := Aside0.mk (below_step (by repeat (first | (with_reducible first | exact HB.out | apply below_alloc | apply pw_below_drewN | apply below_drew1) | exact HB.out)) hb); clear HB; have HB := n0_; clear n0_; (try clear hb); (try clear hb2); (try clear hk); (try clear hi)) | ((with_reducible refine gate_callee (f := 33) rfl ?_); refine goesL_ (some 122) rfl rfl Try.func33 (by kernel_rfl) rfl #[.int .i64 t298, .int .i64 t299, .int .i64 t300, .int .i64 t301] rfl (by (try simp only [List.map_toArray, List.map_cons, List.map_nil]); first | done | rfl | (simp only [List.length_drop, List.length_take]; rfl)) ?_; (with_reducible refine (spec_NthWeekday.calls kj7 t298 t299 t300 t301 t304 t305 _ A38.out).mono ?_); rintro e w49 ⟨rfl, hb⟩; refine ⟨_, rfl, ?_⟩; have n0_ := Aside0.mk (below_step (by repeat (first | (with_reducible first | exact HB.out | apply below_alloc | apply pw_below_drewN | apply below_drew1) | exact HB.out)) hb); clear HB; have HB := n0_; clear n0_; (try clear hb); (try clear hb2); (try clear hk); (try clear hi)) | ((with_reducible refine gate_callee (f := 30) rfl ?_); refine goesL_ (some 134) rfl rfl Try.func30 (by kernel_rfl) rfl #[.int .i64 t302] rfl (by (try simp only [List.map_toArray, List.map_cons, List.map_nil]); first | done | rfl | (simp only [List.length_drop, List.length_take]; rfl)) ?_; (with_reducible refine (spec_DateOf.calls kj7 t302 t306 t307 t308 t309 _ A41.out).mono ?_); rintro e w50 ⟨rfl, hb⟩; refine ⟨_, rfl, ?_⟩; have n0_ := Aside0.mk (below_step (by repeat (first | (with_reducible first | exact HB.out | apply below_alloc | apply pw_below_drewN | apply below_drew1) | exact HB.out)) hb); clear HB; have HB := n0_; clear n0_; (try clear hb); (try clear hb2); (try clear hk); (try clear hi)) | ((with_reducible refine gate_dst (N := 23) rfl ?_); refine box_event ?hg (N := 23) ?hd (cs := #[.int .i64 0, .int .i64 0, .int .i64 0]) (t := 34) ?hr ?_; (case hd => rfl); (case hg => rfl); (case hr => first | (go_simp; done) | (go_simp; rfl)); intro gb310 hg w51 hbox hb; have n0_ := Aside0.mk (below_step (by repeat (first | (with_reducible first | exact HB.out | apply below_alloc | apply pw_below_drewN | apply below_drew1) | exact HB.out)) hb); have n1_ := Aside0.mk (hbox); have n2_ := Aside0.mk ((by rw [hg]; exact (below_size (by repeat (first | (with_reducible first | exact HB.out | apply below_alloc | apply pw_below_drewN | apply below_drew1) | exact HB.out))) : w.heap.size ≤ gb310)); have n3_ := Aside0.mk ((by rw [hg]; exact (below_size (by repeat (first | (with_reducible first | exact HB.out | apply below_alloc | apply pw_below_drewN | apply below_drew1) | exact HB.out))) : w.heap.size ≤ gb310)); clear HB; have HB := n0_; have BK310 := n1_; have GW310 := n2_; have GE310 := n3_; clear n0_ n1_ n2_ n3_; clear hb hbox hg; have hcz52_0 : w51.cell? ⟨gb310, 0, none⟩ = some (.int .i64 0) := (blk_cell BK310.out 0).trans rfl; have hcz52_1 : w51.cell? ⟨gb310, 1, none⟩ = some (.int .i64 0) := (blk_cell BK310.out 1).trans rfl; have hcz52_2 : w51.cell? ⟨gb310, 2, none⟩ = some (.int .i64 0) := (blk_cell BK310.out 2).trans rfl; have hfz52_0 := blk_frozen BK310.out 0; have hfz52_1 := blk_frozen BK310.out 1; have hfz52_2 := blk_frozen BK310.out 2) | ((with_reducible refine gate_callee (f := 17) rfl ?_); refine goesL_ (some 139) rfl rfl Try.func17 (by kernel_rfl) rfl #[.int .i64 t302] rfl (by (try simp only [List.map_toArray, List.map_cons, List.map_nil]); first | done | rfl | (simp only [List.length_drop, List.length_take]; rfl)) ?_; (with_reducible refine (spec_Weekday.calls t302 t311 t312 _ A42.out).mono ?_); rintro e w' ⟨rfl, ⟨nd, rfl⟩⟩; refine ⟨_, rfl, ?_⟩))
                      go_ret
                      exact ⟨by first | rfl | (simp [errW_none, errW_some] <;> rfl) | (simp [*, errW_none, errW_some] <;> rfl), by repeat (first | (with_reducible first | exact HB.out | apply below_alloc | apply pw_below_drewN | apply below_drew1 | refine below_set ?_ GE310.out) | exact HB.out)⟩
                    · rw [if_neg c46] at H
                      have c46b0 : (t301 == (-1)) = false := beq_eq_false_iff_ne.mpr c46
                      have c46b1 : (t301 != (-1)) = true := bne_iff_ne.mpr c46
                      obtain rfl := Option.some.inj H
                      go_wp2_with (first | ((with_reducible refine gate_callee (f := 39) rfl ?_); refine goesL_ (some 104) rfl rfl Try.func39 (by kernel_rfl) rfl #[.slice A0 l0.length c0] rfl (by (try simp only [List.map_toArray, List.map_cons, List.map_nil]); first | done | rfl | (simp only [List.length_drop, List.length_take]; rfl)) ?_; (with_reducible refine (spec_DrawNthWeekday.calls kj7 _ _ l0 t298 t299 t300 t301 _ ?side1 ?side2 A36.out).mono ?_); (case side1 => repeat (first | exact (Kd.C_below HR0.out HB.out) | (with_reducible refine Kd.C_alloc ?_ _) | (with_reducible refine Kd.C_drewN ?_ _) | (with_reducible refine Kd.C_drew ?_))); (case side2 => exact HC0.out); rintro e w53 ⟨rfl, hb⟩; refine ⟨_, rfl, ?_⟩; have n0_ := Aside0.mk (below_step (by repeat (first | (with_reducible first | exact HB.out | apply below_alloc | apply pw_below_drewN | apply below_drew1) | exact HB.out)) hb); clear HB; have HB := n0_; clear n0_; (try clear hb); (try clear hb2); (try clear hk); (try clear hi)) | ((with_reducible refine gate_callee (f := 34) rfl ?_); refine goesL_ (some 114) rfl rfl Try.func34 (by kernel_rfl) rfl #[.int .i64 t298, .int .i64 t299, .int .i64 t300, .int .i64 t301] rfl (by (try simp only [List.map_toArray, List.map_cons, List.map_nil]); first | done | rfl | (simp only [List.length_drop, List.length_take]; rfl)) ?_; (with_reducible refine (impl_NthWeekday.calls kj7 t298 t299 t300 t301 t302 true _ A37.out).mono ?_); rintro e w54 ⟨rfl, hb⟩; refine ⟨_, rfl, ?_⟩; have n0_ := Aside0.mk (below_step (by repeat (first | (with_reducible first | exact HB.out | apply below_alloc | apply pw_below_drewN | apply below_drew1) | exact HB.out)) hb); clear HB; have HB := n0_; clear n0_; (try clear hb); (try clear hb2); (try clear hk); (try clear hi)) | ((with_reducible refine gate_callee (f := 33) rfl ?_); refine goesL_ (some 122) rfl rfl Try.func33 (by kernel_rfl) rfl #[.int .i64 t298, .int .i64 t299, .int .i64 t300, .int .i64 t301] rfl (by (try simp only [List.map_toArray, List.map_cons, List.map_nil]); first | done | rfl | (simp only [List.length_drop, List.length_take]; rfl)) ?_; (with_reducible refine (spec_NthWeekday.calls kj7 t298 t299 t300 t301 t304 t305 _ A38.out).mono ?_); rintro e w55 ⟨rfl, hb⟩; refine ⟨_, rfl, ?_⟩; have n0_ := Aside0.mk (below_step (by repeat (first | (with_reducible first | exact HB.out | apply below_alloc | apply pw_below_drewN | apply below_drew1) | exact HB.out)) hb); clear HB; have HB := n0_; clear n0_; (try clear hb); (try clear hb2); (try clear hk); (try clear hi)) | ((with_reducible refine gate_callee (f := 30) rfl ?_); refine goesL_ (some 134) rfl rfl Try.func30 (by kernel_rfl) rfl #[.int .i64 t302] rfl (by (try simp only [List.map_toArray, List.map_cons, List.map_nil]); first | done | rfl | (simp only [List.length_drop, List.length_take]; rfl)) ?_; (with_reducible refine (spec_DateOf.calls kj7 t302 t306 t307 t308 t309 _ A41.out).mono ?_); rintro e w56 ⟨rfl, hb⟩; refine ⟨_, rfl, ?_⟩; have n0_ := Aside0.mk (below_step (by repeat (first | (with_reducible first | exact HB.out | apply below_alloc | apply pw_below_drewN | apply below_drew1) | exact HB.out)) hb); clear HB; have HB := n0_; clear n0_; (try clear hb); (try clear hb2); (try clear hk); (try clear hi)) | ((with_reducible refine gate_dst (N := 23) rfl ?_); refine box_event ?hg (N := 23) ?hd (cs := #[.int .i64 0, .int .i64 0, .int .i64 0]) (t := 34) ?hr ?_; (case hd => rfl); (case hg => rfl); (case hr => first | (go_simp; done) | (go_simp; rfl)); intro gb310 hg w57 hbox hb; have n0_ := Aside0.mk (below_step (by repeat (first | (with_reducible first | exact HB.out | apply below_alloc | apply pw_below_drewN | apply below_drew1) | exact HB.out)) hb); have n1_ := Aside0.mk (hbox); have n2_ := Aside0.mk ((by rw [hg]; exact (below_size (by repeat (first | (with_reducible first | exact HB.out | apply below_alloc | apply pw_below_drewN | apply below_drew1) | exact HB.out))) : w.heap.size ≤ gb310)); have n3_ := Aside0.mk ((by rw [hg]; exact (below_size (by repeat (first | (with_reducible first | exact HB.out | apply below_alloc | apply pw_below_drewN | apply below_drew1) | exact HB.out))) : w.heap.size ≤ gb310)); clear HB; have HB := n0_; have BK310 := n1_; have GW310 := n2_; have GE310 := n3_; clear n0_ n1_ n2_ n3_; clear hb hbox hg; have hcz58_0 : w57.cell? ⟨gb310, 0, none⟩ = some (.int .i64 0) := (blk_cell BK310.out 0).trans rfl; have hcz58_1 : w57.cell? ⟨gb310, 1, none⟩ = some (.int .i64 0) := (blk_cell BK310.out 1).trans rfl; have hcz58_2 : w57.cell? ⟨gb310, 2, none⟩ = some (.int .i64 0) := (blk_cell BK310.out 2).trans rfl; have hfz58_0 := blk_frozen BK310.out 0; have hfz58_1 := blk_frozen BK310.out 1; have hfz58_2 := blk_frozen BK310.out 2) | ((with_reducible refine gate_callee (f := 17) rfl ?_); refine goesL_ (some 139) rfl rfl Try.func17 (by kernel_rfl) rfl #[.int .i64 t302] rfl (by (try simp only [List.map_toArray, List.map_cons, List.map_nil]); first | done | rfl | (simp only [List.length_drop, List.length_take]; rfl)) ?_; (with_reducible refine (spec_Weekday.calls t302 t311 t312 _ A42.out).mono ?_); rintro e w' ⟨rfl, ⟨nd, rfl⟩⟩; refine ⟨_, rfl, ?_⟩))
                      go_ret
                      exact ⟨by first | rfl | (simp [errW_none, errW_some] <;> rfl) | (simp [*, errW_none, errW_some] <;> rfl), by repeat (first | (with_reducible first | exact HB.out | apply below_alloc | apply pw_below_drewN | apply below_drew1 | refine below_set ?_ GE310.out) | exact HB.out)⟩
                  · rw [if_neg c45] at H
                    have c45b0 : (t311 == t300) = false := beq_eq_false_iff_ne.mpr c45
                    have c45b1 : (t311 != t300) = true := bne_iff_ne.mpr c45
                    exact absurd (Option.some.inj H) (by rw [hr_.out]; decide)
                · rw [if_neg c44] at H
                  have c44b0 : (t307 == t299) = false := beq_eq_false_iff_ne.mpr c44
                  have c44b1 : (t307 != t299) = true := bne_iff_ne.mpr c44
                  exact absurd (Option.some.inj H) (by rw [hr_.out]; decide)
              · rw [if_neg c43] at H
                have c43b0 : (t306 == t298) = false := beq_eq_false_iff_ne.mpr c43
                have c43b1 : (t306 != t298) = true := bne_iff_ne.mpr c43
                exact absurd (Option.some.inj H) (by rw [hr_.out]; decide)
            · replace c40 := Bool.eq_false_iff.mpr c40
              subst c40
              have H1 : (some (t302 == 0)) = some r := by rw [if_neg (show ¬ (false = true) by decide)] at H; exact H
              clear H
              have H := H1
              clear H1
              obtain rfl := Option.some.inj H
              go_wp2_with (first | ((with_reducible refine gate_callee (f := 39) rfl ?_); refine goesL_ (some 104) rfl rfl Try.func39 (by kernel_rfl) rfl #[.slice A0 l0.length c0] rfl (by (try simp only [List.map_toArray, List.map_cons, List.map_nil]); first | done | rfl | (simp only [List.length_drop, List.length_take]; rfl)) ?_; (with_reducible refine (spec_DrawNthWeekday.calls kj7 _ _ l0 t298 t299 t300 t301 _ ?side1 ?side2 A36.out).mono ?_); (case side1 => repeat (first | exact (Kd.C_below HR0.out HB.out) | (with_reducible refine Kd.C_alloc ?_ _) | (with_reducible refine Kd.C_drewN ?_ _) | (with_reducible refine Kd.C_drew ?_))); (case side2 => exact HC0.out); rintro e w59 ⟨rfl, hb⟩; refine ⟨_, rfl, ?_⟩; have n0_ := Aside0.mk (below_step (by repeat (first | (with_reducible first | exact HB.out | apply below_alloc | apply pw_below_drewN | apply below_drew1) | exact HB.out)) hb); clear HB; have HB := n0_; clear n0_; (try clear hb); (try clear hb2); (try clear hk); (try clear hi)) | ((with_reducible refine gate_callee (f := 34) rfl ?_); refine goesL_ (some 114) rfl rfl Try.func34 (by kernel_rfl) rfl #[.int .i64 t298, .int .i64 t299, .int .i64 t300, .int .i64 t301] rfl (by (try simp only [List.map_toArray, List.map_cons, List.map_nil]); first | done | rfl | (simp only [List.length_drop, List.length_take]; rfl)) ?_; (with_reducible refine (impl_NthWeekday.calls kj7 t298 t299 t300 t301 t302 false _ A37.out).mono ?_); rintro e w60 ⟨rfl, hb⟩; refine ⟨_, rfl, ?_⟩; have n0_ := Aside0.mk (below_step (by repeat (first | (with_reducible first | exact HB.out | apply below_alloc | apply pw_below_drewN | apply below_drew1) | exact HB.out)) hb); clear HB; have HB := n0_; clear n0_; (try clear hb); (try clear hb2); (try clear hk); (try clear hi)) | ((with_reducible refine gate_callee (f := 33) rfl ?_); refine goesL_ (some 122) rfl rfl Try.func33 (by kernel_rfl) rfl #[.int .i64 t298, .int .i64 t299, .int .i64 t300, .int .i64 t301] rfl (by (try simp only [List.map_toArray, List.map_cons, List.map_nil]); first | done | rfl | (simp only [List.length_drop, List.length_take]; rfl)) ?_; (with_reducible refine (spec_NthWeekday.calls kj7 t298 t299 t300 t301 t304 t305 _ A38.out).mono ?_); rintro e w61 ⟨rfl, hb⟩; refine ⟨_, rfl, ?_⟩; have n0_ := Aside0.mk (below_step (by repeat (first | (with_reducible first | exact HB.out | apply below_alloc | apply pw_below_drewN | apply below_drew1) | exact HB.out)) hb); clear HB; have HB := n0_; clear n0_; (try clear hb); (try clear hb2); (try clear hk); (try clear hi)))
              go_ret
              exact ⟨by first | rfl | (simp [errW_none, errW_some] <;> rfl) | (simp [*, errW_none, errW_some] <;> rfl), by repeat (first | (with_reducible first | exact HB.out | apply below_alloc | apply pw_below_drewN | apply below_drew1) | exact HB.out)⟩

/-- THE ONE PURE STATEMENT of laws_FnMonths: yours. -/
def laws_FnMonths.Pure : Prop := ∀ (l0 : List Int), l0.length ≤ maxLen → l0.length * 1 ≤ 140737488351232 → (∀ x ∈ l0, (Lit.int .u8 x).wf = true) → ∃ k, laws_FnMonths.f k l0 = some true
theorem laws_FnMonths.walk (P : laws_FnMonths.Pure) (a0 : Option Addr) (len0 cap0 : Nat) (z0 : List Int) (w : World) (w0 : (a0 = none ∧ len0 = 0 ∧ cap0 = 0 ∧ z0 = []) ∨ ∃ x, a0 = some x ∧ len0 ≤ cap0 ∧ cap0 ≤ maxLen ∧ z0.length = cap0 ∧ (∀ i, i < z0.length → w.cell? (x.add i) = some (.int .u8 (z0.getD i 0))) ∧ ∀ n ∈ z0, (Lit.int .u8 n).wf = true) (y0 : len0 * 1 ≤ 140737488351232) :
    Calls Try.prog 14 #[.slice a0 len0 cap0] w fun e w' => e = .returned (.bool true) ∧ Below w.heap.size w w' := by
  obtain ⟨l0, rfl, hr0, hm0, hw0, hc0⟩ := ReadsInt.ofRowC w0
  obtain ⟨k, h⟩ := P l0 hm0 y0 hw0
  refine (laws_FnMonths.calls k _ _ l0 true w (Kd.C_of_reads (d := (0 : Int)) (h1 := fun _ => rfl) hr0) hc0 h ⟨rfl⟩).mono ?_
  rintro e w' ⟨rfl, hd⟩
  exact ⟨rfl, hd⟩

end Go.Proofs.Ytgpphkghgdcamaa.QFnMonths
