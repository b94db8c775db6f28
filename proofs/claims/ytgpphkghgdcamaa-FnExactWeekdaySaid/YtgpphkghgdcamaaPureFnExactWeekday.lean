/- The program's Weekday and the reference's return the same for every number; no condition. -/
import Derived.Test.YtgpphkghgdcamaaPFnExactWeekdayx1
namespace Go.Proofs.Ytgpphkghgdcamaa.Pure
open Go.RowKit Go.Proofs.Ytgpphkghgdcamaa.PFnExactWeekday Go.Proofs.YtgpphkghgdcamaaW.PrintWords Go.Proofs.YtgpphkghgdcamaaW.PrintLast Go.Proofs.YtgpphkghgdcamaaW.PrintMore
set_option linter.unusedVariables false
set_option linter.unusedSimpArgs false

theorem w64 {x : Int} (h : -9223372036854775808 ≤ x) (h' : x ≤ 9223372036854775807) : wrap64 x = x := by unfold wrap64; omega
theorem tdv {x : Int} (n : Int) (h : 0 ≤ x) : Int.tdiv x n = x / n := Int.tdiv_eq_ediv_of_nonneg h
theorem tmd {x : Int} (n : Int) (h : 0 ≤ x) : Int.tmod x n = x % n := Int.tmod_eq_emod_of_nonneg h
theorem wfb {a : Int} (h : (Lit.int .i64 a).wf = true) : -9223372036854775808 ≤ a ∧ a ≤ 9223372036854775807 := by
  simp [Lit.wf, IntKind.min, IntKind.max, IntKind.signed, IntKind.bits] at h
  omega
theorem within_ {x a b : Int} : (if x ≥ a then some (decide (x ≤ b)) else some false) = some (decide (a ≤ x ∧ x ≤ b)) := by
  by_cases h : x ≥ a
  · rw [if_pos h]; congr 1; simp; omega
  · rw [if_neg h]; congr 1; simp; omega

theorem FnExactWeekday : laws_FnExactWeekday.Pure := by
  intro a _
  unfold laws_FnExactWeekday.f spec_Weekday.f impl_Weekday.f spec_l3Good.f impl_isDay.f spec_l3Weekday.f impl_weekday.f
  simp only [spec_l1In.f, impl_within.f, within_, Option.bind_some]
  by_cases h : decide (0 ≤ a ∧ a ≤ 36524) = true <;> simp [h]

end Go.Proofs.Ytgpphkghgdcamaa.Pure
