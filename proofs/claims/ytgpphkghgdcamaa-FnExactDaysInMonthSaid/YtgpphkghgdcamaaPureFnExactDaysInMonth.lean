/- The program's DaysInMonth and the reference's return the same for every year and month; no condition. -/
import Derived.Test.YtgpphkghgdcamaaPFnExactDaysInMonthx1
namespace Go.Proofs.Ytgpphkghgdcamaa.Pure
open Go.RowKit Go.Proofs.Ytgpphkghgdcamaa.PFnExactDaysInMonth Go.Proofs.YtgpphkghgdcamaaW.PrintWords Go.Proofs.YtgpphkghgdcamaaW.PrintLast Go.Proofs.YtgpphkghgdcamaaW.PrintMore
set_option linter.unusedVariables false
set_option linter.unusedSimpArgs false

theorem w64 {x : Int} (h : -9223372036854775808 ≤ x) (h' : x ≤ 9223372036854775807) : wrap64 x = x := by unfold wrap64; omega
theorem tdv {x : Int} (n : Int) (h : 0 ≤ x) : Int.tdiv x n = x / n := Int.tdiv_eq_ediv_of_nonneg h
theorem tmd {x : Int} (n : Int) (h : 0 ≤ x) : Int.tmod x n = x % n := Int.tmod_eq_emod_of_nonneg h
theorem wfb {a : Int} (h : (Lit.int .i64 a).wf = true) : -9223372036854775808 ≤ a ∧ a ≤ 9223372036854775807 := by
  simp [Lit.wf, IntKind.min, IntKind.max, IntKind.signed, IntKind.bits] at h
  omega
theorem within_ {x a b : Int} : (if x ≥ a then some (decide (x ≤ b)) else some false) = some (decide (a ≤ x ∧ x ≤ b)) := by
  by_cases h : x ≥ a
  · rw [if_pos h]; congr 1; simp; omega
  · rw [if_neg h]; congr 1; simp; omega

theorem len_eq (y m : Int) (k : Nat) : spec_l3Length.f (k + 1) y m = impl_daysIn.f y m := by
  unfold spec_l3Length.f impl_daysIn.f
  simp only [spec_l3Length.j0]
  by_cases h2 : m = 2
  · subst h2; simp
  · by_cases h4 : m = 4
    · subst h4; simp
    · by_cases h6 : m = 6
      · subst h6; simp
      · by_cases h9 : m = 9
        · subst h9; simp
        · simp [h2, h4, h6, h9]
theorem daysIn_some (y m : Int) : ∃ r, impl_daysIn.f y m = some r := by
  unfold impl_daysIn.f
  repeat' split
  all_goals exact ⟨_, rfl⟩
theorem FnExactDaysInMonth : laws_FnExactDaysInMonth.Pure := by
  intro y m _ _
  refine ⟨1, ?_⟩
  unfold laws_FnExactDaysInMonth.f spec_DaysInMonth.f impl_DaysInMonth.f impl_isMonth.f
  obtain ⟨r, hr⟩ := daysIn_some y m
  simp only [spec_l1In.f, impl_within.f, within_, Option.bind_some, len_eq y m 0, hr]
  by_cases h : decide (2000 ≤ y ∧ y ≤ 2099) = true <;> by_cases h' : decide (1 ≤ m ∧ m ≤ 12) = true <;> simp [h, h']

end Go.Proofs.Ytgpphkghgdcamaa.Pure
