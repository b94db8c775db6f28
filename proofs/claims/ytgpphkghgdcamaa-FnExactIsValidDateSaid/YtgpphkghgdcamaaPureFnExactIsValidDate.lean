/- The program's IsValidDate and the reference's return the same for every date; no condition. -/
import Derived.Test.YtgpphkghgdcamaaQFnExactIsValidDatex1
namespace Go.Proofs.Ytgpphkghgdcamaa.Pure
open Go.RowKit Go.Proofs.Ytgpphkghgdcamaa.QFnExactIsValidDate Go.Proofs.YtgpphkghgdcamaaW.PrintWords Go.Proofs.YtgpphkghgdcamaaW.PrintLast Go.Proofs.YtgpphkghgdcamaaW.PrintMore
set_option linter.unusedVariables false
set_option linter.unusedSimpArgs false

theorem w64 {x : Int} (h : -9223372036854775808 ≤ x) (h' : x ≤ 9223372036854775807) : wrap64 x = x := by unfold wrap64; omega
theorem tdv {x : Int} (n : Int) (h : 0 ≤ x) : Int.tdiv x n = x / n := Int.tdiv_eq_ediv_of_nonneg h
theorem tmd {x : Int} (n : Int) (h : 0 ≤ x) : Int.tmod x n = x % n := Int.tmod_eq_emod_of_nonneg h
theorem wfb {a : Int} (h : (Lit.int .i64 a).wf = true) : -9223372036854775808 ≤ a ∧ a ≤ 9223372036854775807 := by
  simp [Lit.wf, IntKind.min, IntKind.max, IntKind.signed, IntKind.bits] at h
  omega
theorem within_ {x a b : Int} : (if x ≥ a then some (decide (x ≤ b)) else some false) = some (decide (a ≤ x ∧ x ≤ b)) := by
  by_cases h : x ≥ a
  · rw [if_pos h]; congr 1; simp; omega
  · rw [if_neg h]; congr 1; simp; omega

def dim (y m : Int) : Int := if m = 2 then (if y % 4 = 0 then 29 else 28) else if m = 4 ∨ m = 6 ∨ m = 9 ∨ m = 11 then 30 else 31
def cum (y m : Int) : Int := (if m ≤ 1 then 0 else if m = 2 then 31 else 
  (if m = 3 then 59 else if m = 4 then 90 else if m = 5 then 120 else if m = 6 then 151 else if m = 7 then 181 else if m = 8 then 212 else if m = 9 then 243 else if m = 10 then 273 else if m = 11 then 304 else if m = 12 then 334 else 365) + (if y % 4 = 0 then 1 else 0))
def dby (y : Int) : Int := 365 * (y - 2000) + (y - 2000 + 3) / 4
def dnum (y m d : Int) : Int := dby y + cum y m + d - 1
structure IsDate (y m d day : Int) : Prop where
  y0 : 2000 ≤ y
  y1 : y ≤ 2099
  m0 : 1 ≤ m
  m1 : m ≤ 12
  d0 : 1 ≤ d
  d1 : d ≤ dim y m
  eq : dnum y m d = day
theorem cum_succ (y m : Int) (h1 : 1 ≤ m) (h2 : m ≤ 12) : cum y (m + 1) = cum y m + dim y m := by
  unfold cum dim
  have : m = 1 ∨ m = 2 ∨ m = 3 ∨ m = 4 ∨ m = 5 ∨ m = 6 ∨ m = 7 ∨ m = 8 ∨ m = 9 ∨ m = 10 ∨ m = 11 ∨ m = 12 := by omega
  rcases this with h | h | h | h | h | h | h | h | h | h | h | h <;> subst h <;> simp <;> (try split) <;> rfl
theorem dby_succ (y : Int) : dby (y + 1) = dby y + 337 + dim y 2 := by
  unfold dby dim; simp; split <;> omega
theorem cum_1 (y : Int) : cum y 1 = 0 := by unfold cum; simp
theorem cum_13 (y : Int) : cum y 13 = 337 + dim y 2 := by
  unfold cum dim; simp; split <;> rfl
theorem dim_pos (y m : Int) : 28 ≤ dim y m ∧ dim y m ≤ 31 := by unfold dim; repeat' split <;> omega
theorem cum_mono (y m : Int) (n : Nat) (h1 : 1 ≤ m) (h2 : m + n ≤ 13) : cum y m + 28 * n ≤ cum y (m + n) := by
  induction n with
  | zero => simp
  | succ n ih =>
    have a := ih (by omega)
    have b := cum_succ y (m + n) (by omega) (by omega)
    have c := dim_pos y (m + n)
    have e : m + ((n + 1 : Nat) : Int) = m + n + 1 := by omega
    rw [e, b]; omega
theorem cum_le (y m m' : Int) (h1 : 1 ≤ m) (h2 : m ≤ m') (h3 : m' ≤ 13) : cum y m ≤ cum y m' := by
  have := cum_mono y m (m' - m).toNat h1 (by omega)
  rw [show m + ((m' - m).toNat : Int) = m' by omega] at this
  omega
theorem cum_bd (y m : Int) (h1 : 1 ≤ m) (h3 : m ≤ 13) : 0 ≤ cum y m ∧ cum y m ≤ 366 := by
  have a := cum_le y 1 m (by omega) h1 h3
  have b := cum_le y m 13 h1 h3 (by omega)
  have c := dim_pos y 2
  rw [cum_1] at a; rw [cum_13] at b
  unfold dim at b; simp at b
  have : (if y % 4 = 0 then (29:Int) else 28) ≤ 29 := by split <;> omega
  omega
theorem dby_le (y y' : Int) (h : y ≤ y') : dby y ≤ dby y' := by unfold dby; omega
theorem dby_bd (y : Int) (h : 2000 ≤ y) (h' : y ≤ 2100) : 0 ≤ dby y ∧ dby y ≤ 36525 := by unfold dby; omega
theorem dby_2000 : dby 2000 = 0 := by decide
theorem dby_2100 : dby 2100 = 36525 := by decide
theorem IsDate.lo {y m d day : Int} (h : IsDate y m d day) : dby y + cum y m ≤ day := by
  have := h.eq; have := h.d0; unfold dnum at *; omega
theorem IsDate.hi {y m d day : Int} (h : IsDate y m d day) : day < dby y + cum y (m + 1) := by
  have a := h.eq; have b := h.d1; have c := cum_succ y m h.m0 h.m1; unfold dnum at *; omega
theorem IsDate.year_hi {y m d day : Int} (h : IsDate y m d day) : day < dby (y + 1) := by
  have a := h.hi
  have b := cum_le y (m + 1) 13 (by have := h.m0; omega) (by have := h.m1; omega) (by omega)
  have c := dby_succ y; rw [cum_13] at b; omega
theorem IsDate.year_lo {y m d day : Int} (h : IsDate y m d day) : dby y ≤ day := by
  have a := h.lo
  have b := cum_bd y m h.m0 (by have := h.m1; omega); omega
theorem IsDate.range {y m d day : Int} (h : IsDate y m d day) : 0 ≤ day ∧ day ≤ 36524 := by
  have a := h.year_lo; have b := h.year_hi
  have c := dby_bd y h.y0 (by have := h.y1; omega)
  have e := dby_le (y + 1) 2100 (by have := h.y1; omega)
  rw [dby_2100] at e; omega
theorem IsDate.d31 {y m d day : Int} (h : IsDate y m d day) : d ≤ 31 := by
  have := h.d1; have := dim_pos y m; omega
theorem IsDate.uniq {y m d y' m' d' day : Int} (h : IsDate y m d day) (h' : IsDate y' m' d' day) : y = y' ∧ m = m' ∧ d = d' := by
  have hy : y = y' := by
    by_cases c : y < y'
    · have := h.year_hi; have := h'.year_lo; have := dby_le (y + 1) y' (by omega); omega
    · by_cases c' : y' < y
      · have := h'.year_hi; have := h.year_lo; have := dby_le (y' + 1) y (by omega); omega
      · omega
  subst hy
  have hm : m = m' := by
    by_cases c : m < m'
    · have := h.hi; have := h'.lo; have := cum_le y (m + 1) m' (by have := h.m0; omega) (by omega) (by have := h'.m1; omega); omega
    · by_cases c' : m' < m
      · have := h'.hi; have := h.lo; have := cum_le y (m' + 1) m (by have := h'.m0; omega) (by omega) (by have := h.m1; omega); omega
      · omega
  subst hm
  have a := h.eq; have b := h'.eq
  refine ⟨rfl, rfl, ?_⟩
  unfold dnum at a b; omega

theorem l1In_ (x a b : Int) : spec_l1In.f x a b = some (decide (a ≤ x ∧ x ≤ b)) := by unfold spec_l1In.f; exact within_
theorem l3Length_ (y m : Int) (hy : 0 ≤ y) (k : Nat) (hk : 1 ≤ k) : spec_l3Length.f k y m = some (dim y m) := by
  obtain ⟨k, rfl⟩ : ∃ j, k = j + 1 := ⟨k - 1, by omega⟩
  unfold spec_l3Length.f dim
  simp only [spec_l3Length.j0, tmd 4 hy]
  by_cases h2 : m = 2
  · subst h2; simp; split <;> rfl
  · by_cases h4 : m = 4
    · subst h4; simp
    · by_cases h6 : m = 6
      · subst h6; simp
      · by_cases h9 : m = 9
        · subst h9; simp
        · by_cases h11 : m = 11
          · subst h11; simp
          · simp [h2, h4, h6, h9, h11]

theorem withinI_ (x a b : Int) : impl_within.f x a b = some (decide (a ≤ x ∧ x ≤ b)) := by unfold impl_within.f; exact within_
theorem daysIn_ (y m : Int) (hy : 0 ≤ y) : impl_daysIn.f y m = some (dim y m) := by
  unfold impl_daysIn.f dim
  simp only [tmd 4 hy]
  by_cases h2 : m = 2
  · subst h2; simp; split <;> rfl
  · by_cases h4 : m = 4
    · subst h4; simp
    · by_cases h6 : m = 6
      · subst h6; simp
      · by_cases h9 : m = 9
        · subst h9; simp
        · by_cases h11 : m = 11
          · subst h11; simp
          · simp [h2, h4, h6, h9, h11]

theorem valid_both (y m d : Int) : ∃ b, (∀ k, 1 ≤ k → spec_l3Valid.f k y m d = some b) ∧ impl_IsValidDate.f y m d = some b ∧ (b = true → 2000 ≤ y ∧ y ≤ 2099 ∧ 1 ≤ m ∧ m ≤ 12 ∧ 1 ≤ d ∧ d ≤ 31) := by
  unfold spec_l3Valid.f impl_IsValidDate.f
  simp only [l1In_, withinI_, Option.bind_some]
  by_cases h1 : decide (2000 ≤ y ∧ y ≤ 2099) = true
  case neg => exact ⟨false, fun k hk => by simp [h1], by simp [h1], by simp⟩
  by_cases h2 : decide (1 ≤ m ∧ m ≤ 12) = true
  case neg => exact ⟨false, fun k hk => by simp [h1, h2], by simp [h1, h2], by simp⟩
  have a1 := of_decide_eq_true h1
  have a2 := of_decide_eq_true h2
  have dp := dim_pos y m
  refine ⟨decide (1 ≤ d ∧ d ≤ dim y m), fun k hk => ?_, ?_, fun hb => ?_⟩
  · simp only [h1, h2, if_true, l3Length_ y m (by omega) k hk, Option.bind_some]
  · simp only [h1, h2, if_true, daysIn_ y m (by omega), Option.bind_some]
  · have := of_decide_eq_true hb; omega

theorem FnExactIsValidDate (y m d : Int) (_ : (Lit.int .i64 y).wf = true) (_ : (Lit.int .i64 m).wf = true) (_ : (Lit.int .i64 d).wf = true) : ∃ k, laws_FnExactIsValidDate.f k y m d = some true := by
  obtain ⟨b, h1, h2, _⟩ := valid_both y m d
  refine ⟨1, ?_⟩
  unfold laws_FnExactIsValidDate.f laws_toDate.f spec_IsValidDate.f
  simp only [Option.bind_some, h1 1 (by omega), h2]
  simp

end Go.Proofs.Ytgpphkghgdcamaa.Pure
