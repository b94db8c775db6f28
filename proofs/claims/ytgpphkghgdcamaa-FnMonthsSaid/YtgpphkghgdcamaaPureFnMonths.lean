/- Months are added as the calendar says, and the nth weekday is the nth weekday; no condition. -/
import Derived.Test.YtgpphkghgdcamaaQFnMonthsx6
namespace Go.Proofs.Ytgpphkghgdcamaa.Pure
open Go.RowKit Go.Proofs.Ytgpphkghgdcamaa.QFnMonths Go.Proofs.YtgpphkghgdcamaaW.PrintWords Go.Proofs.YtgpphkghgdcamaaW.PrintLast Go.Proofs.YtgpphkghgdcamaaW.PrintMore
set_option linter.unusedVariables false
set_option linter.unusedSimpArgs false

theorem w64 {x : Int} (h : -9223372036854775808 ≤ x) (h' : x ≤ 9223372036854775807) : wrap64 x = x := by unfold wrap64; omega
theorem tdv {x : Int} (n : Int) (h : 0 ≤ x) : Int.tdiv x n = x / n := Int.tdiv_eq_ediv_of_nonneg h
theorem tmd {x : Int} (n : Int) (h : 0 ≤ x) : Int.tmod x n = x % n := Int.tmod_eq_emod_of_nonneg h
theorem wfb {a : Int} (h : (Lit.int .i64 a).wf = true) : -9223372036854775808 ≤ a ∧ a ≤ 9223372036854775807 := by
  simp [Lit.wf, IntKind.min, IntKind.max, IntKind.signed, IntKind.bits] at h
  omega
theorem within_ {x a b : Int} : (if x ≥ a then some (decide (x ≤ b)) else some false) = some (decide (a ≤ x ∧ x ≤ b)) := by
  by_cases h : x ≥ a
  · rw [if_pos h]; congr 1; simp; omega
  · rw [if_neg h]; congr 1; simp; omega

def dim (y m : Int) : Int := if m = 2 then (if y % 4 = 0 then 29 else 28) else if m = 4 ∨ m = 6 ∨ m = 9 ∨ m = 11 then 30 else 31
def cum (y m : Int) : Int := (if m ≤ 1 then 0 else if m = 2 then 31 else 
  (if m = 3 then 59 else if m = 4 then 90 else if m = 5 then 120 else if m = 6 then 151 else if m = 7 then 181 else if m = 8 then 212 else if m = 9 then 243 else if m = 10 then 273 else if m = 11 then 304 else if m = 12 then 334 else 365) + (if y % 4 = 0 then 1 else 0))
def dby (y : Int) : Int := 365 * (y - 2000) + (y - 2000 + 3) / 4
def dnum (y m d : Int) : Int := dby y + cum y m + d - 1
structure IsDate (y m d day : Int) : Prop where
  y0 : 2000 ≤ y
  y1 : y ≤ 2099
  m0 : 1 ≤ m
  m1 : m ≤ 12
  d0 : 1 ≤ d
  d1 : d ≤ dim y m
  eq : dnum y m d = day
theorem cum_succ (y m : Int) (h1 : 1 ≤ m) (h2 : m ≤ 12) : cum y (m + 1) = cum y m + dim y m := by
  unfold cum dim
  have : m = 1 ∨ m = 2 ∨ m = 3 ∨ m = 4 ∨ m = 5 ∨ m = 6 ∨ m = 7 ∨ m = 8 ∨ m = 9 ∨ m = 10 ∨ m = 11 ∨ m = 12 := by omega
  rcases this with h | h | h | h | h | h | h | h | h | h | h | h <;> subst h <;> simp <;> (try split) <;> rfl
theorem dby_succ (y : Int) : dby (y + 1) = dby y + 337 + dim y 2 := by
  unfold dby dim; simp; split <;> omega
theorem cum_1 (y : Int) : cum y 1 = 0 := by unfold cum; simp
theorem cum_13 (y : Int) : cum y 13 = 337 + dim y 2 := by
  unfold cum dim; simp; split <;> rfl
theorem dim_pos (y m : Int) : 28 ≤ dim y m ∧ dim y m ≤ 31 := by unfold dim; repeat' split <;> omega
theorem cum_mono (y m : Int) (n : Nat) (h1 : 1 ≤ m) (h2 : m + n ≤ 13) : cum y m + 28 * n ≤ cum y (m + n) := by
  induction n with
  | zero => simp
  | succ n ih =>
    have a := ih (by omega)
    have b := cum_succ y (m + n) (by omega) (by omega)
    have c := dim_pos y (m + n)
    have e : m + ((n + 1 : Nat) : Int) = m + n + 1 := by omega
    rw [e, b]; omega
theorem cum_le (y m m' : Int) (h1 : 1 ≤ m) (h2 : m ≤ m') (h3 : m' ≤ 13) : cum y m ≤ cum y m' := by
  have := cum_mono y m (m' - m).toNat h1 (by omega)
  rw [show m + ((m' - m).toNat : Int) = m' by omega] at this
  omega
theorem cum_bd (y m : Int) (h1 : 1 ≤ m) (h3 : m ≤ 13) : 0 ≤ cum y m ∧ cum y m ≤ 366 := by
  have a := cum_le y 1 m (by omega) h1 h3
  have b := cum_le y m 13 h1 h3 (by omega)
  have c := dim_pos y 2
  rw [cum_1] at a; rw [cum_13] at b
  unfold dim at b; simp at b
  have : (if y % 4 = 0 then (29:Int) else 28) ≤ 29 := by split <;> omega
  omega
theorem dby_le (y y' : Int) (h : y ≤ y') : dby y ≤ dby y' := by unfold dby; omega
theorem dby_bd (y : Int) (h : 2000 ≤ y) (h' : y ≤ 2100) : 0 ≤ dby y ∧ dby y ≤ 36525 := by unfold dby; omega
theorem dby_2000 : dby 2000 = 0 := by decide
theorem dby_2100 : dby 2100 = 36525 := by decide
theorem IsDate.lo {y m d day : Int} (h : IsDate y m d day) : dby y + cum y m ≤ day := by
  have := h.eq; have := h.d0; unfold dnum at *; omega
theorem IsDate.hi {y m d day : Int} (h : IsDate y m d day) : day < dby y + cum y (m + 1) := by
  have a := h.eq; have b := h.d1; have c := cum_succ y m h.m0 h.m1; unfold dnum at *; omega
theorem IsDate.year_hi {y m d day : Int} (h : IsDate y m d day) : day < dby (y + 1) := by
  have a := h.hi
  have b := cum_le y (m + 1) 13 (by have := h.m0; omega) (by have := h.m1; omega) (by omega)
  have c := dby_succ y; rw [cum_13] at b; omega
theorem IsDate.year_lo {y m d day : Int} (h : IsDate y m d day) : dby y ≤ day := by
  have a := h.lo
  have b := cum_bd y m h.m0 (by have := h.m1; omega); omega
theorem IsDate.range {y m d day : Int} (h : IsDate y m d day) : 0 ≤ day ∧ day ≤ 36524 := by
  have a := h.year_lo; have b := h.year_hi
  have c := dby_bd y h.y0 (by have := h.y1; omega)
  have e := dby_le (y + 1) 2100 (by have := h.y1; omega)
  rw [dby_2100] at e; omega
theorem IsDate.d31 {y m d day : Int} (h : IsDate y m d day) : d ≤ 31 := by
  have := h.d1; have := dim_pos y m; omega
theorem IsDate.uniq {y m d y' m' d' day : Int} (h : IsDate y m d day) (h' : IsDate y' m' d' day) : y = y' ∧ m = m' ∧ d = d' := by
  have hy : y = y' := by
    by_cases c : y < y'
    · have := h.year_hi; have := h'.year_lo; have := dby_le (y + 1) y' (by omega); omega
    · by_cases c' : y' < y
      · have := h'.year_hi; have := h.year_lo; have := dby_le (y' + 1) y (by omega); omega
      · omega
  subst hy
  have hm : m = m' := by
    by_cases c : m < m'
    · have := h.hi; have := h'.lo; have := cum_le y (m + 1) m' (by have := h.m0; omega) (by omega) (by have := h'.m1; omega); omega
    · by_cases c' : m' < m
      · have := h'.hi; have := h.lo; have := cum_le y (m' + 1) m (by have := h'.m0; omega) (by omega) (by have := h.m1; omega); omega
      · omega
  subst hm
  have a := h.eq; have b := h'.eq
  refine ⟨rfl, rfl, ?_⟩
  unfold dnum at a b; omega

theorem l1In_ (x a b : Int) : spec_l1In.f x a b = some (decide (a ≤ x ∧ x ≤ b)) := by unfold spec_l1In.f; exact within_
theorem l3Length_ (y m : Int) (hy : 0 ≤ y) (k : Nat) (hk : 1 ≤ k) : spec_l3Length.f k y m = some (dim y m) := by
  obtain ⟨k, rfl⟩ : ∃ j, k = j + 1 := ⟨k - 1, by omega⟩
  unfold spec_l3Length.f dim
  simp only [spec_l3Length.j0, tmd 4 hy]
  by_cases h2 : m = 2
  · subst h2; simp; split <;> rfl
  · by_cases h4 : m = 4
    · subst h4; simp
    · by_cases h6 : m = 6
      · subst h6; simp
      · by_cases h9 : m = 9
        · subst h9; simp
        · by_cases h11 : m = 11
          · subst h11; simp
          · simp [h2, h4, h6, h9, h11]
theorem l3Day_l0 (y m d : Int) (hy : 2000 ≤ y) (hy' : y ≤ 2100) (hm : 1 ≤ m) (hm' : m ≤ 13) (hd : -1000 ≤ d) (hd' : d ≤ 1000) (n : Nat) : ∀ (j : Int) (k : Nat), 1 ≤ j → j ≤ m → m - j = n → n + 2 ≤ k →
    spec_l3Day.l0 k (dby y + cum y j) j y m d = some (dnum y m d) := by
  have b := dby_bd y hy hy'
  induction n with
  | zero =>
    intro j k h1 h2 hn hk
    obtain ⟨k, rfl⟩ : ∃ i, k = i + 1 := ⟨k - 1, by omega⟩
    obtain rfl : j = m := by omega
    have c := cum_bd y j h1 hm'
    simp only [spec_l3Day.l0]
    rw [if_neg (by omega)]
    simp (disch := omega) only [w64]
    rfl
  | succ n ih =>
    intro j k h1 h2 hn hk
    obtain ⟨k, rfl⟩ : ∃ i, k = i + 1 := ⟨k - 1, by omega⟩
    have c := cum_bd y j h1 (by omega)
    have e := dim_pos y j
    have s := cum_succ y j h1 (by omega)
    simp only [spec_l3Day.l0]
    rw [if_pos (by omega), l3Length_ y j (by omega) k (by omega)]
    simp only [Option.bind_some]
    simp (disch := omega) only [w64]
    have := ih (j + 1) k (by omega) (by omega) (by omega) (by omega)
    rw [s] at this
    rw [← this]; congr 1 <;> omega
theorem l3Day_ (y m d : Int) (hy : 2000 ≤ y) (hy' : y ≤ 2100) (hm : 1 ≤ m) (hm' : m ≤ 13) (hd : -1000 ≤ d) (hd' : d ≤ 1000) (k : Nat) (hk : 14 ≤ k) : spec_l3Day.f k y m d = some (dnum y m d) := by
  unfold spec_l3Day.f
  simp (disch := omega) only [w64, tdv]
  have := l3Day_l0 y m d hy hy' hm hm' hd hd' (m - 1).toNat 1 k (by omega) (by omega) (by omega) (by omega)
  rw [cum_1] at this
  rw [← this]; unfold dby; congr 1 <;> omega

theorem dnum_y11 (y : Int) : dnum y 1 1 = dby y := by unfold dnum; rw [cum_1]; omega
theorem l3Date_l1 (day y : Int) (hy : 2000 ≤ y) (hy' : y ≤ 2099) (h2 : day < dby (y + 1)) (n : Nat) : ∀ (m : Int) (k : Nat), 1 ≤ m → m ≤ 12 → 12 - m = n → n + 16 ≤ k → dby y + cum y m ≤ day →
    ∃ m' d, spec_l3Date.l1 k day y m 1 = some (y, m', d) ∧ IsDate y m' d day := by
  have b := dby_bd y hy (by omega)
  induction n with
  | zero =>
    intro m k h1 h2' hn hk hlo
    obtain ⟨k, rfl⟩ : ∃ i, k = i + 1 := ⟨k - 1, by omega⟩
    obtain rfl : m = 12 := by omega
    have c := cum_bd y 12 (by omega) (by omega)
    have s := cum_succ y 12 (by omega) (by omega)
    have e := dby_succ y
    have c13 := cum_13 y
    have b2 := dby_bd (y + 1) (by omega) (by omega)
    refine ⟨12, day - (dby y + cum y 12) + 1, ?_, ⟨hy, hy', by omega, by omega, by omega, ?_, ?_⟩⟩
    · simp only [spec_l3Date.l1]
      rw [if_neg (by omega), l3Day_ y 12 1 hy (by omega) (by omega) (by omega) (by omega) (by omega) k (by omega)]
      simp only [Option.bind_some]
      have : dnum y 12 1 = dby y + cum y 12 := by unfold dnum; omega
      rw [this]
      simp (disch := omega) only [w64]
    · have : cum y (12 + 1) = cum y 13 := rfl
      omega
    · unfold dnum; omega
  | succ n ih =>
    intro m k h1 h2' hn hk hlo
    obtain ⟨k, rfl⟩ : ∃ i, k = i + 1 := ⟨k - 1, by omega⟩
    have c := cum_bd y m (by omega) (by omega)
    have s := cum_succ y m (by omega) (by omega)
    have b2 := dby_bd (y + 1) (by omega) (by omega)
    have e1 : dnum y (m + 1) 1 = dby y + cum y (m + 1) := by unfold dnum; omega
    have e0 : dnum y m 1 = dby y + cum y m := by unfold dnum; omega
    by_cases hc : dby y + cum y (m + 1) ≤ day
    · obtain ⟨m', d, h, hD⟩ := ih (m + 1) k (by omega) (by omega) (by omega) (by omega) hc
      refine ⟨m', d, ?_, hD⟩
      simp only [spec_l3Date.l1]
      rw [if_pos (by omega), w64 (x := m + 1) (by omega) (by omega), l3Day_ y (m + 1) 1 hy (by omega) (by omega) (by omega) (by omega) (by omega) k (by omega), e1]
      simp only [Option.bind_some]
      rw [if_pos hc]; exact h
    · refine ⟨m, day - (dby y + cum y m) + 1, ?_, ⟨hy, hy', by omega, by omega, by omega, by omega, by unfold dnum; omega⟩⟩
      simp only [spec_l3Date.l1]
      rw [if_pos (by omega), w64 (x := m + 1) (by omega) (by omega), l3Day_ y (m + 1) 1 hy (by omega) (by omega) (by omega) (by omega) (by omega) k (by omega), e1]
      simp only [Option.bind_some]
      rw [if_neg hc, l3Day_ y m 1 hy (by omega) (by omega) (by omega) (by omega) (by omega) k (by omega), e0]
      simp only [Option.bind_some]
      simp (disch := omega) only [w64]
theorem l3Date_l0 (day : Int) (h2 : day ≤ 36524) (n : Nat) : ∀ (y : Int) (k : Nat), 2000 ≤ y → y ≤ 2099 → 2099 - y = n → n + 40 ≤ k → dby y ≤ day →
    ∃ y' m' d, spec_l3Date.l0 k day y 1 1 = some (y', m', d) ∧ IsDate y' m' d day := by
  induction n with
  | zero =>
    intro y k h1 h2' hn hk hlo
    obtain ⟨k, rfl⟩ : ∃ i, k = i + 2 := ⟨k - 2, by omega⟩
    obtain rfl : y = 2099 := by omega
    obtain ⟨m', d, h, hD⟩ := l3Date_l1 day 2099 (by omega) (by omega) (by have := dby_2100; have e : (2099 : Int) + 1 = 2100 := rfl; rw [e]; omega) 11 1 k (by omega) (by omega) (by omega) (by omega) (by rw [cum_1]; omega)
    refine ⟨2099, m', d, ?_, hD⟩
    simp only [spec_l3Date.l0]
    rw [if_neg (by omega)]
    simp only [spec_l3Date.j1]; exact h
  | succ n ih =>
    intro y k h1 h2' hn hk hlo
    obtain ⟨k, rfl⟩ : ∃ i, k = i + 2 := ⟨k - 2, by omega⟩
    by_cases hc : dby (y + 1) ≤ day
    · obtain ⟨y', m', d, h, hD⟩ := ih (y + 1) (k + 1) (by omega) (by omega) (by omega) (by omega) hc
      refine ⟨y', m', d, ?_, hD⟩
      rw [spec_l3Date.l0]
      rw [if_pos (by omega), w64 (x := y + 1) (by omega) (by omega), l3Day_ (y + 1) 1 1 (by omega) (by omega) (by omega) (by omega) (by omega) (by omega) (k + 1) (by omega), dnum_y11]
      simp only [Option.bind_some]
      rw [if_pos hc]; exact h
    · obtain ⟨m', d, h, hD⟩ := l3Date_l1 day y (by omega) (by omega) (by omega) 11 1 k (by omega) (by omega) (by omega) (by omega) (by rw [cum_1]; omega)
      refine ⟨y, m', d, ?_, hD⟩
      rw [spec_l3Date.l0]
      rw [if_pos (by omega), w64 (x := y + 1) (by omega) (by omega), l3Day_ (y + 1) 1 1 (by omega) (by omega) (by omega) (by omega) (by omega) (by omega) (k + 1) (by omega), dnum_y11]
      simp only [Option.bind_some]
      rw [if_neg hc]
      simp only [spec_l3Date.j1]; exact h
theorem l3Date_ (day : Int) (h : 0 ≤ day) (h2 : day ≤ 36524) : ∃ y m d, IsDate y m d day ∧ ∀ k, 139 ≤ k → spec_l3Date.f k day = some (y, m, d) := by
  obtain ⟨y, m, d, h1, hD⟩ := l3Date_l0 day h2 99 2000 139 (by omega) (by omega) (by omega) (by omega) (by rw [dby_2000]; exact h)
  refine ⟨y, m, d, hD, fun k hk => ?_⟩
  exact at_rounds (fun k => spec_l3Date.mono day k) hk (by unfold spec_l3Date.f; exact h1)

theorem withinI_ (x a b : Int) : impl_within.f x a b = some (decide (a ≤ x ∧ x ≤ b)) := by unfold impl_within.f; exact within_
theorem daysIn_ (y m : Int) (hy : 0 ≤ y) : impl_daysIn.f y m = some (dim y m) := by
  unfold impl_daysIn.f dim
  simp only [tmd 4 hy]
  by_cases h2 : m = 2
  · subst h2; simp; split <;> rfl
  · by_cases h4 : m = 4
    · subst h4; simp
    · by_cases h6 : m = 6
      · subst h6; simp
      · by_cases h9 : m = 9
        · subst h9; simp
        · by_cases h11 : m = 11
          · subst h11; simp
          · simp [h2, h4, h6, h9, h11]

theorem daysOf_ (y : Int) (hy : 0 ≤ y) : impl_daysOf.f y = some (337 + dim y 2) := by
  unfold impl_daysOf.f
  have := dim_pos y 2
  rw [daysIn_ y 2 hy]
  simp only [Option.bind_some]
  simp (disch := omega) only [w64]

theorem dayOf_l1 (y m d : Int) (hy : 2000 ≤ y) (hy' : y ≤ 2100) (hm : 1 ≤ m) (hm' : m ≤ 13) (hd : -1000 ≤ d) (hd' : d ≤ 1000) (n : Nat) : ∀ (j : Int) (k : Nat), 1 ≤ j → j ≤ m → m - j = n → n + 1 ≤ k →
    impl_dayOf.l1 k (dby y + cum y j + d - 1) j y m d = some (dnum y m d) := by
  have b := dby_bd y hy hy'
  induction n with
  | zero =>
    intro j k h1 h2 hn hk
    obtain ⟨k, rfl⟩ : ∃ i, k = i + 1 := ⟨k - 1, by omega⟩
    obtain rfl : j = m := by omega
    simp only [impl_dayOf.l1]
    rw [if_neg (by omega)]
    rfl
  | succ n ih =>
    intro j k h1 h2 hn hk
    obtain ⟨k, rfl⟩ : ∃ i, k = i + 1 := ⟨k - 1, by omega⟩
    have c := cum_bd y j h1 (by omega)
    have e := dim_pos y j
    have s := cum_succ y j h1 (by omega)
    simp only [impl_dayOf.l1]
    rw [if_pos (by omega), daysIn_ y j (by omega)]
    simp only [Option.bind_some]
    simp (disch := omega) only [w64]
    have := ih (j + 1) k (by omega) (by omega) (by omega) (by omega)
    rw [s] at this
    rw [← this]; congr 1 <;> omega
theorem dayOf_l0 (y m d : Int) (hy : 2000 ≤ y) (hy' : y ≤ 2100) (hm : 1 ≤ m) (hm' : m ≤ 13) (hd : -1000 ≤ d) (hd' : d ≤ 1000) (n : Nat) : ∀ (j : Int) (k : Nat), 2000 ≤ j → j ≤ y → y - j = n → n + 15 ≤ k →
    impl_dayOf.l0 k (dby j + d - 1) j y m d = some (dnum y m d) := by
  induction n with
  | zero =>
    intro j k h1 h2 hn hk
    obtain ⟨k, rfl⟩ : ∃ i, k = i + 1 := ⟨k - 1, by omega⟩
    obtain rfl : j = y := by omega
    simp only [impl_dayOf.l0]
    rw [if_neg (by omega)]
    have := dayOf_l1 j m d hy hy' hm hm' hd hd' (m - 1).toNat 1 k (by omega) (by omega) (by omega) (by omega)
    rw [cum_1] at this
    rw [← this]; congr 1 <;> omega
  | succ n ih =>
    intro j k h1 h2 hn hk
    obtain ⟨k, rfl⟩ : ∃ i, k = i + 1 := ⟨k - 1, by omega⟩
    have b := dby_bd j h1 (by omega)
    have e := dim_pos j 2
    have s := dby_succ j
    simp only [impl_dayOf.l0]
    rw [if_pos (by omega), daysOf_ j (by omega)]
    simp only [Option.bind_some]
    simp (disch := omega) only [w64]
    have := ih (j + 1) k (by omega) (by omega) (by omega) (by omega)
    rw [← this, s]; congr 1 <;> omega
theorem dayOf_ (y m d : Int) (hy : 2000 ≤ y) (hy' : y ≤ 2100) (hm : 1 ≤ m) (hm' : m ≤ 13) (hd : -1000 ≤ d) (hd' : d ≤ 1000) (k : Nat) (hk : 115 ≤ k) : impl_dayOf.f k y m d = some (dnum y m d) := by
  unfold impl_dayOf.f
  simp (disch := omega) only [w64]
  have := dayOf_l0 y m d hy hy' hm hm' hd hd' (y - 2000).toNat 2000 k (by omega) (by omega) (by omega) (by omega)
  rw [dby_2000] at this
  rw [← this]; congr 1 <;> omega

theorem dateOf_l1 (day y : Int) (hy : 2000 ≤ y) (hy' : y ≤ 2099) (h2 : day < dby (y + 1)) (n : Nat) : ∀ (m : Int) (k : Nat), 1 ≤ m → m ≤ 12 → 12 - m = n → n + 1 ≤ k → dby y + cum y m ≤ day →
    ∃ m' d, impl_dateOf.l1 k (day - (dby y + cum y m)) y m 0 = some (y, m', d) ∧ IsDate y m' d day := by
  have b := dby_bd y hy (by omega)
  have b2 := dby_bd (y + 1) (by omega) (by omega)
  induction n with
  | zero =>
    intro m k h1 h2' hn hk hlo
    obtain ⟨k, rfl⟩ : ∃ i, k = i + 1 := ⟨k - 1, by omega⟩
    obtain rfl : m = 12 := by omega
    have c := cum_bd y 12 (by omega) (by omega)
    have s := cum_succ y 12 (by omega) (by omega)
    have e := dby_succ y
    have c13 := cum_13 y
    have : cum y (12 + 1) = cum y 13 := rfl
    refine ⟨12, day - (dby y + cum y 12) + 1, ?_, ⟨hy, hy', by omega, by omega, by omega, by omega, by unfold dnum; omega⟩⟩
    simp only [impl_dateOf.l1]
    rw [daysIn_ y 12 (by omega)]
    simp only [Option.bind_some]
    rw [if_neg (by omega)]
    simp (disch := omega) only [w64]
  | succ n ih =>
    intro m k h1 h2' hn hk hlo
    obtain ⟨k, rfl⟩ : ∃ i, k = i + 1 := ⟨k - 1, by omega⟩
    have c := cum_bd y m (by omega) (by omega)
    have s := cum_succ y m (by omega) (by omega)
    have e := dim_pos y m
    by_cases hc : dby y + cum y (m + 1) ≤ day
    · obtain ⟨m', d, h, hD⟩ := ih (m + 1) k (by omega) (by omega) (by omega) (by omega) hc
      refine ⟨m', d, ?_, hD⟩
      simp only [impl_dateOf.l1]
      rw [daysIn_ y m (by omega)]
      simp only [Option.bind_some]
      rw [if_pos (by omega)]
      simp (disch := omega) only [w64]
      rw [← h, s]; congr 1 <;> omega
    · refine ⟨m, day - (dby y + cum y m) + 1, ?_, ⟨hy, hy', by omega, by omega, by omega, by omega, by unfold dnum; omega⟩⟩
      simp only [impl_dateOf.l1]
      rw [daysIn_ y m (by omega)]
      simp only [Option.bind_some]
      rw [if_neg (by omega)]
      simp (disch := omega) only [w64]
theorem dateOf_l0 (day : Int) (h2 : day ≤ 36524) (n : Nat) : ∀ (y : Int) (k : Nat), 2000 ≤ y → y ≤ 2099 → 2099 - y = n → n + 20 ≤ k → dby y ≤ day →
    ∃ y' m' d, impl_dateOf.l0 k (day - dby y) y 1 0 = some (y', m', d) ∧ IsDate y' m' d day := by
  induction n with
  | zero =>
    intro y k h1 h2' hn hk hlo
    obtain ⟨k, rfl⟩ : ∃ i, k = i + 1 := ⟨k - 1, by omega⟩
    obtain rfl : y = 2099 := by omega
    have e1 : (2099 : Int) + 1 = 2100 := rfl
    have s := dby_succ 2099
    rw [e1, dby_2100] at s
    obtain ⟨m', d, h, hD⟩ := dateOf_l1 day 2099 (by omega) (by omega) (by rw [e1, dby_2100]; omega) 11 1 k (by omega) (by omega) (by omega) (by omega) (by rw [cum_1]; omega)
    refine ⟨2099, m', d, ?_, hD⟩
    simp only [impl_dateOf.l0]
    rw [daysOf_ 2099 (by omega)]
    simp only [Option.bind_some]
    rw [if_neg (by omega)]
    rw [cum_1] at h
    rw [← h]; congr 1 <;> omega
  | succ n ih =>
    intro y k h1 h2' hn hk hlo
    obtain ⟨k, rfl⟩ : ∃ i, k = i + 1 := ⟨k - 1, by omega⟩
    have s := dby_succ y
    have b := dby_bd y h1 (by omega)
    have e := dim_pos y 2
    by_cases hc : dby (y + 1) ≤ day
    · obtain ⟨y', m', d, h, hD⟩ := ih (y + 1) k (by omega) (by omega) (by omega) (by omega) hc
      refine ⟨y', m', d, ?_, hD⟩
      simp only [impl_dateOf.l0]
      rw [daysOf_ y (by omega)]
      simp only [Option.bind_some]
      rw [if_pos (by omega)]
      simp (disch := omega) only [w64]
      rw [← h, s]; congr 1 <;> omega
    · obtain ⟨m', d, h, hD⟩ := dateOf_l1 day y (by omega) (by omega) (by omega) 11 1 k (by omega) (by omega) (by omega) (by omega) (by rw [cum_1]; omega)
      refine ⟨y, m', d, ?_, hD⟩
      simp only [impl_dateOf.l0]
      rw [daysOf_ y (by omega)]
      simp only [Option.bind_some]
      rw [if_neg (by omega)]
      rw [cum_1] at h
      rw [← h]; congr 1 <;> omega
theorem dateOf_ (day : Int) (h : 0 ≤ day) (h2 : day ≤ 36524) : ∃ y m d, IsDate y m d day ∧ ∀ k, 119 ≤ k → impl_dateOf.f k day = some (y, m, d) := by
  obtain ⟨y, m, d, h1, hD⟩ := dateOf_l0 day h2 99 2000 119 (by omega) (by omega) (by omega) (by omega) (by rw [dby_2000]; exact h)
  rw [dby_2000] at h1
  refine ⟨y, m, d, hD, fun k hk => ?_⟩
  exact at_rounds (fun k => impl_dateOf.mono day k) hk (by unfold impl_dateOf.f; rw [← h1]; congr 1 <;> omega)

theorem dates_ (day : Int) (h : 0 ≤ day) (h2 : day ≤ 36524) : ∃ y m d, IsDate y m d day ∧ (∀ k, 139 ≤ k → spec_l3Date.f k day = some (y, m, d)) ∧ ∀ k, 139 ≤ k → impl_dateOf.f k day = some (y, m, d) := by
  obtain ⟨y, m, d, hD, hs⟩ := l3Date_ day h h2
  obtain ⟨y', m', d', hD', hi⟩ := dateOf_ day h h2
  obtain ⟨rfl, rfl, rfl⟩ := hD.uniq hD'
  exact ⟨y, m, d, hD, hs, fun k hk => hi k (by omega)⟩

def sel (n : Int) (L : List Int) : Int := if n = -1 then (if L = [] then -1 else rd L (L.length - 1)) else if n ≤ L.length then rd L (n - 1) else -1
theorem rd_last (L : List Int) (x : Int) : rd (L ++ [x]) L.length = x := by unfold rd; simp
theorem rd_old (L : List Int) (x i : Int) (h0 : 0 ≤ i) (h : i < L.length) : rd (L ++ [x]) i = rd L i := by
  unfold rd
  have : i.toNat < L.length := by omega
  simp [List.getD_eq_getElem?_getD, List.getElem?_append, this]
theorem rd_mem (L : List Int) (i : Int) (h0 : 0 ≤ i) (h : i < L.length) : rd L i ∈ L := by
  unfold rd
  have : i.toNat < L.length := by omega
  rw [List.getD_eq_getElem?_getD, List.getElem?_eq_getElem this]
  simp
theorem sel_put (n x : Int) (L : List Int) (hn : n = -1 ∨ 1 ≤ n) : sel n (L ++ [x]) = if (L.length : Int) + 1 = n ∨ n = -1 then x else sel n L := by
  unfold sel
  by_cases h1 : n = -1
  · rw [if_pos h1, if_neg (by simp), if_pos (Or.inr h1)]
    have := rd_last L x
    simp only [List.length_append, List.length_cons, List.length_nil]
    rw [show (((L.length + (0 + 1) : Nat) : Int) - 1) = (L.length : Int) by omega]; exact this
  · rw [if_neg h1, if_neg h1]
    simp only [List.length_append, List.length_cons, List.length_nil]
    by_cases h2 : (L.length : Int) + 1 = n
    · rw [if_pos (by omega), if_pos (Or.inl h2), show n - 1 = (L.length : Int) by omega]; exact rd_last L x
    · rw [if_neg (c := (L.length : Int) + 1 = n ∨ n = -1) (by omega)]
      by_cases h3 : n ≤ L.length
      · rw [if_pos (by omega), if_pos h3]; exact rd_old L x _ (by omega) (by omega)
      · rw [if_neg (by omega), if_neg h3]
theorem spec_wd (day : Int) (h : 0 ≤ day) (h' : day ≤ 100000) : spec_l3Weekday.f day = some ((day + 5) % 7) := by
  unfold spec_l3Weekday.f; simp (disch := omega) only [w64, tmd]
theorem impl_wd (day : Int) (h : 0 ≤ day) (h' : day ≤ 100000) : impl_weekday.f day = some ((day + 5) % 7) := by
  unfold impl_weekday.f; simp (disch := omega) only [w64, tmd]
/-- What is found: the right day of the month, or nothing. -/
def Found (y m w n : Int) (r : Int × Bool) : Prop := (r.2 = true → ∃ i : Int, 0 ≤ i ∧ r.1 = dnum y m 1 + (w - (dnum y m 1 + 5)) % 7 + 7 * i ∧ (w - (dnum y m 1 + 5)) % 7 + 7 * i < dim y m ∧ (n ≠ -1 → i = n - 1)) ∧ (r.2 = false → r.1 = 0)
theorem nth_loop (y m w n : Int) (hy : 2000 ≤ y) (hy' : y ≤ 2099) (hm : 1 ≤ m) (hm' : m ≤ 12) (hw : 0 ≤ w) (hw' : w ≤ 6) (hn : n = -1 ∨ 1 ≤ n ∧ n ≤ 5) (d : Nat) :
    ∀ (j : Int) (k : Nat) (L : List Int), 1 ≤ j → j ≤ dim y m + 1 → dim y m + 1 - j = d → d + 20 ≤ k → (L.length : Int) ≤ j - 1 → (∀ x ∈ L, 0 ≤ x) → (∀ i, 1 ≤ i → i < j → (dnum y m 1 + i - 1 + 5) % 7 = w → L ≠ []) →
    (∀ i : Int, 0 ≤ i → i < L.length → rd L i = dnum y m 1 + (w - (dnum y m 1 + 5)) % 7 + 7 * i) → j - 1 ≤ (w - (dnum y m 1 + 5)) % 7 + 7 * L.length → (w - (dnum y m 1 + 5)) % 7 + 7 * ((L.length : Int) - 1) < j - 1 →
    ∃ r, spec_NthWeekday.l0 k y m w n (sel n L) L.length j = some r ∧ impl_NthWeekday.l0 k y m w n (dnum y m 1) L (dnum y m 1 + j - 1) = some r ∧ Found y m w n r := by
  have hF : 0 ≤ dnum y m 1 ∧ dnum y m 1 + dim y m ≤ 40000 := by
    have a := dby_bd y hy (by omega); have b := cum_bd y m hm (by omega); have c := dim_pos y m
    unfold dnum; omega
  have hd := dim_pos y m
  induction d with
  | zero =>
    intro j k L h1 h2 hd0 hk hL hp hne hv hnx hpv
    obtain ⟨k, rfl⟩ : ∃ i, k = i + 1 := ⟨k - 1, by omega⟩
    have hL0 : L ≠ [] := hne ((w - (dnum y m 1 + 5)) % 7 + 1) (by omega) (by omega) (by omega)
    have hL1 : 0 < L.length := List.length_pos_iff.mpr hL0
    refine ⟨if n > L.length then (0, false) else (sel n L, true), ?_, ?_, ?_⟩
    · simp only [spec_NthWeekday.l0]
      rw [l3Length_ y m (by omega) k (by omega)]
      simp only [Option.bind_some]
      rw [if_neg (by omega)]
      by_cases hc : n > L.length
      · have : sel n L = -1 := by unfold sel; rw [if_neg (by omega), if_neg (by omega)]
        rw [if_pos hc, this]; simp
      · have : 0 ≤ sel n L := by
          unfold sel
          split
          · exact hp _ (rd_mem _ _ (by omega) (by omega))
          · rw [if_pos (by omega)]; exact hp _ (rd_mem _ _ (by omega) (by omega))
        rw [if_neg hc, if_neg (by omega)]
    · simp only [impl_NthWeekday.l0]
      rw [daysIn_ y m (by omega)]
      simp only [Option.bind_some]
      rw [w64 (x := dnum y m 1 + dim y m) (by omega) (by omega), if_neg (by omega)]
      by_cases hn1 : n = -1
      · rw [if_pos hn1]
        simp (disch := omega) only [w64]
        rw [if_pos (by omega), if_pos (by omega), if_neg (by omega)]
        unfold sel
        rw [if_pos hn1, if_neg hL0]
      · rw [if_neg hn1]
        simp (disch := omega) only [w64]
        by_cases hc : n > L.length
        · rw [if_pos hc, if_pos hc]
        · rw [if_neg hc, if_neg hc, if_pos (by omega), if_pos (by omega)]
          unfold sel
          rw [if_neg hn1, if_pos (by omega)]
    · by_cases hc : n > L.length
      · rw [if_pos hc]; exact ⟨fun h => (by cases h), fun _ => rfl⟩
      · rw [if_neg hc]
        refine ⟨fun _ => ?_, fun h => (by cases h)⟩
        unfold sel
        by_cases hn1 : n = -1
        · rw [if_pos hn1, if_neg hL0]
          exact ⟨(L.length : Int) - 1, by omega, hv _ (by omega) (by omega), by omega, fun h => absurd hn1 h⟩
        · rw [if_neg hn1, if_pos (by omega)]
          exact ⟨n - 1, by omega, hv _ (by omega) (by omega), by omega, fun _ => rfl⟩
  | succ d ih =>
    intro j k L h1 h2 hd0 hk hL hp hne hv hnx hpv
    obtain ⟨k, rfl⟩ : ∃ i, k = i + 1 := ⟨k - 1, by omega⟩
    have ej : dnum y m j = dnum y m 1 + j - 1 := by unfold dnum; omega
    by_cases hc : (dnum y m 1 + j - 1 + 5) % 7 = w
    · obtain ⟨r, hr1, hr2, hF3⟩ := ih (j + 1) k (L ++ [dnum y m 1 + j - 1]) (by omega) (by omega) (by omega) (by omega) (by simp; omega)
        (by intro x hx; rcases List.mem_append.mp hx with hx | hx
            · exact hp x hx
            · rw [List.mem_singleton.mp hx]; omega)
        (by intro i _ _ _; simp)
        (by intro i i0 i1
            simp only [List.length_append, List.length_cons, List.length_nil] at i1
            by_cases e : i < L.length
            · rw [rd_old L _ i i0 e]; exact hv i i0 e
            · rw [show i = (L.length : Int) by omega, rd_last]; omega)
        (by simp only [List.length_append, List.length_cons, List.length_nil]; omega)
        (by simp only [List.length_append, List.length_cons, List.length_nil]; omega)
      refine ⟨r, ?_, ?_, hF3⟩
      · simp only [spec_NthWeekday.l0]
        rw [l3Length_ y m (by omega) k (by omega)]
        simp only [Option.bind_some]
        rw [if_pos (by omega), l3Day_ y m j (by omega) (by omega) (by omega) (by omega) (by omega) (by omega) k (by omega), ej]
        simp only [Option.bind_some]
        rw [spec_wd _ (by omega) (by omega)]
        simp only [Option.bind_some]
        rw [if_pos hc, w64 (x := (L.length : Int) + 1) (by omega) (by omega), w64 (x := j + 1) (by omega) (by omega)]
        rw [sel_put n _ L (by omega)] at hr1
        simp only [List.length_append, List.length_cons, List.length_nil, Nat.zero_add, Int.natCast_add, Int.natCast_one] at hr1
        by_cases h3 : (L.length : Int) + 1 = n
        · rw [if_pos h3]; rw [if_pos (Or.inl h3)] at hr1; exact hr1
        · rw [if_neg h3]
          by_cases h4 : n = -1
          · rw [if_pos h4]; rw [if_pos (Or.inr h4)] at hr1; exact hr1
          · rw [if_neg h4]; rw [if_neg (by omega)] at hr1; exact hr1
      · simp only [impl_NthWeekday.l0]
        rw [daysIn_ y m (by omega)]
        simp only [Option.bind_some]
        rw [w64 (x := dnum y m 1 + dim y m) (by omega) (by omega), if_pos (by omega), impl_wd _ (by omega) (by omega)]
        simp only [Option.bind_some]
        rw [if_pos hc, if_pos (by omega), w64 (by omega) (by omega)]
        rw [← hr2]; congr 1 <;> omega
    · obtain ⟨r, hr1, hr2, hF3⟩ := ih (j + 1) k L (by omega) (by omega) (by omega) (by omega) (by omega) hp
        (by intro i a b c
            by_cases e : i = j
            · subst e; exact absurd c hc
            · exact hne i a (by omega) c)
        hv (by omega) (by omega)
      refine ⟨r, ?_, ?_, hF3⟩
      · simp only [spec_NthWeekday.l0]
        rw [l3Length_ y m (by omega) k (by omega)]
        simp only [Option.bind_some]
        rw [if_pos (by omega), l3Day_ y m j (by omega) (by omega) (by omega) (by omega) (by omega) (by omega) k (by omega), ej]
        simp only [Option.bind_some]
        rw [spec_wd _ (by omega) (by omega)]
        simp only [Option.bind_some]
        rw [if_neg hc, w64 (x := j + 1) (by omega) (by omega)]; exact hr1
      · simp only [impl_NthWeekday.l0]
        rw [daysIn_ y m (by omega)]
        simp only [Option.bind_some]
        rw [w64 (x := dnum y m 1 + dim y m) (by omega) (by omega), if_pos (by omega), impl_wd _ (by omega) (by omega)]
        simp only [Option.bind_some]
        rw [if_neg hc, w64 (by omega) (by omega)]
        rw [← hr2]; congr 1 <;> omega
theorem NthWeekday_ (y m w n : Int) : ∃ r, spec_NthWeekday.f 200 y m w n = some r ∧ impl_NthWeekday.f 200 y m w n = some r ∧ (r.2 = true → (2000 ≤ y ∧ y ≤ 2099) ∧ (1 ≤ m ∧ m ≤ 12) ∧ (0 ≤ w ∧ w ≤ 6)) ∧ Found y m w n r := by
  unfold spec_NthWeekday.f impl_NthWeekday.f impl_isMonth.f
  simp only [l1In_, withinI_, Option.bind_some]
  by_cases h1 : decide (2000 ≤ y ∧ y ≤ 2099) = true
  case neg => exact ⟨(0, false), by simp [h1, spec_NthWeekday.j0], by simp [h1, impl_NthWeekday.j0], fun h => (by cases h), fun h => (by cases h), fun _ => rfl⟩
  by_cases h2 : decide (1 ≤ m ∧ m ≤ 12) = true
  case neg => exact ⟨(0, false), by simp [h1, h2, spec_NthWeekday.j0], by simp [h1, h2, impl_NthWeekday.j0], fun h => (by cases h), fun h => (by cases h), fun _ => rfl⟩
  by_cases h3 : decide (0 ≤ w ∧ w ≤ 6) = true
  case neg => exact ⟨(0, false), by simp [h1, h2, h3, spec_NthWeekday.j0], by simp [h1, h2, h3, impl_NthWeekday.j0], fun h => (by cases h), fun h => (by cases h), fun _ => rfl⟩
  have a1 := of_decide_eq_true h1
  have a2 := of_decide_eq_true h2
  have a3 := of_decide_eq_true h3
  have core : ∀ (hn : n = -1 ∨ 1 ≤ n ∧ n ≤ 5), ∃ r, spec_NthWeekday.j0 200 y m w n false = some r ∧ impl_NthWeekday.j0 200 y m w n false = some r ∧ Found y m w n r := by
    intro hn
    have hd := dim_pos y m
    obtain ⟨r, hr1, hr2, hF3⟩ := nth_loop y m w n a1.1 a1.2 a2.1 a2.2 a3.1 a3.2 hn (dim y m).toNat 1 199 [] (by omega) (by omega) (by omega) (by omega) (by simp) (by simp) (by intro i _ _; omega) (by intro i _ h; simp at h; omega) (by simp; omega) (by simp; omega)
    refine ⟨r, ?_, ?_, hF3⟩
    · simp only [spec_NthWeekday.j0]
      have : sel n [] = -1 := by unfold sel; simp; intro h; omega
      rw [this] at hr1
      simp only [Bool.false_eq_true, if_false]; exact hr1
    · simp only [impl_NthWeekday.j0]
      rw [dayOf_ y m 1 (by omega) (by omega) (by omega) (by omega) (by omega) (by omega) 199 (by omega)]
      simp only [Bool.false_eq_true, if_false, Option.bind_some]
      rw [← hr2]; congr 1 <;> omega
  by_cases h4 : n = -1
  · obtain ⟨r, hr1, hr2, hF3⟩ := core (Or.inl h4)
    exact ⟨r, by simp only [h1, h2, h3, h4, if_true] at *; exact hr1, by simp only [h1, h2, h3, h4, if_true] at *; exact hr2, fun _ => ⟨a1, a2, a3⟩, hF3⟩
  · by_cases h5 : decide (1 ≤ n ∧ n ≤ 5) = true
    · obtain ⟨r, hr1, hr2, hF3⟩ := core (Or.inr (of_decide_eq_true h5))
      exact ⟨r, by simp only [h1, h2, h3, h5, if_neg h4, if_true, Bool.not_true]; exact hr1, by simp only [h1, h2, h3, h5, if_neg h4, if_true, Bool.not_true]; exact hr2, fun _ => ⟨a1, a2, a3⟩, hF3⟩
    · exact ⟨(0, false), by simp [h1, h2, h3, h4, h5, spec_NthWeekday.j0], by simp [h1, h2, h3, h4, h5, impl_NthWeekday.j0], fun h => (by cases h), fun h => (by cases h), fun _ => rfl⟩

theorem addMonths_ (day n : Int) : ∃ N ok, spec_AddMonths.f 200 day n = some (N, ok) ∧ impl_AddMonths.f 200 day n = some (N, ok) ∧
    (ok = true → (0 ≤ day ∧ day ≤ 36524) ∧ ∃ y m d Y M D, IsDate y m d day ∧ IsDate Y M D N ∧ 12 * Y + M = 12 * y + m + n ∧ (D = d ∨ (D = dim Y M ∧ dim Y M ≤ d))) := by
  unfold spec_AddMonths.f impl_AddMonths.f spec_l3Good.f impl_isDay.f
  simp only [l1In_, withinI_, Option.bind_some]
  by_cases h : decide (0 ≤ day ∧ day ≤ 36524) = true
  case neg => exact ⟨0, false, by simp [h], by simp [h, impl_AddMonths.j0], fun h => by cases h⟩
  by_cases h' : decide (-1200 ≤ n ∧ n ≤ 1200) = true
  case neg => exact ⟨0, false, by simp [h, h'], by simp [h, h', impl_AddMonths.j0], fun h => by cases h⟩
  have hd := of_decide_eq_true h
  have hn := of_decide_eq_true h'
  obtain ⟨y, m, d, hD, hs, hi⟩ := dates_ day hd.1 hd.2
  have y0 := hD.y0; have y1 := hD.y1; have m0 := hD.m0; have m1 := hD.m1; have d0 := hD.d0; have d31 := hD.d31
  rw [if_pos h, if_pos h', if_pos h]
  simp only [impl_AddMonths.j0, h', Bool.not_true, Bool.false_eq_true, if_false]
  unfold spec_l3Months.f
  rw [hs 200 (by omega), hi 199 (by omega)]
  simp only [Option.bind_some]
  simp (disch := omega) only [w64, l1In_, withinI_, Option.bind_some]
  by_cases hr : decide (0 ≤ 12 * (y - 2000) + m - 1 + n ∧ 12 * (y - 2000) + m - 1 + n ≤ 1199) = true
  · have hrr := of_decide_eq_true hr
    simp (disch := omega) only [w64, tdv, tmd]
    have e1 : 2000 + (12 * (y - 2000) + m - 1 + n) / 12 = (12 * y + m - 1 + n) / 12 := by omega
    have e2 : 1 + (12 * (y - 2000) + m - 1 + n) % 12 = (12 * y + m - 1 + n) % 12 + 1 := by omega
    have hs2 : decide (2000 ≤ (12 * y + m - 1 + n) / 12 ∧ (12 * y + m - 1 + n) / 12 ≤ 2099) = true := decide_eq_true (by omega)
    rw [if_pos hr, if_pos hs2, e1, e2]
    generalize hY : (12 * y + m - 1 + n) / 12 = Y at *
    generalize hM : (12 * y + m - 1 + n) % 12 + 1 = M at *
    have := of_decide_eq_true hs2
    have dp := dim_pos Y M
    rw [l3Length_ Y M (by omega) 200 (by omega), daysIn_ Y M (by omega)]
    simp only [Option.bind_some]
    have el : spec_l1Least.f d (dim Y M) = some (mn d (dim Y M)) := by
      unfold spec_l1Least.f mn; split
      · rw [if_neg (by omega)]
      · split
        · rfl
        · congr 1; omega
    have hb : 1 ≤ mn d (dim Y M) ∧ mn d (dim Y M) ≤ 31 := by unfold mn; split <;> omega
    rw [el]
    simp only [Option.bind_some]
    rw [l3Day_ Y M _ (by omega) (by omega) (by omega) (by omega) (by omega) (by omega) 200 (by omega), dayOf_ Y M _ (by omega) (by omega) (by omega) (by omega) (by omega) (by omega) 199 (by omega)]
    refine ⟨_, _, rfl, rfl, fun _ => ⟨hd, y, m, d, Y, M, mn d (dim Y M), hD, ⟨by omega, by omega, by omega, by omega, hb.1, ?_, rfl⟩, by omega, ?_⟩⟩
    · unfold mn; split <;> omega
    · unfold mn; split <;> first | exact Or.inl rfl | exact Or.inr ⟨rfl, by omega⟩
  · rw [if_neg hr]
    have hrr : ¬ (0 ≤ 12 * (y - 2000) + m - 1 + n ∧ 12 * (y - 2000) + m - 1 + n ≤ 1199) := fun h => hr (decide_eq_true h)
    have hs2 : ¬ (decide (2000 ≤ Int.tdiv (12 * y + m - 1 + n) 12 ∧ Int.tdiv (12 * y + m - 1 + n) 12 ≤ 2099) = true) := fun h => by
      have h2 := of_decide_eq_true h
      have : 0 ≤ 12 * y + m - 1 + n := by omega
      rw [tdv 12 this] at h2
      omega
    have hq : wrap64 (Int.tdiv (12 * y + m - 1 + n) 12) = Int.tdiv (12 * y + m - 1 + n) 12 := by
      have : 0 ≤ 12 * y + m - 1 + n := by omega
      rw [tdv 12 this]; exact w64 (by omega) (by omega)
    rw [hq, if_neg hs2]
    exact ⟨_, _, rfl, rfl, fun h => by cases h⟩

theorem u64_rng (n : Int) : 0 ≤ IntKind.u64.wrap n ∧ IntKind.u64.wrap n < 18446744073709551616 := by
  simp [IntKind.wrap, IntKind.bits, IntKind.signed]; omega
theorem u64_id (n : Int) (h0 : 0 ≤ n) (h1 : n < 2 ^ 24) : IntKind.u64.wrap n = n := by
  simp [IntKind.wrap, IntKind.bits, IntKind.signed]; omega
theorem seed_byte (n : Int) : 0 ≤ Go.bits .and .u64 (IntKind.u64.wrap n / 1099511627776) 255 ∧ Go.bits .and .u64 (IntKind.u64.wrap n / 1099511627776) 255 < 256 := by
  have h := u64_rng n
  have e := bits_mask .u64 24 (by decide) u64_id 8 (by decide) (IntKind.u64.wrap n / 1099511627776) (by omega) (by omega)
  rw [show ((2 : Int) ^ 8 - 1) = 255 from rfl, show ((2 : Int) ^ 8) = 256 from rfl] at e
  rw [e]
  omega
theorem rd_u8 (l : List Int) (hl : ∀ x ∈ l, (Lit.int .u8 x).wf = true) (i : Int) (h0 : 0 ≤ i) (h : i < l.length) : 0 ≤ rd l i ∧ rd l i < 256 := by
  have hm : rd l i ∈ l := by
    unfold rd
    have : i.toNat < l.length := by omega
    rw [List.getD_eq_getElem?_getD, List.getElem?_eq_getElem this]
    simp
  have := hl _ hm
  simp [Lit.wf, IntKind.min, IntKind.max, IntKind.signed, IntKind.bits] at this
  omega
/-- A cursor's reading: where it stands stays small. -/
theorem next_ (l : List Int) (hl : ∀ x ∈ l, (Lit.int .u8 x).wf = true) (a s : Int) (h0 : 0 ≤ a) (h1 : a ≤ 4000000000000000000) :
    ∃ b s', spec_l1Cur_next.f l a s = some (b, a + 1, s') ∧ 0 ≤ b ∧ b < 256 := by
  unfold spec_l1Cur_next.f
  rw [w64 (x := a + 1) (by omega) (by omega)]
  by_cases h : a < (l.length : Int)
  · have hr := rd_u8 l hl a h0 h
    rw [if_pos h, if_pos h0, if_pos (by omega), w64 (x := rd l a) (by omega) (by omega)]
    exact ⟨_, _, rfl, hr.1, hr.2⟩
  · rw [if_neg h, if_neg (by omega)]
    have hb := seed_byte ((IntKind.u64.wrap ((IntKind.u64.wrap (s * 6364136223846793005)) + 0)) + 902902)
    rw [w64 (by omega) (by omega)]
    exact ⟨_, _, rfl, hb.1, hb.2⟩
theorem pick_ (l : List Int) (hl : ∀ x ∈ l, (Lit.int .u8 x).wf = true) (a s : Int) (h0 : 0 ≤ a) (h1 : a ≤ 3000000000000000000) (n : Int) (hn : n ≤ 1000000) :
    ∃ r a' s', spec_l1Cur_pick.f l a s n = some (r, a', s') ∧ 0 ≤ r ∧ (r < n ∨ r = 0) ∧ a ≤ a' ∧ a' ≤ a + 2 := by
  unfold spec_l1Cur_pick.f
  by_cases h : n ≤ 1
  · rw [if_pos h]; exact ⟨_, _, _, rfl, by omega, Or.inr rfl, by omega, by omega⟩
  · rw [if_neg h]
    obtain ⟨b, s1, e1, hb, hb'⟩ := next_ l hl a s h0 (by omega)
    rw [e1]
    simp only [Option.bind_some]
    by_cases hg : n > 200
    · rw [if_pos hg]
      obtain ⟨b2, s2, e2, hc, hc'⟩ := next_ l hl (a + 1) s1 (by omega) (by omega)
      rw [e2]
      simp only [Option.bind_some]
      rw [if_neg (by omega), w64 (x := b * 256) (by omega) (by omega), w64 (x := b * 256 + b2) (by omega) (by omega), tmd n (by omega)]
      have m1 := Int.emod_nonneg (b * 256 + b2) (show n ≠ 0 by omega)
      have m2 := Int.emod_lt_of_pos (b * 256 + b2) (show 0 < n by omega)
      exact ⟨_, _, _, rfl, m1, Or.inl m2, by omega, by omega⟩
    · rw [if_neg hg, if_neg (by omega), tmd n (by omega)]
      have m1 := Int.emod_nonneg b (show n ≠ 0 by omega)
      have m2 := Int.emod_lt_of_pos b (show 0 < n by omega)
      exact ⟨_, _, _, rfl, m1, Or.inl m2, by omega, by omega⟩
theorem among_ (l : List Int) (hl : ∀ x ∈ l, (Lit.int .u8 x).wf = true) (a s : Int) (h0 : 0 ≤ a) (h1 : a ≤ 3000000000000000000) (xs : List Int) (hx : xs ≠ []) (hn : xs.length ≤ 1000000) :
    ∃ r a' s', spec_l1Cur_among.f l a s xs = some (r, a', s') ∧ r ∈ xs ∧ a ≤ a' ∧ a' ≤ a + 2 := by
  unfold spec_l1Cur_among.f
  have hp : 0 < xs.length := List.length_pos_iff.2 hx
  obtain ⟨r, a', s', e, r0, r1, a0, a1⟩ := pick_ l hl a s h0 h1 (xs.length : Int) (by omega)
  rw [e]
  simp only [Option.bind_some]
  rw [if_pos r0, if_pos (by omega)]
  refine ⟨_, _, _, rfl, ?_, a0, a1⟩
  unfold rd
  have : r.toNat < xs.length := by omega
  rw [List.getD_eq_getElem?_getD, List.getElem?_eq_getElem this]
  simp

theorem day_ (l : List Int) (hl : ∀ x ∈ l, (Lit.int .u8 x).wf = true) (a s : Int) (h0 : 0 ≤ a) (h1 : a ≤ 2000000000000000000) :
    ∃ r a' s', spec_l1Cur_day.f l a s = some (r, a', s') ∧ 0 ≤ r ∧ r ≤ 36524 ∧ a ≤ a' ∧ a' ≤ a + 4 := by
  unfold spec_l1Cur_day.f
  obtain ⟨r, a1, s1, e, r0, r1, b0, b1⟩ := pick_ l hl a s h0 (by omega) 6 (by omega)
  rw [e]
  simp only [Option.bind_some]
  by_cases c0 : r = 0
  · rw [if_pos c0]
    obtain ⟨x, a2, s2, e2, hx, d0, d1⟩ := among_ l hl a1 s1 (by omega) (by omega) [0, 59, 60, 365, 366, 424, 425, 36524, 36523, 30, 31] (by simp) (by simp)
    rw [e2]
    simp only [Option.bind_some]
    simp only [List.mem_cons, List.mem_nil_iff, or_false] at hx
    exact ⟨x, a2, s2, rfl, by omega, by omega, by omega, by omega⟩
  · rw [if_neg c0]
    by_cases c1 : r = 1
    · rw [if_pos c1]
      obtain ⟨x, a2, s2, e2, x0, x1, d0, d1⟩ := pick_ l hl a1 s1 (by omega) (by omega) 36525 (by omega)
      rw [e2]
      exact ⟨x, a2, s2, rfl, by omega, by omega, by omega, by omega⟩
    · rw [if_neg c1]
      obtain ⟨x, a2, s2, e2, x0, x1, d0, d1⟩ := pick_ l hl a1 s1 (by omega) (by omega) 1500 (by omega)
      rw [e2]
      exact ⟨x, a2, s2, rfl, by omega, by omega, by omega, by omega⟩
theorem anyDay_ (l : List Int) (hl : ∀ x ∈ l, (Lit.int .u8 x).wf = true) (a s : Int) (h0 : 0 ≤ a) (h1 : a ≤ 1000000000000000000) :
    ∃ r a' s', spec_l1Cur_anyDay.f l a s = some (r, a', s') ∧ a ≤ a' ∧ a' ≤ a + 6 := by
  unfold spec_l1Cur_anyDay.f spec_l1Cur_one.f
  obtain ⟨r, a1, s1, e, r0, r1, b0, b1⟩ := pick_ l hl a s h0 (by omega) 16 (by omega)
  rw [e]
  simp only [Option.bind_some]
  by_cases c0 : (r == 0) = true
  · rw [if_pos c0]
    obtain ⟨x, a2, s2, e2, hx, d0, d1⟩ := among_ l hl a1 s1 (by omega) (by omega) [(-1), 36524, 36525, 1099511627776] (by simp) (by simp)
    rw [e2]
    exact ⟨x, a2, s2, rfl, by omega, by omega⟩
  · rw [if_neg c0]
    obtain ⟨x, a2, s2, e2, x0, x1, d0, d1⟩ := day_ l hl a1 s1 (by omega) (by omega)
    rw [e2]
    exact ⟨x, a2, s2, rfl, by omega, by omega⟩
theorem drawAdd_ (l : List Int) (hl : ∀ x ∈ l, (Lit.int .u8 x).wf = true) : ∃ d n, spec_DrawAddMonths.f l = some (d, n) := by
  unfold spec_DrawAddMonths.f
  obtain ⟨r, a1, s1, e, b0, b1⟩ := anyDay_ l hl 0 0 (by omega) (by omega)
  rw [e]
  simp only [Option.bind_some]
  obtain ⟨x, a2, s2, e2, x0, x1, d0, d1⟩ := pick_ l hl a1 s1 (by omega) (by omega) 60 (by omega)
  rw [e2]
  simp only [Option.bind_some]
  obtain ⟨y, a3, s3, e3, y0, y1, f0, f1⟩ := pick_ l hl a2 s2 (by omega) (by omega) 1300 (by omega)
  rw [e3]
  simp only [Option.bind_some]
  obtain ⟨z, a4, s4, e4, hz, g0, g1⟩ := among_ l hl a3 s3 (by omega) (by omega) [0, 1, (-1), 12, (-12), 3, 1199, (-1200), 1201, wrap64 (x - 20), wrap64 (y - 100)] (by simp) (by simp)
  rw [e4]
  exact ⟨_, _, rfl⟩
theorem anyDate_ (l : List Int) (hl : ∀ x ∈ l, (Lit.int .u8 x).wf = true) : ∃ y m d a s, spec_l1Cur_anyDate.f 200 l 0 0 = some (y, m, d, a, s) ∧ 0 ≤ a ∧ a ≤ 100 := by
  unfold spec_l1Cur_anyDate.f
  obtain ⟨r, a1, s1, e, r0, r1, b0, b1⟩ := day_ l hl 0 0 (by omega) (by omega)
  rw [e]
  simp only [Option.bind_some]
  obtain ⟨y, m, d, hD, hs, _⟩ := dates_ r r0 r1
  rw [hs 200 (by omega)]
  simp only [Option.bind_some]
  obtain ⟨x, a2, s2, e2, x0, x1, d0, d1⟩ := pick_ l hl a1 s1 (by omega) (by omega) 12 (by omega)
  rw [e2]
  simp only [Option.bind_some]
  by_cases c0 : x = 0
  · rw [if_pos c0]
    obtain ⟨z, a4, s4, e4, hz, g0, g1⟩ := among_ l hl a2 s2 (by omega) (by omega) [0, 28, 29, 30, 31, 32] (by simp) (by simp)
    rw [e4]
    exact ⟨_, _, _, a4, s4, rfl, by omega, by omega⟩
  · rw [if_neg c0]
    by_cases c1 : x = 1
    · rw [if_pos c1]
      obtain ⟨z, a4, s4, e4, hz, g0, g1⟩ := among_ l hl a2 s2 (by omega) (by omega) [0, 2, 12, 13] (by simp) (by simp)
      rw [e4]
      exact ⟨_, _, _, a4, s4, rfl, by omega, by omega⟩
    · rw [if_neg c1]
      by_cases c2 : x = 2
      · rw [if_pos c2]
        obtain ⟨z, a4, s4, e4, hz, g0, g1⟩ := among_ l hl a2 s2 (by omega) (by omega) [1999, 2000, 2099, 2100, 2001] (by simp) (by simp)
        rw [e4]
        exact ⟨_, _, _, a4, s4, rfl, by omega, by omega⟩
      · rw [if_neg c2]
        exact ⟨_, _, _, a2, s2, rfl, by omega, by omega⟩
theorem drawNth_ (l : List Int) (hl : ∀ x ∈ l, (Lit.int .u8 x).wf = true) : ∃ y m w n, spec_DrawNthWeekday.f 200 l = some (y, m, w, n) := by
  unfold spec_DrawNthWeekday.f
  obtain ⟨y, m, d, a, s, e, a0, a1⟩ := anyDate_ l hl
  rw [e]
  simp only [Option.bind_some]
  obtain ⟨x, a2, s2, e2, x0, x1, d0, d1⟩ := pick_ l hl a s (by omega) (by omega) 8 (by omega)
  rw [e2]
  simp only [Option.bind_some]
  obtain ⟨z, a3, s3, e3, z0, z1, f0, f1⟩ := pick_ l hl a2 s2 (by omega) (by omega) 9 (by omega)
  rw [e3]
  simp only [Option.bind_some]
  obtain ⟨v, a4, s4, e4, hv, g0, g1⟩ := among_ l hl a3 s3 (by omega) (by omega) [1, 2, 3, 4, 5, (-1), 0, 6, 5] (by simp) (by simp)
  rw [e4]
  exact ⟨_, _, _, _, rfl⟩
theorem dateOfS_ (y m d day : Int) (h : IsDate y m d day) (k : Nat) (hk : 139 ≤ k) : spec_DateOf.f k day = some (y, m, d, true) := by
  have hr := h.range
  obtain ⟨y', m', d', h', hs, _⟩ := dates_ day hr.1 hr.2
  obtain ⟨e1, e2, e3⟩ := h.uniq h'
  unfold spec_DateOf.f spec_l3Good.f
  simp only [l1In_, Option.bind_some]
  rw [if_pos (decide_eq_true hr), hs k hk, e1, e2, e3]
  rfl
theorem nth_law (l : List Int) (hl : ∀ x ∈ l, (Lit.int .u8 x).wf = true) : laws_FnMonths.j0 201 l = some true := by
  obtain ⟨y, m, w, n, e⟩ := drawNth_ l hl
  obtain ⟨r, hs, hi, hr, hF⟩ := NthWeekday_ y m w n
  obtain ⟨R, b⟩ := r
  simp only [laws_FnMonths.j0]
  rw [e]
  simp only [Option.bind_some]
  rw [hi, hs]
  simp only [Option.bind_some]
  have hb : (b != b) = false := by cases b <;> rfl
  rw [hb]
  simp only [Bool.false_eq_true, if_false]
  cases b with
  | false =>
    have := hF.2 rfl
    simp only at this
    simp [this]
  | true =>
    obtain ⟨⟨y0, y1⟩, ⟨m0, m1⟩, w0, w1⟩ := hr rfl
    obtain ⟨i, i0, hR, hi1, hn⟩ := hF.1 rfl
    simp only at hR
    have hd := dim_pos y m
    have hD : IsDate y m ((w - (dnum y m 1 + 5)) % 7 + 7 * i + 1) R := ⟨y0, y1, m0, m1, by omega, by omega, by unfold dnum at *; omega⟩
    have hrg := hD.range
    simp only [if_true]
    rw [dateOfS_ _ _ _ R hD 200 (by omega)]
    have hw : spec_Weekday.f R = some ((R + 5) % 7, true) := by
      unfold spec_Weekday.f spec_l3Good.f
      simp only [l1In_, Option.bind_some]
      rw [if_pos (decide_eq_true hrg), spec_wd R hrg.1 (by omega)]
      rfl
    rw [hw]
    simp only [Option.bind_some, if_true]
    rw [if_pos (by omega)]
    by_cases hn1 : n = -1
    · rw [if_pos hn1]
    · rw [if_neg hn1]
      have := hn hn1
      have e1 : wrap64 ((w - (dnum y m 1 + 5)) % 7 + 7 * i + 1 - 1) = (w - (dnum y m 1 + 5)) % 7 + 7 * i := by rw [w64 (by omega) (by omega)]; omega
      rw [e1, tdv 7 (by omega), show ((w - (dnum y m 1 + 5)) % 7 + 7 * i) / 7 = i by omega, w64 (x := i) (by omega) (by omega), w64 (x := n - 1) (by omega) (by omega), this]
      simp
theorem FnMonths (l : List Int) (_ : l.length ≤ maxLen) (hl : ∀ x ∈ l, (Lit.int .u8 x).wf = true) : ∃ k, laws_FnMonths.f k l = some true := by

  refine ⟨201, ?_⟩
  unfold laws_FnMonths.f laws_vBig.f
  simp only [Option.bind_some]
  by_cases hb : decide ((l.length : Int) > 65536) = true
  · rw [if_pos hb]
  rw [if_neg hb]
  obtain ⟨day, n, e⟩ := drawAdd_ l hl
  obtain ⟨N, ok, hs0, hi0, hok⟩ := addMonths_ day n
  have hs : spec_AddMonths.f 201 day n = some (N, ok) := at_rounds (fun k => spec_AddMonths.mono day n k) (show 200 ≤ 201 by omega) hs0
  have hi : impl_AddMonths.f 201 day n = some (N, ok) := at_rounds (fun k => impl_AddMonths.mono day n k) (show 200 ≤ 201 by omega) hi0
  rw [e]
  simp only [Option.bind_some]
  rw [hi, hs]
  simp only [Option.bind_some]
  have hbb : (ok != ok) = false := by cases ok <;> rfl
  rw [hbb]
  simp only [Bool.false_eq_true, if_false]
  cases ok with
  | false => simp only [Bool.false_eq_true, if_false]; exact nth_law l hl
  | true =>
    obtain ⟨hd, y, m, d, Y, M, D, h1, h2, hYM, hDD⟩ := hok rfl
    simp only [if_true]
    rw [dateOfS_ y m d day h1 201 (by omega), dateOfS_ Y M D N h2 201 (by omega)]
    have a1 := h1.y0; have a2 := h1.y1; have a3 := h1.m0; have a4 := h1.m1
    have b1 := h2.y0; have b2 := h2.y1; have b3 := h2.m0; have b4 := h2.m1
    have dm : impl_DaysInMonth.f Y M = some (dim Y M, true) := by
      unfold impl_DaysInMonth.f impl_isMonth.f
      simp only [withinI_, Option.bind_some]
      rw [if_pos (decide_eq_true ⟨b1, b2⟩)]
      simp only [Option.bind_some]
      rw [if_pos (decide_eq_true ⟨b3, b4⟩), daysIn_ Y M (by omega)]
      rfl
    simp only [Option.bind_some]
    rw [dm]
    simp only [Option.bind_some]
    simp (disch := omega) only [w64]
    rw [if_pos hYM]
    by_cases c : D = d
    · rw [if_pos c]; exact nth_law l hl
    · rw [if_neg c]
      rcases hDD with h | ⟨h, h'⟩
      · exact absurd h c
      · rw [if_pos h, if_neg (by omega)]; exact nth_law l hl

end Go.Proofs.Ytgpphkghgdcamaa.Pure
