/- The program's DayCount and the reference's return the same for all arguments; no condition. -/
import Derived.Test.YtjdnongcefddiaaQFnExactDayCountx5
namespace Go.Proofs.Ytjdnongcefddiaa.Pure
open Go.RowKit Go.Proofs.Ytjdnongcefddiaa.QFnExactDayCount Go.Proofs.YtjdnongcefddiaaW.PrintWords Go.Proofs.YtjdnongcefddiaaW.PrintLast Go.Proofs.YtjdnongcefddiaaW.PrintMore
set_option linter.unusedVariables false
set_option linter.unusedSimpArgs false

theorem w64 {x : Int} (h : -9223372036854775808 ≤ x) (h' : x ≤ 9223372036854775807) : wrap64 x = x := by unfold wrap64; omega
theorem tdv {x : Int} (n : Int) (h : 0 ≤ x) : Int.tdiv x n = x / n := Int.tdiv_eq_ediv_of_nonneg h
theorem tmd {x : Int} (n : Int) (h : 0 ≤ x) : Int.tmod x n = x % n := Int.tmod_eq_emod_of_nonneg h
theorem wfb {a : Int} (h : (Lit.int .i64 a).wf = true) : -9223372036854775808 ≤ a ∧ a ≤ 9223372036854775807 := by
  simp [Lit.wf, IntKind.min, IntKind.max, IntKind.signed, IntKind.bits] at h
  omega
theorem within_ {x a b : Int} : (if x ≥ a then some (decide (x ≤ b)) else some false) = some (decide (a ≤ x ∧ x ≤ b)) := by
  by_cases h : x ≥ a
  · rw [if_pos h]; congr 1; simp; omega
  · rw [if_neg h]; congr 1; simp; omega

def dim (y m : Int) : Int := if m = 2 then (if y % 4 = 0 then 29 else 28) else if m = 4 ∨ m = 6 ∨ m = 9 ∨ m = 11 then 30 else 31
def cum (y m : Int) : Int := (if m ≤ 1 then 0 else if m = 2 then 31 else 
  (if m = 3 then 59 else if m = 4 then 90 else if m = 5 then 120 else if m = 6 then 151 else if m = 7 then 181 else if m = 8 then 212 else if m = 9 then 243 else if m = 10 then 273 else if m = 11 then 304 else if m = 12 then 334 else 365) + (if y % 4 = 0 then 1 else 0))
def dby (y : Int) : Int := 365 * (y - 2000) + (y - 2000 + 3) / 4
def dnum (y m d : Int) : Int := dby y + cum y m + d - 1
structure IsDate (y m d day : Int) : Prop where
  y0 : 2000 ≤ y
  y1 : y ≤ 2099
  m0 : 1 ≤ m
  m1 : m ≤ 12
  d0 : 1 ≤ d
  d1 : d ≤ dim y m
  eq : dnum y m d = day
theorem cum_succ (y m : Int) (h1 : 1 ≤ m) (h2 : m ≤ 12) : cum y (m + 1) = cum y m + dim y m := by
  unfold cum dim
  have : m = 1 ∨ m = 2 ∨ m = 3 ∨ m = 4 ∨ m = 5 ∨ m = 6 ∨ m = 7 ∨ m = 8 ∨ m = 9 ∨ m = 10 ∨ m = 11 ∨ m = 12 := by omega
  rcases this with h | h | h | h | h | h | h | h | h | h | h | h <;> subst h <;> simp <;> (try split) <;> rfl
theorem dby_succ (y : Int) : dby (y + 1) = dby y + 337 + dim y 2 := by
  unfold dby dim; simp; split <;> omega
theorem cum_1 (y : Int) : cum y 1 = 0 := by unfold cum; simp
theorem cum_13 (y : Int) : cum y 13 = 337 + dim y 2 := by
  unfold cum dim; simp; split <;> rfl
theorem dim_pos (y m : Int) : 28 ≤ dim y m ∧ dim y m ≤ 31 := by unfold dim; repeat' split <;> omega
theorem cum_mono (y m : Int) (n : Nat) (h1 : 1 ≤ m) (h2 : m + n ≤ 13) : cum y m + 28 * n ≤ cum y (m + n) := by
  induction n with
  | zero => simp
  | succ n ih =>
    have a := ih (by omega)
    have b := cum_succ y (m + n) (by omega) (by omega)
    have c := dim_pos y (m + n)
    have e : m + ((n + 1 : Nat) : Int) = m + n + 1 := by omega
    rw [e, b]; omega
theorem cum_le (y m m' : Int) (h1 : 1 ≤ m) (h2 : m ≤ m') (h3 : m' ≤ 13) : cum y m ≤ cum y m' := by
  have := cum_mono y m (m' - m).toNat h1 (by omega)
  rw [show m + ((m' - m).toNat : Int) = m' by omega] at this
  omega
theorem cum_bd (y m : Int) (h1 : 1 ≤ m) (h3 : m ≤ 13) : 0 ≤ cum y m ∧ cum y m ≤ 366 := by
  have a := cum_le y 1 m (by omega) h1 h3
  have b := cum_le y m 13 h1 h3 (by omega)
  have c := dim_pos y 2
  rw [cum_1] at a; rw [cum_13] at b
  unfold dim at b; simp at b
  have : (if y % 4 = 0 then (29:Int) else 28) ≤ 29 := by split <;> omega
  omega
theorem dby_le (y y' : Int) (h : y ≤ y') : dby y ≤ dby y' := by unfold dby; omega
theorem dby_bd (y : Int) (h : 2000 ≤ y) (h' : y ≤ 2100) : 0 ≤ dby y ∧ dby y ≤ 36525 := by unfold dby; omega
theorem dby_2000 : dby 2000 = 0 := by decide
theorem dby_2100 : dby 2100 = 36525 := by decide
theorem IsDate.lo {y m d day : Int} (h : IsDate y m d day) : dby y + cum y m ≤ day := by
  have := h.eq; have := h.d0; unfold dnum at *; omega
theorem IsDate.hi {y m d day : Int} (h : IsDate y m d day) : day < dby y + cum y (m + 1) := by
  have a := h.eq; have b := h.d1; have c := cum_succ y m h.m0 h.m1; unfold dnum at *; omega
theorem IsDate.year_hi {y m d day : Int} (h : IsDate y m d day) : day < dby (y + 1) := by
  have a := h.hi
  have b := cum_le y (m + 1) 13 (by have := h.m0; omega) (by have := h.m1; omega) (by omega)
  have c := dby_succ y; rw [cum_13] at b; omega
theorem IsDate.year_lo {y m d day : Int} (h : IsDate y m d day) : dby y ≤ day := by
  have a := h.lo
  have b := cum_bd y m h.m0 (by have := h.m1; omega); omega
theorem IsDate.range {y m d day : Int} (h : IsDate y m d day) : 0 ≤ day ∧ day ≤ 36524 := by
  have a := h.year_lo; have b := h.year_hi
  have c := dby_bd y h.y0 (by have := h.y1; omega)
  have e := dby_le (y + 1) 2100 (by have := h.y1; omega)
  rw [dby_2100] at e; omega
theorem IsDate.d31 {y m d day : Int} (h : IsDate y m d day) : d ≤ 31 := by
  have := h.d1; have := dim_pos y m; omega
theorem IsDate.uniq {y m d y' m' d' day : Int} (h : IsDate y m d day) (h' : IsDate y' m' d' day) : y = y' ∧ m = m' ∧ d = d' := by
  have hy : y = y' := by
    by_cases c : y < y'
    · have := h.year_hi; have := h'.year_lo; have := dby_le (y + 1) y' (by omega); omega
    · by_cases c' : y' < y
      · have := h'.year_hi; have := h.year_lo; have := dby_le (y' + 1) y (by omega); omega
      · omega
  subst hy
  have hm : m = m' := by
    by_cases c : m < m'
    · have := h.hi; have := h'.lo; have := cum_le y (m + 1) m' (by have := h.m0; omega) (by omega) (by have := h'.m1; omega); omega
    · by_cases c' : m' < m
      · have := h'.hi; have := h.lo; have := cum_le y (m' + 1) m (by have := h'.m0; omega) (by omega) (by have := h.m1; omega); omega
      · omega
  subst hm
  have a := h.eq; have b := h'.eq
  refine ⟨rfl, rfl, ?_⟩
  unfold dnum at a b; omega

theorem l1In_ (x a b : Int) : spec_l1In.f x a b = some (decide (a ≤ x ∧ x ≤ b)) := by unfold spec_l1In.f; exact within_
theorem l3Length_ (y m : Int) (hy : 0 ≤ y) (k : Nat) (hk : 1 ≤ k) : spec_l3Length.f k y m = some (dim y m) := by
  obtain ⟨k, rfl⟩ : ∃ j, k = j + 1 := ⟨k - 1, by omega⟩
  unfold spec_l3Length.f dim
  simp only [spec_l3Length.j0, tmd 4 hy]
  by_cases h2 : m = 2
  · subst h2; simp; split <;> rfl
  · by_cases h4 : m = 4
    · subst h4; simp
    · by_cases h6 : m = 6
      · subst h6; simp
      · by_cases h9 : m = 9
        · subst h9; simp
        · by_cases h11 : m = 11
          · subst h11; simp
          · simp [h2, h4, h6, h9, h11]
theorem l3Day_l0 (y m d : Int) (hy : 2000 ≤ y) (hy' : y ≤ 2100) (hm : 1 ≤ m) (hm' : m ≤ 13) (hd : -1000 ≤ d) (hd' : d ≤ 1000) (n : Nat) : ∀ (j : Int) (k : Nat), 1 ≤ j → j ≤ m → m - j = n → n + 2 ≤ k →
    spec_l3Day.l0 k (dby y + cum y j) j y m d = some (dnum y m d) := by
  have b := dby_bd y hy hy'
  induction n with
  | zero =>
    intro j k h1 h2 hn hk
    obtain ⟨k, rfl⟩ : ∃ i, k = i + 1 := ⟨k - 1, by omega⟩
    obtain rfl : j = m := by omega
    have c := cum_bd y j h1 hm'
    simp only [spec_l3Day.l0]
    rw [if_neg (by omega)]
    simp (disch := omega) only [w64]
    rfl
  | succ n ih =>
    intro j k h1 h2 hn hk
    obtain ⟨k, rfl⟩ : ∃ i, k = i + 1 := ⟨k - 1, by omega⟩
    have c := cum_bd y j h1 (by omega)
    have e := dim_pos y j
    have s := cum_succ y j h1 (by omega)
    simp only [spec_l3Day.l0]
    rw [if_pos (by omega), l3Length_ y j (by omega) k (by omega)]
    simp only [Option.bind_some]
    simp (disch := omega) only [w64]
    have := ih (j + 1) k (by omega) (by omega) (by omega) (by omega)
    rw [s] at this
    rw [← this]; congr 1 <;> omega
theorem l3Day_ (y m d : Int) (hy : 2000 ≤ y) (hy' : y ≤ 2100) (hm : 1 ≤ m) (hm' : m ≤ 13) (hd : -1000 ≤ d) (hd' : d ≤ 1000) (k : Nat) (hk : 14 ≤ k) : spec_l3Day.f k y m d = some (dnum y m d) := by
  unfold spec_l3Day.f
  simp (disch := omega) only [w64, tdv]
  have := l3Day_l0 y m d hy hy' hm hm' hd hd' (m - 1).toNat 1 k (by omega) (by omega) (by omega) (by omega)
  rw [cum_1] at this
  rw [← this]; unfold dby; congr 1 <;> omega

theorem dnum_y11 (y : Int) : dnum y 1 1 = dby y := by unfold dnum; rw [cum_1]; omega
theorem l3Date_l1 (day y : Int) (hy : 2000 ≤ y) (hy' : y ≤ 2099) (h2 : day < dby (y + 1)) (n : Nat) : ∀ (m : Int) (k : Nat), 1 ≤ m → m ≤ 12 → 12 - m = n → n + 16 ≤ k → dby y + cum y m ≤ day →
    ∃ m' d, spec_l3Date.l1 k day y m 1 = some (y, m', d) ∧ IsDate y m' d day := by
  have b := dby_bd y hy (by omega)
  induction n with
  | zero =>
    intro m k h1 h2' hn hk hlo
    obtain ⟨k, rfl⟩ : ∃ i, k = i + 1 := ⟨k - 1, by omega⟩
    obtain rfl : m = 12 := by omega
    have c := cum_bd y 12 (by omega) (by omega)
    have s := cum_succ y 12 (by omega) (by omega)
    have e := dby_succ y
    have c13 := cum_13 y
    have b2 := dby_bd (y + 1) (by omega) (by omega)
    refine ⟨12, day - (dby y + cum y 12) + 1, ?_, ⟨hy, hy', by omega, by omega, by omega, ?_, ?_⟩⟩
    · simp only [spec_l3Date.l1]
      rw [if_neg (by omega), l3Day_ y 12 1 hy (by omega) (by omega) (by omega) (by omega) (by omega) k (by omega)]
      simp only [Option.bind_some]
      have : dnum y 12 1 = dby y + cum y 12 := by unfold dnum; omega
      rw [this]
      simp (disch := omega) only [w64]
    · have : cum y (12 + 1) = cum y 13 := rfl
      omega
    · unfold dnum; omega
  | succ n ih =>
    intro m k h1 h2' hn hk hlo
    obtain ⟨k, rfl⟩ : ∃ i, k = i + 1 := ⟨k - 1, by omega⟩
    have c := cum_bd y m (by omega) (by omega)
    have s := cum_succ y m (by omega) (by omega)
    have b2 := dby_bd (y + 1) (by omega) (by omega)
    have e1 : dnum y (m + 1) 1 = dby y + cum y (m + 1) := by unfold dnum; omega
    have e0 : dnum y m 1 = dby y + cum y m := by unfold dnum; omega
    by_cases hc : dby y + cum y (m + 1) ≤ day
    · obtain ⟨m', d, h, hD⟩ := ih (m + 1) k (by omega) (by omega) (by omega) (by omega) hc
      refine ⟨m', d, ?_, hD⟩
      simp only [spec_l3Date.l1]
      rw [if_pos (by omega), w64 (x := m + 1) (by omega) (by omega), l3Day_ y (m + 1) 1 hy (by omega) (by omega) (by omega) (by omega) (by omega) k (by omega), e1]
      simp only [Option.bind_some]
      rw [if_pos hc]; exact h
    · refine ⟨m, day - (dby y + cum y m) + 1, ?_, ⟨hy, hy', by omega, by omega, by omega, by omega, by unfold dnum; omega⟩⟩
      simp only [spec_l3Date.l1]
      rw [if_pos (by omega), w64 (x := m + 1) (by omega) (by omega), l3Day_ y (m + 1) 1 hy (by omega) (by omega) (by omega) (by omega) (by omega) k (by omega), e1]
      simp only [Option.bind_some]
      rw [if_neg hc, l3Day_ y m 1 hy (by omega) (by omega) (by omega) (by omega) (by omega) k (by omega), e0]
      simp only [Option.bind_some]
      simp (disch := omega) only [w64]
theorem l3Date_l0 (day : Int) (h2 : day ≤ 36524) (n : Nat) : ∀ (y : Int) (k : Nat), 2000 ≤ y → y ≤ 2099 → 2099 - y = n → n + 40 ≤ k → dby y ≤ day →
    ∃ y' m' d, spec_l3Date.l0 k day y 1 1 = some (y', m', d) ∧ IsDate y' m' d day := by
  induction n with
  | zero =>
    intro y k h1 h2' hn hk hlo
    obtain ⟨k, rfl⟩ : ∃ i, k = i + 2 := ⟨k - 2, by omega⟩
    obtain rfl : y = 2099 := by omega
    obtain ⟨m', d, h, hD⟩ := l3Date_l1 day 2099 (by omega) (by omega) (by have := dby_2100; have e : (2099 : Int) + 1 = 2100 := rfl; rw [e]; omega) 11 1 k (by omega) (by omega) (by omega) (by omega) (by rw [cum_1]; omega)
    refine ⟨2099, m', d, ?_, hD⟩
    simp only [spec_l3Date.l0]
    rw [if_neg (by omega)]
    simp only [spec_l3Date.j1]; exact h
  | succ n ih =>
    intro y k h1 h2' hn hk hlo
    obtain ⟨k, rfl⟩ : ∃ i, k = i + 2 := ⟨k - 2, by omega⟩
    by_cases hc : dby (y + 1) ≤ day
    · obtain ⟨y', m', d, h, hD⟩ := ih (y + 1) (k + 1) (by omega) (by omega) (by omega) (by omega) hc
      refine ⟨y', m', d, ?_, hD⟩
      rw [spec_l3Date.l0]
      rw [if_pos (by omega), w64 (x := y + 1) (by omega) (by omega), l3Day_ (y + 1) 1 1 (by omega) (by omega) (by omega) (by omega) (by omega) (by omega) (k + 1) (by omega), dnum_y11]
      simp only [Option.bind_some]
      rw [if_pos hc]; exact h
    · obtain ⟨m', d, h, hD⟩ := l3Date_l1 day y (by omega) (by omega) (by omega) 11 1 k (by omega) (by omega) (by omega) (by omega) (by rw [cum_1]; omega)
      refine ⟨y, m', d, ?_, hD⟩
      rw [spec_l3Date.l0]
      rw [if_pos (by omega), w64 (x := y + 1) (by omega) (by omega), l3Day_ (y + 1) 1 1 (by omega) (by omega) (by omega) (by omega) (by omega) (by omega) (k + 1) (by omega), dnum_y11]
      simp only [Option.bind_some]
      rw [if_neg hc]
      simp only [spec_l3Date.j1]; exact h
theorem l3Date_ (day : Int) (h : 0 ≤ day) (h2 : day ≤ 36524) : ∃ y m d, IsDate y m d day ∧ ∀ k, 139 ≤ k → spec_l3Date.f k day = some (y, m, d) := by
  obtain ⟨y, m, d, h1, hD⟩ := l3Date_l0 day h2 99 2000 139 (by omega) (by omega) (by omega) (by omega) (by rw [dby_2000]; exact h)
  refine ⟨y, m, d, hD, fun k hk => ?_⟩
  exact at_rounds (fun k => spec_l3Date.mono day k) hk (by unfold spec_l3Date.f; exact h1)

theorem withinI_ (x a b : Int) : impl_within.f x a b = some (decide (a ≤ x ∧ x ≤ b)) := by unfold impl_within.f; exact within_
theorem daysIn_ (y m : Int) (hy : 0 ≤ y) : impl_daysIn.f y m = some (dim y m) := by
  unfold impl_daysIn.f dim
  simp only [tmd 4 hy]
  by_cases h2 : m = 2
  · subst h2; simp; split <;> rfl
  · by_cases h4 : m = 4
    · subst h4; simp
    · by_cases h6 : m = 6
      · subst h6; simp
      · by_cases h9 : m = 9
        · subst h9; simp
        · by_cases h11 : m = 11
          · subst h11; simp
          · simp [h2, h4, h6, h9, h11]

theorem daysOf_ (y : Int) (hy : 0 ≤ y) : impl_daysOf.f y = some (337 + dim y 2) := by
  unfold impl_daysOf.f
  have := dim_pos y 2
  rw [daysIn_ y 2 hy]
  simp only [Option.bind_some]
  simp (disch := omega) only [w64]

theorem dateOf_l1 (day y : Int) (hy : 2000 ≤ y) (hy' : y ≤ 2099) (h2 : day < dby (y + 1)) (n : Nat) : ∀ (m : Int) (k : Nat), 1 ≤ m → m ≤ 12 → 12 - m = n → n + 1 ≤ k → dby y + cum y m ≤ day →
    ∃ m' d, impl_dateOf.l1 k (day - (dby y + cum y m)) y m 0 = some (y, m', d) ∧ IsDate y m' d day := by
  have b := dby_bd y hy (by omega)
  have b2 := dby_bd (y + 1) (by omega) (by omega)
  induction n with
  | zero =>
    intro m k h1 h2' hn hk hlo
    obtain ⟨k, rfl⟩ : ∃ i, k = i + 1 := ⟨k - 1, by omega⟩
    obtain rfl : m = 12 := by omega
    have c := cum_bd y 12 (by omega) (by omega)
    have s := cum_succ y 12 (by omega) (by omega)
    have e := dby_succ y
    have c13 := cum_13 y
    have : cum y (12 + 1) = cum y 13 := rfl
    refine ⟨12, day - (dby y + cum y 12) + 1, ?_, ⟨hy, hy', by omega, by omega, by omega, by omega, by unfold dnum; omega⟩⟩
    simp only [impl_dateOf.l1]
    rw [daysIn_ y 12 (by omega)]
    simp only [Option.bind_some]
    rw [if_neg (by omega)]
    simp (disch := omega) only [w64]
  | succ n ih =>
    intro m k h1 h2' hn hk hlo
    obtain ⟨k, rfl⟩ : ∃ i, k = i + 1 := ⟨k - 1, by omega⟩
    have c := cum_bd y m (by omega) (by omega)
    have s := cum_succ y m (by omega) (by omega)
    have e := dim_pos y m
    by_cases hc : dby y + cum y (m + 1) ≤ day
    · obtain ⟨m', d, h, hD⟩ := ih (m + 1) k (by omega) (by omega) (by omega) (by omega) hc
      refine ⟨m', d, ?_, hD⟩
      simp only [impl_dateOf.l1]
      rw [daysIn_ y m (by omega)]
      simp only [Option.bind_some]
      rw [if_pos (by omega)]
      simp (disch := omega) only [w64]
      rw [← h, s]; congr 1 <;> omega
    · refine ⟨m, day - (dby y + cum y m) + 1, ?_, ⟨hy, hy', by omega, by omega, by omega, by omega, by unfold dnum; omega⟩⟩
      simp only [impl_dateOf.l1]
      rw [daysIn_ y m (by omega)]
      simp only [Option.bind_some]
      rw [if_neg (by omega)]
      simp (disch := omega) only [w64]
theorem dateOf_l0 (day : Int) (h2 : day ≤ 36524) (n : Nat) : ∀ (y : Int) (k : Nat), 2000 ≤ y → y ≤ 2099 → 2099 - y = n → n + 20 ≤ k → dby y ≤ day →
    ∃ y' m' d, impl_dateOf.l0 k (day - dby y) y 1 0 = some (y', m', d) ∧ IsDate y' m' d day := by
  induction n with
  | zero =>
    intro y k h1 h2' hn hk hlo
    obtain ⟨k, rfl⟩ : ∃ i, k = i + 1 := ⟨k - 1, by omega⟩
    obtain rfl : y = 2099 := by omega
    have e1 : (2099 : Int) + 1 = 2100 := rfl
    have s := dby_succ 2099
    rw [e1, dby_2100] at s
    obtain ⟨m', d, h, hD⟩ := dateOf_l1 day 2099 (by omega) (by omega) (by rw [e1, dby_2100]; omega) 11 1 k (by omega) (by omega) (by omega) (by omega) (by rw [cum_1]; omega)
    refine ⟨2099, m', d, ?_, hD⟩
    simp only [impl_dateOf.l0]
    rw [daysOf_ 2099 (by omega)]
    simp only [Option.bind_some]
    rw [if_neg (by omega)]
    rw [cum_1] at h
    rw [← h]; congr 1 <;> omega
  | succ n ih =>
    intro y k h1 h2' hn hk hlo
    obtain ⟨k, rfl⟩ : ∃ i, k = i + 1 := ⟨k - 1, by omega⟩
    have s := dby_succ y
    have b := dby_bd y h1 (by omega)
    have e := dim_pos y 2
    by_cases hc : dby (y + 1) ≤ day
    · obtain ⟨y', m', d, h, hD⟩ := ih (y + 1) k (by omega) (by omega) (by omega) (by omega) hc
      refine ⟨y', m', d, ?_, hD⟩
      simp only [impl_dateOf.l0]
      rw [daysOf_ y (by omega)]
      simp only [Option.bind_some]
      rw [if_pos (by omega)]
      simp (disch := omega) only [w64]
      rw [← h, s]; congr 1 <;> omega
    · obtain ⟨m', d, h, hD⟩ := dateOf_l1 day y (by omega) (by omega) (by omega) 11 1 k (by omega) (by omega) (by omega) (by omega) (by rw [cum_1]; omega)
      refine ⟨y, m', d, ?_, hD⟩
      simp only [impl_dateOf.l0]
      rw [daysOf_ y (by omega)]
      simp only [Option.bind_some]
      rw [if_neg (by omega)]
      rw [cum_1] at h
      rw [← h]; congr 1 <;> omega
theorem dateOf_ (day : Int) (h : 0 ≤ day) (h2 : day ≤ 36524) : ∃ y m d, IsDate y m d day ∧ ∀ k, 119 ≤ k → impl_dateOf.f k day = some (y, m, d) := by
  obtain ⟨y, m, d, h1, hD⟩ := dateOf_l0 day h2 99 2000 119 (by omega) (by omega) (by omega) (by omega) (by rw [dby_2000]; exact h)
  rw [dby_2000] at h1
  refine ⟨y, m, d, hD, fun k hk => ?_⟩
  exact at_rounds (fun k => impl_dateOf.mono day k) hk (by unfold impl_dateOf.f; rw [← h1]; congr 1 <;> omega)

theorem dates_ (day : Int) (h : 0 ≤ day) (h2 : day ≤ 36524) : ∃ y m d, IsDate y m d day ∧ (∀ k, 139 ≤ k → spec_l3Date.f k day = some (y, m, d)) ∧ ∀ k, 139 ≤ k → impl_dateOf.f k day = some (y, m, d) := by
  obtain ⟨y, m, d, hD, hs⟩ := l3Date_ day h h2
  obtain ⟨y', m', d', hD', hi⟩ := dateOf_ day h h2
  obtain ⟨rfl, rfl, rfl⟩ := hD.uniq hD'
  exact ⟨y, m, d, hD, hs, fun k hk => hi k (by omega)⟩

theorem mul_bd {a b M N : Int} (h1 : -M ≤ a) (h2 : a ≤ M) (h3 : 0 ≤ b) (h4 : b ≤ N) (hM : 0 ≤ M) : -(M * N) ≤ a * b ∧ a * b ≤ M * N := by
  have e1 : a * b ≤ M * b := Int.mul_le_mul_of_nonneg_right h2 h3
  have e2 : M * b ≤ M * N := Int.mul_le_mul_of_nonneg_left h4 hM
  have e3 : -M * b ≤ a * b := Int.mul_le_mul_of_nonneg_right h1 h3
  rw [Int.neg_mul] at e3
  omega
theorem within__ (x a b : Int) : impl_within.f x a b = some (decide (a ≤ x ∧ x ≤ b)) := by unfold impl_within.f; exact within_
theorem l1In__ (x a b : Int) : spec_l1In.f x a b = some (decide (a ≤ x ∧ x ≤ b)) := by unfold spec_l1In.f; exact within_
theorem isAmount__ (x : Int) : impl_isAmount.f x = some (decide (-1000000000 ≤ x ∧ x ≤ 1000000000)) := by unfold impl_isAmount.f; rw [within__]; rfl
theorem l2Amount__ (x : Int) : spec_l2Amount.f x = some (decide (-1000000000 ≤ x ∧ x ≤ 1000000000)) := by unfold spec_l2Amount.f; rw [l1In__]; rfl
theorem size__ (x : Int) (h : -9223372036854775807 ≤ x) (h' : x ≤ 9223372036854775807) : impl_size.f x = some (x.natAbs : Int) := by
  unfold impl_size.f mx; rw [w64 (by omega) (by omega)]; congr 1; split <;> omega
theorem abs__ (x : Int) (h : -9223372036854775807 ≤ x) (h' : x ≤ 9223372036854775807) : spec_l2Abs.f x = some (x.natAbs : Int) := by
  unfold spec_l2Abs.f; split
  · rw [w64 (by omega) (by omega)]; congr 1; omega
  · congr 1; omega
theorem gcd_step (a b : Nat) : Nat.gcd b (a % b) = Nat.gcd a b := by
  rw [Nat.gcd_comm a b, Nat.gcd_rec b a, Nat.gcd_comm]
theorem gcd_spec (b : Nat) : ∀ (a k : Nat), b < k → spec_l2Gcd.f k (a : Int) (b : Int) = some ((Nat.gcd a b : Nat) : Int) := by
  induction b using Nat.strongRecOn with
  | ind b ih =>
    intro a k hk
    obtain ⟨k, rfl⟩ : ∃ j, k = j + 1 := ⟨k - 1, by omega⟩
    simp only [spec_l2Gcd.f, spec_l2Gcd.l0]
    by_cases hb : b = 0
    · subst hb; simp
    · rw [if_neg (by omega)]
      have hlt : a % b < b := Nat.mod_lt _ (by omega)
      have := ih (a % b) hlt b k (by omega)
      unfold spec_l2Gcd.f at this
      rw [gcd_step] at this
      rw [← this]; congr 1
theorem gcd_impl (n : Nat) : ∀ (a b : Int) (k : Nat), b.natAbs = n → n < k → -9223372036854775807 ≤ a → a ≤ 9223372036854775807 → -9223372036854775807 ≤ b → b ≤ 9223372036854775807 → impl_divisor.f k a b = some ((Nat.gcd a.natAbs b.natAbs : Nat) : Int) := by
  induction n using Nat.strongRecOn with
  | ind n ih =>
    intro a b k hb hk a1 a2 b1 b2
    obtain ⟨k, rfl⟩ : ∃ j, k = j + 1 := ⟨k - 1, by omega⟩
    simp only [impl_divisor.f, impl_divisor.l0]
    by_cases h0 : b = 0
    · subst h0; rw [if_pos rfl, size__ a a1 a2]; simp
    · rw [if_neg h0]
      have hm : (Int.tmod a b).natAbs = a.natAbs % b.natAbs := Int.natAbs_tmod a b
      have hlt : a.natAbs % b.natAbs < b.natAbs := Nat.mod_lt _ (by omega)
      have := ih (a.natAbs % b.natAbs) (by omega) b (Int.tmod a b) k hm (by omega) b1 b2 (by omega) (by omega)
      unfold impl_divisor.f at this
      rw [hm, gcd_step] at this
      exact this
theorem isFrac_both (n d : Int) (hn : -9223372036854775808 ≤ n) (hn' : n ≤ 9223372036854775807) : ∃ b, (∀ k, 1000000001 ≤ k → spec_l2Fraction.f k n d = some b ∧ impl_isFraction.f k n d = some b) ∧ (b = true → 1 ≤ d ∧ d ≤ 1000000000 ∧ -1000000000 ≤ n ∧ n ≤ 1000000000 ∧ Nat.gcd n.natAbs d.natAbs = 1) := by
  unfold spec_l2Fraction.f impl_isFraction.f
  simp only [l1In__, within__, isAmount__, l2Amount__, Option.bind_some]
  by_cases h1 : decide (1 ≤ d ∧ d ≤ 1000000000) = true
  case neg => exact ⟨false, fun k _ => by simp [h1], by simp⟩
  by_cases h2 : decide (-1000000000 ≤ n ∧ n ≤ 1000000000) = true
  case neg => exact ⟨false, fun k _ => by simp [h1, h2], by simp⟩
  have a1 := of_decide_eq_true h1
  have a2 := of_decide_eq_true h2
  refine ⟨((Nat.gcd n.natAbs d.natAbs : Nat) : Int) == 1, fun k hk => ⟨?_, ?_⟩, fun h => ⟨a1.1, a1.2, a2.1, a2.2, ?_⟩⟩
  · rw [if_pos h1, if_pos h2, abs__ n (by omega) (by omega)]
    simp only [Option.bind_some]
    have := gcd_spec d.natAbs n.natAbs k (by omega)
    rw [show (d.natAbs : Int) = d by omega] at this
    rw [this]; rfl
  · rw [if_pos h1, if_pos h2, gcd_impl d.natAbs n d k rfl (by omega) (by omega) (by omega) (by omega) (by omega)]; rfl
  · have := beq_iff_eq.mp h; omega

theorem tdiv_bd (n : Int) (g : Nat) (hg : 0 < g) (h : -9223372036854775807 ≤ n) (h' : n ≤ 9223372036854775807) : -9223372036854775807 ≤ Int.tdiv n g ∧ Int.tdiv n g ≤ 9223372036854775807 := by
  have : (Int.tdiv n g).natAbs = n.natAbs / g := by rw [Int.natAbs_tdiv]; rfl
  have := Nat.div_le_self n.natAbs g
  omega
theorem frac_both (n d : Int) (hn : -9223372036854775807 ≤ n) (hn' : n ≤ 9223372036854775807) (hd : -9223372036854775807 ≤ d) (hd' : d ≤ 9223372036854775807) (h0 : d ≠ 0) :
    ∃ r, ∀ k, 9223372036854775810 ≤ k → spec_l2Reduce.f k n d = some r ∧ impl_fraction.f k n d = some r := by
  have hG : 0 < Nat.gcd n.natAbs d.natAbs := Nat.gcd_pos_of_pos_right _ (by omega)
  generalize hg : Nat.gcd n.natAbs d.natAbs = g at hG
  have hgd : g ≤ d.natAbs := by rw [← hg]; exact Nat.gcd_le_right _ (by omega)
  have core : ∀ n d : Int, -9223372036854775807 ≤ n → n ≤ 9223372036854775807 → 0 < d → d ≤ 9223372036854775807 → Nat.gcd n.natAbs d.natAbs = g → ∃ b, (∀ k, 1000000001 ≤ k → spec_l2Fraction.f k (Int.tdiv n g) (Int.tdiv d g) = some b ∧ impl_isFraction.f k (Int.tdiv n g) (Int.tdiv d g) = some b) ∧
      ∀ k, 9223372036854775809 ≤ k → spec_l2Reduce.j0 k n d = some (if b = true then (Int.tdiv n g, Int.tdiv d g, true) else (0, 0, false)) := by
    intro n d h1 h2 h3 h4 hg
    have t1 := tdiv_bd n g hG h1 h2
    have t2 := tdiv_bd d g hG (by omega) h4
    obtain ⟨b, hb, _⟩ := isFrac_both (Int.tdiv n g) (Int.tdiv d g) (by omega) (by omega)
    refine ⟨b, hb, fun k hk => ?_⟩
    obtain ⟨k, rfl⟩ : ∃ j, k = j + 1 := ⟨k - 1, by omega⟩
    simp only [spec_l2Reduce.j0]
    have := gcd_spec d.natAbs n.natAbs k (by omega)
    rw [show (d.natAbs : Int) = d by omega, hg] at this
    rw [abs__ n h1 h2]
    simp only [Option.bind_some]
    rw [this]
    simp only [Option.bind_some]
    rw [if_neg (by omega), w64 (by omega) (by omega), w64 (by omega) (by omega), (hb k (by omega)).1]
    simp only [Option.bind_some]
    cases b <;> simp
  by_cases hs : d < 0
  · obtain ⟨b, hb, hj⟩ := core (-n) (-d) (by omega) (by omega) (by omega) (by omega) (by rw [Int.natAbs_neg, Int.natAbs_neg]; exact hg)
    refine ⟨if b = true then (Int.tdiv (-n) g, Int.tdiv (-d) g, true) else (0, 0, false), fun k hk => ⟨?_, ?_⟩⟩
    · unfold spec_l2Reduce.f
      rw [if_pos hs, w64 (by omega) (by omega), w64 (by omega) (by omega)]
      exact hj k (by omega)
    · unfold impl_fraction.f
      rw [gcd_impl d.natAbs n d k rfl (by omega) hn hn' hd hd', hg]
      simp only [Option.bind_some]
      have t1 := tdiv_bd (-n) g hG (by omega) (by omega)
      have t2 := tdiv_bd (-d) g hG (by omega) (by omega)
      have e1 : Int.tdiv n (-(g : Int)) = Int.tdiv (-n) g := by rw [Int.tdiv_neg, Int.neg_tdiv]
      have e2 : Int.tdiv d (-(g : Int)) = Int.tdiv (-d) g := by rw [Int.tdiv_neg, Int.neg_tdiv]
      rw [if_pos hs, w64 (x := -(g : Int)) (by omega) (by omega), if_neg (by omega), e1, e2, w64 (by omega) (by omega), w64 (by omega) (by omega), (hb k (by omega)).2]
      simp only [Option.bind_some]
      cases b <;> simp
  · obtain ⟨b, hb, hj⟩ := core n d hn hn' (by omega) hd' hg
    refine ⟨if b = true then (Int.tdiv n g, Int.tdiv d g, true) else (0, 0, false), fun k hk => ⟨?_, ?_⟩⟩
    · unfold spec_l2Reduce.f
      rw [if_neg hs]
      exact hj k (by omega)
    · unfold impl_fraction.f
      rw [gcd_impl d.natAbs n d k rfl (by omega) hn hn' hd hd', hg]
      simp only [Option.bind_some]
      have t1 := tdiv_bd n g hG hn hn'
      have t2 := tdiv_bd d g hG hd hd'
      rw [if_neg hs, if_neg (by omega), w64 (by omega) (by omega), w64 (by omega) (by omega), (hb k (by omega)).2]
      simp only [Option.bind_some]
      cases b <;> simp

theorem year_uniq {y y' x : Int} (h1 : dby y ≤ x) (h2 : x < dby (y + 1)) (h3 : dby y' ≤ x) (h4 : x < dby (y' + 1)) : y = y' := by
  by_cases c : y < y'
  · have := dby_le (y + 1) y' (by omega); omega
  · by_cases c' : y' < y
    · have := dby_le (y' + 1) y (by omega); omega
    · omega
def wt (y : Int) : Int := if y % 4 = 0 then 365 else 366
theorem wt_bd (y : Int) : 365 ≤ wt y ∧ wt y ≤ 366 := by unfold wt; split <;> omega
theorem days_loop (tt y : Int) (hto : tt ≤ 36524) (hy : 0 ≤ y) (K : Nat) (hK : 139 ≤ K) (n : Nat) : ∀ (x num : Int), 0 ≤ x → x + n ≤ tt → dby y ≤ x → x + n ≤ dby (y + 1) → 0 ≤ num → num ≤ 366 * x →
    impl_dayCount.l0 (K + n) tt num x = impl_dayCount.l0 K tt (num + n * wt y) (x + n) := by
  induction n with
  | zero => intro x num _ _ _ _ _ _; simp
  | succ n ih =>
    intro x num h1 h2 h3 h4 h5 h6
    obtain ⟨y', m, d, hD, _, hi⟩ := dates_ x (by omega) (by omega)
    have hw := wt_bd y
    obtain rfl : y = y' := year_uniq h3 (by omega) hD.year_lo hD.year_hi
    rw [show K + (n + 1) = K + n + 1 by omega]
    rw [impl_dayCount.l0, if_pos (by omega), hi (K + n) (by omega)]
    simp only [Option.bind_some]
    have e : (if Int.tmod y 4 = 0 then impl_dayCount.l0 (K + n) tt (wrap64 (num + 365)) (wrap64 (x + 1)) else impl_dayCount.l0 (K + n) tt (wrap64 (num + 366)) (wrap64 (x + 1))) = impl_dayCount.l0 (K + n) tt (num + wt y) (x + 1) := by
      rw [tmd 4 hy, w64 (x := num + 365) (by omega) (by omega), w64 (x := num + 366) (by omega) (by omega), w64 (x := x + 1) (by omega) (by omega)]
      unfold wt; split <;> rfl
    rw [e, ih (x + 1) (num + wt y) (by omega) (by omega) (by omega) (by omega) (by omega) (by omega)]
    have e2 : num + wt y + (n : Int) * wt y = num + ((n + 1 : Nat) : Int) * wt y := by rw [Int.natCast_add, Int.add_mul]; omega
    have e3 : x + 1 + (n : Int) = x + ((n + 1 : Nat) : Int) := by omega
    rw [e2, e3]
theorem dnum_last (y : Int) : dnum y 12 31 = dby (y + 1) - 1 := by
  have a := dby_succ y
  have b : cum y 12 = 334 + (if y % 4 = 0 then 1 else 0) := by unfold cum; simp
  have c : dim y 2 = 28 + (if y % 4 = 0 then 1 else 0) := by unfold dim; simp; split <;> rfl
  unfold dnum; omega
theorem least_ (a b : Int) : spec_l1Least.f a b = some (if a < b then a else b) := by unfold spec_l1Least.f; split <;> rfl
theorem years_loop (tt : Int) (hto : tt ≤ 36524) (kk : Nat) (hkk : 139 ≤ kk) (d : Nat) : ∀ (x leap other : Int) (k1 : Nat), 0 ≤ x → x ≤ tt → tt - x ≤ d → d + 140 ≤ k1 → 0 ≤ leap → 0 ≤ other → leap + other ≤ x →
    ∃ L O, spec_l4Years.l0 k1 x tt leap other = some (L, O) ∧ 0 ≤ L ∧ 0 ≤ O ∧ L + O ≤ tt ∧ impl_dayCount.l0 (kk + 1 + (tt - x).toNat) tt (365 * leap + 366 * other) x = (impl_fraction.f kk (365 * L + 366 * O) 133590).bind fun bt => some (bt.1, bt.2.1, bt.2.2) := by
  induction d with
  | zero =>
    intro x leap other k1 h0 h1 h2 h3 h4 h5 h6
    obtain ⟨k1, rfl⟩ : ∃ j, k1 = j + 1 := ⟨k1 - 1, by omega⟩
    refine ⟨leap, other, ?_, h4, h5, by omega, ?_⟩
    · simp only [spec_l4Years.l0]; rw [if_neg (by omega)]
    · rw [show kk + 1 + (tt - x).toNat = kk + 1 by omega]
      simp only [impl_dayCount.l0]; rw [if_neg (by omega)]
  | succ d ih =>
    intro x leap other k1 h0 h1 h2 h3 h4 h5 h6
    obtain ⟨k1, rfl⟩ : ∃ j, k1 = j + 1 := ⟨k1 - 1, by omega⟩
    by_cases hx : x < tt
    · obtain ⟨y, m, dd, hD, hs, _⟩ := dates_ x (by omega) (by omega)
      have ylo := hD.year_lo
      have yhi := hD.year_hi
      have y0 := hD.y0
      have y1 := hD.y1
      obtain ⟨nx, hnx⟩ : ∃ nx : Int, nx = if tt < dby (y + 1) then tt else dby (y + 1) := ⟨_, rfl⟩
      have hn1 : x < nx := by rw [hnx]; split <;> omega
      have hn2 : nx ≤ tt := by rw [hnx]; split <;> omega
      have hn3 : nx ≤ dby (y + 1) := by rw [hnx]; split <;> omega
      have hb := dby_bd (y + 1) (by omega) (by omega)
      have hloop := days_loop tt y hto (by omega) (kk + 1 + (tt - nx).toNat) (by omega) (nx - x).toNat x (365 * leap + 366 * other) h0 (by omega) ylo (by omega) (by omega) (by omega)
      rw [show kk + 1 + (tt - nx).toNat + (nx - x).toNat = kk + 1 + (tt - x).toNat by omega, show x + ((nx - x).toNat : Int) = nx by omega, show (((nx - x).toNat : Nat) : Int) = nx - x by omega] at hloop
      have hspec : spec_l4Years.l0 (k1 + 1) x tt leap other = if y % 4 = 0 then spec_l4Years.l0 k1 nx tt (leap + nx - x) other else spec_l4Years.l0 k1 nx tt leap (other + nx - x) := by
        rw [spec_l4Years.l0, if_pos hx, hs k1 (by omega)]
        simp only [Option.bind_some]
        rw [l3Day_ y 12 31 (by omega) (by omega) (by omega) (by omega) (by omega) (by omega) k1 (by omega), dnum_last]
        simp only [Option.bind_some]
        rw [w64 (x := dby (y + 1) - 1 + 1) (by omega) (by omega), show dby (y + 1) - 1 + 1 = dby (y + 1) by omega, least_, ← hnx]
        simp only [Option.bind_some]
        rw [tmd 4 (by omega)]
        simp (disch := omega) only [w64]
      by_cases hl : y % 4 = 0
      · obtain ⟨L, O, a1, a2, a3, a4, a5⟩ := ih nx (leap + nx - x) other k1 (by omega) hn2 (by omega) (by omega) (by omega) h5 (by omega)
        refine ⟨L, O, ?_, a2, a3, a4, ?_⟩
        · rw [hspec, if_pos hl]; exact a1
        · rw [hloop, ← a5]
          have : wt y = 365 := by unfold wt; rw [if_pos hl]
          rw [this]; congr 1 <;> omega
      · obtain ⟨L, O, a1, a2, a3, a4, a5⟩ := ih nx leap (other + nx - x) k1 (by omega) hn2 (by omega) (by omega) h4 (by omega) (by omega)
        refine ⟨L, O, ?_, a2, a3, a4, ?_⟩
        · rw [hspec, if_neg hl]; exact a1
        · rw [hloop, ← a5]
          have : wt y = 366 := by unfold wt; rw [if_neg hl]
          rw [this]; congr 1 <;> omega
    · refine ⟨leap, other, ?_, h4, h5, by omega, ?_⟩
      · simp only [spec_l4Years.l0]; rw [if_neg hx]
      · rw [show kk + 1 + (tt - x).toNat = kk + 1 by omega]
        simp only [impl_dayCount.l0]; rw [if_neg hx]
theorem make_ (n d : Int) (k : Nat) (h1 : -1000000000000000000 ≤ n) (h2 : n ≤ 1000000000000000000) (h3 : 1 ≤ d) (h4 : d ≤ 1000000000000000000) : spec_MakeFraction.f k n d = (spec_l2Reduce.f k n d).bind fun bt => some (bt.1, bt.2.1, bt.2.2) := by
  unfold spec_MakeFraction.f
  simp only [l1In__, Option.bind_some]
  rw [if_neg (by omega), if_pos (decide_eq_true ⟨h1, h2⟩), if_pos (decide_eq_true (by omega))]
theorem mn30 (d : Int) : spec_l1Least.f d 30 = some (mn d 30) := by
  rw [least_]; unfold mn; congr 1; split
  · rw [if_neg (by omega)]
  · split
    · rfl
    · omega
theorem FnExactDayCount : laws_FnExactDayCount.Pure := by
  intro fr tt cv _ _ _
  by_cases h1 : decide (0 ≤ fr ∧ fr ≤ 36524) = true
  case neg =>
    refine ⟨1, ?_⟩
    unfold laws_FnExactDayCount.f spec_DayCount.f impl_DayCount.f spec_l3Good.f impl_isDay.f laws_eqFraction.f
    simp only [l1In__, within__, Option.bind_some]
    simp [h1]
  by_cases h2 : decide (0 ≤ tt ∧ tt ≤ 36524) = true
  case neg =>
    refine ⟨1, ?_⟩
    unfold laws_FnExactDayCount.f spec_DayCount.f impl_DayCount.f spec_l3Good.f impl_isDay.f laws_eqFraction.f
    simp only [l1In__, within__, Option.bind_some]
    simp [h1, h2]
  by_cases h3 : fr > tt
  · refine ⟨1, ?_⟩
    unfold laws_FnExactDayCount.f spec_DayCount.f impl_DayCount.f spec_l3Good.f impl_isDay.f laws_eqFraction.f
    simp only [l1In__, within__, Option.bind_some]
    simp [h1, h2, h3]
  by_cases h4 : decide (1 ≤ cv ∧ cv ≤ 4) = true
  case neg =>
    refine ⟨1, ?_⟩
    unfold laws_FnExactDayCount.f spec_DayCount.f impl_DayCount.f spec_l3Good.f impl_isDay.f laws_eqFraction.f
    simp only [l1In__, within__, Option.bind_some]
    simp [h1, h2, h3, h4]
  have a1 := of_decide_eq_true h1
  have a2 := of_decide_eq_true h2
  have a4 := of_decide_eq_true h4
  have core : ∃ k r, spec_l4Count.f k fr tt cv = some r ∧ impl_dayCount.f k fr tt cv = some r := by
    unfold spec_l4Count.f impl_dayCount.f
    rw [w64 (x := tt - fr) (by omega) (by omega)]
    by_cases c1 : cv = 1
    · obtain ⟨r, hr⟩ := frac_both (tt - fr) 360 (by omega) (by omega) (by omega) (by omega) (by omega)
      refine ⟨9223372036854775810, r, ?_, ?_⟩
      · rw [if_pos c1, make_ _ _ _ (by omega) (by omega) (by omega) (by omega), (hr _ (Nat.le_refl _)).1]; rfl
      · rw [if_pos c1, (hr _ (Nat.le_refl _)).2]; rfl
    by_cases c2 : cv = 2
    · obtain ⟨r, hr⟩ := frac_both (tt - fr) 365 (by omega) (by omega) (by omega) (by omega) (by omega)
      refine ⟨9223372036854775810, r, ?_, ?_⟩
      · rw [if_neg c1, if_pos c2, make_ _ _ _ (by omega) (by omega) (by omega) (by omega), (hr _ (Nat.le_refl _)).1]; rfl
      · rw [if_neg c1, if_pos c2, (hr _ (Nat.le_refl _)).2]; rfl
    by_cases c3 : cv = 3
    · obtain ⟨ya, ma, da, hA, sa, ia⟩ := dates_ fr a1.1 a1.2
      obtain ⟨yb, mb, db, hB, sb, ib⟩ := dates_ tt a2.1 a2.2
      have := hA.y0; have := hA.y1; have := hA.m0; have := hA.m1; have := hA.d0; have := hA.d31
      have := hB.y0; have := hB.y1; have := hB.m0; have := hB.m1; have := hB.d0; have := hB.d31
      have ma' : 1 ≤ mn da 30 ∧ mn da 30 ≤ 30 := by unfold mn; split <;> omega
      have mb' : 1 ≤ mn db 30 ∧ mn db 30 ≤ 30 := by unfold mn; split <;> omega
      obtain ⟨r, hr⟩ := frac_both (360 * (yb - ya) + 30 * (mb - ma) + mn db 30 - mn da 30) 360 (by omega) (by omega) (by omega) (by omega) (by omega)
      refine ⟨9223372036854775810, r, ?_, ?_⟩
      · rw [if_neg c1, if_neg c2, if_pos c3]
        unfold spec_l4Thirty.f
        rw [sa _ (by omega), sb _ (by omega)]
        simp only [Option.bind_some, mn30]
        simp (disch := omega) only [w64]
        rw [make_ _ _ _ (by omega) (by omega) (by omega) (by omega), (hr _ (Nat.le_refl _)).1]; rfl
      · rw [if_neg c1, if_neg c2, if_pos c3, ia _ (by omega), ib _ (by omega)]
        simp only [Option.bind_some]
        simp (disch := omega) only [w64]
        rw [(hr _ (Nat.le_refl _)).2]; rfl
    · obtain ⟨L, O, b1, b2, b3, b4, b5⟩ := years_loop tt a2.2 9223372036854775810 (by omega) 36524 fr 0 0 (9223372036854775810 + 1 + (tt - fr).toNat) a1.1 (by omega) (by omega) (by omega) (by omega) (by omega) (by omega)
      obtain ⟨r, hr⟩ := frac_both (365 * L + 366 * O) 133590 (by omega) (by omega) (by omega) (by omega) (by omega)
      refine ⟨9223372036854775810 + 1 + (tt - fr).toNat, r, ?_, ?_⟩
      · rw [if_neg c1, if_neg c2, if_neg c3]
        unfold spec_l4Years.f
        rw [b1]
        simp only [Option.bind_some]
        simp (disch := omega) only [w64]
        rw [make_ _ _ _ (by omega) (by omega) (by omega) (by omega), (hr _ (by omega)).1]; rfl
      · rw [if_neg c1, if_neg c2, if_neg c3]
        simp only [Int.mul_zero, Int.add_zero] at b5
        rw [b5, (hr _ (Nat.le_refl _)).2]; rfl
  obtain ⟨k, r, r1, r2⟩ := core
  refine ⟨k, ?_⟩
  unfold laws_FnExactDayCount.f spec_DayCount.f impl_DayCount.f spec_l3Good.f impl_isDay.f laws_eqFraction.f
  simp only [l1In__, within__, Option.bind_some]
  simp only [h1, h2, h4, if_neg h3, if_true, r1, r2, Option.bind_some]
  simp

end Go.Proofs.Ytjdnongcefddiaa.Pure
