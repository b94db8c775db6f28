/- A rolled day is a business day, and no business day lies between it and the day that it was rolled from; no condition. -/
import Derived.Test.YtaallhcmhennkaaQFnRollingx11
namespace Go.Proofs.Ytaallhcmhennkaa.Pure
open Go.RowKit Go.Proofs.Ytaallhcmhennkaa.QFnRolling Go.Proofs.YtaallhcmhennkaaW.PrintWords Go.Proofs.YtaallhcmhennkaaW.PrintLast Go.Proofs.YtaallhcmhennkaaW.PrintMore
set_option linter.unusedVariables false
set_option linter.unusedSimpArgs false

theorem w64 {x : Int} (h : -9223372036854775808 ≤ x) (h' : x ≤ 9223372036854775807) : wrap64 x = x := by unfold wrap64; omega
theorem tdv {x : Int} (n : Int) (h : 0 ≤ x) : Int.tdiv x n = x / n := Int.tdiv_eq_ediv_of_nonneg h
theorem tmd {x : Int} (n : Int) (h : 0 ≤ x) : Int.tmod x n = x % n := Int.tmod_eq_emod_of_nonneg h
theorem wfb {a : Int} (h : (Lit.int .i64 a).wf = true) : -9223372036854775808 ≤ a ∧ a ≤ 9223372036854775807 := by
  simp [Lit.wf, IntKind.min, IntKind.max, IntKind.signed, IntKind.bits] at h
  omega
theorem within_ {x a b : Int} : (if x ≥ a then some (decide (x ≤ b)) else some false) = some (decide (a ≤ x ∧ x ≤ b)) := by
  by_cases h : x ≥ a
  · rw [if_pos h]; congr 1; simp; omega
  · rw [if_neg h]; congr 1; simp; omega

def dim (y m : Int) : Int := if m = 2 then (if y % 4 = 0 then 29 else 28) else if m = 4 ∨ m = 6 ∨ m = 9 ∨ m = 11 then 30 else 31
def cum (y m : Int) : Int := (if m ≤ 1 then 0 else if m = 2 then 31 else 
  (if m = 3 then 59 else if m = 4 then 90 else if m = 5 then 120 else if m = 6 then 151 else if m = 7 then 181 else if m = 8 then 212 else if m = 9 then 243 else if m = 10 then 273 else if m = 11 then 304 else if m = 12 then 334 else 365) + (if y % 4 = 0 then 1 else 0))
def dby (y : Int) : Int := 365 * (y - 2000) + (y - 2000 + 3) / 4
def dnum (y m d : Int) : Int := dby y + cum y m + d - 1
structure IsDate (y m d day : Int) : Prop where
  y0 : 2000 ≤ y
  y1 : y ≤ 2099
  m0 : 1 ≤ m
  m1 : m ≤ 12
  d0 : 1 ≤ d
  d1 : d ≤ dim y m
  eq : dnum y m d = day
theorem cum_succ (y m : Int) (h1 : 1 ≤ m) (h2 : m ≤ 12) : cum y (m + 1) = cum y m + dim y m := by
  unfold cum dim
  have : m = 1 ∨ m = 2 ∨ m = 3 ∨ m = 4 ∨ m = 5 ∨ m = 6 ∨ m = 7 ∨ m = 8 ∨ m = 9 ∨ m = 10 ∨ m = 11 ∨ m = 12 := by omega
  rcases this with h | h | h | h | h | h | h | h | h | h | h | h <;> subst h <;> simp <;> (try split) <;> rfl
theorem dby_succ (y : Int) : dby (y + 1) = dby y + 337 + dim y 2 := by
  unfold dby dim; simp; split <;> omega
theorem cum_1 (y : Int) : cum y 1 = 0 := by unfold cum; simp
theorem cum_13 (y : Int) : cum y 13 = 337 + dim y 2 := by
  unfold cum dim; simp; split <;> rfl
theorem dim_pos (y m : Int) : 28 ≤ dim y m ∧ dim y m ≤ 31 := by unfold dim; repeat' split <;> omega
theorem cum_mono (y m : Int) (n : Nat) (h1 : 1 ≤ m) (h2 : m + n ≤ 13) : cum y m + 28 * n ≤ cum y (m + n) := by
  induction n with
  | zero => simp
  | succ n ih =>
    have a := ih (by omega)
    have b := cum_succ y (m + n) (by omega) (by omega)
    have c := dim_pos y (m + n)
    have e : m + ((n + 1 : Nat) : Int) = m + n + 1 := by omega
    rw [e, b]; omega
theorem cum_le (y m m' : Int) (h1 : 1 ≤ m) (h2 : m ≤ m') (h3 : m' ≤ 13) : cum y m ≤ cum y m' := by
  have := cum_mono y m (m' - m).toNat h1 (by omega)
  rw [show m + ((m' - m).toNat : Int) = m' by omega] at this
  omega
theorem cum_bd (y m : Int) (h1 : 1 ≤ m) (h3 : m ≤ 13) : 0 ≤ cum y m ∧ cum y m ≤ 366 := by
  have a := cum_le y 1 m (by omega) h1 h3
  have b := cum_le y m 13 h1 h3 (by omega)
  have c := dim_pos y 2
  rw [cum_1] at a; rw [cum_13] at b
  unfold dim at b; simp at b
  have : (if y % 4 = 0 then (29:Int) else 28) ≤ 29 := by split <;> omega
  omega
theorem dby_le (y y' : Int) (h : y ≤ y') : dby y ≤ dby y' := by unfold dby; omega
theorem dby_bd (y : Int) (h : 2000 ≤ y) (h' : y ≤ 2100) : 0 ≤ dby y ∧ dby y ≤ 36525 := by unfold dby; omega
theorem dby_2000 : dby 2000 = 0 := by decide
theorem dby_2100 : dby 2100 = 36525 := by decide
theorem IsDate.lo {y m d day : Int} (h : IsDate y m d day) : dby y + cum y m ≤ day := by
  have := h.eq; have := h.d0; unfold dnum at *; omega
theorem IsDate.hi {y m d day : Int} (h : IsDate y m d day) : day < dby y + cum y (m + 1) := by
  have a := h.eq; have b := h.d1; have c := cum_succ y m h.m0 h.m1; unfold dnum at *; omega
theorem IsDate.year_hi {y m d day : Int} (h : IsDate y m d day) : day < dby (y + 1) := by
  have a := h.hi
  have b := cum_le y (m + 1) 13 (by have := h.m0; omega) (by have := h.m1; omega) (by omega)
  have c := dby_succ y; rw [cum_13] at b; omega
theorem IsDate.year_lo {y m d day : Int} (h : IsDate y m d day) : dby y ≤ day := by
  have a := h.lo
  have b := cum_bd y m h.m0 (by have := h.m1; omega); omega
theorem IsDate.range {y m d day : Int} (h : IsDate y m d day) : 0 ≤ day ∧ day ≤ 36524 := by
  have a := h.year_lo; have b := h.year_hi
  have c := dby_bd y h.y0 (by have := h.y1; omega)
  have e := dby_le (y + 1) 2100 (by have := h.y1; omega)
  rw [dby_2100] at e; omega
theorem IsDate.d31 {y m d day : Int} (h : IsDate y m d day) : d ≤ 31 := by
  have := h.d1; have := dim_pos y m; omega
theorem IsDate.uniq {y m d y' m' d' day : Int} (h : IsDate y m d day) (h' : IsDate y' m' d' day) : y = y' ∧ m = m' ∧ d = d' := by
  have hy : y = y' := by
    by_cases c : y < y'
    · have := h.year_hi; have := h'.year_lo; have := dby_le (y + 1) y' (by omega); omega
    · by_cases c' : y' < y
      · have := h'.year_hi; have := h.year_lo; have := dby_le (y' + 1) y (by omega); omega
      · omega
  subst hy
  have hm : m = m' := by
    by_cases c : m < m'
    · have := h.hi; have := h'.lo; have := cum_le y (m + 1) m' (by have := h.m0; omega) (by omega) (by have := h'.m1; omega); omega
    · by_cases c' : m' < m
      · have := h'.hi; have := h.lo; have := cum_le y (m' + 1) m (by have := h'.m0; omega) (by omega) (by have := h.m1; omega); omega
      · omega
  subst hm
  have a := h.eq; have b := h'.eq
  refine ⟨rfl, rfl, ?_⟩
  unfold dnum at a b; omega

theorem l1In_ (x a b : Int) : spec_l1In.f x a b = some (decide (a ≤ x ∧ x ≤ b)) := by unfold spec_l1In.f; exact within_
theorem l3Length_ (y m : Int) (hy : 0 ≤ y) (k : Nat) (hk : 1 ≤ k) : spec_l3Length.f k y m = some (dim y m) := by
  obtain ⟨k, rfl⟩ : ∃ j, k = j + 1 := ⟨k - 1, by omega⟩
  unfold spec_l3Length.f dim
  simp only [spec_l3Length.j0, tmd 4 hy]
  by_cases h2 : m = 2
  · subst h2; simp; split <;> rfl
  · by_cases h4 : m = 4
    · subst h4; simp
    · by_cases h6 : m = 6
      · subst h6; simp
      · by_cases h9 : m = 9
        · subst h9; simp
        · by_cases h11 : m = 11
          · subst h11; simp
          · simp [h2, h4, h6, h9, h11]
theorem l3Day_l0 (y m d : Int) (hy : 2000 ≤ y) (hy' : y ≤ 2100) (hm : 1 ≤ m) (hm' : m ≤ 13) (hd : -1000 ≤ d) (hd' : d ≤ 1000) (n : Nat) : ∀ (j : Int) (k : Nat), 1 ≤ j → j ≤ m → m - j = n → n + 2 ≤ k →
    spec_l3Day.l0 k (dby y + cum y j) j y m d = some (dnum y m d) := by
  have b := dby_bd y hy hy'
  induction n with
  | zero =>
    intro j k h1 h2 hn hk
    obtain ⟨k, rfl⟩ : ∃ i, k = i + 1 := ⟨k - 1, by omega⟩
    obtain rfl : j = m := by omega
    have c := cum_bd y j h1 hm'
    simp only [spec_l3Day.l0]
    rw [if_neg (by omega)]
    simp (disch := omega) only [w64]
    rfl
  | succ n ih =>
    intro j k h1 h2 hn hk
    obtain ⟨k, rfl⟩ : ∃ i, k = i + 1 := ⟨k - 1, by omega⟩
    have c := cum_bd y j h1 (by omega)
    have e := dim_pos y j
    have s := cum_succ y j h1 (by omega)
    simp only [spec_l3Day.l0]
    rw [if_pos (by omega), l3Length_ y j (by omega) k (by omega)]
    simp only [Option.bind_some]
    simp (disch := omega) only [w64]
    have := ih (j + 1) k (by omega) (by omega) (by omega) (by omega)
    rw [s] at this
    rw [← this]; congr 1 <;> omega
theorem l3Day_ (y m d : Int) (hy : 2000 ≤ y) (hy' : y ≤ 2100) (hm : 1 ≤ m) (hm' : m ≤ 13) (hd : -1000 ≤ d) (hd' : d ≤ 1000) (k : Nat) (hk : 14 ≤ k) : spec_l3Day.f k y m d = some (dnum y m d) := by
  unfold spec_l3Day.f
  simp (disch := omega) only [w64, tdv]
  have := l3Day_l0 y m d hy hy' hm hm' hd hd' (m - 1).toNat 1 k (by omega) (by omega) (by omega) (by omega)
  rw [cum_1] at this
  rw [← this]; unfold dby; congr 1 <;> omega

theorem dnum_y11 (y : Int) : dnum y 1 1 = dby y := by unfold dnum; rw [cum_1]; omega
theorem l3Date_l1 (day y : Int) (hy : 2000 ≤ y) (hy' : y ≤ 2099) (h2 : day < dby (y + 1)) (n : Nat) : ∀ (m : Int) (k : Nat), 1 ≤ m → m ≤ 12 → 12 - m = n → n + 16 ≤ k → dby y + cum y m ≤ day →
    ∃ m' d, spec_l3Date.l1 k day y m 1 = some (y, m', d) ∧ IsDate y m' d day := by
  have b := dby_bd y hy (by omega)
  induction n with
  | zero =>
    intro m k h1 h2' hn hk hlo
    obtain ⟨k, rfl⟩ : ∃ i, k = i + 1 := ⟨k - 1, by omega⟩
    obtain rfl : m = 12 := by omega
    have c := cum_bd y 12 (by omega) (by omega)
    have s := cum_succ y 12 (by omega) (by omega)
    have e := dby_succ y
    have c13 := cum_13 y
    have b2 := dby_bd (y + 1) (by omega) (by omega)
    refine ⟨12, day - (dby y + cum y 12) + 1, ?_, ⟨hy, hy', by omega, by omega, by omega, ?_, ?_⟩⟩
    · simp only [spec_l3Date.l1]
      rw [if_neg (by omega), l3Day_ y 12 1 hy (by omega) (by omega) (by omega) (by omega) (by omega) k (by omega)]
      simp only [Option.bind_some]
      have : dnum y 12 1 = dby y + cum y 12 := by unfold dnum; omega
      rw [this]
      simp (disch := omega) only [w64]
    · have : cum y (12 + 1) = cum y 13 := rfl
      omega
    · unfold dnum; omega
  | succ n ih =>
    intro m k h1 h2' hn hk hlo
    obtain ⟨k, rfl⟩ : ∃ i, k = i + 1 := ⟨k - 1, by omega⟩
    have c := cum_bd y m (by omega) (by omega)
    have s := cum_succ y m (by omega) (by omega)
    have b2 := dby_bd (y + 1) (by omega) (by omega)
    have e1 : dnum y (m + 1) 1 = dby y + cum y (m + 1) := by unfold dnum; omega
    have e0 : dnum y m 1 = dby y + cum y m := by unfold dnum; omega
    by_cases hc : dby y + cum y (m + 1) ≤ day
    · obtain ⟨m', d, h, hD⟩ := ih (m + 1) k (by omega) (by omega) (by omega) (by omega) hc
      refine ⟨m', d, ?_, hD⟩
      simp only [spec_l3Date.l1]
      rw [if_pos (by omega), w64 (x := m + 1) (by omega) (by omega), l3Day_ y (m + 1) 1 hy (by omega) (by omega) (by omega) (by omega) (by omega) k (by omega), e1]
      simp only [Option.bind_some]
      rw [if_pos hc]; exact h
    · refine ⟨m, day - (dby y + cum y m) + 1, ?_, ⟨hy, hy', by omega, by omega, by omega, by omega, by unfold dnum; omega⟩⟩
      simp only [spec_l3Date.l1]
      rw [if_pos (by omega), w64 (x := m + 1) (by omega) (by omega), l3Day_ y (m + 1) 1 hy (by omega) (by omega) (by omega) (by omega) (by omega) k (by omega), e1]
      simp only [Option.bind_some]
      rw [if_neg hc, l3Day_ y m 1 hy (by omega) (by omega) (by omega) (by omega) (by omega) k (by omega), e0]
      simp only [Option.bind_some]
      simp (disch := omega) only [w64]
theorem l3Date_l0 (day : Int) (h2 : day ≤ 36524) (n : Nat) : ∀ (y : Int) (k : Nat), 2000 ≤ y → y ≤ 2099 → 2099 - y = n → n + 40 ≤ k → dby y ≤ day →
    ∃ y' m' d, spec_l3Date.l0 k day y 1 1 = some (y', m', d) ∧ IsDate y' m' d day := by
  induction n with
  | zero =>
    intro y k h1 h2' hn hk hlo
    obtain ⟨k, rfl⟩ : ∃ i, k = i + 2 := ⟨k - 2, by omega⟩
    obtain rfl : y = 2099 := by omega
    obtain ⟨m', d, h, hD⟩ := l3Date_l1 day 2099 (by omega) (by omega) (by have := dby_2100; have e : (2099 : Int) + 1 = 2100 := rfl; rw [e]; omega) 11 1 k (by omega) (by omega) (by omega) (by omega) (by rw [cum_1]; omega)
    refine ⟨2099, m', d, ?_, hD⟩
    simp only [spec_l3Date.l0]
    rw [if_neg (by omega)]
    simp only [spec_l3Date.j1]; exact h
  | succ n ih =>
    intro y k h1 h2' hn hk hlo
    obtain ⟨k, rfl⟩ : ∃ i, k = i + 2 := ⟨k - 2, by omega⟩
    by_cases hc : dby (y + 1) ≤ day
    · obtain ⟨y', m', d, h, hD⟩ := ih (y + 1) (k + 1) (by omega) (by omega) (by omega) (by omega) hc
      refine ⟨y', m', d, ?_, hD⟩
      rw [spec_l3Date.l0]
      rw [if_pos (by omega), w64 (x := y + 1) (by omega) (by omega), l3Day_ (y + 1) 1 1 (by omega) (by omega) (by omega) (by omega) (by omega) (by omega) (k + 1) (by omega), dnum_y11]
      simp only [Option.bind_some]
      rw [if_pos hc]; exact h
    · obtain ⟨m', d, h, hD⟩ := l3Date_l1 day y (by omega) (by omega) (by omega) 11 1 k (by omega) (by omega) (by omega) (by omega) (by rw [cum_1]; omega)
      refine ⟨y, m', d, ?_, hD⟩
      rw [spec_l3Date.l0]
      rw [if_pos (by omega), w64 (x := y + 1) (by omega) (by omega), l3Day_ (y + 1) 1 1 (by omega) (by omega) (by omega) (by omega) (by omega) (by omega) (k + 1) (by omega), dnum_y11]
      simp only [Option.bind_some]
      rw [if_neg hc]
      simp only [spec_l3Date.j1]; exact h
theorem l3Date_ (day : Int) (h : 0 ≤ day) (h2 : day ≤ 36524) : ∃ y m d, IsDate y m d day ∧ ∀ k, 139 ≤ k → spec_l3Date.f k day = some (y, m, d) := by
  obtain ⟨y, m, d, h1, hD⟩ := l3Date_l0 day h2 99 2000 139 (by omega) (by omega) (by omega) (by omega) (by rw [dby_2000]; exact h)
  refine ⟨y, m, d, hD, fun k hk => ?_⟩
  exact at_rounds (fun k => spec_l3Date.mono day k) hk (by unfold spec_l3Date.f; exact h1)

theorem withinI_ (x a b : Int) : impl_within.f x a b = some (decide (a ≤ x ∧ x ≤ b)) := by unfold impl_within.f; exact within_
theorem daysIn_ (y m : Int) (hy : 0 ≤ y) : impl_daysIn.f y m = some (dim y m) := by
  unfold impl_daysIn.f dim
  simp only [tmd 4 hy]
  by_cases h2 : m = 2
  · subst h2; simp; split <;> rfl
  · by_cases h4 : m = 4
    · subst h4; simp
    · by_cases h6 : m = 6
      · subst h6; simp
      · by_cases h9 : m = 9
        · subst h9; simp
        · by_cases h11 : m = 11
          · subst h11; simp
          · simp [h2, h4, h6, h9, h11]

theorem daysOf_ (y : Int) (hy : 0 ≤ y) : impl_daysOf.f y = some (337 + dim y 2) := by
  unfold impl_daysOf.f
  have := dim_pos y 2
  rw [daysIn_ y 2 hy]
  simp only [Option.bind_some]
  simp (disch := omega) only [w64]

theorem dateOf_l1 (day y : Int) (hy : 2000 ≤ y) (hy' : y ≤ 2099) (h2 : day < dby (y + 1)) (n : Nat) : ∀ (m : Int) (k : Nat), 1 ≤ m → m ≤ 12 → 12 - m = n → n + 1 ≤ k → dby y + cum y m ≤ day →
    ∃ m' d, impl_dateOf.l1 k (day - (dby y + cum y m)) y m 0 = some (y, m', d) ∧ IsDate y m' d day := by
  have b := dby_bd y hy (by omega)
  have b2 := dby_bd (y + 1) (by omega) (by omega)
  induction n with
  | zero =>
    intro m k h1 h2' hn hk hlo
    obtain ⟨k, rfl⟩ : ∃ i, k = i + 1 := ⟨k - 1, by omega⟩
    obtain rfl : m = 12 := by omega
    have c := cum_bd y 12 (by omega) (by omega)
    have s := cum_succ y 12 (by omega) (by omega)
    have e := dby_succ y
    have c13 := cum_13 y
    have : cum y (12 + 1) = cum y 13 := rfl
    refine ⟨12, day - (dby y + cum y 12) + 1, ?_, ⟨hy, hy', by omega, by omega, by omega, by omega, by unfold dnum; omega⟩⟩
    simp only [impl_dateOf.l1]
    rw [daysIn_ y 12 (by omega)]
    simp only [Option.bind_some]
    rw [if_neg (by omega)]
    simp (disch := omega) only [w64]
  | succ n ih =>
    intro m k h1 h2' hn hk hlo
    obtain ⟨k, rfl⟩ : ∃ i, k = i + 1 := ⟨k - 1, by omega⟩
    have c := cum_bd y m (by omega) (by omega)
    have s := cum_succ y m (by omega) (by omega)
    have e := dim_pos y m
    by_cases hc : dby y + cum y (m + 1) ≤ day
    · obtain ⟨m', d, h, hD⟩ := ih (m + 1) k (by omega) (by omega) (by omega) (by omega) hc
      refine ⟨m', d, ?_, hD⟩
      simp only [impl_dateOf.l1]
      rw [daysIn_ y m (by omega)]
      simp only [Option.bind_some]
      rw [if_pos (by omega)]
      simp (disch := omega) only [w64]
      rw [← h, s]; congr 1 <;> omega
    · refine ⟨m, day - (dby y + cum y m) + 1, ?_, ⟨hy, hy', by omega, by omega, by omega, by omega, by unfold dnum; omega⟩⟩
      simp only [impl_dateOf.l1]
      rw [daysIn_ y m (by omega)]
      simp only [Option.bind_some]
      rw [if_neg (by omega)]
      simp (disch := omega) only [w64]
theorem dateOf_l0 (day : Int) (h2 : day ≤ 36524) (n : Nat) : ∀ (y : Int) (k : Nat), 2000 ≤ y → y ≤ 2099 → 2099 - y = n → n + 20 ≤ k → dby y ≤ day →
    ∃ y' m' d, impl_dateOf.l0 k (day - dby y) y 1 0 = some (y', m', d) ∧ IsDate y' m' d day := by
  induction n with
  | zero =>
    intro y k h1 h2' hn hk hlo
    obtain ⟨k, rfl⟩ : ∃ i, k = i + 1 := ⟨k - 1, by omega⟩
    obtain rfl : y = 2099 := by omega
    have e1 : (2099 : Int) + 1 = 2100 := rfl
    have s := dby_succ 2099
    rw [e1, dby_2100] at s
    obtain ⟨m', d, h, hD⟩ := dateOf_l1 day 2099 (by omega) (by omega) (by rw [e1, dby_2100]; omega) 11 1 k (by omega) (by omega) (by omega) (by omega) (by rw [cum_1]; omega)
    refine ⟨2099, m', d, ?_, hD⟩
    simp only [impl_dateOf.l0]
    rw [daysOf_ 2099 (by omega)]
    simp only [Option.bind_some]
    rw [if_neg (by omega)]
    rw [cum_1] at h
    rw [← h]; congr 1 <;> omega
  | succ n ih =>
    intro y k h1 h2' hn hk hlo
    obtain ⟨k, rfl⟩ : ∃ i, k = i + 1 := ⟨k - 1, by omega⟩
    have s := dby_succ y
    have b := dby_bd y h1 (by omega)
    have e := dim_pos y 2
    by_cases hc : dby (y + 1) ≤ day
    · obtain ⟨y', m', d, h, hD⟩ := ih (y + 1) k (by omega) (by omega) (by omega) (by omega) hc
      refine ⟨y', m', d, ?_, hD⟩
      simp only [impl_dateOf.l0]
      rw [daysOf_ y (by omega)]
      simp only [Option.bind_some]
      rw [if_pos (by omega)]
      simp (disch := omega) only [w64]
      rw [← h, s]; congr 1 <;> omega
    · obtain ⟨m', d, h, hD⟩ := dateOf_l1 day y (by omega) (by omega) (by omega) 11 1 k (by omega) (by omega) (by omega) (by omega) (by rw [cum_1]; omega)
      refine ⟨y, m', d, ?_, hD⟩
      simp only [impl_dateOf.l0]
      rw [daysOf_ y (by omega)]
      simp only [Option.bind_some]
      rw [if_neg (by omega)]
      rw [cum_1] at h
      rw [← h]; congr 1 <;> omega
theorem dateOf_ (day : Int) (h : 0 ≤ day) (h2 : day ≤ 36524) : ∃ y m d, IsDate y m d day ∧ ∀ k, 119 ≤ k → impl_dateOf.f k day = some (y, m, d) := by
  obtain ⟨y, m, d, h1, hD⟩ := dateOf_l0 day h2 99 2000 119 (by omega) (by omega) (by omega) (by omega) (by rw [dby_2000]; exact h)
  rw [dby_2000] at h1
  refine ⟨y, m, d, hD, fun k hk => ?_⟩
  exact at_rounds (fun k => impl_dateOf.mono day k) hk (by unfold impl_dateOf.f; rw [← h1]; congr 1 <;> omega)

theorem dates_ (day : Int) (h : 0 ≤ day) (h2 : day ≤ 36524) : ∃ y m d, IsDate y m d day ∧ (∀ k, 139 ≤ k → spec_l3Date.f k day = some (y, m, d)) ∧ ∀ k, 139 ≤ k → impl_dateOf.f k day = some (y, m, d) := by
  obtain ⟨y, m, d, hD, hs⟩ := l3Date_ day h h2
  obtain ⟨y', m', d', hD', hi⟩ := dateOf_ day h h2
  obtain ⟨rfl, rfl, rfl⟩ := hD.uniq hD'
  exact ⟨y, m, d, hD, hs, fun k hk => hi k (by omega)⟩

theorem cwithin_ (x a b : Int) : impl_within.f x a b = some (decide (a ≤ x ∧ x ≤ b)) := by unfold impl_within.f; exact within_
theorem cl1In_ (x a b : Int) : spec_l1In.f x a b = some (decide (a ≤ x ∧ x ≤ b)) := by unfold spec_l1In.f; exact within_
theorem rising_l0 (l : List Int) (hl : l.length ≤ 1048576) (lo hi most : Int) (d : Nat) : ∀ (i k : Nat), i + d = l.length → d < k →
    ∃ b, spec_l1Rising.l0 k l lo hi (i : Int) = some b ∧ impl_isRising.l0 k l lo hi most l (l.length : Int) (i : Int) = some (b && decide ((l.length : Int) ≤ most)) := by
  induction d with
  | zero =>
    intro i k hid hk
    obtain ⟨k, rfl⟩ : ∃ j, k = j + 1 := ⟨k - 1, by omega⟩
    refine ⟨true, ?_, ?_⟩
    · simp only [spec_l1Rising.l0]; rw [if_neg (by omega)]
    · simp only [impl_isRising.l0]; rw [if_neg (by omega)]; simp
  | succ d ih =>
    intro i k hid hk
    obtain ⟨k, rfl⟩ : ∃ j, k = j + 1 := ⟨k - 1, by omega⟩
    obtain ⟨b, h1, h2⟩ := ih (i + 1) k (by omega) (by omega)
    have c1 : (i : Int) < (l.length : Int) := by omega
    have c0 : (0 : Int) ≤ (i : Int) := by omega
    simp only [spec_l1Rising.l0, impl_isRising.l0, cwithin_, cl1In_, Option.bind_some, c1, c0, if_true]
    rw [w64 (x := (i : Int) + 1) (by omega) (by omega), show ((i : Int) + 1) = ((i + 1 : Nat) : Int) by omega, h1, h2]
    by_cases hr : decide (lo ≤ rd l (i : Int) ∧ rd l (i : Int) ≤ hi) = true
    · rw [if_pos hr, if_pos hr]
      by_cases h0 : (i : Int) > 0
      · have c2 : (0 : Int) ≤ (i : Int) - 1 := by omega
        have c3 : (i : Int) - 1 < (l.length : Int) := by omega
        rw [w64 (x := (i : Int) - 1) (by omega) (by omega)]
        simp only [h0, c2, c3, if_true]
        by_cases hc : rd l (i : Int) ≤ rd l ((i : Int) - 1)
        · exact ⟨false, by rw [if_pos (by omega)], by rw [if_pos hc]; rfl⟩
        · exact ⟨b, by rw [if_neg (by omega)], by rw [if_neg hc]⟩
      · exact ⟨b, by rw [if_neg h0], by rw [if_neg h0]⟩
    · exact ⟨false, by rw [if_neg hr], by rw [if_neg hr]; rfl⟩
theorem good_ (a b : List Int) (ha : a.length ≤ 1048576) (hb : b.length ≤ 1048576) : ∃ v, ∀ k, 1048577 < k → spec_l4Good.f k a b = some v ∧ impl_IsValidCalendar.f k a b = some v := by
  obtain ⟨x, x1, x2⟩ := rising_l0 a ha 0 6 6 a.length 0 1048577 (by omega) (by omega)
  obtain ⟨y, y1, y2⟩ := rising_l0 b hb 0 36524 40 b.length 0 1048577 (by omega) (by omega)
  refine ⟨(decide ((a.length : Int) ≤ 6) && x) && (decide ((b.length : Int) ≤ 40) && y), fun k hk => ?_⟩
  have X1 : spec_l1Rising.f k a 0 6 = some x := at_rounds (fun k => spec_l1Rising.mono a 0 6 k) (by omega : 1048577 ≤ k) (by unfold spec_l1Rising.f; exact x1)
  have Y1 : spec_l1Rising.f k b 0 36524 = some y := at_rounds (fun k => spec_l1Rising.mono b 0 36524 k) (by omega : 1048577 ≤ k) (by unfold spec_l1Rising.f; exact y1)
  have X2 : impl_isRising.f k a 0 6 6 = some (x && decide ((a.length : Int) ≤ 6)) := at_rounds (fun k => impl_isRising.mono a 0 6 6 k) (by omega : 1048577 ≤ k) (by unfold impl_isRising.f; exact x2)
  have Y2 : impl_isRising.f k b 0 36524 40 = some (y && decide ((b.length : Int) ≤ 40)) := at_rounds (fun k => impl_isRising.mono b 0 36524 40 k) (by omega : 1048577 ≤ k) (by unfold impl_isRising.f; exact y2)
  constructor
  · unfold spec_l4Good.f
    rw [X1, Y1]
    simp only [Option.bind_some]
    by_cases h1 : (a.length : Int) ≤ 6 <;> cases x <;> by_cases h2 : (b.length : Int) ≤ 40 <;> simp [h1, h2]
  · unfold impl_IsValidCalendar.f
    rw [X2, Y2]
    simp only [Option.bind_some]
    by_cases h1 : (a.length : Int) ≤ 6 <;> cases x <;> by_cases h2 : (b.length : Int) ≤ 40 <;> cases y <;> simp [h1, h2]

theorem has_l0 (l : List Int) (hl : l.length ≤ 1048576) (v : Int) (d : Nat) : ∀ (i k : Nat), i + d = l.length → d < k →
    ∃ b j, spec_l1Has.l0 k l v (i : Int) = some b ∧ slices_Index_int_int.l0 k l v (l.length : Int) (i : Int) = some j ∧ decide (j ≥ 0) = b := by
  induction d with
  | zero =>
    intro i k hi hk
    obtain ⟨k, rfl⟩ : ∃ j, k = j + 1 := ⟨k - 1, by omega⟩
    refine ⟨false, -1, ?_, ?_, by decide⟩
    · simp only [spec_l1Has.l0]; rw [if_neg (by omega)]
    · simp only [slices_Index_int_int.l0]; rw [if_neg (by omega)]
  | succ d ih =>
    intro i k hi hk
    obtain ⟨k, rfl⟩ : ∃ j, k = j + 1 := ⟨k - 1, by omega⟩
    obtain ⟨b, j, h1, h2, h3⟩ := ih (i + 1) k (by omega) (by omega)
    by_cases hc : rd l (i : Int) = v
    · refine ⟨true, (i : Int), ?_, ?_, decide_eq_true (by omega)⟩
      · simp only [spec_l1Has.l0]; rw [if_pos (by omega), if_pos (by omega), if_pos hc]
      · simp only [slices_Index_int_int.l0]; rw [if_pos (by omega), if_pos (by omega), if_pos (by omega), if_pos hc.symm]
    · refine ⟨b, j, ?_, ?_, h3⟩
      · simp only [spec_l1Has.l0]; rw [if_pos (by omega), if_pos (by omega), if_neg hc, w64 (by omega) (by omega), show ((i : Int) + 1) = ((i + 1 : Nat) : Int) by omega]; exact h1
      · simp only [slices_Index_int_int.l0]; rw [if_pos (by omega), if_pos (by omega), if_pos (by omega), if_neg (fun h => hc h.symm), w64 (by omega) (by omega), show ((i : Int) + 1) = ((i + 1 : Nat) : Int) by omega]; exact h2
theorem has_ (l : List Int) (hl : l.length ≤ 1048576) (v : Int) : ∃ b, ∀ k, 1048577 < k → spec_l1Has.f k l v = some b ∧ slices_Contains_int_int.f k l v = some b := by
  obtain ⟨b, j, h1, h2, h3⟩ := has_l0 l hl v l.length 0 1048577 (by omega) (by omega)
  refine ⟨b, fun k hk => ⟨at_rounds (fun k => spec_l1Has.mono l v k) (by omega : 1048577 ≤ k) (by unfold spec_l1Has.f; exact h1), ?_⟩⟩
  have : slices_Index_int_int.f k l v = some j := at_rounds (fun k => slices_Index_int_int.mono l v k) (by omega : 1048577 ≤ k) (by unfold slices_Index_int_int.f; exact h2)
  unfold slices_Contains_int_int.f
  rw [this]; simp only [Option.bind_some]; rw [h3]
theorem open_ (a b : List Int) (ha : a.length ≤ 1048576) (hb : b.length ≤ 1048576) (day : Int) : ∃ v, ∀ k, 1048577 < k → spec_l4Open.f k a b day = some v ∧ impl_isBusiness.f k a b day = some v := by
  obtain ⟨x, hx⟩ := has_ a ha (Int.tmod (wrap64 (day + 5)) 7)
  obtain ⟨y, hy⟩ := has_ b hb day
  refine ⟨if x = true then false else !y, fun k hk => ?_⟩
  unfold spec_l4Open.f impl_isBusiness.f spec_l3Weekday.f impl_weekday.f
  simp only [Option.bind_some, (hx k hk).1, (hx k hk).2, (hy k hk).1, (hy k hk).2]
  cases x <;> simp

theorem goodday_ (day : Int) : spec_l3Good.f day = some (decide (0 ≤ day ∧ day ≤ 36524)) := by unfold spec_l3Good.f; rw [cl1In_]; rfl
theorem isDay__ (day : Int) : impl_isDay.f day = some (decide (0 ≤ day ∧ day ≤ 36524)) := by unfold impl_isDay.f; rw [cwithin_]; rfl

theorem same_ (x y : Int) (hx : 0 ≤ x) (hx' : x ≤ 36524) (hy : 0 ≤ y) (hy' : y ≤ 36524) : ∃ b, ∀ k, 139 ≤ k → spec_l4SameMonth.f k x y = some b ∧ spec_l4SameMonth.f k y x = some b ∧ impl_sameMonth.f k x y = some b ∧ impl_sameMonth.f k y x = some b := by
  obtain ⟨ya, ma, da, _, s1, i1⟩ := dates_ x hx hx'
  obtain ⟨yb, mb, db, _, s2, i2⟩ := dates_ y hy hy'
  refine ⟨decide (ya = yb ∧ ma = mb), fun k hk => ?_⟩
  unfold spec_l4SameMonth.f impl_sameMonth.f
  simp only [s1 k hk, s2 k hk, i1 k hk, i2 k hk, Option.bind_some]
  by_cases c : ya = yb
  · subst c
    by_cases e : ma = mb
    · subst e; simp
    · have : ¬ mb = ma := fun h => e h.symm
      simp [e, this]
  · have : ¬ yb = ya := fun h => c h.symm
    simp [c, this]

/-- Both say of a day whether it is open. -/
def open1 (a b : List Int) (d : Int) (v : Bool) : Prop := ∀ k, 1048577 < k → spec_l4Open.f k a b d = some v ∧ impl_isBusiness.f k a b d = some v
/-- A day that was found: open, and none between. -/
def found (a b : List Int) (day r : Int) : Prop := r = -1 ∨ 0 ≤ r ∧ r ≤ 36524 ∧ open1 a b r true ∧ (∀ e, day ≤ e → e < r → open1 a b e false) ∧ (∀ e, r < e → e ≤ day → open1 a b e false)
theorem found.range {a b : List Int} {day r : Int} (h : found a b day r) : r = -1 ∨ 0 ≤ r ∧ r ≤ 36524 := by
  rcases h with h | h
  · exact .inl h
  · exact .inr ⟨h.1, h.2.1⟩
theorem seekR_l0 (a b : List Int) (ha : a.length ≤ 1048576) (hb : b.length ≤ 1048576) (s : Int) (hs : s = 1 ∨ s = -1) (d : Nat) : ∀ (day : Int) (k : Nat), (s = 1 → 36524 - day < d ∧ -2 ≤ day) → (s = -1 → day < d ∧ day ≤ 36526) → 1048578 + d < k →
    ∃ r, spec_l4Seek.l0 k day s a b = some r ∧ impl_nearBusiness.l0 k day s a b = some r ∧ (r = -1 ∨ 0 ≤ r ∧ r ≤ 36524 ∧ open1 a b r true ∧ (s = 1 → day ≤ r ∧ ∀ e, day ≤ e → e < r → open1 a b e false) ∧ (s = -1 → r ≤ day ∧ ∀ e, r < e → e ≤ day → open1 a b e false)) := by
  induction d with
  | zero =>
    intro day k h1 h2 hk
    obtain ⟨k, rfl⟩ : ∃ j, k = j + 1 := ⟨k - 1, by omega⟩
    refine ⟨-1, ?_, ?_, Or.inl rfl⟩
    · simp only [spec_l4Seek.l0, goodday_, Option.bind_some]; rw [if_neg (by simp; intro; rcases hs with h | h <;> simp [h] at h1 h2 <;> omega)]
    · simp only [impl_nearBusiness.l0, isDay__, Option.bind_some]; rw [if_neg (by simp; intro; rcases hs with h | h <;> simp [h] at h1 h2 <;> omega)]
  | succ d ih =>
    intro day k h1 h2 hk
    obtain ⟨k, rfl⟩ : ∃ j, k = j + 1 := ⟨k - 1, by omega⟩
    simp only [spec_l4Seek.l0, goodday_, impl_nearBusiness.l0, isDay__, Option.bind_some]
    by_cases hg : decide (0 ≤ day ∧ day ≤ 36524) = true
    · have hd := of_decide_eq_true hg
      obtain ⟨v, hv0⟩ := open_ a b ha hb day
      have hv := hv0 k (by omega)
      rw [if_pos hg, if_pos hg, hv.1, hv.2]
      simp only [Option.bind_some]
      cases v with
      | true => exact ⟨day, by simp, by simp, Or.inr ⟨hd.1, hd.2, hv0, fun _ => ⟨Int.le_refl _, fun e h3 h4 => by omega⟩, fun _ => ⟨Int.le_refl _, fun e h3 h4 => by omega⟩⟩⟩
      | false =>
        obtain ⟨r, r1, r2, r3⟩ := ih (day + s) k (by omega) (by omega) (by omega)
        refine ⟨r, ?_, ?_, ?_⟩
        · simp only [Bool.false_eq_true, if_false]; rw [w64 (by omega) (by omega)]; exact r1
        · simp only [Bool.false_eq_true, if_false]; rw [w64 (by omega) (by omega)]; exact r2
        · rcases r3 with r3 | ⟨q0, q1, q2, q3, q4⟩
          · exact .inl r3
          · refine .inr ⟨q0, q1, q2, fun h => ?_, fun h => ?_⟩
            · obtain ⟨u1, u2⟩ := q3 h
              refine ⟨by omega, fun e h3 h4 => ?_⟩
              by_cases he : e = day
              · rw [he]; exact hv0
              · exact u2 e (by omega) h4
            · obtain ⟨u1, u2⟩ := q4 h
              refine ⟨by omega, fun e h3 h4 => ?_⟩
              by_cases he : e = day
              · rw [he]; exact hv0
              · exact u2 e h3 (by omega)
    · exact ⟨-1, by rw [if_neg hg], by rw [if_neg hg], Or.inl rfl⟩
theorem seekR_ (a b : List Int) (ha : a.length ≤ 1048576) (hb : b.length ≤ 1048576) (s day : Int) (hs : s = 1 ∨ s = -1) (h0 : -1 ≤ day) (h1 : day ≤ 36525) :
    ∃ r, found a b day r ∧ ∀ k, 1100000 ≤ k → spec_l4Seek.f k a b day s = some r ∧ impl_nearBusiness.f k a b day s = some r := by
  obtain ⟨r, r1, r2, r3⟩ := seekR_l0 a b ha hb s hs 36530 day 1100000 (by omega) (by omega) (by omega)
  refine ⟨r, ?_, fun k hk => ⟨at_rounds (fun k => spec_l4Seek.mono a b day s k) hk (by unfold spec_l4Seek.f; exact r1), at_rounds (fun k => impl_nearBusiness.mono a b day s k) hk (by unfold impl_nearBusiness.f; exact r2)⟩⟩
  rcases r3 with r3 | ⟨q0, q1, q2, q3, q4⟩
  · exact .inl r3
  · refine .inr ⟨q0, q1, q2, ?_⟩
    rcases hs with h | h
    · obtain ⟨u1, u2⟩ := q3 h
      exact ⟨u2, fun e h3 h4 => by omega⟩
    · obtain ⟨u1, u2⟩ := q4 h
      exact ⟨fun e h3 h4 => by omega, u2⟩
theorem rollR_ (a b : List Int) (ha : a.length ≤ 1048576) (hb : b.length ≤ 1048576) (day c : Int) (h0 : 0 ≤ day) (h1 : day ≤ 36524) : ∃ r, found a b day r ∧ ∀ k, 1100001 ≤ k → spec_l4Roll.f k a b day c = some r ∧ impl_rollDay.f k a b day c = some r := by
  obtain ⟨n, hn, n2⟩ := seekR_ a b ha hb 1 day (Or.inl rfl) (by omega) (by omega)
  obtain ⟨p, hp, p2⟩ := seekR_ a b ha hb (-1) day (Or.inr rfl) (by omega) (by omega)
  have hnr := hn.range
  have hpr := hp.range
  have key : ∃ r, found a b day r ∧ ∀ k, 1100001 ≤ k → (if c = 1 then some n else if c = 3 then some p else if c = 2 then (if n ≥ 0 then (spec_l4SameMonth.f k day n).bind fun t => spec_l4Roll.j0 k n p t else spec_l4Roll.j0 k n p false) else if p ≥ 0 then (spec_l4SameMonth.f k day p).bind fun t => if t = true then some p else some n else some n) = some r ∧
      (if c = 1 then some n else if c = 3 then some p else if c = 2 then (if n ≥ 0 then (impl_sameMonth.f k n day).bind fun t => impl_rollDay.j0 k n p t else impl_rollDay.j0 k n p false) else if p ≥ 0 then (impl_sameMonth.f k p day).bind fun t => if t = true then some p else some n else some n) = some r := by
    have j1 : ∀ k t, 1 ≤ k → spec_l4Roll.j0 k n p t = some (if t = true then n else p) := fun k t hk => by
      obtain ⟨k, rfl⟩ : ∃ j, k = j + 1 := ⟨k - 1, by omega⟩
      simp only [spec_l4Roll.j0]; split <;> rfl
    have j2 : ∀ k t, 1 ≤ k → impl_rollDay.j0 k n p t = some (if t = true then n else p) := fun k t hk => by
      obtain ⟨k, rfl⟩ : ∃ j, k = j + 1 := ⟨k - 1, by omega⟩
      simp only [impl_rollDay.j0]; split <;> rfl
    by_cases c1 : c = 1
    · exact ⟨n, hn, fun k hk => ⟨by rw [if_pos c1], by rw [if_pos c1]⟩⟩
    by_cases c3 : c = 3
    · exact ⟨p, hp, fun k hk => ⟨by rw [if_neg c1, if_pos c3], by rw [if_neg c1, if_pos c3]⟩⟩
    by_cases c2 : c = 2
    · by_cases g : n ≥ 0
      · obtain ⟨q, hq⟩ := same_ day n h0 h1 (by omega) (by omega)
        refine ⟨if q = true then n else p, by split <;> assumption, fun k hk => ?_⟩
        have hq := hq k (by omega)
        rw [if_neg c1, if_neg c3, if_pos c2, if_pos g, if_neg c1, if_neg c3, if_pos c2, if_pos g, hq.1, hq.2.2.2]
        simp only [Option.bind_some]
        exact ⟨j1 k q (by omega), j2 k q (by omega)⟩
      · refine ⟨p, hp, fun k hk => ?_⟩
        rw [if_neg c1, if_neg c3, if_pos c2, if_neg g, if_neg c1, if_neg c3, if_pos c2, if_neg g, j1 k _ (by omega), j2 k _ (by omega)]
        simp
    · by_cases g : p ≥ 0
      · obtain ⟨q, hq⟩ := same_ day p h0 h1 (by omega) (by omega)
        refine ⟨if q = true then p else n, by split <;> assumption, fun k hk => ?_⟩
        have hq := hq k (by omega)
        rw [if_neg c1, if_neg c3, if_neg c2, if_pos g, if_neg c1, if_neg c3, if_neg c2, if_pos g, hq.1, hq.2.2.2]
        simp only [Option.bind_some]
        cases q <;> simp
      · refine ⟨n, hn, fun k hk => ?_⟩
        rw [if_neg c1, if_neg c3, if_neg c2, if_neg g, if_neg c1, if_neg c3, if_neg c2, if_neg g]
        exact ⟨rfl, rfl⟩
  obtain ⟨r, hr, hk⟩ := key
  refine ⟨r, hr, fun k h => ?_⟩
  unfold spec_l4Roll.f impl_rollDay.f
  rw [(n2 k (by omega)).1, (p2 k (by omega)).1, (n2 k (by omega)).2, (p2 k (by omega)).2]
  simp only [Option.bind_some]
  exact hk k h
/-- Both roll alike; a day that was rolled to: found, from a good day of a good calendar. -/
theorem both_RollR (a b : List Int) (ha : a.length ≤ 1048576) (hb : b.length ≤ 1048576) (day c : Int) : ∃ r, spec_RollDay.f 2000000 a b day c = some r ∧ impl_RollDay.f 2000000 a b day c = some r ∧
    (r.2 = false ∨ r.2 = true ∧ 0 ≤ r.1 ∧ r.1 ≤ 36524 ∧ 0 ≤ day ∧ day ≤ 36524 ∧ found a b day r.1 ∧ ∀ k, 1048577 < k → impl_IsValidCalendar.f k a b = some true) := by
  obtain ⟨v, hv0⟩ := good_ a b ha hb
  have hv := hv0 2000000 (by omega)
  unfold spec_RollDay.f impl_RollDay.f
  rw [hv.1, hv.2]
  simp only [goodday_, isDay__, cwithin_, cl1In_, Option.bind_some]
  have off1 : ∀ x y, spec_RollDay.j0 2000000 x y true a b = some (0, false) := fun x y => by simp [spec_RollDay.j0]
  cases v with
  | false => exact ⟨(0, false), by simp [off1], by simp, .inl rfl⟩
  | true =>
    simp only [if_true]
    by_cases h1 : decide (0 ≤ day ∧ day ≤ 36524) = true
    case neg => exact ⟨(0, false), by rw [if_neg h1, off1], by rw [if_neg h1], .inl rfl⟩
    by_cases h2 : decide (1 ≤ c ∧ c ≤ 4) = true
    case neg =>
      have : decide (1 ≤ c ∧ c ≤ 4) = false := by simpa using h2
      exact ⟨(0, false), by rw [if_pos h1, this]; exact off1 _ _, by rw [if_pos h1, if_neg h2], .inl rfl⟩
    have a1 := of_decide_eq_true h1
    obtain ⟨r, hr, hr2⟩ := rollR_ a b ha hb day c a1.1 a1.2
    have hrr := hr.range
    have e1 := (hr2 1999999 (by omega)).1
    have e2 := (hr2 2000000 (by omega)).2
    rw [if_pos h1, if_pos h1, if_pos h2, h2, e2]
    simp only [Bool.not_true, spec_RollDay.j0, Bool.false_eq_true, if_false, e1, Option.bind_some]
    by_cases hn : r < 0
    · refine ⟨(0, false), by rw [if_pos hn], ?_, .inl rfl⟩
      unfold mx
      rw [if_neg (by omega), decide_eq_false (by omega)]
    · refine ⟨(r, true), by rw [if_neg hn], ?_, .inr ⟨rfl, by omega, by omega, a1.1, a1.2, hr, fun k hk => (hv0 k hk).2⟩⟩
      unfold mx
      rw [decide_eq_true (by omega)]
      split
      · rfl
      · rw [show r = 0 by omega]
theorem count0_l0 (a b : List Int) (tt : Int) (h36 : tt ≤ 36524) (d : Nat) : ∀ (x : Int) (k : Nat), 0 ≤ x → tt - x ≤ d → (∀ e, x ≤ e → e < tt → open1 a b e false) → d + 1048579 ≤ k →
    impl_CountBusinessDays.l0 k tt 0 x a b = some (0, true) := by
  induction d with
  | zero =>
    intro x k h0 h1 h2 hk
    obtain ⟨k, rfl⟩ : ∃ j, k = j + 1 := ⟨k - 1, by omega⟩
    simp only [impl_CountBusinessDays.l0]; rw [if_neg (by omega)]
  | succ d ih =>
    intro x k h0 h1 h2 hk
    obtain ⟨k, rfl⟩ : ∃ j, k = j + 1 := ⟨k - 1, by omega⟩
    simp only [impl_CountBusinessDays.l0]
    by_cases hx : x < tt
    · rw [if_pos hx, (h2 x (Int.le_refl _) hx k (by omega)).2]
      simp only [Option.bind_some, Bool.false_eq_true, if_false]
      rw [w64 (x := x + 1) (by omega) (by omega)]
      exact ih (x + 1) k (by omega) (by omega) (fun e h3 h4 => h2 e (by omega) h4) (by omega)
    · rw [if_neg hx]
/-- No open day, none counted. -/
theorem count0_ (a b : List Int) (fr tt : Int) (h0 : 0 ≤ fr) (hle : fr ≤ tt) (h36 : tt ≤ 36524) (k : Nat) (hk : 1090000 ≤ k) (hg : impl_IsValidCalendar.f k a b = some true) (hc : ∀ e, fr ≤ e → e < tt → open1 a b e false) : impl_CountBusinessDays.f k a b fr tt = some (0, true) := by
  unfold impl_CountBusinessDays.f
  rw [hg]
  simp only [Option.bind_some, if_true]
  rw [if_neg (by omega), if_neg (by omega), decide_eq_false (by omega)]
  obtain ⟨k, rfl⟩ : ∃ j, k = j + 1 := ⟨k - 1, by omega⟩
  simp only [impl_CountBusinessDays.j0, Bool.false_eq_true, if_false]
  exact count0_l0 a b tt h36 36525 fr k h0 (by omega) hc (by omega)

theorem u64_rng (n : Int) : 0 ≤ IntKind.u64.wrap n ∧ IntKind.u64.wrap n < 18446744073709551616 := by
  simp [IntKind.wrap, IntKind.bits, IntKind.signed]; omega
theorem u64_id (n : Int) (h0 : 0 ≤ n) (h1 : n < 2 ^ 24) : IntKind.u64.wrap n = n := by
  simp [IntKind.wrap, IntKind.bits, IntKind.signed]; omega
theorem seed_byte (n : Int) : 0 ≤ Go.bits .and .u64 (IntKind.u64.wrap n / 1099511627776) 255 ∧ Go.bits .and .u64 (IntKind.u64.wrap n / 1099511627776) 255 < 256 := by
  have h := u64_rng n
  have e := bits_mask .u64 24 (by decide) u64_id 8 (by decide) (IntKind.u64.wrap n / 1099511627776) (by omega) (by omega)
  rw [show ((2 : Int) ^ 8 - 1) = 255 from rfl, show ((2 : Int) ^ 8) = 256 from rfl] at e
  rw [e]
  omega
theorem rd_u8 (l : List Int) (hl : ∀ x ∈ l, (Lit.int .u8 x).wf = true) (i : Int) (h0 : 0 ≤ i) (h : i < l.length) : 0 ≤ rd l i ∧ rd l i < 256 := by
  have hm : rd l i ∈ l := by
    unfold rd
    have : i.toNat < l.length := by omega
    rw [List.getD_eq_getElem?_getD, List.getElem?_eq_getElem this]
    simp
  have := hl _ hm
  simp [Lit.wf, IntKind.min, IntKind.max, IntKind.signed, IntKind.bits] at this
  omega
/-- A cursor's reading: where it stands stays small. -/
theorem next_ (l : List Int) (hl : ∀ x ∈ l, (Lit.int .u8 x).wf = true) (a s : Int) (h0 : 0 ≤ a) (h1 : a ≤ 4000000000000000000) :
    ∃ b s', spec_l1Cur_next.f l a s = some (b, a + 1, s') ∧ 0 ≤ b ∧ b < 256 := by
  unfold spec_l1Cur_next.f
  rw [w64 (x := a + 1) (by omega) (by omega)]
  by_cases h : a < (l.length : Int)
  · have hr := rd_u8 l hl a h0 h
    rw [if_pos h, if_pos h0, if_pos (by omega), w64 (x := rd l a) (by omega) (by omega)]
    exact ⟨_, _, rfl, hr.1, hr.2⟩
  · rw [if_neg h, if_neg (by omega)]
    have hb := seed_byte ((IntKind.u64.wrap ((IntKind.u64.wrap (s * 6364136223846793005)) + 0)) + 902902)
    rw [w64 (by omega) (by omega)]
    exact ⟨_, _, rfl, hb.1, hb.2⟩
theorem pick_ (l : List Int) (hl : ∀ x ∈ l, (Lit.int .u8 x).wf = true) (a s : Int) (h0 : 0 ≤ a) (h1 : a ≤ 3000000000000000000) (n : Int) (hn : n ≤ 1000000) :
    ∃ r a' s', spec_l1Cur_pick.f l a s n = some (r, a', s') ∧ 0 ≤ r ∧ (r < n ∨ r = 0) ∧ a ≤ a' ∧ a' ≤ a + 2 := by
  unfold spec_l1Cur_pick.f
  by_cases h : n ≤ 1
  · rw [if_pos h]; exact ⟨_, _, _, rfl, by omega, Or.inr rfl, by omega, by omega⟩
  · rw [if_neg h]
    obtain ⟨b, s1, e1, hb, hb'⟩ := next_ l hl a s h0 (by omega)
    rw [e1]
    simp only [Option.bind_some]
    by_cases hg : n > 200
    · rw [if_pos hg]
      obtain ⟨b2, s2, e2, hc, hc'⟩ := next_ l hl (a + 1) s1 (by omega) (by omega)
      rw [e2]
      simp only [Option.bind_some]
      rw [if_neg (by omega), w64 (x := b * 256) (by omega) (by omega), w64 (x := b * 256 + b2) (by omega) (by omega), tmd n (by omega)]
      have m1 := Int.emod_nonneg (b * 256 + b2) (show n ≠ 0 by omega)
      have m2 := Int.emod_lt_of_pos (b * 256 + b2) (show 0 < n by omega)
      exact ⟨_, _, _, rfl, m1, Or.inl m2, by omega, by omega⟩
    · rw [if_neg hg, if_neg (by omega), tmd n (by omega)]
      have m1 := Int.emod_nonneg b (show n ≠ 0 by omega)
      have m2 := Int.emod_lt_of_pos b (show 0 < n by omega)
      exact ⟨_, _, _, rfl, m1, Or.inl m2, by omega, by omega⟩
theorem among_ (l : List Int) (hl : ∀ x ∈ l, (Lit.int .u8 x).wf = true) (a s : Int) (h0 : 0 ≤ a) (h1 : a ≤ 3000000000000000000) (xs : List Int) (hx : xs ≠ []) (hn : xs.length ≤ 1000000) :
    ∃ r a' s', spec_l1Cur_among.f l a s xs = some (r, a', s') ∧ r ∈ xs ∧ a ≤ a' ∧ a' ≤ a + 2 := by
  unfold spec_l1Cur_among.f
  have hp : 0 < xs.length := List.length_pos_iff.2 hx
  obtain ⟨r, a', s', e, r0, r1, a0, a1⟩ := pick_ l hl a s h0 h1 (xs.length : Int) (by omega)
  rw [e]
  simp only [Option.bind_some]
  rw [if_pos r0, if_pos (by omega)]
  refine ⟨_, _, _, rfl, ?_, a0, a1⟩
  unfold rd
  have : r.toNat < xs.length := by omega
  rw [List.getD_eq_getElem?_getD, List.getElem?_eq_getElem this]
  simp

theorem day_ (l : List Int) (hl : ∀ x ∈ l, (Lit.int .u8 x).wf = true) (a s : Int) (h0 : 0 ≤ a) (h1 : a ≤ 2000000000000000000) :
    ∃ r a' s', spec_l1Cur_day.f l a s = some (r, a', s') ∧ 0 ≤ r ∧ r ≤ 36524 ∧ a ≤ a' ∧ a' ≤ a + 4 := by
  unfold spec_l1Cur_day.f
  obtain ⟨r, a1, s1, e, r0, r1, b0, b1⟩ := pick_ l hl a s h0 (by omega) 6 (by omega)
  rw [e]
  simp only [Option.bind_some]
  by_cases c0 : r = 0
  · rw [if_pos c0]
    obtain ⟨x, a2, s2, e2, hx, d0, d1⟩ := among_ l hl a1 s1 (by omega) (by omega) [0, 59, 60, 365, 366, 424, 425, 36524, 36523, 30, 31] (by simp) (by simp)
    rw [e2]
    simp only [Option.bind_some]
    simp only [List.mem_cons, List.mem_nil_iff, or_false] at hx
    exact ⟨x, a2, s2, rfl, by omega, by omega, by omega, by omega⟩
  · rw [if_neg c0]
    by_cases c1 : r = 1
    · rw [if_pos c1]
      obtain ⟨x, a2, s2, e2, x0, x1, d0, d1⟩ := pick_ l hl a1 s1 (by omega) (by omega) 36525 (by omega)
      rw [e2]
      exact ⟨x, a2, s2, rfl, by omega, by omega, by omega, by omega⟩
    · rw [if_neg c1]
      obtain ⟨x, a2, s2, e2, x0, x1, d0, d1⟩ := pick_ l hl a1 s1 (by omega) (by omega) 1500 (by omega)
      rw [e2]
      exact ⟨x, a2, s2, rfl, by omega, by omega, by omega, by omega⟩
theorem anyDay_ (l : List Int) (hl : ∀ x ∈ l, (Lit.int .u8 x).wf = true) (a s : Int) (h0 : 0 ≤ a) (h1 : a ≤ 1000000000000000000) :
    ∃ r a' s', spec_l1Cur_anyDay.f l a s = some (r, a', s') ∧ a ≤ a' ∧ a' ≤ a + 6 := by
  unfold spec_l1Cur_anyDay.f spec_l1Cur_one.f
  obtain ⟨r, a1, s1, e, r0, r1, b0, b1⟩ := pick_ l hl a s h0 (by omega) 16 (by omega)
  rw [e]
  simp only [Option.bind_some]
  by_cases c0 : (r == 0) = true
  · rw [if_pos c0]
    obtain ⟨x, a2, s2, e2, hx, d0, d1⟩ := among_ l hl a1 s1 (by omega) (by omega) [(-1), 36524, 36525, 1099511627776] (by simp) (by simp)
    rw [e2]
    exact ⟨x, a2, s2, rfl, by omega, by omega⟩
  · rw [if_neg c0]
    obtain ⟨x, a2, s2, e2, x0, x1, d0, d1⟩ := day_ l hl a1 s1 (by omega) (by omega)
    rw [e2]
    exact ⟨x, a2, s2, rfl, by omega, by omega⟩

theorem near4_ (l : List Int) (hl : ∀ x ∈ l, (Lit.int .u8 x).wf = true) (a s : Int) (h0 : 0 ≤ a) (h1 : a ≤ 1000000000000000000) (k : Nat) (hk : 200 ≤ k) :
    ∃ r a' s', spec_l1Cur_near4.f k l a s = some (r, a', s') ∧ a ≤ a' ∧ a' ≤ a + 10 := by
  unfold spec_l1Cur_near4.f spec_l1Cur_one.f
  obtain ⟨x, a1, s1, e1, x0, x1, b0, b1⟩ := day_ l hl a s h0 (by omega)
  rw [e1]
  simp only [Option.bind_some]
  obtain ⟨r, a2, s2, e2, r0, r1, c0, c1⟩ := pick_ l hl a1 s1 (by omega) (by omega) 3 (by omega)
  rw [e2]
  simp only [Option.bind_some]
  by_cases hc : (r == 0) = true
  · rw [if_pos hc]
    obtain ⟨y, m, d, hD, hs⟩ := l3Date_ x x0 x1
    rw [hs k (by omega)]
    simp only [Option.bind_some]
    obtain ⟨hy, hy', hm, hm', _⟩ := hD
    rw [l3Length_ y m (by omega) k (by omega)]
    simp only [Option.bind_some]
    obtain ⟨p, a3, s3, e3, p0, p1, f0, f1⟩ := pick_ l hl a2 s2 (by omega) (by omega) 3 (by omega)
    rw [e3]
    simp only [Option.bind_some]
    have hd := dim_pos y m
    rw [w64 (x := dim y m - p) (by omega) (by omega), l3Day_ y m (dim y m - p) (by omega) (by omega) (by omega) (by omega) (by omega) (by omega) k (by omega)]
    exact ⟨_, _, _, rfl, by omega, by omega⟩
  · rw [if_neg hc]
    exact ⟨_, _, _, rfl, by omega, by omega⟩
theorem cal_l1 (l : List Int) (hl : ∀ x ∈ l, (Lit.int .u8 x).wf = true) (w : List Int) (n : Nat) : ∀ (k : Nat) (day m a s : Int) (h : List Int), m ≤ n → n < k → 0 ≤ a → a + 2 * n ≤ 2000000000000000000 → h.length + n ≤ 1000 → -1000 ≤ m →
    ∃ h' a' s', spec_l1Cur_calendar.l1 k day m l a s w h = some (w, h', a', s') ∧ h'.length ≤ h.length + n ∧ a ≤ a' ∧ a' ≤ a + 2 * n := by
  induction n with
  | zero =>
    intro k day m a s h hm hk h0 h1 h2 h3
    obtain ⟨k, rfl⟩ : ∃ j, k = j + 1 := ⟨k - 1, by omega⟩
    simp only [spec_l1Cur_calendar.l1]
    rw [if_neg (by omega)]
    exact ⟨_, _, _, rfl, by omega, by omega, by omega⟩
  | succ n ih =>
    intro k day m a s h hm hk h0 h1 h2 h3
    obtain ⟨k, rfl⟩ : ∃ j, k = j + 1 := ⟨k - 1, by omega⟩
    simp only [spec_l1Cur_calendar.l1]
    by_cases c : m > 0
    · rw [if_pos c]
      by_cases c2 : day ≤ 36524
      · rw [if_pos c2, if_pos (by omega)]
        obtain ⟨p, a3, s3, e3, p0, p1, f0, f1⟩ := pick_ l hl a s (by omega) (by omega) 4 (by omega)
        rw [e3]
        simp only [Option.bind_some]
        rw [w64 (x := m - 1) (by omega) (by omega)]
        obtain ⟨h', a', s', e, q0, q1, q2⟩ := ih k (wrap64 ((wrap64 (day + 1)) + p)) (m - 1) a3 s3 (h ++ [day]) (by omega) (by omega) (by omega) (by omega) (by simp; omega) (by omega)
        rw [e]
        simp only [List.length_append, List.length_cons, List.length_nil] at q0
        exact ⟨_, _, _, rfl, by omega, by omega, by omega⟩
      · rw [if_neg c2]
        exact ⟨_, _, _, rfl, by omega, by omega, by omega⟩
    · rw [if_neg c]
      exact ⟨_, _, _, rfl, by omega, by omega, by omega⟩
theorem cal_j1 (l : List Int) (hl : ∀ x ∈ l, (Lit.int .u8 x).wf = true) (w : List Int) (k : Nat) (near a s : Int) (hk : 10 ≤ k) (h0 : 0 ≤ a) (h1 : a ≤ 1000000000000000000) :
    ∃ h' a' s', spec_l1Cur_calendar.j1 k near l a s w = some (w, h', a', s') ∧ h'.length ≤ 10 ∧ a ≤ a' ∧ a' ≤ a + 30 := by
  obtain ⟨k, rfl⟩ : ∃ j, k = j + 1 := ⟨k - 1, by omega⟩
  simp only [spec_l1Cur_calendar.j1]
  have hm : ∃ t, spec_l1Most.f (wrap64 (near - 8)) 0 = some t := by unfold spec_l1Most.f; split <;> exact ⟨_, rfl⟩
  obtain ⟨t, ht⟩ := hm
  rw [ht]
  simp only [Option.bind_some]
  obtain ⟨p, a3, s3, e3, p0, p1, f0, f1⟩ := pick_ l hl a s (by omega) (by omega) 7 (by omega)
  rw [e3]
  simp only [Option.bind_some]
  obtain ⟨h', a', s', e, q0, q1, q2⟩ := cal_l1 l hl w 7 k t p a3 s3 [] (by omega) (by omega) (by omega) (by omega) (by simp) (by omega)
  rw [e]
  simp only [List.length_nil] at q0
  exact ⟨_, _, _, rfl, by omega, by omega, by omega⟩
theorem cal_l0 (l : List Int) (hl : ∀ x ∈ l, (Lit.int .u8 x).wf = true) (near : Int) (n : Nat) : ∀ (k : Nat) (i a s : Int) (w : List Int), 6 - i ≤ n → 0 ≤ i → i ≤ 6 → n + 20 ≤ k → 0 ≤ a → a + 2 * n ≤ 1000000000000000000 → w.length + n ≤ 1000 →
    ∃ w' h' a' s', spec_l1Cur_calendar.l0 k near i l a s w = some (w', h', a', s') ∧ w'.length ≤ w.length + n ∧ h'.length ≤ 10 ∧ a ≤ a' ∧ a' ≤ a + 2 * n + 30 := by
  induction n with
  | zero =>
    intro k i a s w hi i0 i6 hk h0 h1 h2
    obtain ⟨k, rfl⟩ : ∃ j, k = j + 1 := ⟨k - 1, by omega⟩
    simp only [spec_l1Cur_calendar.l0]
    rw [if_neg (by omega)]
    obtain ⟨h', a', s', e, q0, q1, q2⟩ := cal_j1 l hl w k near a s (by omega) (by omega) (by omega)
    exact ⟨_, _, _, _, e, by omega, by omega, by omega, by omega⟩
  | succ n ih =>
    intro k i a s w hi i0 i6 hk h0 h1 h2
    obtain ⟨k, rfl⟩ : ∃ j, k = j + 1 := ⟨k - 1, by omega⟩
    simp only [spec_l1Cur_calendar.l0]
    by_cases c : i < 6
    · rw [if_pos c]
      unfold spec_l1Cur_one.f
      obtain ⟨p, a3, s3, e3, p0, p1, f0, f1⟩ := pick_ l hl a s (by omega) (by omega) 3 (by omega)
      rw [e3]
      simp only [Option.bind_some]
      rw [w64 (x := i + 1) (by omega) (by omega)]
      by_cases c2 : (p == 0) = true
      · rw [if_pos c2, if_pos (by omega)]
        obtain ⟨w', h', a', s', e, q0, q1, q2, q3⟩ := ih k (i + 1) a3 s3 (w ++ [i]) (by omega) (by omega) (by omega) (by omega) (by omega) (by omega) (by simp; omega)
        rw [e]
        simp only [List.length_append, List.length_cons, List.length_nil] at q0
        exact ⟨_, _, _, _, rfl, by omega, by omega, by omega, by omega⟩
      · rw [if_neg c2]
        obtain ⟨w', h', a', s', e, q0, q1, q2, q3⟩ := ih k (i + 1) a3 s3 w (by omega) (by omega) (by omega) (by omega) (by omega) (by omega) (by omega)
        rw [e]
        exact ⟨_, _, _, _, rfl, by omega, by omega, by omega, by omega⟩
    · rw [if_neg c]
      obtain ⟨h', a', s', e, q0, q1, q2⟩ := cal_j1 l hl w k near a s (by omega) (by omega) (by omega)
      exact ⟨_, _, _, _, e, by omega, by omega, by omega, by omega⟩
theorem calendar_ (l : List Int) (hl : ∀ x ∈ l, (Lit.int .u8 x).wf = true) (near a s : Int) (h0 : 0 ≤ a) (h1 : a ≤ 100000000000000000) (k : Nat) (hk : 200 ≤ k) :
    ∃ w h a' s', spec_l1Cur_calendar.f k l a s near = some (w, h, a', s') ∧ w.length ≤ 10 ∧ h.length ≤ 10 ∧ a ≤ a' ∧ a' ≤ a + 50 := by
  unfold spec_l1Cur_calendar.f
  obtain ⟨p, a3, s3, e3, p0, p1, f0, f1⟩ := pick_ l hl a s (by omega) (by omega) 6 (by omega)
  rw [e3]
  simp only [Option.bind_some]
  by_cases c0 : p = 0
  · rw [if_pos c0]
    obtain ⟨h', a', s', e, q0, q1, q2⟩ := cal_j1 l hl [4, 5] k near a3 s3 (by omega) (by omega) (by omega)
    exact ⟨_, _, _, _, e, by simp, by omega, by omega, by omega⟩
  · rw [if_neg c0]
    by_cases c1 : p = 1
    · rw [if_pos c1]
      obtain ⟨w', h', a', s', e, q0, q1, q2, q3⟩ := cal_l0 l hl near 6 k 0 a3 s3 [] (by omega) (by omega) (by omega) (by omega) (by omega) (by omega) (by simp)
      simp only [List.length_nil] at q0
      exact ⟨_, _, _, _, e, by omega, by omega, by omega, by omega⟩
    · rw [if_neg c1]
      obtain ⟨h', a', s', e, q0, q1, q2⟩ := cal_j1 l hl [5, 6] k near a3 s3 (by omega) (by omega) (by omega)
      exact ⟨_, _, _, _, e, by simp, by omega, by omega, by omega⟩
theorem any_l0 (l : List Int) (hl : ∀ x ∈ l, (Lit.int .u8 x).wf = true) (near : Int) (w : List Int) (n : Nat) : ∀ (k : Nat) (i a s : Int) (h : List Int), 42 - i ≤ n → 0 ≤ i → i ≤ 42 → n + 2 ≤ k → 0 ≤ a → a + 2 * n ≤ 1000000000000000000 → h.length + n ≤ 1000 →
    ∃ h' a' s', spec_l1Cur_anyCalendar.l0 k near i l a s w h = some (w, h', a', s') ∧ h'.length ≤ h.length + n ∧ a ≤ a' ∧ a' ≤ a + 2 * n + 2 := by
  induction n with
  | zero =>
    intro k i a s h hi i0 i6 hk h0 h1 h2
    obtain ⟨k, rfl⟩ : ∃ j, k = j + 1 := ⟨k - 1, by omega⟩
    simp only [spec_l1Cur_anyCalendar.l0]
    obtain ⟨p, a3, s3, e3, p0, p1, f0, f1⟩ := pick_ l hl a s (by omega) (by omega) 2 (by omega)
    rw [e3]
    simp only [Option.bind_some]
    rw [w64 (x := 40 + p) (by omega) (by omega), if_neg (by omega)]
    exact ⟨_, _, _, rfl, by omega, by omega, by omega⟩
  | succ n ih =>
    intro k i a s h hi i0 i6 hk h0 h1 h2
    obtain ⟨k, rfl⟩ : ∃ j, k = j + 1 := ⟨k - 1, by omega⟩
    simp only [spec_l1Cur_anyCalendar.l0]
    obtain ⟨p, a3, s3, e3, p0, p1, f0, f1⟩ := pick_ l hl a s (by omega) (by omega) 2 (by omega)
    rw [e3]
    simp only [Option.bind_some]
    rw [w64 (x := 40 + p) (by omega) (by omega)]
    by_cases c : i < 40 + p
    · rw [if_pos c]
      have hm : ∃ t, spec_l1Most.f (wrap64 (near - 20)) 0 = some t := by unfold spec_l1Most.f; split <;> exact ⟨_, rfl⟩
      obtain ⟨t, ht⟩ := hm
      have hm2 : ∃ u, spec_l1Least.f t 36464 = some u := by unfold spec_l1Least.f; split <;> exact ⟨_, rfl⟩
      obtain ⟨u, hu⟩ := hm2
      rw [ht]
      simp only [Option.bind_some]
      rw [hu]
      simp only [Option.bind_some]
      rw [if_pos (by omega), w64 (x := i + 1) (by omega) (by omega)]
      obtain ⟨h', a', s', e, q0, q1, q2⟩ := ih k (i + 1) a3 s3 (h ++ [wrap64 (u + i)]) (by omega) (by omega) (by omega) (by omega) (by omega) (by omega) (by simp; omega)
      rw [e]
      simp only [List.length_append, List.length_cons, List.length_nil] at q0
      exact ⟨_, _, _, rfl, by omega, by omega, by omega⟩
    · rw [if_neg c]
      exact ⟨_, _, _, rfl, by omega, by omega, by omega⟩
theorem anyCalendar_ (l : List Int) (hl : ∀ x ∈ l, (Lit.int .u8 x).wf = true) (near a s : Int) (h0 : 0 ≤ a) (h1 : a ≤ 10000000000000000) (k : Nat) (hk : 200 ≤ k) :
    ∃ w h a' s', spec_l1Cur_anyCalendar.f k l a s near = some (w, h, a', s') ∧ w.length ≤ 100 ∧ h.length ≤ 100 ∧ a ≤ a' ∧ a' ≤ a + 200 := by
  unfold spec_l1Cur_anyCalendar.f
  obtain ⟨w, h, a1, s1, e1, w1, h1', b0, b1⟩ := calendar_ l hl near a s h0 (by omega) k hk
  rw [e1]
  simp only [Option.bind_some]
  obtain ⟨p, a3, s3, e3, p0, p1, f0, f1⟩ := pick_ l hl a1 s1 (by omega) (by omega) 30 (by omega)
  rw [e3]
  simp only [Option.bind_some]
  by_cases c0 : p = 0
  · rw [if_pos c0]
    obtain ⟨x, a4, s4, e4, hx, g0, g1⟩ := among_ l hl a3 s3 (by omega) (by omega) [6, 7, (-1)] (by simp) (by simp)
    rw [e4]
    simp only [Option.bind_some]
    rw [if_pos (by omega)]
    exact ⟨_, _, _, _, rfl, by simp; omega, by omega, by omega, by omega⟩
  rw [if_neg c0]
  by_cases c1 : p = 1
  · rw [if_pos c1]
    obtain ⟨x, a4, s4, e4, hx, g0, g1⟩ := among_ l hl a3 s3 (by omega) (by omega) [36524, 36525, 0] (by simp) (by simp)
    rw [e4]
    simp only [Option.bind_some]
    rw [if_pos (by omega)]
    exact ⟨_, _, _, _, rfl, by omega, by simp; omega, by omega, by omega⟩
  rw [if_neg c1]
  by_cases c2 : p = 2
  · rw [if_pos c2]
    exact ⟨_, _, _, _, rfl, by simp, by omega, by omega, by omega⟩
  rw [if_neg c2]
  by_cases c3 : p = 3
  · rw [if_pos c3]
    obtain ⟨h', a', s', e, q0, q1, q2⟩ := any_l0 l hl near w 42 k 0 a3 s3 [] (by omega) (by omega) (by omega) (by omega) (by omega) (by omega) (by simp)
    simp only [List.length_nil] at q0
    exact ⟨_, _, _, _, e, by omega, by omega, by omega, by omega⟩
  · rw [if_neg c3]
    exact ⟨_, _, _, _, rfl, by omega, by omega, by omega, by omega⟩
theorem drawRoll_ (l : List Int) (hl : ∀ x ∈ l, (Lit.int .u8 x).wf = true) (k : Nat) (hk : 200 ≤ k) : ∃ w h day c, spec_DrawRollDay.f k l = some (w, h, day, c) ∧ w.length ≤ 100 ∧ h.length ≤ 100 := by
  unfold spec_DrawRollDay.f spec_DrawIsBusinessDay.f spec_l1Cur_one.f
  obtain ⟨r, a1, s1, e1, b0, b1⟩ := near4_ l hl 0 0 (by omega) (by omega) k hk
  rw [e1]
  simp only [Option.bind_some]
  obtain ⟨w, h, a2, s2, e2, w1, h1, c0, c1⟩ := anyCalendar_ l hl r a1 s1 (by omega) (by omega) k hk
  rw [e2]
  simp only [Option.bind_some]
  obtain ⟨p, a3, s3, e3, p0, p1, f0, f1⟩ := pick_ l hl a2 s2 (by omega) (by omega) 20 (by omega)
  rw [e3]
  simp only [Option.bind_some]
  obtain ⟨z, a4, s4, e4, hz, g0, g1⟩ := among_ l hl 0 0 (by omega) (by omega) [1, 2, 3, 4, 1, 2, 3, 4, 0, 5] (by simp) (by simp)
  by_cases c : (p == 0) = true
  · rw [if_pos c]
    obtain ⟨x, a5, s5, e5, d0, d1⟩ := anyDay_ l hl a3 s3 (by omega) (by omega)
    rw [e5]
    simp only [Option.bind_some]
    rw [e4]
    exact ⟨_, _, _, _, rfl, by omega, by omega⟩
  · rw [if_neg c]
    simp only [Option.bind_some]
    rw [e4]
    exact ⟨_, _, _, _, rfl, by omega, by omega⟩
theorem roll_end (w h : List Int) (day tx : Int) (b : Bool) (t0 : 0 ≤ tx) (t1 : tx ≤ 36524) (d0 : 0 ≤ day) (d1 : day ≤ 36524) (hf : found w h day tx) (hg : ∀ k, 1048577 < k → impl_IsValidCalendar.f k w h = some true) :
    laws_FnRolling.j0 2000000 day tx true tx true b w h = some true := by
  simp only [laws_FnRolling.j0]
  cases b with
  | true => simp
  | false =>
    simp only [Bool.false_eq_true, if_false]
    rcases hf with hf | ⟨_, _, ho, hlo, hhi⟩
    · omega
    have eo : impl_IsBusinessDay.f 1999999 w h tx = some (true, true) := by
      unfold impl_IsBusinessDay.f
      rw [hg 1999999 (by omega)]
      simp only [Option.bind_some, if_true, isDay__]
      rw [if_pos (decide_eq_true ⟨t0, t1⟩), (ho 1999999 (by omega)).2]
      rfl
    rw [eo]
    simp only [Option.bind_some, if_true, laws_FnRolling.j1]
    by_cases c : (tx == day) = true
    · rw [if_pos c]
    · rw [if_neg c]
      have hne : tx ≠ day := fun e => c (by simp [e])
      by_cases c2 : day < tx
      · rw [if_pos c2, w64 (x := day - 1) (by omega) (by omega), w64 (x := day - 1 + 1) (by omega) (by omega), count0_ w h (day - 1 + 1) tx (by omega) (by omega) t1 1999998 (by omega) (hg _ (by omega)) (fun e h3 h4 => hlo e (by omega) h4)]
        simp
      · rw [if_neg c2, w64 (x := tx + 1) (by omega) (by omega), count0_ w h (tx + 1) day (by omega) (by omega) d1 1999998 (by omega) (hg _ (by omega)) (fun e h3 h4 => hhi e (by omega) (by omega))]
        simp
theorem FnRolling (l0 : List Int) (h0 : l0.length ≤ maxLen) (hl : ∀ x ∈ l0, (Lit.int .u8 x).wf = true) : ∃ k, laws_FnRolling.f k l0 = some true := by
  refine ⟨2000000, ?_⟩
  unfold laws_FnRolling.f laws_vBig.f
  simp only [Option.bind_some]
  by_cases hb : decide ((l0.length : Int) > 65536) = true
  · rw [if_pos hb]
  rw [if_neg hb]
  obtain ⟨w, h, day, c, e, hw, hh⟩ := drawRoll_ l0 hl 2000000 (by omega)
  rw [e]
  simp only [Option.bind_some]
  obtain ⟨⟨tx, ok⟩, e1, e2, hr⟩ := both_RollR w h (by omega) (by omega) day c
  rw [e1, e2]
  simp only [Option.bind_some, if_true]
  rcases hr with hr | ⟨hr, t0, t1, d0, d1, hf, hg⟩
  · simp only at hr
    subst hr
    simp [laws_FnRolling.j0]
  · simp only at hr t0 t1 hf
    subst hr
    simp only [bne_self_eq_false, Bool.false_eq_true, if_false, Bool.not_true]
    exact roll_end w h day tx false t0 t1 d0 d1 hf hg

end Go.Proofs.Ytaallhcmhennkaa.Pure
