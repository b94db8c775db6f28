/- The program's ParseDate and the reference's return the same for every text; no condition. -/
import Derived.Test.YtoijhfngihjhiaaDoorQFnExactParseDatex4
namespace Go.Proofs.YtoijhfngihjhiaaDoor.Pure
open Go.RowKit Go.Proofs.YtoijhfngihjhiaaDoor.QFnExactParseDate Go.Proofs.YtoijhfngihjhiaaDoorW.PrintWords Go.Proofs.YtoijhfngihjhiaaDoorW.PrintLast Go.Proofs.YtoijhfngihjhiaaDoorW.PrintMore
set_option linter.unusedVariables false
set_option linter.unusedSimpArgs false

theorem w64 {x : Int} (h : -9223372036854775808 ≤ x) (h' : x ≤ 9223372036854775807) : wrap64 x = x := by unfold wrap64; omega
theorem tdv {x : Int} (n : Int) (h : 0 ≤ x) : Int.tdiv x n = x / n := Int.tdiv_eq_ediv_of_nonneg h
theorem tmd {x : Int} (n : Int) (h : 0 ≤ x) : Int.tmod x n = x % n := Int.tmod_eq_emod_of_nonneg h
theorem wfb {a : Int} (h : (Lit.int .i64 a).wf = true) : -9223372036854775808 ≤ a ∧ a ≤ 9223372036854775807 := by
  simp [Lit.wf, IntKind.min, IntKind.max, IntKind.signed, IntKind.bits] at h
  omega
theorem within_ {x a b : Int} : (if x ≥ a then some (decide (x ≤ b)) else some false) = some (decide (a ≤ x ∧ x ≤ b)) := by
  by_cases h : x ≥ a
  · rw [if_pos h]; congr 1; simp; omega
  · rw [if_neg h]; congr 1; simp; omega

def dim (y m : Int) : Int := if m = 2 then (if y % 4 = 0 then 29 else 28) else if m = 4 ∨ m = 6 ∨ m = 9 ∨ m = 11 then 30 else 31
def cum (y m : Int) : Int := (if m ≤ 1 then 0 else if m = 2 then 31 else 
  (if m = 3 then 59 else if m = 4 then 90 else if m = 5 then 120 else if m = 6 then 151 else if m = 7 then 181 else if m = 8 then 212 else if m = 9 then 243 else if m = 10 then 273 else if m = 11 then 304 else if m = 12 then 334 else 365) + (if y % 4 = 0 then 1 else 0))
def dby (y : Int) : Int := 365 * (y - 2000) + (y - 2000 + 3) / 4
def dnum (y m d : Int) : Int := dby y + cum y m + d - 1
structure IsDate (y m d day : Int) : Prop where
  y0 : 2000 ≤ y
  y1 : y ≤ 2099
  m0 : 1 ≤ m
  m1 : m ≤ 12
  d0 : 1 ≤ d
  d1 : d ≤ dim y m
  eq : dnum y m d = day
theorem cum_succ (y m : Int) (h1 : 1 ≤ m) (h2 : m ≤ 12) : cum y (m + 1) = cum y m + dim y m := by
  unfold cum dim
  have : m = 1 ∨ m = 2 ∨ m = 3 ∨ m = 4 ∨ m = 5 ∨ m = 6 ∨ m = 7 ∨ m = 8 ∨ m = 9 ∨ m = 10 ∨ m = 11 ∨ m = 12 := by omega
  rcases this with h | h | h | h | h | h | h | h | h | h | h | h <;> subst h <;> simp <;> (try split) <;> rfl
theorem dby_succ (y : Int) : dby (y + 1) = dby y + 337 + dim y 2 := by
  unfold dby dim; simp; split <;> omega
theorem cum_1 (y : Int) : cum y 1 = 0 := by unfold cum; simp
theorem cum_13 (y : Int) : cum y 13 = 337 + dim y 2 := by
  unfold cum dim; simp; split <;> rfl
theorem dim_pos (y m : Int) : 28 ≤ dim y m ∧ dim y m ≤ 31 := by unfold dim; repeat' split <;> omega
theorem cum_mono (y m : Int) (n : Nat) (h1 : 1 ≤ m) (h2 : m + n ≤ 13) : cum y m + 28 * n ≤ cum y (m + n) := by
  induction n with
  | zero => simp
  | succ n ih =>
    have a := ih (by omega)
    have b := cum_succ y (m + n) (by omega) (by omega)
    have c := dim_pos y (m + n)
    have e : m + ((n + 1 : Nat) : Int) = m + n + 1 := by omega
    rw [e, b]; omega
theorem cum_le (y m m' : Int) (h1 : 1 ≤ m) (h2 : m ≤ m') (h3 : m' ≤ 13) : cum y m ≤ cum y m' := by
  have := cum_mono y m (m' - m).toNat h1 (by omega)
  rw [show m + ((m' - m).toNat : Int) = m' by omega] at this
  omega
theorem cum_bd (y m : Int) (h1 : 1 ≤ m) (h3 : m ≤ 13) : 0 ≤ cum y m ∧ cum y m ≤ 366 := by
  have a := cum_le y 1 m (by omega) h1 h3
  have b := cum_le y m 13 h1 h3 (by omega)
  have c := dim_pos y 2
  rw [cum_1] at a; rw [cum_13] at b
  unfold dim at b; simp at b
  have : (if y % 4 = 0 then (29:Int) else 28) ≤ 29 := by split <;> omega
  omega
theorem dby_le (y y' : Int) (h : y ≤ y') : dby y ≤ dby y' := by unfold dby; omega
theorem dby_bd (y : Int) (h : 2000 ≤ y) (h' : y ≤ 2100) : 0 ≤ dby y ∧ dby y ≤ 36525 := by unfold dby; omega
theorem dby_2000 : dby 2000 = 0 := by decide
theorem dby_2100 : dby 2100 = 36525 := by decide
theorem IsDate.lo {y m d day : Int} (h : IsDate y m d day) : dby y + cum y m ≤ day := by
  have := h.eq; have := h.d0; unfold dnum at *; omega
theorem IsDate.hi {y m d day : Int} (h : IsDate y m d day) : day < dby y + cum y (m + 1) := by
  have a := h.eq; have b := h.d1; have c := cum_succ y m h.m0 h.m1; unfold dnum at *; omega
theorem IsDate.year_hi {y m d day : Int} (h : IsDate y m d day) : day < dby (y + 1) := by
  have a := h.hi
  have b := cum_le y (m + 1) 13 (by have := h.m0; omega) (by have := h.m1; omega) (by omega)
  have c := dby_succ y; rw [cum_13] at b; omega
theorem IsDate.year_lo {y m d day : Int} (h : IsDate y m d day) : dby y ≤ day := by
  have a := h.lo
  have b := cum_bd y m h.m0 (by have := h.m1; omega); omega
theorem IsDate.range {y m d day : Int} (h : IsDate y m d day) : 0 ≤ day ∧ day ≤ 36524 := by
  have a := h.year_lo; have b := h.year_hi
  have c := dby_bd y h.y0 (by have := h.y1; omega)
  have e := dby_le (y + 1) 2100 (by have := h.y1; omega)
  rw [dby_2100] at e; omega
theorem IsDate.d31 {y m d day : Int} (h : IsDate y m d day) : d ≤ 31 := by
  have := h.d1; have := dim_pos y m; omega
theorem IsDate.uniq {y m d y' m' d' day : Int} (h : IsDate y m d day) (h' : IsDate y' m' d' day) : y = y' ∧ m = m' ∧ d = d' := by
  have hy : y = y' := by
    by_cases c : y < y'
    · have := h.year_hi; have := h'.year_lo; have := dby_le (y + 1) y' (by omega); omega
    · by_cases c' : y' < y
      · have := h'.year_hi; have := h.year_lo; have := dby_le (y' + 1) y (by omega); omega
      · omega
  subst hy
  have hm : m = m' := by
    by_cases c : m < m'
    · have := h.hi; have := h'.lo; have := cum_le y (m + 1) m' (by have := h.m0; omega) (by omega) (by have := h'.m1; omega); omega
    · by_cases c' : m' < m
      · have := h'.hi; have := h.lo; have := cum_le y (m' + 1) m (by have := h'.m0; omega) (by omega) (by have := h.m1; omega); omega
      · omega
  subst hm
  have a := h.eq; have b := h'.eq
  refine ⟨rfl, rfl, ?_⟩
  unfold dnum at a b; omega

theorem l1In_ (x a b : Int) : spec_l1In.f x a b = some (decide (a ≤ x ∧ x ≤ b)) := by unfold spec_l1In.f; exact within_
theorem l3Length_ (y m : Int) (hy : 0 ≤ y) (k : Nat) (hk : 1 ≤ k) : spec_l3Length.f k y m = some (dim y m) := by
  obtain ⟨k, rfl⟩ : ∃ j, k = j + 1 := ⟨k - 1, by omega⟩
  unfold spec_l3Length.f dim
  simp only [spec_l3Length.j0, tmd 4 hy]
  by_cases h2 : m = 2
  · subst h2; simp; split <;> rfl
  · by_cases h4 : m = 4
    · subst h4; simp
    · by_cases h6 : m = 6
      · subst h6; simp
      · by_cases h9 : m = 9
        · subst h9; simp
        · by_cases h11 : m = 11
          · subst h11; simp
          · simp [h2, h4, h6, h9, h11]
theorem l3Day_l0 (y m d : Int) (hy : 2000 ≤ y) (hy' : y ≤ 2100) (hm : 1 ≤ m) (hm' : m ≤ 13) (hd : -1000 ≤ d) (hd' : d ≤ 1000) (n : Nat) : ∀ (j : Int) (k : Nat), 1 ≤ j → j ≤ m → m - j = n → n + 2 ≤ k →
    spec_l3Day.l0 k (dby y + cum y j) j y m d = some (dnum y m d) := by
  have b := dby_bd y hy hy'
  induction n with
  | zero =>
    intro j k h1 h2 hn hk
    obtain ⟨k, rfl⟩ : ∃ i, k = i + 1 := ⟨k - 1, by omega⟩
    obtain rfl : j = m := by omega
    have c := cum_bd y j h1 hm'
    simp only [spec_l3Day.l0]
    rw [if_neg (by omega)]
    simp (disch := omega) only [w64]
    rfl
  | succ n ih =>
    intro j k h1 h2 hn hk
    obtain ⟨k, rfl⟩ : ∃ i, k = i + 1 := ⟨k - 1, by omega⟩
    have c := cum_bd y j h1 (by omega)
    have e := dim_pos y j
    have s := cum_succ y j h1 (by omega)
    simp only [spec_l3Day.l0]
    rw [if_pos (by omega), l3Length_ y j (by omega) k (by omega)]
    simp only [Option.bind_some]
    simp (disch := omega) only [w64]
    have := ih (j + 1) k (by omega) (by omega) (by omega) (by omega)
    rw [s] at this
    rw [← this]; congr 1 <;> omega
theorem l3Day_ (y m d : Int) (hy : 2000 ≤ y) (hy' : y ≤ 2100) (hm : 1 ≤ m) (hm' : m ≤ 13) (hd : -1000 ≤ d) (hd' : d ≤ 1000) (k : Nat) (hk : 14 ≤ k) : spec_l3Day.f k y m d = some (dnum y m d) := by
  unfold spec_l3Day.f
  simp (disch := omega) only [w64, tdv]
  have := l3Day_l0 y m d hy hy' hm hm' hd hd' (m - 1).toNat 1 k (by omega) (by omega) (by omega) (by omega)
  rw [cum_1] at this
  rw [← this]; unfold dby; congr 1 <;> omega

theorem withinI_ (x a b : Int) : impl_within.f x a b = some (decide (a ≤ x ∧ x ≤ b)) := by unfold impl_within.f; exact within_
theorem daysIn_ (y m : Int) (hy : 0 ≤ y) : impl_daysIn.f y m = some (dim y m) := by
  unfold impl_daysIn.f dim
  simp only [tmd 4 hy]
  by_cases h2 : m = 2
  · subst h2; simp; split <;> rfl
  · by_cases h4 : m = 4
    · subst h4; simp
    · by_cases h6 : m = 6
      · subst h6; simp
      · by_cases h9 : m = 9
        · subst h9; simp
        · by_cases h11 : m = 11
          · subst h11; simp
          · simp [h2, h4, h6, h9, h11]

theorem daysOf_ (y : Int) (hy : 0 ≤ y) : impl_daysOf.f y = some (337 + dim y 2) := by
  unfold impl_daysOf.f
  have := dim_pos y 2
  rw [daysIn_ y 2 hy]
  simp only [Option.bind_some]
  simp (disch := omega) only [w64]

theorem dayOf_l1 (y m d : Int) (hy : 2000 ≤ y) (hy' : y ≤ 2100) (hm : 1 ≤ m) (hm' : m ≤ 13) (hd : -1000 ≤ d) (hd' : d ≤ 1000) (n : Nat) : ∀ (j : Int) (k : Nat), 1 ≤ j → j ≤ m → m - j = n → n + 1 ≤ k →
    impl_dayOf.l1 k (dby y + cum y j + d - 1) j y m d = some (dnum y m d) := by
  have b := dby_bd y hy hy'
  induction n with
  | zero =>
    intro j k h1 h2 hn hk
    obtain ⟨k, rfl⟩ : ∃ i, k = i + 1 := ⟨k - 1, by omega⟩
    obtain rfl : j = m := by omega
    simp only [impl_dayOf.l1]
    rw [if_neg (by omega)]
    rfl
  | succ n ih =>
    intro j k h1 h2 hn hk
    obtain ⟨k, rfl⟩ : ∃ i, k = i + 1 := ⟨k - 1, by omega⟩
    have c := cum_bd y j h1 (by omega)
    have e := dim_pos y j
    have s := cum_succ y j h1 (by omega)
    simp only [impl_dayOf.l1]
    rw [if_pos (by omega), daysIn_ y j (by omega)]
    simp only [Option.bind_some]
    simp (disch := omega) only [w64]
    have := ih (j + 1) k (by omega) (by omega) (by omega) (by omega)
    rw [s] at this
    rw [← this]; congr 1 <;> omega
theorem dayOf_l0 (y m d : Int) (hy : 2000 ≤ y) (hy' : y ≤ 2100) (hm : 1 ≤ m) (hm' : m ≤ 13) (hd : -1000 ≤ d) (hd' : d ≤ 1000) (n : Nat) : ∀ (j : Int) (k : Nat), 2000 ≤ j → j ≤ y → y - j = n → n + 15 ≤ k →
    impl_dayOf.l0 k (dby j + d - 1) j y m d = some (dnum y m d) := by
  induction n with
  | zero =>
    intro j k h1 h2 hn hk
    obtain ⟨k, rfl⟩ : ∃ i, k = i + 1 := ⟨k - 1, by omega⟩
    obtain rfl : j = y := by omega
    simp only [impl_dayOf.l0]
    rw [if_neg (by omega)]
    have := dayOf_l1 j m d hy hy' hm hm' hd hd' (m - 1).toNat 1 k (by omega) (by omega) (by omega) (by omega)
    rw [cum_1] at this
    rw [← this]; congr 1 <;> omega
  | succ n ih =>
    intro j k h1 h2 hn hk
    obtain ⟨k, rfl⟩ : ∃ i, k = i + 1 := ⟨k - 1, by omega⟩
    have b := dby_bd j h1 (by omega)
    have e := dim_pos j 2
    have s := dby_succ j
    simp only [impl_dayOf.l0]
    rw [if_pos (by omega), daysOf_ j (by omega)]
    simp only [Option.bind_some]
    simp (disch := omega) only [w64]
    have := ih (j + 1) k (by omega) (by omega) (by omega) (by omega)
    rw [← this, s]; congr 1 <;> omega
theorem dayOf_ (y m d : Int) (hy : 2000 ≤ y) (hy' : y ≤ 2100) (hm : 1 ≤ m) (hm' : m ≤ 13) (hd : -1000 ≤ d) (hd' : d ≤ 1000) (k : Nat) (hk : 115 ≤ k) : impl_dayOf.f k y m d = some (dnum y m d) := by
  unfold impl_dayOf.f
  simp (disch := omega) only [w64]
  have := dayOf_l0 y m d hy hy' hm hm' hd hd' (y - 2000).toNat 2000 k (by omega) (by omega) (by omega) (by omega)
  rw [dby_2000] at this
  rw [← this]; congr 1 <;> omega

theorem dateOf_l1 (day y : Int) (hy : 2000 ≤ y) (hy' : y ≤ 2099) (h2 : day < dby (y + 1)) (n : Nat) : ∀ (m : Int) (k : Nat), 1 ≤ m → m ≤ 12 → 12 - m = n → n + 1 ≤ k → dby y + cum y m ≤ day →
    ∃ m' d, impl_dateOf.l1 k (day - (dby y + cum y m)) y m 0 = some (y, m', d) ∧ IsDate y m' d day := by
  have b := dby_bd y hy (by omega)
  have b2 := dby_bd (y + 1) (by omega) (by omega)
  induction n with
  | zero =>
    intro m k h1 h2' hn hk hlo
    obtain ⟨k, rfl⟩ : ∃ i, k = i + 1 := ⟨k - 1, by omega⟩
    obtain rfl : m = 12 := by omega
    have c := cum_bd y 12 (by omega) (by omega)
    have s := cum_succ y 12 (by omega) (by omega)
    have e := dby_succ y
    have c13 := cum_13 y
    have : cum y (12 + 1) = cum y 13 := rfl
    refine ⟨12, day - (dby y + cum y 12) + 1, ?_, ⟨hy, hy', by omega, by omega, by omega, by omega, by unfold dnum; omega⟩⟩
    simp only [impl_dateOf.l1]
    rw [daysIn_ y 12 (by omega)]
    simp only [Option.bind_some]
    rw [if_neg (by omega)]
    simp (disch := omega) only [w64]
  | succ n ih =>
    intro m k h1 h2' hn hk hlo
    obtain ⟨k, rfl⟩ : ∃ i, k = i + 1 := ⟨k - 1, by omega⟩
    have c := cum_bd y m (by omega) (by omega)
    have s := cum_succ y m (by omega) (by omega)
    have e := dim_pos y m
    by_cases hc : dby y + cum y (m + 1) ≤ day
    · obtain ⟨m', d, h, hD⟩ := ih (m + 1) k (by omega) (by omega) (by omega) (by omega) hc
      refine ⟨m', d, ?_, hD⟩
      simp only [impl_dateOf.l1]
      rw [daysIn_ y m (by omega)]
      simp only [Option.bind_some]
      rw [if_pos (by omega)]
      simp (disch := omega) only [w64]
      rw [← h, s]; congr 1 <;> omega
    · refine ⟨m, day - (dby y + cum y m) + 1, ?_, ⟨hy, hy', by omega, by omega, by omega, by omega, by unfold dnum; omega⟩⟩
      simp only [impl_dateOf.l1]
      rw [daysIn_ y m (by omega)]
      simp only [Option.bind_some]
      rw [if_neg (by omega)]
      simp (disch := omega) only [w64]
theorem dateOf_l0 (day : Int) (h2 : day ≤ 36524) (n : Nat) : ∀ (y : Int) (k : Nat), 2000 ≤ y → y ≤ 2099 → 2099 - y = n → n + 20 ≤ k → dby y ≤ day →
    ∃ y' m' d, impl_dateOf.l0 k (day - dby y) y 1 0 = some (y', m', d) ∧ IsDate y' m' d day := by
  induction n with
  | zero =>
    intro y k h1 h2' hn hk hlo
    obtain ⟨k, rfl⟩ : ∃ i, k = i + 1 := ⟨k - 1, by omega⟩
    obtain rfl : y = 2099 := by omega
    have e1 : (2099 : Int) + 1 = 2100 := rfl
    have s := dby_succ 2099
    rw [e1, dby_2100] at s
    obtain ⟨m', d, h, hD⟩ := dateOf_l1 day 2099 (by omega) (by omega) (by rw [e1, dby_2100]; omega) 11 1 k (by omega) (by omega) (by omega) (by omega) (by rw [cum_1]; omega)
    refine ⟨2099, m', d, ?_, hD⟩
    simp only [impl_dateOf.l0]
    rw [daysOf_ 2099 (by omega)]
    simp only [Option.bind_some]
    rw [if_neg (by omega)]
    rw [cum_1] at h
    rw [← h]; congr 1 <;> omega
  | succ n ih =>
    intro y k h1 h2' hn hk hlo
    obtain ⟨k, rfl⟩ : ∃ i, k = i + 1 := ⟨k - 1, by omega⟩
    have s := dby_succ y
    have b := dby_bd y h1 (by omega)
    have e := dim_pos y 2
    by_cases hc : dby (y + 1) ≤ day
    · obtain ⟨y', m', d, h, hD⟩ := ih (y + 1) k (by omega) (by omega) (by omega) (by omega) hc
      refine ⟨y', m', d, ?_, hD⟩
      simp only [impl_dateOf.l0]
      rw [daysOf_ y (by omega)]
      simp only [Option.bind_some]
      rw [if_pos (by omega)]
      simp (disch := omega) only [w64]
      rw [← h, s]; congr 1 <;> omega
    · obtain ⟨m', d, h, hD⟩ := dateOf_l1 day y (by omega) (by omega) (by omega) 11 1 k (by omega) (by omega) (by omega) (by omega) (by rw [cum_1]; omega)
      refine ⟨y, m', d, ?_, hD⟩
      simp only [impl_dateOf.l0]
      rw [daysOf_ y (by omega)]
      simp only [Option.bind_some]
      rw [if_neg (by omega)]
      rw [cum_1] at h
      rw [← h]; congr 1 <;> omega
theorem dateOf_ (day : Int) (h : 0 ≤ day) (h2 : day ≤ 36524) : ∃ y m d, IsDate y m d day ∧ ∀ k, 119 ≤ k → impl_dateOf.f k day = some (y, m, d) := by
  obtain ⟨y, m, d, h1, hD⟩ := dateOf_l0 day h2 99 2000 119 (by omega) (by omega) (by omega) (by omega) (by rw [dby_2000]; exact h)
  rw [dby_2000] at h1
  refine ⟨y, m, d, hD, fun k hk => ?_⟩
  exact at_rounds (fun k => impl_dateOf.mono day k) hk (by unfold impl_dateOf.f; rw [← h1]; congr 1 <;> omega)

theorem digit_ (d : Nat) (h : d < 10) : (⟨#[48, 49, 50, 51, 52, 53, 54, 55, 56, 57]⟩ : ByteArray).extract d (d + 1) = ⟨#[UInt8.ofNat (48 + d)]⟩ := by
  match d, h with
  | 0, _ => rfl
  | 1, _ => rfl
  | 2, _ => rfl
  | 3, _ => rfl
  | 4, _ => rfl
  | 5, _ => rfl
  | 6, _ => rfl
  | 7, _ => rfl
  | 8, _ => rfl
  | 9, _ => rfl
theorem digits_len (k : Nat) : ∀ u : Nat, u < 10 ^ (k + 1) → (Lib.decDigits u).length ≤ k + 1 := by
  induction k with
  | zero => intro u hu; rw [Lib.decDigits]; split <;> simp_all
  | succ k ih =>
    intro u hu
    rw [Lib.decDigits]
    split
    · simp
    · have : u / 10 < 10 ^ (k + 1) := by rw [Nat.div_lt_iff_lt_mul (by omega)]; rw [Nat.pow_succ] at hu; omega
      have := ih _ this
      simp; omega
theorem app_mk (a b : Array UInt8) : (⟨a⟩ : ByteArray) ++ ⟨b⟩ = ⟨a ++ b⟩ := by apply ByteArray.ext; simp
theorem sz_mk (a : Array UInt8) : (⟨a⟩ : ByteArray).size = a.size := rfl
theorem itoa_ (n : Int) (h0 : -1000000000000000000 < n) (h1 : n < 1000000000000000000) : strconv_Itoa.f n = some ⟨(Lib.itoa n).toArray⟩ := by
  unfold strconv_Itoa.f Own.itoaF
  rw [if_pos (by omega)]

theorem toList_inj {a b : ByteArray} (h : a.toList = b.toList) : a = b := by
  rw [ByteArray.toList_eq, ByteArray.toList_eq] at h
  exact Go.WideShapes.bytes_inj h
theorem szD (s : ByteArray) : s.data.toList.length = s.size := by simp
theorem rdOf_nat (l : List ByteArray) (i : Nat) (h : i < l.length) : rdOf ByteArray.empty l (i : Int) = l[i] := by
  unfold rdOf; rw [Int.toNat_natCast, List.getD_eq_getElem?_getD, List.getElem?_eq_getElem h]; rfl

theorem index_one (b : UInt8) : ∀ s : List UInt8, Lib.index s [b] = if b ∈ s then (s.idxOf b : Int) else -1
  | [] => by simp [Lib.index]
  | x :: l => by
    have hl := index_one b l
    unfold Lib.index
    by_cases hx : b = x
    · subst hx; simp [List.isPrefixOf]
    · have hx' : ¬ x = b := fun e => hx e.symm
      have e1 : (([b] : List UInt8).isPrefixOf (x :: l)) = false := by simp [List.isPrefixOf, hx]
      rw [e1, hl]
      simp only [Bool.false_eq_true, if_false]
      by_cases hm : b ∈ l
      · have : ((List.idxOf b l : Int) == -1) = false := by rw [beq_eq_false_iff_ne]; omega
        simp only [hm, if_true, List.mem_cons, or_true, this, Bool.false_eq_true, if_false]
        have : List.idxOf b (x :: l) = List.idxOf b l + 1 := by have e : (x == b) = false := beq_eq_false_iff_ne.2 hx'; rw [List.idxOf_cons, e]; rfl
        rw [this]
        omega
      · simp only [hm, if_false, List.mem_cons, hx, or_self]
        rfl
theorem bt_list (s : ByteArray) (i : Nat) (h : i < s.size) : bt s (i : Int) = ((s.data.toList[i]'(by simpa using h)).toNat : Int) := by
  unfold bt
  rw [dif_pos (by simpa using h)]
  simp [ByteArray.getElem_eq_getElem_data]
theorem bt_35 (s : ByteArray) (i : Nat) (h : i < s.size) (b : UInt8) : bt s (i : Int) = (b.toNat : Int) ↔ s.data.toList[i]'(by simpa using h) = b := by
  rw [bt_list s i h]
  constructor
  · intro e; exact UInt8.toNat_inj.1 (by omega)
  · intro e; rw [e]

/-- A byte is a decimal digit. -/
def isDg (c : UInt8) : Prop := 48 ≤ c.toNat ∧ c.toNat ≤ 57
instance (c : UInt8) : Decidable (isDg c) := by unfold isDg; infer_instance
/-- The number that digits spell behind a number that stands already. -/
def dec (a : Nat) (l : List UInt8) : Nat := l.foldl (fun a c => 10 * a + (c.toNat - 48)) a
theorem dec_cons (a : Nat) (c : UInt8) (l : List UInt8) : dec a (c :: l) = dec (10 * a + (c.toNat - 48)) l := by simp only [dec, List.foldl_cons]
theorem dec_app (a : Nat) (l m : List UInt8) : dec a (l ++ m) = dec (dec a l) m := by unfold dec; rw [List.foldl_append]
theorem dig_nat (u : Nat) (h : u < 10) : (UInt8.ofNat (48 + u)).toNat = 48 + u := by rw [UInt8.toNat_ofNat']; omega
theorem dec_dig (u : Nat) : dec 0 (Lib.decDigits u) = u ∧ (∀ c ∈ Lib.decDigits u, isDg c) ∧ 1 ≤ (Lib.decDigits u).length := by
  induction u using Nat.strongRecOn with
  | _ u ih =>
    rw [Lib.decDigits]
    by_cases h : u < 10
    · rw [dif_pos h]
      refine ⟨?_, ?_, by simp⟩
      · show 10 * 0 + ((UInt8.ofNat (48 + u)).toNat - 48) = u
        rw [dig_nat u h]; omega
      · intro c hc
        obtain rfl := List.mem_singleton.1 hc
        unfold isDg
        rw [dig_nat u h]; omega
    · rw [dif_neg h]
      obtain ⟨e1, e2, e3⟩ := ih (u / 10) (by omega)
      have hd := dig_nat (u % 10) (by omega)
      refine ⟨?_, ?_, by simp⟩
      · rw [dec_app, e1]
        show 10 * (u / 10) + ((UInt8.ofNat (48 + u % 10)).toNat - 48) = u
        rw [hd]; omega
      · intro c hc
        rcases List.mem_append.1 hc with hc | hc
        · exact e2 c hc
        · obtain rfl := List.mem_singleton.1 hc
          unfold isDg
          rw [hd]; omega
theorem parse_dg (l : List UInt8) : ∀ a, (∀ c ∈ l, isDg c) → (a + 1) * 10 ^ l.length ≤ 1000000000000000000 → Lib.parseUint10 a l = .ok (dec a l) := by
  induction l with
  | nil => intro a _ _; rfl
  | cons c l ih =>
    intro a h h1
    have hc := h c (by simp)
    have hp : 1 ≤ 10 ^ l.length := Nat.one_le_pow _ _ (by decide)
    have h2 : (10 * a + 10) * 10 ^ l.length ≤ 1000000000000000000 := by
      rw [List.length_cons, Nat.pow_succ, ← Nat.mul_assoc, Nat.mul_right_comm] at h1
      rw [show 10 * a + 10 = (a + 1) * 10 by omega]; exact h1
    have h3 : 10 * a + 10 ≤ 1000000000000000000 := Nat.le_trans (Nat.le_mul_of_pos_right _ hp) h2
    unfold isDg at hc
    unfold Lib.parseUint10
    rw [if_pos hc, if_neg (by omega), if_neg (by omega), ih _ (fun c hc => h c (by simp [hc])) (Nat.le_trans (Nat.mul_le_mul_right _ (by omega)) h2), dec_cons, Nat.mul_comm a 10]
theorem dec_lt (l : List UInt8) : ∀ a, (∀ c ∈ l, isDg c) → dec a l + 1 ≤ (a + 1) * 10 ^ l.length := by
  induction l with
  | nil => intro a _; simp [dec]
  | cons c l ih =>
    intro a h
    have hc := h c (by simp)
    unfold isDg at hc
    rw [dec_cons, List.length_cons, Nat.pow_succ]
    refine Nat.le_trans (ih _ (fun c hc => h c (by simp [hc]))) ?_
    rw [Nat.mul_comm (10 ^ l.length) 10, ← Nat.mul_assoc]
    exact Nat.mul_le_mul_right _ (by omega)
/-- A text of digits, and one of a minus and digits, as strconv.Atoi reads them. -/
theorem atoi_dg (s : ByteArray) (hd : ∀ c ∈ s.data.toList, isDg c) (h1 : 1 ≤ s.data.toList.length) (h2 : s.data.toList.length ≤ 18) : Own.atoiF s = some (dec 0 s.data.toList : Int) := by
  unfold Own.atoiF Lib.atoiAll
  generalize s.data.toList = l at *
  cases l with
  | nil => simp at h1
  | cons c r =>
    have hc := hd c (by simp)
    unfold isDg at hc
    have hp : 10 ^ (c :: r).length ≤ 1000000000000000000 := Nat.le_trans (Nat.pow_le_pow_right (by decide) h2) (by decide)
    have hl := dec_lt (c :: r) 0 hd
    have e : Lib.parseMag (if c.toNat = 43 ∨ c.toNat = 45 then r else c :: r) = .ok (dec 0 (c :: r)) := by
      rw [if_neg (by omega)]
      unfold Lib.parseMag
      rw [if_neg (by simp), parse_dg _ 0 hd (by omega)]
    simp only [e]
    rw [if_neg (by omega), if_neg (by omega), if_neg (by omega)]
theorem atoi_neg (s : ByteArray) (l : List UInt8) (hs : s.data.toList = 45 :: l) (hd : ∀ c ∈ l, isDg c) (h1 : 1 ≤ l.length) (h2 : l.length ≤ 18) : Own.atoiF s = some (-(dec 0 l : Int)) := by
  unfold Own.atoiF Lib.atoiAll
  rw [hs]
  have hp : 10 ^ l.length ≤ 1000000000000000000 := Nat.le_trans (Nat.pow_le_pow_right (by decide) h2) (by decide)
  have hl := dec_lt l 0 hd
  have h45 : (45 : UInt8).toNat = 45 := rfl
  have e : Lib.parseMag (if (45 : UInt8).toNat = 43 ∨ (45 : UInt8).toNat = 45 then l else 45 :: l) = .ok (dec 0 l) := by
    rw [if_pos (by omega)]
    unfold Lib.parseMag
    rw [if_neg (by intro h; subst h; simp at h1), parse_dg _ 0 hd (by omega)]
  simp only [e]
  rw [if_neg (by omega), if_neg (by omega), if_pos h45]
/-- The numeral of a number is read as the number. -/
theorem atoi_itoa (s : ByteArray) (n : Int) (hs : s.data.toList = Lib.itoa n) (h0 : -1000000000000 < n) (h1 : n < 1000000000000) : Own.atoiF s = some n := by
  unfold Lib.itoa at hs
  by_cases hn : n < 0
  · rw [if_pos hn] at hs
    obtain ⟨e1, e2, e3⟩ := dec_dig n.natAbs
    have hl := digits_len 17 n.natAbs (by omega)
    rw [atoi_neg s _ hs e2 e3 hl, e1]
    congr 1; omega
  · rw [if_neg hn] at hs
    obtain ⟨e1, e2, e3⟩ := dec_dig n.toNat
    have hl := digits_len 17 n.toNat (by omega)
    rw [atoi_dg s (by rw [hs]; exact e2) (by rw [hs]; exact e3) (by rw [hs]; exact hl), hs, e1]
    congr 1; omega

theorem itoa_nat (u : Nat) : Lib.itoa (u : Int) = Lib.decDigits u := by unfold Lib.itoa; rw [if_neg (by omega)]; simp
theorem dig1 (u : Nat) (h : u < 10) : (Lib.decDigits u).length = 1 := by rw [Lib.decDigits, dif_pos h]; rfl
theorem digS (u n : Nat) (h : 10 ≤ u) (hn : (Lib.decDigits (u / 10)).length = n) : (Lib.decDigits u).length = n + 1 := by
  have e3 : Lib.decDigits u = Lib.decDigits (u / 10) ++ [UInt8.ofNat (48 + u % 10)] := by rw [Lib.decDigits, dif_neg (by omega)]
  rw [e3]; simp [hn]
theorem itoa_s (n : Int) : (⟨(Lib.itoa n).toArray⟩ : ByteArray).size = (Lib.itoa n).length := by simp [sz_mk]
theorem itoa_len (n : Int) (h0 : 0 ≤ n) (h1 : n < 1000000000000000000) : (⟨(Lib.itoa n).toArray⟩ : ByteArray).size ≤ 19 := by
  obtain ⟨u, rfl⟩ : ∃ u : Nat, n = u := ⟨n.toNat, by omega⟩
  rw [itoa_s, itoa_nat]
  exact digits_len 18 u (by omega)
theorem itoa_len' (n : Int) (h0 : -1000000000000000000 < n) (h1 : n < 1000000000000000000) : (⟨(Lib.itoa n).toArray⟩ : ByteArray).size ≤ 20 := by
  by_cases h : 0 ≤ n
  · have := itoa_len n h h1; omega
  · rw [itoa_s]
    unfold Lib.itoa
    rw [if_pos (by omega)]
    have := digits_len 18 n.natAbs (by omega)
    simp only [List.length_cons]; omega
theorem itoa_1 (n : Int) (h0 : 0 ≤ n) (h1 : n < 10) : (⟨(Lib.itoa n).toArray⟩ : ByteArray).size = 1 := by
  obtain ⟨u, rfl⟩ : ∃ u : Nat, n = u := ⟨n.toNat, by omega⟩
  rw [itoa_s, itoa_nat]
  exact dig1 u (by omega)
theorem itoa_2 (n : Int) (h0 : 10 ≤ n) (h1 : n < 100) : (⟨(Lib.itoa n).toArray⟩ : ByteArray).size = 2 := by
  obtain ⟨u, rfl⟩ : ∃ u : Nat, n = u := ⟨n.toNat, by omega⟩
  rw [itoa_s, itoa_nat]
  exact digS u 1 (by omega) (dig1 _ (by omega))
theorem itoa_4 (n : Int) (h0 : 1000 ≤ n) (h1 : n < 10000) : (⟨(Lib.itoa n).toArray⟩ : ByteArray).size = 4 := by
  obtain ⟨u, rfl⟩ : ∃ u : Nat, n = u := ⟨n.toNat, by omega⟩
  rw [itoa_s, itoa_nat]
  exact digS u 3 (by omega) (digS _ 2 (by omega) (digS _ 1 (by omega) (dig1 _ (by omega))))

theorem padded_1 (k : Nat) (n : Int) (h0 : 0 ≤ n) (h1 : n < 10) : impl_padded.f (k + 2) n 2 = some (⟨#[48]⟩ ++ ⟨(Lib.itoa n).toArray⟩) := by
  have hs := itoa_1 n h0 h1
  have hs2 : ((⟨#[48]⟩ : ByteArray) ++ ⟨(Lib.itoa n).toArray⟩).size = 2 := by rw [ByteArray.size_append, hs]; rfl
  unfold impl_padded.f
  rw [itoa_ n (by omega) (by omega), Option.bind_some]
  simp only [impl_padded.l0]
  rw [if_pos (by rw [hs]; decide), if_pos (by rw [hs]; decide), if_neg (by rw [hs2]; decide)]
theorem padded_2 (k : Nat) (n : Int) (h0 : 10 ≤ n) (h1 : n < 100) : impl_padded.f (k + 1) n 2 = some ⟨(Lib.itoa n).toArray⟩ := by
  have hs := itoa_2 n h0 h1
  unfold impl_padded.f
  rw [itoa_ n (by omega) (by omega), Option.bind_some]
  simp only [impl_padded.l0]
  rw [if_neg (by rw [hs]; decide)]
theorem padded_4 (k : Nat) (n : Int) (h0 : 1000 ≤ n) (h1 : n < 10000) : impl_padded.f (k + 1) n 4 = some ⟨(Lib.itoa n).toArray⟩ := by
  have hs := itoa_4 n h0 h1
  unfold impl_padded.f
  rw [itoa_ n (by omega) (by omega), Option.bind_some]
  simp only [impl_padded.l0]
  rw [if_neg (by rw [hs]; decide)]

theorem szC (a b : ByteArray) : (a ++ b).size = a.size + b.size := ByteArray.size_append
def two (d : Nat) : List UInt8 := [UInt8.ofNat (48 + d / 10), UInt8.ofNat (48 + d % 10)]
theorem two_small (d : Nat) (h : d < 10) : 48 :: Lib.decDigits d = two d := by
  rw [Lib.decDigits, dif_pos h]
  unfold two
  rw [Nat.div_eq_of_lt h, Nat.mod_eq_of_lt h]
  rfl
theorem two_big (d : Nat) (h : 10 ≤ d) (h2 : d < 100) : Lib.decDigits d = two d := by
  rw [Lib.decDigits, dif_neg (by omega), Lib.decDigits, dif_pos (by omega)]
  rfl
theorem two_dg (d : Nat) (h : d < 100) : ∀ c ∈ two d, isDg c := by
  intro c hc
  unfold two at hc
  rcases List.mem_cons.1 hc with rfl | hc
  · unfold isDg; rw [dig_nat _ (by omega)]; omega
  · obtain rfl := List.mem_singleton.1 hc
    unfold isDg; rw [dig_nat _ (by omega)]; omega
theorem two_dec (a d : Nat) (h : d < 100) : dec a (two d) = 100 * a + d := by
  unfold two
  rw [dec_cons, dec_cons, dig_nat _ (by omega), dig_nat _ (by omega)]
  show 10 * (10 * a + (48 + d / 10 - 48)) + (48 + d % 10 - 48) = _
  omega

theorem listEq (r a : ByteArray) : r.toList = a.toList ↔ r.data.toList = a.data.toList := by rw [ByteArray.toList_eq, ByteArray.toList_eq]
def V (y m d : Int) : Prop := 2000 ≤ y ∧ y ≤ 2099 ∧ 1 ≤ m ∧ m ≤ 12 ∧ 1 ≤ d ∧ d ≤ dim y m
instance (y m d : Int) : Decidable (V y m d) := by unfold V; infer_instance
theorem valid_ (y m d : Int) : (∀ k, 1 ≤ k → spec_l3Valid.f k y m d = some (decide (V y m d))) ∧ impl_IsValidDate.f y m d = some (decide (V y m d)) := by
  unfold spec_l3Valid.f impl_IsValidDate.f
  simp only [l1In_, withinI_, Option.bind_some]
  by_cases h1 : 2000 ≤ y ∧ y ≤ 2099
  case neg =>
    have hV : decide (V y m d) = false := decide_eq_false (fun h => h1 ⟨h.1, h.2.1⟩)
    rw [hV, decide_eq_false h1]
    exact ⟨fun k hk => by rw [if_neg Bool.false_ne_true], by rw [if_neg Bool.false_ne_true]⟩
  by_cases h2 : 1 ≤ m ∧ m ≤ 12
  case neg =>
    have hV : decide (V y m d) = false := decide_eq_false (fun h => h2 ⟨h.2.2.1, h.2.2.2.1⟩)
    rw [hV, decide_eq_true h1, decide_eq_false h2]
    exact ⟨fun k hk => by rw [if_pos rfl, if_neg Bool.false_ne_true], by rw [if_pos rfl, if_neg Bool.false_ne_true]⟩
  have hV : decide (1 ≤ d ∧ d ≤ dim y m) = decide (V y m d) := by
    rw [decide_eq_decide]
    exact ⟨fun h => ⟨h1.1, h1.2, h2.1, h2.2, h.1, h.2⟩, fun h => ⟨h.2.2.2.2.1, h.2.2.2.2.2⟩⟩
  rw [decide_eq_true h1, decide_eq_true h2]
  refine ⟨fun k hk => ?_, ?_⟩
  · rw [if_pos rfl, if_pos rfl, l3Length_ y m (by omega) k hk, Option.bind_some, hV]
  · rw [if_pos rfl, if_pos rfl, daysIn_ y m (by omega), Option.bind_some, hV]
theorem four_ (y : Nat) (h : 1000 ≤ y) (h2 : y < 10000) : Lib.decDigits y = two (y / 100) ++ two (y % 100) := by
  have e1 : Lib.decDigits y = Lib.decDigits (y / 10) ++ [UInt8.ofNat (48 + y % 10)] := by rw [Lib.decDigits, dif_neg (by omega)]
  have e2 : Lib.decDigits (y / 10) = Lib.decDigits (y / 10 / 10) ++ [UInt8.ofNat (48 + y / 10 % 10)] := by rw [Lib.decDigits, dif_neg (by omega)]
  rw [e1, e2, show y / 10 / 10 = y / 100 by omega, two_big _ (by omega) (by omega)]
  have e3 : two (y % 100) = [UInt8.ofNat (48 + y / 10 % 10), UInt8.ofNat (48 + y % 10)] := by
    unfold two
    rw [show y % 100 / 10 = y / 10 % 10 by omega, show y % 100 % 10 = y % 10 by omega]
  rw [e3, List.append_assoc]
  rfl
/-- A date's text. -/
def dtxt (y m d : Nat) : List UInt8 := (two (y / 100) ++ two (y % 100)) ++ 45 :: (two m ++ 45 :: two d)
theorem pad2 (n : Nat) (h : n < 100) (k : Nat) (hk : 3 ≤ k) : ∃ r, impl_padded.f k (n : Int) 2 = some r ∧ r.data.toList = two n ∧ r.size = 2 := by
  obtain ⟨k, rfl⟩ : ∃ m, k = m + 2 := ⟨k - 2, by omega⟩
  have key : ∃ r, impl_padded.f (k + 2) (n : Int) 2 = some r ∧ r.data.toList = two n := by
    by_cases hd : n < 10
    · refine ⟨_, padded_1 k (n : Int) (by omega) (by omega), ?_⟩
      rw [← two_small n hd, itoa_nat]
      simp [ByteArray.data_append]
    · refine ⟨_, padded_2 (k + 1) (n : Int) (by omega) (by omega), ?_⟩
      rw [← two_big n (by omega) h, itoa_nat]
  obtain ⟨r, h1, h2⟩ := key
  refine ⟨r, h1, h2, ?_⟩
  have : r.data.toList.length = r.size := by simp
  rw [← this, h2]; rfl
theorem text_ (y m d : Int) (hV : V y m d) (k : Nat) (hk : 200 ≤ k) : ∃ r, impl_dateText.f k (dnum y m d) = some r ∧ r.data.toList = dtxt y.toNat m.toNat d.toNat := by
  obtain ⟨h1, h2, h3, h4, h5, h6⟩ := hV
  have hI : IsDate y m d (dnum y m d) := ⟨h1, h2, h3, h4, h5, h6, rfl⟩
  have hr := hI.range
  have d31 := hI.d31
  obtain ⟨y', m', d', hI', hf⟩ := dateOf_ (dnum y m d) hr.1 hr.2
  obtain ⟨rfl, rfl, rfl⟩ := hI.uniq hI'
  obtain ⟨Y, rfl⟩ : ∃ Y : Nat, y = Y := ⟨y.toNat, by omega⟩
  obtain ⟨M, rfl⟩ : ∃ M : Nat, m = M := ⟨m.toNat, by omega⟩
  obtain ⟨D, rfl⟩ : ∃ D : Nat, d = D := ⟨d.toNat, by omega⟩
  obtain ⟨rm, m1, m2, m3⟩ := pad2 M (by omega) k (by omega)
  obtain ⟨rd, d1, d2, d3⟩ := pad2 D (by omega) k (by omega)
  have y1 : impl_padded.f k (Y : Int) 4 = some ⟨(Lib.itoa (Y : Int)).toArray⟩ := by
    obtain ⟨k, rfl⟩ : ∃ m, k = m + 1 := ⟨k - 1, by omega⟩
    exact padded_4 k (Y : Int) (by omega) (by omega)
  have y4 := itoa_4 (Y : Int) (by omega) (by omega)
  have s1 : (⟨#[45]⟩ : ByteArray).size = 1 := rfl
  refine ⟨⟨(Lib.itoa (Y : Int)).toArray⟩ ++ ⟨#[45]⟩ ++ rm ++ ⟨#[45]⟩ ++ rd, ?_, ?_⟩
  · unfold impl_dateText.f
    rw [hf k (by omega)]
    simp only [Option.bind_some, y1, m1, d1]
    rw [if_pos (by omega), if_pos (by simp only [szC]; omega), if_pos (by simp only [szC]; omega), if_pos (by simp only [szC]; omega)]
  · unfold dtxt
    simp only [Int.toNat_natCast]
    rw [← four_ Y (by omega) (by omega), ← m2, ← d2, itoa_nat]
    simp [ByteArray.data_append]
theorem dg_l0 (s : ByteArray) (hs : s.size ≤ 6) (d : Nat) : ∀ (i k x : Nat), i + d = s.size → d < k → x < 10 ^ i →
    spec_l3Digits.l0 k s (x : Int) (i : Int) = some (if ∀ c ∈ s.data.toList.drop i, isDg c then (dec x (s.data.toList.drop i) : Int) else -1) := by
  have hlen : s.data.toList.length = s.size := by simp
  induction d with
  | zero =>
    intro i k x hi hk hx
    obtain ⟨k, rfl⟩ : ∃ m, k = m + 1 := ⟨k - 1, by omega⟩
    simp only [spec_l3Digits.l0]
    rw [if_neg (by omega), List.drop_eq_nil_of_le (by omega), if_pos (show ∀ c ∈ ([] : List UInt8), isDg c by simp)]
    rfl
  | succ d ih =>
    intro i k x hi hk hx
    obtain ⟨k, rfl⟩ : ∃ m, k = m + 1 := ⟨k - 1, by omega⟩
    have hp : 10 ^ i ≤ 10 ^ 6 := Nat.pow_le_pow_right (by decide) (by omega)
    have hp6 : 10 ^ 6 = 1000000 := by decide
    have hlt : i < s.data.toList.length := by omega
    simp only [spec_l3Digits.l0]
    rw [if_pos (by omega), if_pos (by omega), bt_list s i (by omega), List.drop_eq_getElem_cons hlt]
    generalize hc : s.data.toList[i] = c
    by_cases h1 : c.toNat < 48
    · rw [if_pos (by omega), if_neg]
      intro h
      have := h c (by simp)
      unfold isDg at this
      omega
    · rw [if_neg (by omega)]
      by_cases h2 : c.toNat > 57
      · rw [if_pos (by omega), if_neg]
        intro h
        have := h c (by simp)
        unfold isDg at this
        omega
      · have hdg : isDg c := by unfold isDg; omega
        rw [if_neg (by omega), w64 (x := 10 * (x : Int)) (by omega) (by omega), show ((c.toNat : Int) - 48) % 256 = ((c.toNat - 48 : Nat) : Int) by omega,
          w64 (x := (i : Int) + 1) (by omega) (by omega), w64 (by omega) (by omega), show 10 * (x : Int) + ((c.toNat - 48 : Nat) : Int) = ((10 * x + (c.toNat - 48) : Nat) : Int) by omega, show (i : Int) + 1 = ((i + 1 : Nat) : Int) by omega]
        rw [ih (i + 1) k _ (by omega) (by omega) (by rw [Nat.pow_succ]; omega)]
        congr 1
        by_cases h3 : ∀ b ∈ s.data.toList.drop (i + 1), isDg b
        · rw [if_pos h3, if_pos (by intro b hb; rcases List.mem_cons.1 hb with rfl | hb; exact hdg; exact h3 b hb)]
          rfl
        · rw [if_neg h3, if_neg (fun h => h3 (fun b hb => h b (by simp [hb])))]
theorem dg_ (s : ByteArray) (l : List UInt8) (hl : s.data.toList = l) (h6 : l.length ≤ 6) (k : Nat) (hk : 7 ≤ k) : spec_l3Digits.f k s = some (if ∀ c ∈ l, isDg c then (dec 0 l : Int) else -1) := by
  have hlen : s.data.toList.length = s.size := by simp
  have := dg_l0 s (by rw [← hlen, hl]; exact h6) s.size 0 k 0 (by omega) (by rw [← hlen, hl]; omega) (by decide)
  rw [List.drop_zero, hl] at this
  exact this
theorem ext_ (s : ByteArray) (a b : Nat) : (s.extract a b).data.toList = (s.data.toList.drop a).take (b - a) := by simp [ByteArray.data_extract]
theorem list10 {l : List UInt8} (h : l.length = 10) : ∃ a b c d e f g i j k, l = [a, b, c, d, e, f, g, i, j, k] := by
  match l, h with
  | [a, b, c, d, e, f, g, i, j, k], _ => exact ⟨a, b, c, d, e, f, g, i, j, k, rfl⟩
theorem two_inv (a b : UInt8) (ha : isDg a) (hb : isDg b) : two (dec 0 [a, b]) = [a, b] ∧ dec 0 [a, b] < 100 := by
  unfold isDg at ha hb
  have e : dec 0 [a, b] = 10 * (a.toNat - 48) + (b.toNat - 48) := by
    rw [dec_cons, dec_cons]
    show 10 * (10 * 0 + (a.toNat - 48)) + (b.toNat - 48) = _
    omega
  rw [e]
  refine ⟨?_, by omega⟩
  unfold two
  have h1 : UInt8.ofNat (48 + (10 * (a.toNat - 48) + (b.toNat - 48)) / 10) = a := UInt8.toNat_inj.1 (by rw [dig_nat _ (by omega)]; omega)
  have h2 : UInt8.ofNat (48 + (10 * (a.toNat - 48) + (b.toNat - 48)) % 10) = b := UInt8.toNat_inj.1 (by rw [dig_nat _ (by omega)]; omega)
  rw [h1, h2]
theorem four_dec (a b c d : UInt8) : dec 0 [a, b, c, d] = 100 * dec 0 [a, b] + dec 0 [c, d] := by
  simp only [dec, List.foldl_cons, List.foldl_nil]
  omega
def goodD (s : ByteArray) (y m d : Int) : Prop := V y m d ∧ s.data.toList = dtxt y.toNat m.toNat d.toNat
theorem impl_no (s : ByteArray) (hsz : s.size ≤ 1048576) (k : Nat) (hk : 200 ≤ k) (h : ∀ y m d, ¬ goodD s y m d) : impl_ParseDate.f k s = some (0, false) := by
  unfold impl_ParseDate.f
  rw [if_pos hsz]
  by_cases h10 : (s.size : Int) = 10
  case neg => rw [if_neg h10]
  rw [if_pos h10]
  by_cases ha : (Own.atoiF (s.extract 0 4)).isSome = true ∧ (Own.atoiF (s.extract 5 7)).isSome = true ∧ (Own.atoiF (s.extract 8 s.size)).isSome = true
  case neg => rw [if_neg ha]
  rw [if_pos ha]
  generalize (Own.atoiF (s.extract 0 4)).getD 0 = y
  generalize (Own.atoiF (s.extract 5 7)).getD 0 = m
  generalize (Own.atoiF (s.extract 8 s.size)).getD 0 = d
  rw [(valid_ y m d).2, Option.bind_some]
  by_cases hV : V y m d
  case neg => rw [if_neg (by rw [decide_eq_true_eq]; exact hV)]
  rw [if_pos (decide_eq_true hV)]
  have hd31 : d ≤ 31 := by have := hV.2.2.2.2.2; have := dim_pos y m; omega
  obtain ⟨r, r1, r2⟩ := text_ y m d hV k hk
  have hV' := hV
  obtain ⟨h1, h2, h3, h4, h5, h6⟩ := hV'
  rw [dayOf_ y m d (by omega) (by omega) (by omega) (by omega) (by omega) (by omega) k (by omega), Option.bind_some, r1, Option.bind_some, if_neg (fun e => h y m d ⟨hV, ((listEq _ _).1 e).symm.trans r2⟩)]
theorem impl_yes (s : ByteArray) (y m d : Int) (h : goodD s y m d) (k : Nat) (hk : 200 ≤ k) : impl_ParseDate.f k s = some (dnum y m d, true) := by
  obtain ⟨hV, hs⟩ := h
  obtain ⟨r, r1, r2⟩ := text_ y m d hV k hk
  have hv2 := (valid_ y m d).2
  have hV' := hV
  obtain ⟨h1, h2, h3, h4, h5, h6⟩ := hV'
  have hd31 : d ≤ 31 := by have := dim_pos y m; omega
  have hlen : s.data.toList.length = s.size := by simp
  have hsz : s.size = 10 := by rw [← hlen, hs]; rfl
  have t1 := two_dg (y.toNat / 100) (by omega)
  have t2 := two_dg (y.toNat % 100) (by omega)
  have e1 : (s.extract 0 4).data.toList = two (y.toNat / 100) ++ two (y.toNat % 100) := by rw [ext_, hs]; rfl
  have e2 : (s.extract 5 7).data.toList = two m.toNat := by rw [ext_, hs]; rfl
  have e3 : (s.extract 8 s.size).data.toList = two d.toNat := by rw [ext_, hs, hsz]; rfl
  have a1 : Own.atoiF (s.extract 0 4) = some y := by
    rw [atoi_dg _ (by rw [e1]; intro c hc; rcases List.mem_append.1 hc with hc | hc; exact t1 c hc; exact t2 c hc) (by rw [e1]; exact (by decide : 1 ≤ 4)) (by rw [e1]; exact (by decide : 4 ≤ 18)), e1, dec_app, two_dec _ _ (by omega), two_dec _ _ (by omega)]
    congr 1; omega
  have a2 : Own.atoiF (s.extract 5 7) = some m := by
    rw [atoi_dg _ (by rw [e2]; exact two_dg _ (by omega)) (by rw [e2]; exact (by decide : 1 ≤ 2)) (by rw [e2]; exact (by decide : 2 ≤ 18)), e2, two_dec _ _ (by omega)]
    congr 1; omega
  have a3 : Own.atoiF (s.extract 8 s.size) = some d := by
    rw [atoi_dg _ (by rw [e3]; exact two_dg _ (by omega)) (by rw [e3]; exact (by decide : 1 ≤ 2)) (by rw [e3]; exact (by decide : 2 ≤ 18)), e3, two_dec _ _ (by omega)]
    congr 1; omega
  unfold impl_ParseDate.f
  rw [if_pos (by omega), if_pos (by omega), a1, a2, a3, if_pos ⟨rfl, rfl, rfl⟩]
  simp only [Option.getD_some]
  rw [hv2, Option.bind_some, if_pos (decide_eq_true hV), dayOf_ y m d (by omega) (by omega) (by omega) (by omega) (by omega) (by omega) k (by omega), Option.bind_some, r1, Option.bind_some, if_pos ((listEq _ _).2 (r2.trans hs.symm))]
theorem spec_j0 (s : ByteArray) (a b c d e f g i j l : UInt8) (hs : s.data.toList = [a, b, c, d, e, f, g, i, j, l]) (k : Nat) (hk : 50 ≤ k) :
    spec_ParseDate.j0 k s false = some (if V (if ∀ c_ ∈ [a, b, c, d], isDg c_ then (dec 0 [a, b, c, d] : Int) else -1) (if ∀ c_ ∈ [f, g], isDg c_ then (dec 0 [f, g] : Int) else -1) (if ∀ c_ ∈ [j, l], isDg c_ then (dec 0 [j, l] : Int) else -1) then (dnum (if ∀ c_ ∈ [a, b, c, d], isDg c_ then (dec 0 [a, b, c, d] : Int) else -1) (if ∀ c_ ∈ [f, g], isDg c_ then (dec 0 [f, g] : Int) else -1) (if ∀ c_ ∈ [j, l], isDg c_ then (dec 0 [j, l] : Int) else -1), true) else (0, false)) := by
  obtain ⟨k, rfl⟩ : ∃ m, k = m + 1 := ⟨k - 1, by omega⟩
  have hlen : s.data.toList.length = s.size := by simp
  have hsz : s.size = 10 := by rw [← hlen, hs]; rfl
  have e1 : (s.extract 0 4).data.toList = [a, b, c, d] := by rw [ext_, hs]; rfl
  have e2 : (s.extract 5 7).data.toList = [f, g] := by rw [ext_, hs]; rfl
  have e3 : (s.extract 8 s.size).data.toList = [j, l] := by rw [ext_, hs, hsz]; rfl
  simp only [spec_ParseDate.j0]
  rw [if_neg Bool.false_ne_true, if_pos (by decide), if_pos (by omega), dg_ _ _ e1 (by decide : 4 ≤ 6) k (by omega), Option.bind_some, if_pos (by decide), if_pos (by omega), dg_ _ _ e2 (by decide : 2 ≤ 6) k (by omega), Option.bind_some, if_pos (by omega), dg_ _ _ e3 (by decide : 2 ≤ 6) k (by omega), Option.bind_some]
  generalize (if ∀ c_ ∈ [a, b, c, d], isDg c_ then (dec 0 [a, b, c, d] : Int) else -1) = y
  generalize (if ∀ c_ ∈ [f, g], isDg c_ then (dec 0 [f, g] : Int) else -1) = m
  generalize (if ∀ c_ ∈ [j, l], isDg c_ then (dec 0 [j, l] : Int) else -1) = x
  rw [(valid_ y m x).1 k (by omega), Option.bind_some]
  by_cases hV : V y m x
  · rw [if_pos (decide_eq_true hV), if_pos hV]
    obtain ⟨h1, h2, h3, h4, h5, h6⟩ := hV
    have hd31 : x ≤ 31 := by have := dim_pos y m; omega
    rw [l3Day_ y m x (by omega) (by omega) (by omega) (by omega) (by omega) (by omega) k (by omega), Option.bind_some]
  · rw [if_neg (by rw [decide_eq_true_eq]; exact hV), if_neg hV]
theorem j0_off (s : ByteArray) (k : Nat) (hk : 1 ≤ k) : spec_ParseDate.j0 k s true = some (0, false) := by
  obtain ⟨k, rfl⟩ : ∃ m, k = m + 1 := ⟨k - 1, by omega⟩
  simp only [spec_ParseDate.j0]
  rw [if_pos trivial]
theorem spec_no (s : ByteArray) (k : Nat) (hk : 200 ≤ k) (h : ∀ y m d, ¬ goodD s y m d) : spec_ParseDate.f k s = some (0, false) := by
  unfold spec_ParseDate.f
  have hlen : s.data.toList.length = s.size := by simp
  by_cases h10 : (s.size : Int) = 10
  case neg => rw [if_neg h10]; exact j0_off s k (by omega)
  rw [if_pos h10, if_pos (by omega)]
  obtain ⟨a, b, c, d, e, f, g, i, j, l, hs⟩ := list10 (l := s.data.toList) (by omega)
  have b4 : bt s 4 = (e.toNat : Int) := by
    rw [show bt s 4 = _ from bt_list s 4 (by omega)]; simp only [hs]; rfl
  have b7 : bt s 7 = (i.toNat : Int) := by
    rw [show bt s 7 = _ from bt_list s 7 (by omega)]; simp only [hs]; rfl
  by_cases h4 : bt s 4 = 45
  case neg => rw [if_neg h4]; exact j0_off s k (by omega)
  rw [if_pos h4, if_pos (by omega)]
  by_cases h7 : bt s 7 = 45
  case neg => rw [bne_iff_ne.2 h7]; exact j0_off s k (by omega)
  rw [bne_eq_false_iff_eq.2 h7, spec_j0 s a b c d e f g i j l hs k (by omega)]
  have he : e = 45 := UInt8.toNat_inj.1 (by show e.toNat = 45; omega)
  have hi : i = 45 := UInt8.toNat_inj.1 (by show i.toNat = 45; omega)
  subst he hi
  rw [if_neg]
  intro hV
  by_cases q1 : ∀ c_ ∈ [a, b, c, d], isDg c_
  case neg => rw [if_neg q1] at hV; have := hV.1; omega
  by_cases q2 : ∀ c_ ∈ [f, g], isDg c_
  case neg => rw [if_neg q2] at hV; have := hV.2.2.1; omega
  by_cases q3 : ∀ c_ ∈ [j, l], isDg c_
  case neg => rw [if_neg q3] at hV; have := hV.2.2.2.2.1; omega
  rw [if_pos q1, if_pos q2, if_pos q3] at hV
  refine h _ _ _ ⟨hV, ?_⟩
  rw [hs]
  obtain ⟨w1, w2⟩ := two_inv a b (q1 a (by simp)) (q1 b (by simp))
  obtain ⟨w3, w4⟩ := two_inv c d (q1 c (by simp)) (q1 d (by simp))
  have w5 := (two_inv f g (q2 f (by simp)) (q2 g (by simp))).1
  have w6 := (two_inv j l (q3 j (by simp)) (q3 l (by simp))).1
  have v1 : dec 0 [a, b, c, d] / 100 = dec 0 [a, b] := by rw [four_dec]; omega
  have v2 : dec 0 [a, b, c, d] % 100 = dec 0 [c, d] := by rw [four_dec]; omega
  unfold dtxt
  simp only [Int.toNat_natCast]
  rw [v1, v2, w1, w3, w5, w6]
  rfl
theorem spec_yes (s : ByteArray) (y m d : Int) (h : goodD s y m d) (k : Nat) (hk : 200 ≤ k) : spec_ParseDate.f k s = some (dnum y m d, true) := by
  obtain ⟨hV, hs⟩ := h
  have hV' := hV
  obtain ⟨h1, h2, h3, h4, h5, h6⟩ := hV'
  have hd31 : d ≤ 31 := by have := dim_pos y m; omega
  have hlen : s.data.toList.length = s.size := by simp
  have hsz : s.size = 10 := by rw [← hlen, hs]; rfl
  have b4 : bt s 4 = 45 := by
    rw [show bt s 4 = _ from bt_list s 4 (by omega)]; simp only [hs]; rfl
  have b7 : bt s 7 = 45 := by
    rw [show bt s 7 = _ from bt_list s 7 (by omega)]; simp only [hs]; rfl
  have t1 := two_dg (y.toNat / 100) (by omega)
  have t2 := two_dg (y.toNat % 100) (by omega)
  have t3 := two_dg m.toNat (by omega)
  have t4 := two_dg d.toNat (by omega)
  have d1 := two_dec (y.toNat / 100) (y.toNat % 100) (by omega)
  have d0 := two_dec 0 (y.toNat / 100) (by omega)
  have d3 := two_dec 0 m.toNat (by omega)
  have d4 := two_dec 0 d.toNat (by omega)
  have d5 : dec 0 (two (y.toNat / 100) ++ two (y.toNat % 100)) = y.toNat := by rw [dec_app, d0, show 100 * 0 + y.toNat / 100 = y.toNat / 100 by omega, d1]; omega
  unfold spec_ParseDate.f
  rw [if_pos (by omega), if_pos (by omega), if_pos b4, if_pos (by omega), bne_eq_false_iff_eq.2 b7]
  have key := spec_j0 s _ _ _ _ _ _ _ _ _ _ hs k (by omega)
  have q1 : ∀ c ∈ two (y.toNat / 100) ++ two (y.toNat % 100), isDg c := fun c hc => (List.mem_append.1 hc).elim (t1 c) (t2 c)
  have y1 : (if ∀ c ∈ two (y.toNat / 100) ++ two (y.toNat % 100), isDg c then (dec 0 (two (y.toNat / 100) ++ two (y.toNat % 100)) : Int) else -1) = y := by rw [if_pos q1, d5]; omega
  have m1 : (if ∀ c ∈ two m.toNat, isDg c then (dec 0 (two m.toNat) : Int) else -1) = m := by rw [if_pos t3, d3]; omega
  have x1 : (if ∀ c ∈ two d.toNat, isDg c then (dec 0 (two d.toNat) : Int) else -1) = d := by rw [if_pos t4, d4]; omega
  refine key.trans ?_
  refine congrArg some ?_
  show (if V (if ∀ c ∈ two (y.toNat / 100) ++ two (y.toNat % 100), isDg c then (dec 0 (two (y.toNat / 100) ++ two (y.toNat % 100)) : Int) else -1) (if ∀ c ∈ two m.toNat, isDg c then (dec 0 (two m.toNat) : Int) else -1) (if ∀ c ∈ two d.toNat, isDg c then (dec 0 (two d.toNat) : Int) else -1) then (dnum (if ∀ c ∈ two (y.toNat / 100) ++ two (y.toNat % 100), isDg c then (dec 0 (two (y.toNat / 100) ++ two (y.toNat % 100)) : Int) else -1) (if ∀ c ∈ two m.toNat, isDg c then (dec 0 (two m.toNat) : Int) else -1) (if ∀ c ∈ two d.toNat, isDg c then (dec 0 (two d.toNat) : Int) else -1), true) else ((0 : Int), false)) = _
  rw [y1, m1, x1, if_pos hV]
theorem FnExactParseDate (a : ByteArray) (h : a.size ≤ maxLen) : ∃ k, laws_FnExactParseDate.f k a = some true := by
  refine ⟨200, ?_⟩
  unfold laws_FnExactParseDate.f
  by_cases hs : (a.size : Int) > 1048576
  · rw [if_pos hs]
  rw [if_neg hs]
  by_cases hg : ∃ y m d, goodD a y m d
  · obtain ⟨y, m, d, hg⟩ := hg
    rw [spec_yes a y m d hg 200 (by omega), impl_yes a y m d hg 200 (by omega)]
    simp
  · have hg : ∀ y m d, ¬ goodD a y m d := fun y m d h => hg ⟨y, m, d, h⟩
    rw [spec_no a 200 (by omega) hg, impl_no a (by omega) 200 (by omega) hg]
    simp

end Go.Proofs.YtoijhfngihjhiaaDoor.Pure
