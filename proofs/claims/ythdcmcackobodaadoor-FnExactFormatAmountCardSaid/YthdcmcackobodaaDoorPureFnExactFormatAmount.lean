/- The program's FormatAmount and the reference's return the same for every whole number; no condition. -/
import Derived.Test.YthdcmcackobodaaDoorQFnExactFormatAmountx2
namespace Go.Proofs.YthdcmcackobodaaDoor.Pure
open Go.RowKit Go.Proofs.YthdcmcackobodaaDoor.QFnExactFormatAmount Go.Proofs.YthdcmcackobodaaDoorW.PrintWords Go.Proofs.YthdcmcackobodaaDoorW.PrintLast Go.Proofs.YthdcmcackobodaaDoorW.PrintMore
set_option linter.unusedVariables false
set_option linter.unusedSimpArgs false

theorem w64 {x : Int} (h : -9223372036854775808 ≤ x) (h' : x ≤ 9223372036854775807) : wrap64 x = x := by unfold wrap64; omega
theorem tdv {x : Int} (n : Int) (h : 0 ≤ x) : Int.tdiv x n = x / n := Int.tdiv_eq_ediv_of_nonneg h
theorem tmd {x : Int} (n : Int) (h : 0 ≤ x) : Int.tmod x n = x % n := Int.tmod_eq_emod_of_nonneg h
theorem wfb {a : Int} (h : (Lit.int .i64 a).wf = true) : -9223372036854775808 ≤ a ∧ a ≤ 9223372036854775807 := by
  simp [Lit.wf, IntKind.min, IntKind.max, IntKind.signed, IntKind.bits] at h
  omega
theorem within_ {x a b : Int} : (if x ≥ a then some (decide (x ≤ b)) else some false) = some (decide (a ≤ x ∧ x ≤ b)) := by
  by_cases h : x ≥ a
  · rw [if_pos h]; congr 1; simp; omega
  · rw [if_neg h]; congr 1; simp; omega

theorem digit_ (d : Nat) (h : d < 10) : (⟨#[48, 49, 50, 51, 52, 53, 54, 55, 56, 57]⟩ : ByteArray).extract d (d + 1) = ⟨#[UInt8.ofNat (48 + d)]⟩ := by
  match d, h with
  | 0, _ => rfl
  | 1, _ => rfl
  | 2, _ => rfl
  | 3, _ => rfl
  | 4, _ => rfl
  | 5, _ => rfl
  | 6, _ => rfl
  | 7, _ => rfl
  | 8, _ => rfl
  | 9, _ => rfl
theorem digits_len (k : Nat) : ∀ u : Nat, u < 10 ^ (k + 1) → (Lib.decDigits u).length ≤ k + 1 := by
  induction k with
  | zero => intro u hu; rw [Lib.decDigits]; split <;> simp_all
  | succ k ih =>
    intro u hu
    rw [Lib.decDigits]
    split
    · simp
    · have : u / 10 < 10 ^ (k + 1) := by rw [Nat.div_lt_iff_lt_mul (by omega)]; rw [Nat.pow_succ] at hu; omega
      have := ih _ this
      simp; omega
theorem app_mk (a b : Array UInt8) : (⟨a⟩ : ByteArray) ++ ⟨b⟩ = ⟨a ++ b⟩ := by apply ByteArray.ext; simp
theorem sz_mk (a : Array UInt8) : (⟨a⟩ : ByteArray).size = a.size := rfl
theorem num_some (k : Nat) : ∀ n : Int, 0 ≤ n → n < 10 ^ (k + 1) → n < 9223372036854775807 → k ≤ 30 → spec_l1Num.f (k + 1) n = some ⟨(Lib.decDigits n.toNat).toArray⟩ := by
  induction k with
  | zero =>
    intro n h0 h1 h2 hk
    obtain ⟨u, rfl⟩ : ∃ u : Nat, n = u := ⟨n.toNat, by omega⟩
    have hu : u < 10 := by omega
    unfold spec_l1Num.f
    rw [if_neg (by omega), if_pos (by omega), if_pos h0, w64 (x := (u : Int) + 1) (by omega) (by omega), if_pos (by omega), if_pos (by omega)]
    rw [show ((u : Int) + 1).toNat = u + 1 by omega, show ((u : Int)).toNat = u by omega, digit_ u hu, Lib.decDigits, dif_pos hu]
  | succ k ih =>
    intro n h0 h1 h2 hk
    obtain ⟨u, rfl⟩ : ∃ u : Nat, n = u := ⟨n.toNat, by omega⟩
    by_cases hu : u < 10
    · unfold spec_l1Num.f
      rw [if_neg (by omega), if_pos (by omega), if_pos h0, w64 (x := (u : Int) + 1) (by omega) (by omega), if_pos (by omega), if_pos (by omega)]
      rw [show ((u : Int) + 1).toNat = u + 1 by omega, show ((u : Int)).toNat = u by omega, digit_ u hu, Lib.decDigits, dif_pos hu]
    · have e1 : Int.tdiv (u : Int) 10 = ((u / 10 : Nat) : Int) := by rw [Int.tdiv_eq_ediv_of_nonneg h0]; omega
      have e2 : Int.tmod (u : Int) 10 = ((u % 10 : Nat) : Int) := by rw [Int.tmod_eq_emod_of_nonneg h0]; omega
      have hu2 : u < 10 ^ (k + 1 + 1) := by exact_mod_cast h1
      have hu1 : u / 10 < 10 ^ (k + 1) := by rw [Nat.div_lt_iff_lt_mul (by omega)]; rw [Nat.pow_succ] at hu2; omega
      have hi := ih ((u / 10 : Nat) : Int) (by omega) (by exact_mod_cast hu1) (by omega) (by omega)
      have hl := digits_len k (u / 10) hu1
      unfold spec_l1Num.f
      rw [if_neg (by omega), if_neg (by omega), e1, w64 (x := ((u / 10 : Nat) : Int)) (by omega) (by omega), hi, Option.bind_some, e2]
      rw [w64 (x := ((u % 10 : Nat) : Int) + 1) (by omega) (by omega), if_pos (by omega), if_pos (by omega), if_pos (by omega)]
      rw [show (((u % 10 : Nat) : Int) + 1).toNat = u % 10 + 1 by omega, show (((u % 10 : Nat) : Int)).toNat = u % 10 by omega, show (((u / 10 : Nat) : Int)).toNat = u / 10 by omega, show ((u : Int)).toNat = u by omega, digit_ (u % 10) (by omega)]
      rw [if_pos (by simp only [sz_mk, List.size_toArray, List.length_cons, List.length_nil]; omega), app_mk]
      have e3 : Lib.decDigits u = Lib.decDigits (u / 10) ++ [UInt8.ofNat (48 + u % 10)] := by rw [Lib.decDigits, dif_neg hu]
      rw [e3]
      simp
theorem num_ (n : Int) (h0 : -1000000000000000000 < n) (h1 : n < 1000000000000000000) : ∀ k, 20 ≤ k → spec_l1Num.f k n = some ⟨(Lib.itoa n).toArray⟩ := by
  intro k hk
  refine at_rounds (fun k => spec_l1Num.mono n k) hk ?_
  unfold Lib.itoa
  by_cases hn : n < 0
  · rw [if_pos hn]
    have hu : n.natAbs < 10 ^ 19 := by omega
    have hl := digits_len 18 n.natAbs hu
    have hs := num_some 18 (-n) (by omega) (by omega) (by omega) (by omega)
    unfold spec_l1Num.f
    rw [if_pos hn, w64 (x := -n) (by omega) (by omega), hs, Option.bind_some, show (-n).toNat = n.natAbs by omega, if_pos (by simp only [sz_mk, List.size_toArray]; omega), app_mk]
    simp
  · rw [if_neg hn]
    exact num_some 19 n (by omega) (by omega) (by omega) (by omega)
theorem itoa_ (n : Int) (h0 : -1000000000000000000 < n) (h1 : n < 1000000000000000000) : strconv_Itoa.f n = some ⟨(Lib.itoa n).toArray⟩ := by
  unfold strconv_Itoa.f Own.itoaF
  rw [if_pos (by omega)]

theorem itoa_nat (u : Nat) : Lib.itoa (u : Int) = Lib.decDigits u := by unfold Lib.itoa; rw [if_neg (by omega)]; simp
theorem dig1 (u : Nat) (h : u < 10) : (Lib.decDigits u).length = 1 := by rw [Lib.decDigits, dif_pos h]; rfl
theorem digS (u n : Nat) (h : 10 ≤ u) (hn : (Lib.decDigits (u / 10)).length = n) : (Lib.decDigits u).length = n + 1 := by
  have e3 : Lib.decDigits u = Lib.decDigits (u / 10) ++ [UInt8.ofNat (48 + u % 10)] := by rw [Lib.decDigits, dif_neg (by omega)]
  rw [e3]; simp [hn]
theorem itoa_s (n : Int) : (⟨(Lib.itoa n).toArray⟩ : ByteArray).size = (Lib.itoa n).length := by simp [sz_mk]
theorem itoa_len (n : Int) (h0 : 0 ≤ n) (h1 : n < 1000000000000000000) : (⟨(Lib.itoa n).toArray⟩ : ByteArray).size ≤ 19 := by
  obtain ⟨u, rfl⟩ : ∃ u : Nat, n = u := ⟨n.toNat, by omega⟩
  rw [itoa_s, itoa_nat]
  exact digits_len 18 u (by omega)
theorem itoa_len' (n : Int) (h0 : -1000000000000000000 < n) (h1 : n < 1000000000000000000) : (⟨(Lib.itoa n).toArray⟩ : ByteArray).size ≤ 20 := by
  by_cases h : 0 ≤ n
  · have := itoa_len n h h1; omega
  · rw [itoa_s]
    unfold Lib.itoa
    rw [if_pos (by omega)]
    have := digits_len 18 n.natAbs (by omega)
    simp only [List.length_cons]; omega
theorem itoa_1 (n : Int) (h0 : 0 ≤ n) (h1 : n < 10) : (⟨(Lib.itoa n).toArray⟩ : ByteArray).size = 1 := by
  obtain ⟨u, rfl⟩ : ∃ u : Nat, n = u := ⟨n.toNat, by omega⟩
  rw [itoa_s, itoa_nat]
  exact dig1 u (by omega)
theorem itoa_2 (n : Int) (h0 : 10 ≤ n) (h1 : n < 100) : (⟨(Lib.itoa n).toArray⟩ : ByteArray).size = 2 := by
  obtain ⟨u, rfl⟩ : ∃ u : Nat, n = u := ⟨n.toNat, by omega⟩
  rw [itoa_s, itoa_nat]
  exact digS u 1 (by omega) (dig1 _ (by omega))
theorem itoa_4 (n : Int) (h0 : 1000 ≤ n) (h1 : n < 10000) : (⟨(Lib.itoa n).toArray⟩ : ByteArray).size = 4 := by
  obtain ⟨u, rfl⟩ : ∃ u : Nat, n = u := ⟨n.toNat, by omega⟩
  rw [itoa_s, itoa_nat]
  exact digS u 3 (by omega) (digS _ 2 (by omega) (digS _ 1 (by omega) (dig1 _ (by omega))))

theorem padded_1 (k : Nat) (n : Int) (h0 : 0 ≤ n) (h1 : n < 10) : impl_padded.f (k + 2) n 2 = some (⟨#[48]⟩ ++ ⟨(Lib.itoa n).toArray⟩) := by
  have hs := itoa_1 n h0 h1
  have hs2 : ((⟨#[48]⟩ : ByteArray) ++ ⟨(Lib.itoa n).toArray⟩).size = 2 := by rw [ByteArray.size_append, hs]; rfl
  unfold impl_padded.f
  rw [itoa_ n (by omega) (by omega), Option.bind_some]
  simp only [impl_padded.l0]
  rw [if_pos (by rw [hs]; decide), if_pos (by rw [hs]; decide), if_neg (by rw [hs2]; decide)]
theorem padded_2 (k : Nat) (n : Int) (h0 : 10 ≤ n) (h1 : n < 100) : impl_padded.f (k + 1) n 2 = some ⟨(Lib.itoa n).toArray⟩ := by
  have hs := itoa_2 n h0 h1
  unfold impl_padded.f
  rw [itoa_ n (by omega) (by omega), Option.bind_some]
  simp only [impl_padded.l0]
  rw [if_neg (by rw [hs]; decide)]
theorem padded_4 (k : Nat) (n : Int) (h0 : 1000 ≤ n) (h1 : n < 10000) : impl_padded.f (k + 1) n 4 = some ⟨(Lib.itoa n).toArray⟩ := by
  have hs := itoa_4 n h0 h1
  unfold impl_padded.f
  rw [itoa_ n (by omega) (by omega), Option.bind_some]
  simp only [impl_padded.l0]
  rw [if_neg (by rw [hs]; decide)]

theorem szC (a b : ByteArray) : (a ++ b).size = a.size + b.size := ByteArray.size_append
theorem amount_ (n m : Int) (s : ByteArray) (hs : s.size ≤ 1) (hm : m = n ∨ m = -n) (h0 : 0 ≤ m) (h1 : m ≤ 1000000000) : ∃ r, spec_l2Format.j0 30 m s = some r ∧ impl_amountText.j0 30 n s = some r := by
  have hz : impl_size.f n = some m := by
    unfold impl_size.f mx
    rw [w64 (x := -n) (by omega) (by omega)]
    rcases hm with rfl | rfl
    · congr 1; split <;> omega
    · congr 1; split <;> omega
  have e1 : Int.tdiv m 100 = m / 100 := tdv 100 h0
  have e2 : Int.tmod m 100 = m % 100 := tmd 100 h0
  have l1 := itoa_len (m / 100) (by omega) (by omega)
  have l2 := itoa_len (m % 100) (by omega) (by omega)
  have n1 := num_ (m / 100) (by omega) (by omega) 29 (by omega)
  have n2 := num_ (m % 100) (by omega) (by omega) 29 (by omega)
  have i1 := itoa_ (m / 100) (by omega) (by omega)
  have s1 : (⟨#[46]⟩ : ByteArray).size = 1 := rfl
  have s2 : (⟨#[48]⟩ : ByteArray).size = 1 := rfl
  by_cases hd : m % 100 < 10
  · have p1 := padded_1 27 (m % 100) (by omega) hd
    refine ⟨s ++ ⟨(Lib.itoa (m / 100)).toArray⟩ ++ ⟨#[46]⟩ ++ ⟨#[48]⟩ ++ ⟨(Lib.itoa (m % 100)).toArray⟩, ?_, ?_⟩
    · simp only [spec_l2Format.j0, e1, e2]
      rw [w64 (x := m / 100) (by omega) (by omega), n1, n2]
      simp only [Option.bind_some]
      rw [if_pos (by omega), if_pos (by rw [szC]; omega), if_pos hd, if_pos (by simp only [szC]; omega), if_pos (by simp only [szC]; omega)]
    · simp only [impl_amountText.j0, hz, Option.bind_some, e1, e2]
      rw [w64 (x := m / 100) (by omega) (by omega), i1]
      simp only [Option.bind_some, p1]
      rw [if_pos (by omega), if_pos (by rw [szC]; omega), if_pos (by simp only [szC]; omega)]
      simp only [ByteArray.append_assoc]
  · have p1 := padded_2 28 (m % 100) (by omega) (by omega)
    refine ⟨s ++ ⟨(Lib.itoa (m / 100)).toArray⟩ ++ ⟨#[46]⟩ ++ ⟨(Lib.itoa (m % 100)).toArray⟩, ?_, ?_⟩
    · simp only [spec_l2Format.j0, e1, e2]
      rw [w64 (x := m / 100) (by omega) (by omega), n1, n2]
      simp only [Option.bind_some]
      rw [if_pos (by omega), if_pos (by rw [szC]; omega), if_neg hd, if_pos (by simp only [szC]; omega)]
    · simp only [impl_amountText.j0, hz, Option.bind_some, e1, e2]
      rw [w64 (x := m / 100) (by omega) (by omega), i1]
      simp only [Option.bind_some, p1]
      rw [if_pos (by omega), if_pos (by rw [szC]; omega), if_pos (by simp only [szC]; omega)]
theorem FnExactFormatAmount (n : Int) (hn : (Lit.int .i64 n).wf = true) : ∃ k, laws_FnExactFormatAmount.f k n = some true := by
  refine ⟨30, ?_⟩
  unfold laws_FnExactFormatAmount.f spec_FormatAmount.f impl_FormatAmount.f spec_l2Amount.f impl_isAmount.f spec_l1In.f impl_within.f
  by_cases h1 : n ≥ -1000000000
  · by_cases h2 : n ≤ 1000000000
    · have : ∃ r, spec_l2Format.f 30 n = some r ∧ impl_amountText.f 30 n = some r := by
        unfold spec_l2Format.f impl_amountText.f
        by_cases h0 : n < 0
        · rw [if_pos h0, if_pos h0, w64 (x := -n) (by omega) (by omega)]
          exact amount_ n (-n) ⟨#[45]⟩ (by decide) (Or.inr rfl) (by omega) (by omega)
        · rw [if_neg h0, if_neg h0]
          exact amount_ n n ⟨#[]⟩ (by decide) (Or.inl rfl) (by omega) (by omega)
      obtain ⟨r, r1, r2⟩ := this
      simp [h1, h2, r1, r2]
    · simp [h1, h2]
  · simp [h1]

end Go.Proofs.YthdcmcackobodaaDoor.Pure
