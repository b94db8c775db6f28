/- The program's AddAmounts and the reference's return the same for every list, and the list stays as it was; no condition. -/
import Derived.Test.YtjdnongcefddiaaQFnExactAddAmountsx2
namespace Go.Proofs.Ytjdnongcefddiaa.Pure
open Go.RowKit Go.Proofs.Ytjdnongcefddiaa.QFnExactAddAmounts Go.Proofs.YtjdnongcefddiaaW.PrintWords Go.Proofs.YtjdnongcefddiaaW.PrintLast Go.Proofs.YtjdnongcefddiaaW.PrintMore
set_option linter.unusedVariables false
set_option linter.unusedSimpArgs false

theorem w64 {x : Int} (h : -9223372036854775808 ≤ x) (h' : x ≤ 9223372036854775807) : wrap64 x = x := by unfold wrap64; omega
theorem tdv {x : Int} (n : Int) (h : 0 ≤ x) : Int.tdiv x n = x / n := Int.tdiv_eq_ediv_of_nonneg h
theorem tmd {x : Int} (n : Int) (h : 0 ≤ x) : Int.tmod x n = x % n := Int.tmod_eq_emod_of_nonneg h
theorem wfb {a : Int} (h : (Lit.int .i64 a).wf = true) : -9223372036854775808 ≤ a ∧ a ≤ 9223372036854775807 := by
  simp [Lit.wf, IntKind.min, IntKind.max, IntKind.signed, IntKind.bits] at h
  omega
theorem within_ {x a b : Int} : (if x ≥ a then some (decide (x ≤ b)) else some false) = some (decide (a ≤ x ∧ x ≤ b)) := by
  by_cases h : x ≥ a
  · rw [if_pos h]; congr 1; simp; omega
  · rw [if_neg h]; congr 1; simp; omega

theorem maxLen_ : maxLen = 9223372036854775807 := rfl
theorem set_take {l x : List Int} {n i : Nat} (hl : x.length = l.length) (hi : i < l.length) (h : x.take i = l.take i) : (x.set i (rd l i)).take (i + 1) = l.take (i + 1) := by
  have e : rd l i = l[i] := by unfold rd; simp [List.getD_eq_getElem?_getD, hi]
  rw [e]
  apply List.ext_getElem
  · simp [hl]
  · intro j h1 h2
    simp only [List.getElem_take, List.getElem_set]
    split
    · subst_vars; rfl
    · have hj : j < i := by simp at h1; omega
      have := congrArg (fun z => z[j]?) h
      simp only [List.getElem?_take_of_lt hj] at this
      rw [List.getElem?_eq_getElem (by omega), List.getElem?_eq_getElem (by omega)] at this
      exact Option.some.inj this
theorem toIntS_l0 (l : List Int) (hl : l.length ≤ 1048576) (d : Nat) : ∀ (x : List Int) (i k : Nat), x.length = l.length → i + d = l.length → d < k → x.take i = l.take i → laws_toIntS.l0 k l x (i : Int) = some l := by
  induction d with
  | zero =>
    intro x i k hx hi hk ht
    obtain ⟨k, rfl⟩ : ∃ j, k = j + 1 := ⟨k - 1, by omega⟩
    simp only [laws_toIntS.l0]
    rw [if_neg (by omega)]
    rw [List.take_of_length_le (by omega), List.take_of_length_le (by omega)] at ht
    rw [ht]
  | succ d ih =>
    intro x i k hx hi hk ht
    obtain ⟨k, rfl⟩ : ∃ j, k = j + 1 := ⟨k - 1, by omega⟩
    simp only [laws_toIntS.l0]
    rw [if_pos (by omega), if_pos (by omega), if_pos (by omega), w64 (by omega) (by omega), show ((i : Int) + 1) = ((i + 1 : Nat) : Int) by omega, Int.toNat_natCast]
    exact ih _ (i + 1) k (by rw [List.length_set]; exact hx) (by omega) (by omega) (set_take (n := 0) hx (by omega) ht)
theorem toIntS_ (l : List Int) (hl : l.length ≤ 1048576) (k : Nat) (hk : l.length < k) : laws_toIntS.f k l = some l := by
  unfold laws_toIntS.f
  rw [if_pos (by omega), if_pos (by omega), Int.toNat_natCast]
  exact toIntS_l0 l hl l.length _ 0 k (by simp) (by omega) hk (by simp)
theorem eqIntS_l0 (l : List Int) (hl : l.length ≤ 1048576) (d : Nat) : ∀ (i k : Nat), i + d = l.length → d < k → laws_eqIntS.l0 k l l (i : Int) = some true := by
  induction d with
  | zero =>
    intro i k hi hk
    obtain ⟨k, rfl⟩ : ∃ j, k = j + 1 := ⟨k - 1, by omega⟩
    simp only [laws_eqIntS.l0]
    rw [if_neg (by omega)]
  | succ d ih =>
    intro i k hi hk
    obtain ⟨k, rfl⟩ : ∃ j, k = j + 1 := ⟨k - 1, by omega⟩
    simp only [laws_eqIntS.l0]
    rw [if_pos (by omega), if_pos (by omega), if_pos (by omega), if_pos trivial, w64 (by omega) (by omega), show ((i : Int) + 1) = ((i + 1 : Nat) : Int) by omega]
    exact ih (i + 1) k (by omega) (by omega)
theorem eqIntS_ (l : List Int) (hl : l.length ≤ 1048576) (k : Nat) (hk : l.length < k) : laws_eqIntS.f k l l = some true := by
  unfold laws_eqIntS.f
  rw [if_pos rfl]
  exact eqIntS_l0 l hl l.length 0 k (by omega) hk

theorem mIn (x a b : Int) : spec_l1In.f x a b = some (decide (a ≤ x ∧ x ≤ b)) := by unfold spec_l1In.f; exact within_
theorem mWithin (x a b : Int) : impl_within.f x a b = some (decide (a ≤ x ∧ x ≤ b)) := by unfold impl_within.f; exact within_
theorem mAmt (x : Int) : spec_l2Amount.f x = some (decide (-1000000000 ≤ x ∧ x ≤ 1000000000)) := by unfold spec_l2Amount.f; rw [mIn]; rfl

theorem mIsAmt (x : Int) : impl_isAmount.f x = some (decide (-1000000000 ≤ x ∧ x ≤ 1000000000)) := by unfold impl_isAmount.f; rw [mWithin]; rfl

theorem sums_l0 (l : List Int) (hl : l.length ≤ 1048576) (d : Nat) : ∀ (i k : Nat) (acc : Int), i + d = l.length → d < k → ∃ s, spec_l2Sum.l0 k l acc (i : Int) = some s ∧ impl_sumOf.l0 k acc l (l.length : Int) (i : Int) = some s := by
  induction d with
  | zero =>
    intro i k acc hid hk
    obtain ⟨k, rfl⟩ : ∃ j, k = j + 1 := ⟨k - 1, by omega⟩
    exact ⟨acc, by simp only [spec_l2Sum.l0]; rw [if_neg (by omega)], by simp only [impl_sumOf.l0]; rw [if_neg (by omega)]⟩
  | succ d ih =>
    intro i k acc hid hk
    obtain ⟨k, rfl⟩ : ∃ j, k = j + 1 := ⟨k - 1, by omega⟩
    have c1 : (i : Int) < (l.length : Int) := by omega
    have c0 : (0 : Int) ≤ (i : Int) := by omega
    obtain ⟨s, s1, s2⟩ := ih (i + 1) k (wrap64 (acc + rd l (i : Int))) (by omega) (by omega)
    refine ⟨s, ?_, ?_⟩
    · simp only [spec_l2Sum.l0, c1, c0, if_true]; rw [w64 (x := (i : Int) + 1) (by omega) (by omega), show ((i : Int) + 1) = ((i + 1 : Nat) : Int) by omega]; exact s1
    · simp only [impl_sumOf.l0, c1, c0, if_true]; rw [w64 (x := (i : Int) + 1) (by omega) (by omega), show ((i : Int) + 1) = ((i + 1 : Nat) : Int) by omega]; exact s2
theorem sums_ (l : List Int) (hl : l.length ≤ 1048576) : ∃ s, ∀ k, 1048577 ≤ k → spec_l2Sum.f k l = some s ∧ impl_sumOf.f k l = some s := by
  obtain ⟨s, s1, s2⟩ := sums_l0 l hl l.length 0 1048577 0 (by omega) (by omega)
  exact ⟨s, fun k hk => ⟨at_rounds (fun k => spec_l2Sum.mono l k) hk (by unfold spec_l2Sum.f; exact s1), at_rounds (fun k => impl_sumOf.mono l k) hk (by unfold impl_sumOf.f; exact s2)⟩⟩

theorem am_great (l : List Int) (hl : 20 < l.length) (hl2 : l.length ≤ 1048576) (d : Nat) : ∀ (i k : Nat), i + d = 21 → 2 * d + 3 ≤ k → spec_l2Amounts.l0 k l (i : Int) = some false := by
  induction d with
  | zero =>
    intro i k hid hk
    obtain ⟨k, rfl⟩ : ∃ j, k = j + 2 := ⟨k - 2, by omega⟩
    have c2 : decide ((i : Int) ≤ 20) = false := decide_eq_false (by omega)
    have c3 : decide ((l.length : Int) ≤ 20) = false := decide_eq_false (by omega)
    simp only [spec_l2Amounts.l0, spec_l2Amounts.j1, c2, Bool.false_eq_true, if_false, c3]
    split <;> rfl
  | succ d ih =>
    intro i k hid hk
    obtain ⟨k, rfl⟩ : ∃ j, k = j + 2 := ⟨k - 2, by omega⟩
    have c1 : (i : Int) < (l.length : Int) := by omega
    have c0 : (0 : Int) ≤ (i : Int) := by omega
    have c2 : decide ((i : Int) ≤ 20) = true := decide_eq_true (by omega)
    simp only [spec_l2Amounts.l0, c1, c0, if_true, spec_l2Amounts.j1, c2, mAmt, Option.bind_some]
    split
    · rw [w64 (by omega) (by omega), show ((i : Int) + 1) = ((i + 1 : Nat) : Int) by omega]; exact ih (i + 1) k (by omega) (by omega)
    · rfl
theorem am_small (l : List Int) (hl : l.length ≤ 20) (d : Nat) : ∀ (i k : Nat), i + d = l.length → 2 * d + 3 ≤ k → ∃ b j, spec_l2Amounts.l0 k l (i : Int) = some b ∧ slices_IndexFunc_int_int.l0 k l (l.length : Int) (i : Int) = some j ∧ (!decide (j ≥ 0)) = b := by
  induction d with
  | zero =>
    intro i k hid hk
    obtain ⟨k, rfl⟩ : ∃ j, k = j + 2 := ⟨k - 2, by omega⟩
    refine ⟨true, -1, ?_, ?_, by decide⟩
    · have c1 : ¬ (i : Int) < (l.length : Int) := by omega
      have c3 : decide ((l.length : Int) ≤ 20) = true := decide_eq_true (by omega)
      simp only [spec_l2Amounts.l0, c1, if_false, spec_l2Amounts.j1, Bool.false_eq_true, c3]
    · simp only [slices_IndexFunc_int_int.l0]; rw [if_neg (by omega)]
  | succ d ih =>
    intro i k hid hk
    obtain ⟨k, rfl⟩ : ∃ j, k = j + 2 := ⟨k - 2, by omega⟩
    have c1 : (i : Int) < (l.length : Int) := by omega
    have c0 : (0 : Int) ≤ (i : Int) := by omega
    have c2 : decide ((i : Int) ≤ 20) = true := decide_eq_true (by omega)
    obtain ⟨b, j, h1, h2, h3⟩ := ih (i + 1) k (by omega) (by omega)
    have h2' := (slices_IndexFunc_int_int.mono_l k) l (l.length : Int) ((i + 1 : Nat) : Int) j h2
    rw [show k + 2 = (k + 1) + 1 by omega, slices_IndexFunc_int_int.l0, spec_l2Amounts.l0, spec_l2Amounts.j1]
    simp only [c1, c0, if_true, c2, mAmt, impl_areAmounts_1.f, mIsAmt, Option.bind_some]
    rw [w64 (by omega) (by omega), show ((i : Int) + 1) = ((i + 1 : Nat) : Int) by omega]
    by_cases hb : decide (-1000000000 ≤ rd l (i : Int) ∧ rd l (i : Int) ≤ 1000000000) = true
    · refine ⟨b, j, ?_, ?_, h3⟩
      · rw [if_pos hb]; exact h1
      · rw [hb]; simp only [Bool.not_true, Bool.false_eq_true, if_false]; exact h2'
    · have hb' : decide (-1000000000 ≤ rd l (i : Int) ∧ rd l (i : Int) ≤ 1000000000) = false := by simpa using hb
      refine ⟨false, (i : Int), ?_, ?_, by simp⟩
      · rw [if_neg hb]
      · rw [hb']; simp
theorem am_both (l : List Int) (hl : l.length ≤ 1048576) : ∃ b, ∀ k, 100 ≤ k → spec_l2Amounts.f k l = some b ∧ impl_areAmounts.f k l = some b := by
  by_cases h : l.length ≤ 20
  · obtain ⟨b, j, h1, h2, h3⟩ := am_small l h l.length 0 100 (by omega) (by omega)
    refine ⟨b, fun k hk => ⟨at_rounds (fun k => spec_l2Amounts.mono l k) hk (by unfold spec_l2Amounts.f; exact h1), ?_⟩⟩
    have : slices_IndexFunc_int_int.f k l = some j := at_rounds (fun k => slices_IndexFunc_int_int.mono l k) hk (by unfold slices_IndexFunc_int_int.f; exact h2)
    unfold impl_areAmounts.f slices_ContainsFunc_int_int.f
    rw [if_pos (by omega), this]
    simp only [Option.bind_some]; rw [h3]
  · refine ⟨false, fun k hk => ⟨at_rounds (fun k => spec_l2Amounts.mono l k) hk (by unfold spec_l2Amounts.f; exact am_great l (by omega) hl 21 0 100 (by omega) (by omega)), ?_⟩⟩
    unfold impl_areAmounts.f
    rw [if_neg (by omega)]
theorem FnExactAddAmounts (l : List Int) (_ : l.length ≤ maxLen) (_ : ∀ x ∈ l, (Lit.int .i64 x).wf = true) : ∃ k, laws_FnExactAddAmounts.f k l = some true := by
  refine ⟨2000000, ?_⟩
  unfold laws_FnExactAddAmounts.f
  by_cases hl : (l.length : Int) > 1048576
  · rw [if_pos hl]
  · have hl' : l.length ≤ 1048576 := by omega
    obtain ⟨b, hb⟩ := am_both l hl'
    obtain ⟨s, hs⟩ := sums_ l hl'
    have hb := hb 2000000 (by omega)
    have hs := hs 2000000 (by omega)
    rw [if_neg hl, toIntS_ l hl' 2000000 (by omega)]
    unfold spec_AddAmounts.f impl_AddAmounts.f
    simp only [Option.bind_some, hb.1, hb.2, hs.1, hs.2, mAmt, mIsAmt]
    have tail : laws_FnExactAddAmounts.j0 2000000 l l false = some true := by
      simp only [laws_FnExactAddAmounts.j0, Bool.false_eq_true, if_false]
      rw [toIntS_ l hl' 1999999 (by omega)]
      simp only [Option.bind_some]
      rw [eqIntS_ l hl' 1999999 (by omega)]; rfl
    cases b with
    | false => simp [tail]
    | true =>
      by_cases hc : decide (-1000000000 ≤ s ∧ s ≤ 1000000000) = true
      · simp only [hc, if_true, Option.bind_some, bne_self_eq_false]; exact tail
      · have hc' : decide (-1000000000 ≤ s ∧ s ≤ 1000000000) = false := by simpa using hc
        simp only [hc', if_true, Bool.false_eq_true, if_false, Option.bind_some, bne_self_eq_false]; exact tail

end Go.Proofs.Ytjdnongcefddiaa.Pure
