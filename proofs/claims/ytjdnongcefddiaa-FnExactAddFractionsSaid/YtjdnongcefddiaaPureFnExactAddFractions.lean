/- The program's AddFractions and the reference's return the same for all arguments; no condition. -/
import Derived.Test.YtjdnongcefddiaaQFnExactAddFractionsx3
namespace Go.Proofs.Ytjdnongcefddiaa.Pure
open Go.RowKit Go.Proofs.Ytjdnongcefddiaa.QFnExactAddFractions Go.Proofs.YtjdnongcefddiaaW.PrintWords Go.Proofs.YtjdnongcefddiaaW.PrintLast Go.Proofs.YtjdnongcefddiaaW.PrintMore
set_option linter.unusedVariables false
set_option linter.unusedSimpArgs false

theorem w64 {x : Int} (h : -9223372036854775808 ≤ x) (h' : x ≤ 9223372036854775807) : wrap64 x = x := by unfold wrap64; omega
theorem tdv {x : Int} (n : Int) (h : 0 ≤ x) : Int.tdiv x n = x / n := Int.tdiv_eq_ediv_of_nonneg h
theorem tmd {x : Int} (n : Int) (h : 0 ≤ x) : Int.tmod x n = x % n := Int.tmod_eq_emod_of_nonneg h
theorem wfb {a : Int} (h : (Lit.int .i64 a).wf = true) : -9223372036854775808 ≤ a ∧ a ≤ 9223372036854775807 := by
  simp [Lit.wf, IntKind.min, IntKind.max, IntKind.signed, IntKind.bits] at h
  omega
theorem within_ {x a b : Int} : (if x ≥ a then some (decide (x ≤ b)) else some false) = some (decide (a ≤ x ∧ x ≤ b)) := by
  by_cases h : x ≥ a
  · rw [if_pos h]; congr 1; simp; omega
  · rw [if_neg h]; congr 1; simp; omega

theorem mul_bd {a b M N : Int} (h1 : -M ≤ a) (h2 : a ≤ M) (h3 : 0 ≤ b) (h4 : b ≤ N) (hM : 0 ≤ M) : -(M * N) ≤ a * b ∧ a * b ≤ M * N := by
  have e1 : a * b ≤ M * b := Int.mul_le_mul_of_nonneg_right h2 h3
  have e2 : M * b ≤ M * N := Int.mul_le_mul_of_nonneg_left h4 hM
  have e3 : -M * b ≤ a * b := Int.mul_le_mul_of_nonneg_right h1 h3
  rw [Int.neg_mul] at e3
  omega
theorem within__ (x a b : Int) : impl_within.f x a b = some (decide (a ≤ x ∧ x ≤ b)) := by unfold impl_within.f; exact within_
theorem l1In__ (x a b : Int) : spec_l1In.f x a b = some (decide (a ≤ x ∧ x ≤ b)) := by unfold spec_l1In.f; exact within_
theorem isAmount__ (x : Int) : impl_isAmount.f x = some (decide (-1000000000 ≤ x ∧ x ≤ 1000000000)) := by unfold impl_isAmount.f; rw [within__]; rfl
theorem l2Amount__ (x : Int) : spec_l2Amount.f x = some (decide (-1000000000 ≤ x ∧ x ≤ 1000000000)) := by unfold spec_l2Amount.f; rw [l1In__]; rfl
theorem size__ (x : Int) (h : -9223372036854775807 ≤ x) (h' : x ≤ 9223372036854775807) : impl_size.f x = some (x.natAbs : Int) := by
  unfold impl_size.f mx; rw [w64 (by omega) (by omega)]; congr 1; split <;> omega
theorem abs__ (x : Int) (h : -9223372036854775807 ≤ x) (h' : x ≤ 9223372036854775807) : spec_l2Abs.f x = some (x.natAbs : Int) := by
  unfold spec_l2Abs.f; split
  · rw [w64 (by omega) (by omega)]; congr 1; omega
  · congr 1; omega
theorem gcd_step (a b : Nat) : Nat.gcd b (a % b) = Nat.gcd a b := by
  rw [Nat.gcd_comm a b, Nat.gcd_rec b a, Nat.gcd_comm]
theorem gcd_spec (b : Nat) : ∀ (a k : Nat), b < k → spec_l2Gcd.f k (a : Int) (b : Int) = some ((Nat.gcd a b : Nat) : Int) := by
  induction b using Nat.strongRecOn with
  | ind b ih =>
    intro a k hk
    obtain ⟨k, rfl⟩ : ∃ j, k = j + 1 := ⟨k - 1, by omega⟩
    simp only [spec_l2Gcd.f, spec_l2Gcd.l0]
    by_cases hb : b = 0
    · subst hb; simp
    · rw [if_neg (by omega)]
      have hlt : a % b < b := Nat.mod_lt _ (by omega)
      have := ih (a % b) hlt b k (by omega)
      unfold spec_l2Gcd.f at this
      rw [gcd_step] at this
      rw [← this]; congr 1
theorem gcd_impl (n : Nat) : ∀ (a b : Int) (k : Nat), b.natAbs = n → n < k → -9223372036854775807 ≤ a → a ≤ 9223372036854775807 → -9223372036854775807 ≤ b → b ≤ 9223372036854775807 → impl_divisor.f k a b = some ((Nat.gcd a.natAbs b.natAbs : Nat) : Int) := by
  induction n using Nat.strongRecOn with
  | ind n ih =>
    intro a b k hb hk a1 a2 b1 b2
    obtain ⟨k, rfl⟩ : ∃ j, k = j + 1 := ⟨k - 1, by omega⟩
    simp only [impl_divisor.f, impl_divisor.l0]
    by_cases h0 : b = 0
    · subst h0; rw [if_pos rfl, size__ a a1 a2]; simp
    · rw [if_neg h0]
      have hm : (Int.tmod a b).natAbs = a.natAbs % b.natAbs := Int.natAbs_tmod a b
      have hlt : a.natAbs % b.natAbs < b.natAbs := Nat.mod_lt _ (by omega)
      have := ih (a.natAbs % b.natAbs) (by omega) b (Int.tmod a b) k hm (by omega) b1 b2 (by omega) (by omega)
      unfold impl_divisor.f at this
      rw [hm, gcd_step] at this
      exact this
theorem isFrac_both (n d : Int) (hn : -9223372036854775808 ≤ n) (hn' : n ≤ 9223372036854775807) : ∃ b, (∀ k, 1000000001 ≤ k → spec_l2Fraction.f k n d = some b ∧ impl_isFraction.f k n d = some b) ∧ (b = true → 1 ≤ d ∧ d ≤ 1000000000 ∧ -1000000000 ≤ n ∧ n ≤ 1000000000 ∧ Nat.gcd n.natAbs d.natAbs = 1) := by
  unfold spec_l2Fraction.f impl_isFraction.f
  simp only [l1In__, within__, isAmount__, l2Amount__, Option.bind_some]
  by_cases h1 : decide (1 ≤ d ∧ d ≤ 1000000000) = true
  case neg => exact ⟨false, fun k _ => by simp [h1], by simp⟩
  by_cases h2 : decide (-1000000000 ≤ n ∧ n ≤ 1000000000) = true
  case neg => exact ⟨false, fun k _ => by simp [h1, h2], by simp⟩
  have a1 := of_decide_eq_true h1
  have a2 := of_decide_eq_true h2
  refine ⟨((Nat.gcd n.natAbs d.natAbs : Nat) : Int) == 1, fun k hk => ⟨?_, ?_⟩, fun h => ⟨a1.1, a1.2, a2.1, a2.2, ?_⟩⟩
  · rw [if_pos h1, if_pos h2, abs__ n (by omega) (by omega)]
    simp only [Option.bind_some]
    have := gcd_spec d.natAbs n.natAbs k (by omega)
    rw [show (d.natAbs : Int) = d by omega] at this
    rw [this]; rfl
  · rw [if_pos h1, if_pos h2, gcd_impl d.natAbs n d k rfl (by omega) (by omega) (by omega) (by omega) (by omega)]; rfl
  · have := beq_iff_eq.mp h; omega

theorem tdiv_bd (n : Int) (g : Nat) (hg : 0 < g) (h : -9223372036854775807 ≤ n) (h' : n ≤ 9223372036854775807) : -9223372036854775807 ≤ Int.tdiv n g ∧ Int.tdiv n g ≤ 9223372036854775807 := by
  have : (Int.tdiv n g).natAbs = n.natAbs / g := by rw [Int.natAbs_tdiv]; rfl
  have := Nat.div_le_self n.natAbs g
  omega
theorem frac_both (n d : Int) (hn : -9223372036854775807 ≤ n) (hn' : n ≤ 9223372036854775807) (hd : -9223372036854775807 ≤ d) (hd' : d ≤ 9223372036854775807) (h0 : d ≠ 0) :
    ∃ r, ∀ k, 9223372036854775810 ≤ k → spec_l2Reduce.f k n d = some r ∧ impl_fraction.f k n d = some r := by
  have hG : 0 < Nat.gcd n.natAbs d.natAbs := Nat.gcd_pos_of_pos_right _ (by omega)
  generalize hg : Nat.gcd n.natAbs d.natAbs = g at hG
  have hgd : g ≤ d.natAbs := by rw [← hg]; exact Nat.gcd_le_right _ (by omega)
  have core : ∀ n d : Int, -9223372036854775807 ≤ n → n ≤ 9223372036854775807 → 0 < d → d ≤ 9223372036854775807 → Nat.gcd n.natAbs d.natAbs = g → ∃ b, (∀ k, 1000000001 ≤ k → spec_l2Fraction.f k (Int.tdiv n g) (Int.tdiv d g) = some b ∧ impl_isFraction.f k (Int.tdiv n g) (Int.tdiv d g) = some b) ∧
      ∀ k, 9223372036854775809 ≤ k → spec_l2Reduce.j0 k n d = some (if b = true then (Int.tdiv n g, Int.tdiv d g, true) else (0, 0, false)) := by
    intro n d h1 h2 h3 h4 hg
    have t1 := tdiv_bd n g hG h1 h2
    have t2 := tdiv_bd d g hG (by omega) h4
    obtain ⟨b, hb, _⟩ := isFrac_both (Int.tdiv n g) (Int.tdiv d g) (by omega) (by omega)
    refine ⟨b, hb, fun k hk => ?_⟩
    obtain ⟨k, rfl⟩ : ∃ j, k = j + 1 := ⟨k - 1, by omega⟩
    simp only [spec_l2Reduce.j0]
    have := gcd_spec d.natAbs n.natAbs k (by omega)
    rw [show (d.natAbs : Int) = d by omega, hg] at this
    rw [abs__ n h1 h2]
    simp only [Option.bind_some]
    rw [this]
    simp only [Option.bind_some]
    rw [if_neg (by omega), w64 (by omega) (by omega), w64 (by omega) (by omega), (hb k (by omega)).1]
    simp only [Option.bind_some]
    cases b <;> simp
  by_cases hs : d < 0
  · obtain ⟨b, hb, hj⟩ := core (-n) (-d) (by omega) (by omega) (by omega) (by omega) (by rw [Int.natAbs_neg, Int.natAbs_neg]; exact hg)
    refine ⟨if b = true then (Int.tdiv (-n) g, Int.tdiv (-d) g, true) else (0, 0, false), fun k hk => ⟨?_, ?_⟩⟩
    · unfold spec_l2Reduce.f
      rw [if_pos hs, w64 (by omega) (by omega), w64 (by omega) (by omega)]
      exact hj k (by omega)
    · unfold impl_fraction.f
      rw [gcd_impl d.natAbs n d k rfl (by omega) hn hn' hd hd', hg]
      simp only [Option.bind_some]
      have t1 := tdiv_bd (-n) g hG (by omega) (by omega)
      have t2 := tdiv_bd (-d) g hG (by omega) (by omega)
      have e1 : Int.tdiv n (-(g : Int)) = Int.tdiv (-n) g := by rw [Int.tdiv_neg, Int.neg_tdiv]
      have e2 : Int.tdiv d (-(g : Int)) = Int.tdiv (-d) g := by rw [Int.tdiv_neg, Int.neg_tdiv]
      rw [if_pos hs, w64 (x := -(g : Int)) (by omega) (by omega), if_neg (by omega), e1, e2, w64 (by omega) (by omega), w64 (by omega) (by omega), (hb k (by omega)).2]
      simp only [Option.bind_some]
      cases b <;> simp
  · obtain ⟨b, hb, hj⟩ := core n d hn hn' (by omega) hd' hg
    refine ⟨if b = true then (Int.tdiv n g, Int.tdiv d g, true) else (0, 0, false), fun k hk => ⟨?_, ?_⟩⟩
    · unfold spec_l2Reduce.f
      rw [if_neg hs]
      exact hj k (by omega)
    · unfold impl_fraction.f
      rw [gcd_impl d.natAbs n d k rfl (by omega) hn hn' hd hd', hg]
      simp only [Option.bind_some]
      have t1 := tdiv_bd n g hG hn hn'
      have t2 := tdiv_bd d g hG hd hd'
      rw [if_neg hs, if_neg (by omega), w64 (by omega) (by omega), w64 (by omega) (by omega), (hb k (by omega)).2]
      simp only [Option.bind_some]
      cases b <;> simp

theorem FnExactAddFractions (a b c d : Int) (ha : (Lit.int .i64 a).wf = true) (hb : (Lit.int .i64 b).wf = true) (hc : (Lit.int .i64 c).wf = true) (hd : (Lit.int .i64 d).wf = true) : ∃ k, laws_FnExactAddFractions.f k a b c d = some true := by
  have wa := wfb ha
  have wc := wfb hc
  obtain ⟨x, hx, hxb⟩ := isFrac_both a b wa.1 wa.2
  obtain ⟨y, hy, hyb⟩ := isFrac_both c d wc.1 wc.2
  refine ⟨9223372036854775810, ?_⟩
  unfold laws_FnExactAddFractions.f laws_toFraction.f spec_AddFractions.f impl_AddFractions.f laws_eqFraction.f
  simp only [Option.bind_some, (hx 9223372036854775810 (by omega)).1, (hx 9223372036854775810 (by omega)).2, (hy 9223372036854775810 (by omega)).1, (hy 9223372036854775810 (by omega)).2]
  cases x with
  | false => simp
  | true =>
    cases y with
    | false => simp
    | true =>
      obtain ⟨b0, b1, a0, a1, _⟩ := hxb rfl
      obtain ⟨d0, d1, c0, c1, _⟩ := hyb rfl
      have e1 := mul_bd (a := a) (b := d) (M := 1000000000) (N := 1000000000) (by omega) (by omega) (by omega) (by omega) (by omega)
      have e2 := mul_bd (a := c) (b := b) (M := 1000000000) (N := 1000000000) (by omega) (by omega) (by omega) (by omega) (by omega)
      have e3 := mul_bd (a := b) (b := d) (M := 1000000000) (N := 1000000000) (by omega) (by omega) (by omega) (by omega) (by omega)
      have e4 : 0 < b * d := Int.mul_pos (by omega) (by omega)
      have e5 : -(1000000000 * 1000000000) ≤ a * c ∧ a * c ≤ 1000000000 * 1000000000 := by
        by_cases hz : 0 ≤ c
        · exact mul_bd (by omega) (by omega) hz (by omega) (by omega)
        · have := mul_bd (a := a) (b := -c) (M := 1000000000) (N := 1000000000) (by omega) (by omega) (by omega) (by omega) (by omega)
          rw [Int.mul_neg] at this; omega
      rw [w64 (x := a * d) (by omega) (by omega), w64 (x := c * b) (by omega) (by omega), w64 (x := a * d + c * b) (by omega) (by omega), w64 (x := b * d) (by omega) (by omega)]
      obtain ⟨r, hr⟩ := frac_both (a * d + c * b) (b * d) (by omega) (by omega) (by omega) (by omega) (by omega)
      obtain ⟨r1, r2⟩ := hr _ (Nat.le_refl _)
      simp only [if_true, r1, r2, Option.bind_some]
      simp

end Go.Proofs.Ytjdnongcefddiaa.Pure
