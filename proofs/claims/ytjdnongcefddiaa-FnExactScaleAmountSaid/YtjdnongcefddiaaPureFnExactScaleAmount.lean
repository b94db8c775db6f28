/- The program's ScaleAmount and the reference's return the same for all arguments; no condition. -/
import Derived.Test.YtjdnongcefddiaaQFnExactScaleAmountx2
namespace Go.Proofs.Ytjdnongcefddiaa.Pure
open Go.RowKit Go.Proofs.Ytjdnongcefddiaa.QFnExactScaleAmount Go.Proofs.YtjdnongcefddiaaW.PrintWords Go.Proofs.YtjdnongcefddiaaW.PrintLast Go.Proofs.YtjdnongcefddiaaW.PrintMore
set_option linter.unusedVariables false
set_option linter.unusedSimpArgs false

theorem w64 {x : Int} (h : -9223372036854775808 ≤ x) (h' : x ≤ 9223372036854775807) : wrap64 x = x := by unfold wrap64; omega
theorem tdv {x : Int} (n : Int) (h : 0 ≤ x) : Int.tdiv x n = x / n := Int.tdiv_eq_ediv_of_nonneg h
theorem tmd {x : Int} (n : Int) (h : 0 ≤ x) : Int.tmod x n = x % n := Int.tmod_eq_emod_of_nonneg h
theorem wfb {a : Int} (h : (Lit.int .i64 a).wf = true) : -9223372036854775808 ≤ a ∧ a ≤ 9223372036854775807 := by
  simp [Lit.wf, IntKind.min, IntKind.max, IntKind.signed, IntKind.bits] at h
  omega
theorem within_ {x a b : Int} : (if x ≥ a then some (decide (x ≤ b)) else some false) = some (decide (a ≤ x ∧ x ≤ b)) := by
  by_cases h : x ≥ a
  · rw [if_pos h]; congr 1; simp; omega
  · rw [if_neg h]; congr 1; simp; omega

theorem mul_bd {a b M N : Int} (h1 : -M ≤ a) (h2 : a ≤ M) (h3 : 0 ≤ b) (h4 : b ≤ N) (hM : 0 ≤ M) : -(M * N) ≤ a * b ∧ a * b ≤ M * N := by
  have e1 : a * b ≤ M * b := Int.mul_le_mul_of_nonneg_right h2 h3
  have e2 : M * b ≤ M * N := Int.mul_le_mul_of_nonneg_left h4 hM
  have e3 : -M * b ≤ a * b := Int.mul_le_mul_of_nonneg_right h1 h3
  rw [Int.neg_mul] at e3
  omega
theorem within__ (x a b : Int) : impl_within.f x a b = some (decide (a ≤ x ∧ x ≤ b)) := by unfold impl_within.f; exact within_
theorem l1In__ (x a b : Int) : spec_l1In.f x a b = some (decide (a ≤ x ∧ x ≤ b)) := by unfold spec_l1In.f; exact within_
theorem isAmount__ (x : Int) : impl_isAmount.f x = some (decide (-1000000000 ≤ x ∧ x ≤ 1000000000)) := by unfold impl_isAmount.f; rw [within__]; rfl
theorem l2Amount__ (x : Int) : spec_l2Amount.f x = some (decide (-1000000000 ≤ x ∧ x ≤ 1000000000)) := by unfold spec_l2Amount.f; rw [l1In__]; rfl
theorem size__ (x : Int) (h : -9223372036854775807 ≤ x) (h' : x ≤ 9223372036854775807) : impl_size.f x = some (x.natAbs : Int) := by
  unfold impl_size.f mx; rw [w64 (by omega) (by omega)]; congr 1; split <;> omega
theorem abs__ (x : Int) (h : -9223372036854775807 ≤ x) (h' : x ≤ 9223372036854775807) : spec_l2Abs.f x = some (x.natAbs : Int) := by
  unfold spec_l2Abs.f; split
  · rw [w64 (by omega) (by omega)]; congr 1; omega
  · congr 1; omega
theorem gcd_step (a b : Nat) : Nat.gcd b (a % b) = Nat.gcd a b := by
  rw [Nat.gcd_comm a b, Nat.gcd_rec b a, Nat.gcd_comm]
theorem gcd_spec (b : Nat) : ∀ (a k : Nat), b < k → spec_l2Gcd.f k (a : Int) (b : Int) = some ((Nat.gcd a b : Nat) : Int) := by
  induction b using Nat.strongRecOn with
  | ind b ih =>
    intro a k hk
    obtain ⟨k, rfl⟩ : ∃ j, k = j + 1 := ⟨k - 1, by omega⟩
    simp only [spec_l2Gcd.f, spec_l2Gcd.l0]
    by_cases hb : b = 0
    · subst hb; simp
    · rw [if_neg (by omega)]
      have hlt : a % b < b := Nat.mod_lt _ (by omega)
      have := ih (a % b) hlt b k (by omega)
      unfold spec_l2Gcd.f at this
      rw [gcd_step] at this
      rw [← this]; congr 1
theorem gcd_impl (n : Nat) : ∀ (a b : Int) (k : Nat), b.natAbs = n → n < k → -9223372036854775807 ≤ a → a ≤ 9223372036854775807 → -9223372036854775807 ≤ b → b ≤ 9223372036854775807 → impl_divisor.f k a b = some ((Nat.gcd a.natAbs b.natAbs : Nat) : Int) := by
  induction n using Nat.strongRecOn with
  | ind n ih =>
    intro a b k hb hk a1 a2 b1 b2
    obtain ⟨k, rfl⟩ : ∃ j, k = j + 1 := ⟨k - 1, by omega⟩
    simp only [impl_divisor.f, impl_divisor.l0]
    by_cases h0 : b = 0
    · subst h0; rw [if_pos rfl, size__ a a1 a2]; simp
    · rw [if_neg h0]
      have hm : (Int.tmod a b).natAbs = a.natAbs % b.natAbs := Int.natAbs_tmod a b
      have hlt : a.natAbs % b.natAbs < b.natAbs := Nat.mod_lt _ (by omega)
      have := ih (a.natAbs % b.natAbs) (by omega) b (Int.tmod a b) k hm (by omega) b1 b2 (by omega) (by omega)
      unfold impl_divisor.f at this
      rw [hm, gcd_step] at this
      exact this
theorem isFrac_both (n d : Int) (hn : -9223372036854775808 ≤ n) (hn' : n ≤ 9223372036854775807) : ∃ b, (∀ k, 1000000001 ≤ k → spec_l2Fraction.f k n d = some b ∧ impl_isFraction.f k n d = some b) ∧ (b = true → 1 ≤ d ∧ d ≤ 1000000000 ∧ -1000000000 ≤ n ∧ n ≤ 1000000000 ∧ Nat.gcd n.natAbs d.natAbs = 1) := by
  unfold spec_l2Fraction.f impl_isFraction.f
  simp only [l1In__, within__, isAmount__, l2Amount__, Option.bind_some]
  by_cases h1 : decide (1 ≤ d ∧ d ≤ 1000000000) = true
  case neg => exact ⟨false, fun k _ => by simp [h1], by simp⟩
  by_cases h2 : decide (-1000000000 ≤ n ∧ n ≤ 1000000000) = true
  case neg => exact ⟨false, fun k _ => by simp [h1, h2], by simp⟩
  have a1 := of_decide_eq_true h1
  have a2 := of_decide_eq_true h2
  refine ⟨((Nat.gcd n.natAbs d.natAbs : Nat) : Int) == 1, fun k hk => ⟨?_, ?_⟩, fun h => ⟨a1.1, a1.2, a2.1, a2.2, ?_⟩⟩
  · rw [if_pos h1, if_pos h2, abs__ n (by omega) (by omega)]
    simp only [Option.bind_some]
    have := gcd_spec d.natAbs n.natAbs k (by omega)
    rw [show (d.natAbs : Int) = d by omega] at this
    rw [this]; rfl
  · rw [if_pos h1, if_pos h2, gcd_impl d.natAbs n d k rfl (by omega) (by omega) (by omega) (by omega) (by omega)]; rfl
  · have := beq_iff_eq.mp h; omega

def rnd (Q R d m : Int) : Int := if (m = 2 ∧ 0 < R) ∨ (m = 3 ∧ d ≤ 2 * R) ∨ (m = 4 ∧ (d < 2 * R ∨ (2 * R = d ∧ Q % 2 = 1))) then Q + 1 else Q
theorem round_spec (N d m s : Int) (k : Nat) (h0 : 0 ≤ N) (h1 : N ≤ 1000000000000000000) (d0 : 1 ≤ d) (d1 : d ≤ 1000000000) (hm : 1 ≤ m) (hm' : m ≤ 4) (hs : s = 1 ∨ s = -1) :
    spec_l2Round.j0 (k + 1) N d m s = some (s * rnd (N / d) (N % d) d m) := by
  have hr0 : 0 ≤ N % d := Int.emod_nonneg _ (by omega)
  have hr1 : N % d < d := Int.emod_lt_of_pos _ (by omega)
  have hq0 : 0 ≤ N / d := Int.ediv_nonneg h0 (by omega)
  have hq1 : N / d ≤ N := Int.ediv_le_self _ h0
  simp only [spec_l2Round.j0]
  rw [if_neg (by omega)]
  simp only [tdv d h0, tmd d h0]
  generalize N / d = Q at *
  generalize N % d = R at *
  have w1 : ∀ z : Int, 0 ≤ z → z ≤ 1000000000000000001 → wrap64 (s * z) = s * z := by
    intro z z0 z1
    rcases hs with rfl | rfl
    · rw [Int.one_mul]; exact w64 (by omega) (by omega)
    · exact w64 (by omega) (by omega)
  rw [w64 (x := Q) (by omega) (by omega), w64 (x := Q + 1) (by omega) (by omega), w64 (x := 2 * R) (by omega) (by omega), w1 Q (by omega) (by omega), w1 (Q + 1) (by omega) (by omega), tmd 2 hq0]
  unfold rnd
  have : m = 1 ∨ m = 2 ∨ m = 3 ∨ m = 4 := by omega
  rcases this with rfl | rfl | rfl | rfl
  · simp
  · by_cases c : R > 0
    · simp [c]
    · simp [c]
  · by_cases c : 2 * R ≥ d
    · simp [c]
    · simp [c]
  · by_cases c : 2 * R > d
    · simp [c]
    · by_cases e : 2 * R = d
      · by_cases f : Q % 2 = 1
        · simp [e, f]
        · simp [e, f]
      · have c' : ¬ d < 2 * R := by omega
        simp [e, c']
theorem round_impl (Q R d m s : Int) (k : Nat) (q0 : 0 ≤ Q) (q1 : Q ≤ 1000000000000000000) (r0 : 0 ≤ R) (r1 : R < d) (d1 : d ≤ 1000000000) (hm : 1 ≤ m) (hm' : m ≤ 4) (hs : s = 1 ∨ s = -1) :
    impl_rounded.j0 (k + 1) d m (s * Q) R s = some (s * rnd Q R d m) := by
  simp only [impl_rounded.j0]
  have w1 : wrap64 (s * Q + s) = s * (Q + 1) := by
    rcases hs with rfl | rfl
    · rw [w64 (by omega) (by omega)]; omega
    · rw [w64 (by omega) (by omega)]; omega
  have w2 : (Int.tmod (s * Q) 2 = 0) ↔ ¬ (Q % 2 = 1) := by
    rcases hs with rfl | rfl
    · rw [Int.one_mul, tmd 2 q0]; omega
    · rw [show (-1 : Int) * Q = -Q by omega, Int.neg_tmod, tmd 2 q0]; omega
  rw [w64 (x := 2 * R) (by omega) (by omega), w1]
  unfold rnd
  have : m = 1 ∨ m = 2 ∨ m = 3 ∨ m = 4 := by omega
  rcases this with rfl | rfl | rfl | rfl
  · simp
  · by_cases c : R > 0
    · simp [c]
    · simp [c]
  · by_cases c : 2 * R ≥ d
    · simp [c]
    · simp [c]
  · by_cases c : 2 * R > d
    · simp [c]
    · by_cases e : 2 * R = d
      · by_cases f : Q % 2 = 1
        · have : ¬ (Int.tmod (s * Q) 2 = 0) := fun h => (w2.mp h) f
          simp [e, f, this]
        · have := w2.mpr f; simp [e, f, this]
      · have c' : ¬ d < 2 * R := by omega
        simp [e, c']
theorem round_both (n d m : Int) (h0 : -1000000000000000000 ≤ n) (h1 : n ≤ 1000000000000000000) (d0 : 1 ≤ d) (d1 : d ≤ 1000000000) (hm : 1 ≤ m) (hm' : m ≤ 4) :
    ∃ r, ∀ k, spec_l2Round.f (k + 1) n d m = some r ∧ impl_rounded.f (k + 1) n d m = some r := by
  by_cases hn : n < 0
  · have e0 : 0 ≤ -n := by omega
    have hr0 : 0 ≤ -n % d := Int.emod_nonneg _ (by omega)
    have hr1 : -n % d < d := Int.emod_lt_of_pos _ (by omega)
    have hq0 : 0 ≤ -n / d := Int.ediv_nonneg e0 (by omega)
    have hq1 : -n / d ≤ -n := Int.ediv_le_self _ e0
    refine ⟨-1 * rnd (-n / d) (-n % d) d m, fun k => ⟨?_, ?_⟩⟩
    · unfold spec_l2Round.f
      rw [if_pos hn, w64 (by omega) (by omega)]
      exact round_spec (-n) d m (-1) k e0 (by omega) d0 d1 hm hm' (Or.inr rfl)
    · unfold impl_rounded.f
      have t1 : Int.tmod n d = -(-n % d) := by rw [← tmd d e0, Int.neg_tmod]; omega
      have t2 : Int.tdiv n d = -1 * (-n / d) := by rw [← tdv d e0, Int.neg_tdiv]; omega
      rw [if_neg (by omega), t1, size__ _ (by omega) (by omega)]
      simp only [Option.bind_some]
      rw [if_pos hn, t2, show ((-(-n % d)).natAbs : Int) = -n % d by omega, w64 (x := -1 * (-n / d)) (by omega) (by omega)]
      exact round_impl _ _ d m (-1) k hq0 (by omega) hr0 hr1 d1 hm hm' (Or.inr rfl)
  · have e0 : 0 ≤ n := by omega
    have hr0 : 0 ≤ n % d := Int.emod_nonneg _ (by omega)
    have hr1 : n % d < d := Int.emod_lt_of_pos _ (by omega)
    have hq0 : 0 ≤ n / d := Int.ediv_nonneg e0 (by omega)
    have hq1 : n / d ≤ n := Int.ediv_le_self _ e0
    refine ⟨1 * rnd (n / d) (n % d) d m, fun k => ⟨?_, ?_⟩⟩
    · unfold spec_l2Round.f
      rw [if_neg hn]
      exact round_spec n d m 1 k e0 h1 d0 d1 hm hm' (Or.inl rfl)
    · unfold impl_rounded.f
      rw [if_neg (by omega), tmd d e0, tdv d e0, size__ _ (by omega) (by omega)]
      simp only [Option.bind_some]
      rw [if_neg hn, show ((n % d).natAbs : Int) = n % d by omega, w64 (x := n / d) (by omega) (by omega)]
      have := round_impl (n / d) (n % d) d m 1 k hq0 (by omega) hr0 hr1 d1 hm hm' (Or.inl rfl)
      rw [Int.one_mul] at this
      exact this
theorem FnExactScaleAmount (x a b m : Int) (hx : (Lit.int .i64 x).wf = true) (ha : (Lit.int .i64 a).wf = true) (hb : (Lit.int .i64 b).wf = true) (hm : (Lit.int .i64 m).wf = true) : ∃ k, laws_FnExactScaleAmount.f k x a b m = some true := by
  have wa := wfb ha
  obtain ⟨f, hf, hfb⟩ := isFrac_both a b wa.1 wa.2
  refine ⟨1000000003, ?_⟩
  unfold laws_FnExactScaleAmount.f laws_toFraction.f spec_ScaleAmount.f impl_ScaleAmount.f impl_isMode.f
  simp only [Option.bind_some, (hf 1000000003 (by omega)).1, (hf 1000000003 (by omega)).2, isAmount__, l2Amount__, within__, l1In__]
  by_cases h1 : decide (-1000000000 ≤ x ∧ x ≤ 1000000000) = true
  case neg => simp [h1, spec_ScaleAmount.j0, impl_ScaleAmount.j0]
  cases f with
  | false => simp [h1, spec_ScaleAmount.j0, impl_ScaleAmount.j0]
  | true =>
    by_cases h2 : decide (1 ≤ m ∧ m ≤ 4) = true
    case neg => simp [h1, h2, spec_ScaleAmount.j0, impl_ScaleAmount.j0]
    have a1 := of_decide_eq_true h1
    have a2 := of_decide_eq_true h2
    obtain ⟨b0, b1, n0, n1, _⟩ := hfb rfl
    have hb : -(1000000000 * 1000000000) ≤ x * a ∧ x * a ≤ 1000000000 * 1000000000 := by
      by_cases hz : 0 ≤ a
      · exact mul_bd a1.1 a1.2 hz n1 (by omega)
      · have := mul_bd (a := x) (b := -a) a1.1 a1.2 (by omega) (N := 1000000000) (by omega) (by omega)
        rw [Int.mul_neg] at this; omega
    obtain ⟨r, hr⟩ := round_both (x * a) b m (by omega) (by omega) b0 b1 a2.1 a2.2
    have r1 := hr 1000000001
    simp only [h1, h2, if_true, Bool.not_true, spec_ScaleAmount.j0, impl_ScaleAmount.j0, Bool.false_eq_true, if_false]
    rw [w64 (x := x * a) (by omega) (by omega), r1.1, r1.2]
    simp only [Option.bind_some]
    rw [isAmount__, l2Amount__]
    simp only [Option.bind_some]
    split <;> simp

end Go.Proofs.Ytjdnongcefddiaa.Pure
