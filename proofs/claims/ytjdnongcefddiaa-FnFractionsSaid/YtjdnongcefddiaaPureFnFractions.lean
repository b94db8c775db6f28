/- Addition and multiplication of fractions are commutative, multiplication distributes over addition, and the order agrees with differences; no condition. -/
import Derived.Test.YtjdnongcefddiaaQFnFractionsx6
namespace Go.Proofs.Ytjdnongcefddiaa.Pure
open Go.RowKit Go.Proofs.Ytjdnongcefddiaa.QFnFractions Go.Proofs.YtjdnongcefddiaaW.PrintWords Go.Proofs.YtjdnongcefddiaaW.PrintLast Go.Proofs.YtjdnongcefddiaaW.PrintMore
set_option linter.unusedVariables false
set_option linter.unusedSimpArgs false

theorem w64 {x : Int} (h : -9223372036854775808 ≤ x) (h' : x ≤ 9223372036854775807) : wrap64 x = x := by unfold wrap64; omega
theorem tdv {x : Int} (n : Int) (h : 0 ≤ x) : Int.tdiv x n = x / n := Int.tdiv_eq_ediv_of_nonneg h
theorem tmd {x : Int} (n : Int) (h : 0 ≤ x) : Int.tmod x n = x % n := Int.tmod_eq_emod_of_nonneg h
theorem wfb {a : Int} (h : (Lit.int .i64 a).wf = true) : -9223372036854775808 ≤ a ∧ a ≤ 9223372036854775807 := by
  simp [Lit.wf, IntKind.min, IntKind.max, IntKind.signed, IntKind.bits] at h
  omega
theorem within_ {x a b : Int} : (if x ≥ a then some (decide (x ≤ b)) else some false) = some (decide (a ≤ x ∧ x ≤ b)) := by
  by_cases h : x ≥ a
  · rw [if_pos h]; congr 1; simp; omega
  · rw [if_neg h]; congr 1; simp; omega

theorem mul_bd {a b M N : Int} (h1 : -M ≤ a) (h2 : a ≤ M) (h3 : 0 ≤ b) (h4 : b ≤ N) (hM : 0 ≤ M) : -(M * N) ≤ a * b ∧ a * b ≤ M * N := by
  have e1 : a * b ≤ M * b := Int.mul_le_mul_of_nonneg_right h2 h3
  have e2 : M * b ≤ M * N := Int.mul_le_mul_of_nonneg_left h4 hM
  have e3 : -M * b ≤ a * b := Int.mul_le_mul_of_nonneg_right h1 h3
  rw [Int.neg_mul] at e3
  omega
theorem within__ (x a b : Int) : impl_within.f x a b = some (decide (a ≤ x ∧ x ≤ b)) := by unfold impl_within.f; exact within_
theorem l1In__ (x a b : Int) : spec_l1In.f x a b = some (decide (a ≤ x ∧ x ≤ b)) := by unfold spec_l1In.f; exact within_
theorem isAmount__ (x : Int) : impl_isAmount.f x = some (decide (-1000000000 ≤ x ∧ x ≤ 1000000000)) := by unfold impl_isAmount.f; rw [within__]; rfl
theorem l2Amount__ (x : Int) : spec_l2Amount.f x = some (decide (-1000000000 ≤ x ∧ x ≤ 1000000000)) := by unfold spec_l2Amount.f; rw [l1In__]; rfl
theorem size__ (x : Int) (h : -9223372036854775807 ≤ x) (h' : x ≤ 9223372036854775807) : impl_size.f x = some (x.natAbs : Int) := by
  unfold impl_size.f mx; rw [w64 (by omega) (by omega)]; congr 1; split <;> omega
theorem abs__ (x : Int) (h : -9223372036854775807 ≤ x) (h' : x ≤ 9223372036854775807) : spec_l2Abs.f x = some (x.natAbs : Int) := by
  unfold spec_l2Abs.f; split
  · rw [w64 (by omega) (by omega)]; congr 1; omega
  · congr 1; omega
theorem gcd_step (a b : Nat) : Nat.gcd b (a % b) = Nat.gcd a b := by
  rw [Nat.gcd_comm a b, Nat.gcd_rec b a, Nat.gcd_comm]
theorem gcd_spec (b : Nat) : ∀ (a k : Nat), b < k → spec_l2Gcd.f k (a : Int) (b : Int) = some ((Nat.gcd a b : Nat) : Int) := by
  induction b using Nat.strongRecOn with
  | ind b ih =>
    intro a k hk
    obtain ⟨k, rfl⟩ : ∃ j, k = j + 1 := ⟨k - 1, by omega⟩
    simp only [spec_l2Gcd.f, spec_l2Gcd.l0]
    by_cases hb : b = 0
    · subst hb; simp
    · rw [if_neg (by omega)]
      have hlt : a % b < b := Nat.mod_lt _ (by omega)
      have := ih (a % b) hlt b k (by omega)
      unfold spec_l2Gcd.f at this
      rw [gcd_step] at this
      rw [← this]; congr 1
theorem gcd_impl (n : Nat) : ∀ (a b : Int) (k : Nat), b.natAbs = n → n < k → -9223372036854775807 ≤ a → a ≤ 9223372036854775807 → -9223372036854775807 ≤ b → b ≤ 9223372036854775807 → impl_divisor.f k a b = some ((Nat.gcd a.natAbs b.natAbs : Nat) : Int) := by
  induction n using Nat.strongRecOn with
  | ind n ih =>
    intro a b k hb hk a1 a2 b1 b2
    obtain ⟨k, rfl⟩ : ∃ j, k = j + 1 := ⟨k - 1, by omega⟩
    simp only [impl_divisor.f, impl_divisor.l0]
    by_cases h0 : b = 0
    · subst h0; rw [if_pos rfl, size__ a a1 a2]; simp
    · rw [if_neg h0]
      have hm : (Int.tmod a b).natAbs = a.natAbs % b.natAbs := Int.natAbs_tmod a b
      have hlt : a.natAbs % b.natAbs < b.natAbs := Nat.mod_lt _ (by omega)
      have := ih (a.natAbs % b.natAbs) (by omega) b (Int.tmod a b) k hm (by omega) b1 b2 (by omega) (by omega)
      unfold impl_divisor.f at this
      rw [hm, gcd_step] at this
      exact this
theorem isFrac_both (n d : Int) (hn : -9223372036854775808 ≤ n) (hn' : n ≤ 9223372036854775807) : ∃ b, (∀ k, 1000000001 ≤ k → spec_l2Fraction.f k n d = some b ∧ impl_isFraction.f k n d = some b) ∧ (b = true → 1 ≤ d ∧ d ≤ 1000000000 ∧ -1000000000 ≤ n ∧ n ≤ 1000000000 ∧ Nat.gcd n.natAbs d.natAbs = 1) := by
  unfold spec_l2Fraction.f impl_isFraction.f
  simp only [l1In__, within__, isAmount__, l2Amount__, Option.bind_some]
  by_cases h1 : decide (1 ≤ d ∧ d ≤ 1000000000) = true
  case neg => exact ⟨false, fun k _ => by simp [h1], by simp⟩
  by_cases h2 : decide (-1000000000 ≤ n ∧ n ≤ 1000000000) = true
  case neg => exact ⟨false, fun k _ => by simp [h1, h2], by simp⟩
  have a1 := of_decide_eq_true h1
  have a2 := of_decide_eq_true h2
  refine ⟨((Nat.gcd n.natAbs d.natAbs : Nat) : Int) == 1, fun k hk => ⟨?_, ?_⟩, fun h => ⟨a1.1, a1.2, a2.1, a2.2, ?_⟩⟩
  · rw [if_pos h1, if_pos h2, abs__ n (by omega) (by omega)]
    simp only [Option.bind_some]
    have := gcd_spec d.natAbs n.natAbs k (by omega)
    rw [show (d.natAbs : Int) = d by omega] at this
    rw [this]; rfl
  · rw [if_pos h1, if_pos h2, gcd_impl d.natAbs n d k rfl (by omega) (by omega) (by omega) (by omega) (by omega)]; rfl
  · have := beq_iff_eq.mp h; omega

theorem tdiv_bd (n : Int) (g : Nat) (hg : 0 < g) (h : -9223372036854775807 ≤ n) (h' : n ≤ 9223372036854775807) : -9223372036854775807 ≤ Int.tdiv n g ∧ Int.tdiv n g ≤ 9223372036854775807 := by
  have : (Int.tdiv n g).natAbs = n.natAbs / g := by rw [Int.natAbs_tdiv]; rfl
  have := Nat.div_le_self n.natAbs g
  omega
theorem frac_both (n d : Int) (hn : -9223372036854775807 ≤ n) (hn' : n ≤ 9223372036854775807) (hd : -9223372036854775807 ≤ d) (hd' : d ≤ 9223372036854775807) (h0 : d ≠ 0) :
    ∃ r, ∀ k, 9223372036854775810 ≤ k → spec_l2Reduce.f k n d = some r ∧ impl_fraction.f k n d = some r := by
  have hG : 0 < Nat.gcd n.natAbs d.natAbs := Nat.gcd_pos_of_pos_right _ (by omega)
  generalize hg : Nat.gcd n.natAbs d.natAbs = g at hG
  have hgd : g ≤ d.natAbs := by rw [← hg]; exact Nat.gcd_le_right _ (by omega)
  have core : ∀ n d : Int, -9223372036854775807 ≤ n → n ≤ 9223372036854775807 → 0 < d → d ≤ 9223372036854775807 → Nat.gcd n.natAbs d.natAbs = g → ∃ b, (∀ k, 1000000001 ≤ k → spec_l2Fraction.f k (Int.tdiv n g) (Int.tdiv d g) = some b ∧ impl_isFraction.f k (Int.tdiv n g) (Int.tdiv d g) = some b) ∧
      ∀ k, 9223372036854775809 ≤ k → spec_l2Reduce.j0 k n d = some (if b = true then (Int.tdiv n g, Int.tdiv d g, true) else (0, 0, false)) := by
    intro n d h1 h2 h3 h4 hg
    have t1 := tdiv_bd n g hG h1 h2
    have t2 := tdiv_bd d g hG (by omega) h4
    obtain ⟨b, hb, _⟩ := isFrac_both (Int.tdiv n g) (Int.tdiv d g) (by omega) (by omega)
    refine ⟨b, hb, fun k hk => ?_⟩
    obtain ⟨k, rfl⟩ : ∃ j, k = j + 1 := ⟨k - 1, by omega⟩
    simp only [spec_l2Reduce.j0]
    have := gcd_spec d.natAbs n.natAbs k (by omega)
    rw [show (d.natAbs : Int) = d by omega, hg] at this
    rw [abs__ n h1 h2]
    simp only [Option.bind_some]
    rw [this]
    simp only [Option.bind_some]
    rw [if_neg (by omega), w64 (by omega) (by omega), w64 (by omega) (by omega), (hb k (by omega)).1]
    simp only [Option.bind_some]
    cases b <;> simp
  by_cases hs : d < 0
  · obtain ⟨b, hb, hj⟩ := core (-n) (-d) (by omega) (by omega) (by omega) (by omega) (by rw [Int.natAbs_neg, Int.natAbs_neg]; exact hg)
    refine ⟨if b = true then (Int.tdiv (-n) g, Int.tdiv (-d) g, true) else (0, 0, false), fun k hk => ⟨?_, ?_⟩⟩
    · unfold spec_l2Reduce.f
      rw [if_pos hs, w64 (by omega) (by omega), w64 (by omega) (by omega)]
      exact hj k (by omega)
    · unfold impl_fraction.f
      rw [gcd_impl d.natAbs n d k rfl (by omega) hn hn' hd hd', hg]
      simp only [Option.bind_some]
      have t1 := tdiv_bd (-n) g hG (by omega) (by omega)
      have t2 := tdiv_bd (-d) g hG (by omega) (by omega)
      have e1 : Int.tdiv n (-(g : Int)) = Int.tdiv (-n) g := by rw [Int.tdiv_neg, Int.neg_tdiv]
      have e2 : Int.tdiv d (-(g : Int)) = Int.tdiv (-d) g := by rw [Int.tdiv_neg, Int.neg_tdiv]
      rw [if_pos hs, w64 (x := -(g : Int)) (by omega) (by omega), if_neg (by omega), e1, e2, w64 (by omega) (by omega), w64 (by omega) (by omega), (hb k (by omega)).2]
      simp only [Option.bind_some]
      cases b <;> simp
  · obtain ⟨b, hb, hj⟩ := core n d hn hn' (by omega) hd' hg
    refine ⟨if b = true then (Int.tdiv n g, Int.tdiv d g, true) else (0, 0, false), fun k hk => ⟨?_, ?_⟩⟩
    · unfold spec_l2Reduce.f
      rw [if_neg hs]
      exact hj k (by omega)
    · unfold impl_fraction.f
      rw [gcd_impl d.natAbs n d k rfl (by omega) hn hn' hd hd', hg]
      simp only [Option.bind_some]
      have t1 := tdiv_bd n g hG hn hn'
      have t2 := tdiv_bd d g hG hd hd'
      rw [if_neg hs, if_neg (by omega), w64 (by omega) (by omega), w64 (by omega) (by omega), (hb k (by omega)).2]
      simp only [Option.bind_some]
      cases b <;> simp

theorem u64_rng (n : Int) : 0 ≤ IntKind.u64.wrap n ∧ IntKind.u64.wrap n < 18446744073709551616 := by
  simp [IntKind.wrap, IntKind.bits, IntKind.signed]; omega
theorem u64_id (n : Int) (h0 : 0 ≤ n) (h1 : n < 2 ^ 24) : IntKind.u64.wrap n = n := by
  simp [IntKind.wrap, IntKind.bits, IntKind.signed]; omega
theorem seed_byte (n : Int) : 0 ≤ Go.bits .and .u64 (IntKind.u64.wrap n / 1099511627776) 255 ∧ Go.bits .and .u64 (IntKind.u64.wrap n / 1099511627776) 255 < 256 := by
  have h := u64_rng n
  have e := bits_mask .u64 24 (by decide) u64_id 8 (by decide) (IntKind.u64.wrap n / 1099511627776) (by omega) (by omega)
  rw [show ((2 : Int) ^ 8 - 1) = 255 from rfl, show ((2 : Int) ^ 8) = 256 from rfl] at e
  rw [e]
  omega
theorem rd_u8 (l : List Int) (hl : ∀ x ∈ l, (Lit.int .u8 x).wf = true) (i : Int) (h0 : 0 ≤ i) (h : i < l.length) : 0 ≤ rd l i ∧ rd l i < 256 := by
  have hm : rd l i ∈ l := by
    unfold rd
    have : i.toNat < l.length := by omega
    rw [List.getD_eq_getElem?_getD, List.getElem?_eq_getElem this]
    simp
  have := hl _ hm
  simp [Lit.wf, IntKind.min, IntKind.max, IntKind.signed, IntKind.bits] at this
  omega
/-- A cursor's reading: where it stands stays small. -/
theorem next_ (l : List Int) (hl : ∀ x ∈ l, (Lit.int .u8 x).wf = true) (a s : Int) (h0 : 0 ≤ a) (h1 : a ≤ 4000000000000000000) :
    ∃ b s', spec_l1Cur_next.f l a s = some (b, a + 1, s') ∧ 0 ≤ b ∧ b < 256 := by
  unfold spec_l1Cur_next.f
  rw [w64 (x := a + 1) (by omega) (by omega)]
  by_cases h : a < (l.length : Int)
  · have hr := rd_u8 l hl a h0 h
    rw [if_pos h, if_pos h0, if_pos (by omega), w64 (x := rd l a) (by omega) (by omega)]
    exact ⟨_, _, rfl, hr.1, hr.2⟩
  · rw [if_neg h, if_neg (by omega)]
    have hb := seed_byte ((IntKind.u64.wrap ((IntKind.u64.wrap (s * 6364136223846793005)) + 0)) + 902902)
    rw [w64 (by omega) (by omega)]
    exact ⟨_, _, rfl, hb.1, hb.2⟩
theorem pick_ (l : List Int) (hl : ∀ x ∈ l, (Lit.int .u8 x).wf = true) (a s : Int) (h0 : 0 ≤ a) (h1 : a ≤ 3000000000000000000) (n : Int) (hn : n ≤ 1000000) :
    ∃ r a' s', spec_l1Cur_pick.f l a s n = some (r, a', s') ∧ 0 ≤ r ∧ (r < n ∨ r = 0) ∧ a ≤ a' ∧ a' ≤ a + 2 := by
  unfold spec_l1Cur_pick.f
  by_cases h : n ≤ 1
  · rw [if_pos h]; exact ⟨_, _, _, rfl, by omega, Or.inr rfl, by omega, by omega⟩
  · rw [if_neg h]
    obtain ⟨b, s1, e1, hb, hb'⟩ := next_ l hl a s h0 (by omega)
    rw [e1]
    simp only [Option.bind_some]
    by_cases hg : n > 200
    · rw [if_pos hg]
      obtain ⟨b2, s2, e2, hc, hc'⟩ := next_ l hl (a + 1) s1 (by omega) (by omega)
      rw [e2]
      simp only [Option.bind_some]
      rw [if_neg (by omega), w64 (x := b * 256) (by omega) (by omega), w64 (x := b * 256 + b2) (by omega) (by omega), tmd n (by omega)]
      have m1 := Int.emod_nonneg (b * 256 + b2) (show n ≠ 0 by omega)
      have m2 := Int.emod_lt_of_pos (b * 256 + b2) (show 0 < n by omega)
      exact ⟨_, _, _, rfl, m1, Or.inl m2, by omega, by omega⟩
    · rw [if_neg hg, if_neg (by omega), tmd n (by omega)]
      have m1 := Int.emod_nonneg b (show n ≠ 0 by omega)
      have m2 := Int.emod_lt_of_pos b (show 0 < n by omega)
      exact ⟨_, _, _, rfl, m1, Or.inl m2, by omega, by omega⟩
theorem among_ (l : List Int) (hl : ∀ x ∈ l, (Lit.int .u8 x).wf = true) (a s : Int) (h0 : 0 ≤ a) (h1 : a ≤ 3000000000000000000) (xs : List Int) (hx : xs ≠ []) (hn : xs.length ≤ 1000000) :
    ∃ r a' s', spec_l1Cur_among.f l a s xs = some (r, a', s') ∧ r ∈ xs ∧ a ≤ a' ∧ a' ≤ a + 2 := by
  unfold spec_l1Cur_among.f
  have hp : 0 < xs.length := List.length_pos_iff.2 hx
  obtain ⟨r, a', s', e, r0, r1, a0, a1⟩ := pick_ l hl a s h0 h1 (xs.length : Int) (by omega)
  rw [e]
  simp only [Option.bind_some]
  rw [if_pos r0, if_pos (by omega)]
  refine ⟨_, _, _, rfl, ?_, a0, a1⟩
  unfold rd
  have : r.toNat < xs.length := by omega
  rw [List.getD_eq_getElem?_getD, List.getElem?_eq_getElem this]
  simp

theorem cmp_ (a b : Int) : cmp_Compare_int.f a b = some (if a < b then -1 else if a > b then 1 else 0) := by
  unfold cmp_Compare_int.f cmp_isNaN_int.f
  simp only [bne_self_eq_false, Option.bind_some]
  simp only [Bool.false_eq_true, if_false]
  split
  · rfl
  · split <;> rfl

/-- A fraction in lowest terms, within the bounds. -/
def Fr (n d : Int) : Prop := 1 ≤ d ∧ d ≤ 1000000000 ∧ -1000000000 ≤ n ∧ n ≤ 1000000000 ∧ Nat.gcd n.natAbs d.natAbs = 1
theorem fr_eq {n d m e : Int} (h : Fr n d) (h' : Fr m e) (he : n * e = m * d) : n = m ∧ d = e := by
  obtain ⟨d0, _, _, _, g⟩ := h
  obtain ⟨e0, _, _, _, g'⟩ := h'
  have ha : n.natAbs * e.natAbs = m.natAbs * d.natAbs := by rw [← Int.natAbs_mul, ← Int.natAbs_mul, he]
  have h1 : d.natAbs ∣ e.natAbs := Nat.Coprime.dvd_of_dvd_mul_left (k := d.natAbs) (m := n.natAbs) (by rw [Nat.coprime_comm]; exact g) ⟨m.natAbs, by rw [ha, Nat.mul_comm]⟩
  have h2 : e.natAbs ∣ d.natAbs := Nat.Coprime.dvd_of_dvd_mul_left (k := e.natAbs) (m := m.natAbs) (by rw [Nat.coprime_comm]; exact g') ⟨n.natAbs, by rw [← ha, Nat.mul_comm]⟩
  have h3 : d.natAbs = e.natAbs := Nat.dvd_antisymm h1 h2
  have h4 : d = e := by omega
  subst h4
  exact ⟨Int.eq_of_mul_eq_mul_right (by omega) he, rfl⟩
theorem frac_ (n d : Int) (hn : -9223372036854775807 ≤ n) (hn' : n ≤ 9223372036854775807) (hd : 0 < d) (hd' : d ≤ 9223372036854775807) :
    ∃ N D ok, (∀ k, 9223372036854775810 ≤ k → spec_l2Reduce.f k n d = some (N, D, ok) ∧ impl_fraction.f k n d = some (N, D, ok)) ∧
      ((ok = true ∧ Fr N D ∧ N * d = n * D) ∨ (ok = false ∧ N = 0 ∧ D = 0)) := by
  obtain ⟨r, hr⟩ := frac_both n d hn hn' (by omega) hd' (by omega)
  have hG : 0 < Nat.gcd n.natAbs d.natAbs := Nat.gcd_pos_of_pos_right _ (by omega)
  have gn : ((Nat.gcd n.natAbs d.natAbs : Nat) : Int) ∣ n := Int.ofNat_dvd_left.2 (Nat.gcd_dvd_left _ _)
  have gd : ((Nat.gcd n.natAbs d.natAbs : Nat) : Int) ∣ d := Int.ofNat_dvd_left.2 (Nat.gcd_dvd_right _ _)
  have hi : ∀ k, 9223372036854775810 ≤ k → impl_divisor.f k n d = some ((Nat.gcd n.natAbs d.natAbs : Nat) : Int) := fun k hk => gcd_impl d.natAbs n d k rfl (by omega) hn hn' (by omega) hd'
  have hgd : Nat.gcd n.natAbs d.natAbs ≤ d.natAbs := Nat.gcd_le_right _ (by omega)
  generalize hg : Nat.gcd n.natAbs d.natAbs = g at hG gn gd hi hgd
  have t1 := tdiv_bd n g hG hn hn'
  have t2 := tdiv_bd d g hG (by omega) hd'
  obtain ⟨b, hb, hbt⟩ := isFrac_both (Int.tdiv n g) (Int.tdiv d g) (by omega) (by omega)
  have hf : ∀ k, 9223372036854775810 ≤ k → impl_fraction.f k n d = some (if b = true then (Int.tdiv n g, Int.tdiv d g, true) else (0, 0, false)) := by
    intro k hk
    unfold impl_fraction.f
    rw [hi k hk]
    simp only [Option.bind_some]
    rw [if_neg (by omega), if_neg (by omega), w64 (by omega) (by omega), w64 (by omega) (by omega), (hb k (by omega)).2]
    simp only [Option.bind_some]
    cases b <;> simp
  have hrr : ∀ k, 9223372036854775810 ≤ k → r = (if b = true then (Int.tdiv n g, Int.tdiv d g, true) else (0, 0, false)) := fun k hk => Option.some.inj ((hr k hk).2.symm.trans (hf k hk))
  refine ⟨r.1, r.2.1, r.2.2, fun k hk => hr k hk, ?_⟩
  rw [hrr 9223372036854775810 (Nat.le_refl _)]
  cases b with
  | false => exact Or.inr ⟨rfl, rfl, rfl⟩
  | true =>
    refine Or.inl ⟨rfl, hbt rfl, ?_⟩
    show Int.tdiv n g * d = n * Int.tdiv d g
    have e1 : Int.tdiv n g * g = n := Int.tdiv_mul_cancel gn
    have e2 : Int.tdiv d g * g = d := Int.tdiv_mul_cancel gd
    calc Int.tdiv n g * d = Int.tdiv n g * (Int.tdiv d g * g) := by rw [e2]
      _ = (Int.tdiv n g * g) * Int.tdiv d g := by ac_rfl
      _ = n * Int.tdiv d g := by rw [e1]
theorem add_ (a b c d : Int) (ha : -9223372036854775808 ≤ a ∧ a ≤ 9223372036854775807) (hc : -9223372036854775808 ≤ c ∧ c ≤ 9223372036854775807) :
    ∃ N D ok, (∀ k, 9223372036854775810 ≤ k → impl_AddFractions.f k a b c d = some (N, D, ok) ∧ spec_AddFractions.f k a b c d = some (N, D, ok) ∧ impl_AddFractions.f k c d a b = some (N, D, ok)) ∧
      ((ok = true ∧ Fr a b ∧ Fr c d ∧ Fr N D ∧ N * (b * d) = (a * d + c * b) * D) ∨ (ok = false ∧ N = 0 ∧ D = 0)) := by
  obtain ⟨x, hx, hxb⟩ := isFrac_both a b ha.1 ha.2
  obtain ⟨y, hy, hyb⟩ := isFrac_both c d hc.1 hc.2
  have hno : ¬ (x = true ∧ y = true) → ∃ N D ok, (∀ k, 9223372036854775810 ≤ k → impl_AddFractions.f k a b c d = some (N, D, ok) ∧ spec_AddFractions.f k a b c d = some (N, D, ok) ∧ impl_AddFractions.f k c d a b = some (N, D, ok)) ∧
      ((ok = true ∧ Fr a b ∧ Fr c d ∧ Fr N D ∧ N * (b * d) = (a * d + c * b) * D) ∨ (ok = false ∧ N = 0 ∧ D = 0)) := by
    intro hn
    refine ⟨0, 0, false, fun k hk => ?_, Or.inr ⟨rfl, rfl, rfl⟩⟩
    unfold impl_AddFractions.f spec_AddFractions.f
    rw [(hx k (by omega)).1, (hx k (by omega)).2, (hy k (by omega)).1, (hy k (by omega)).2]
    simp only [Option.bind_some]
    cases x <;> cases y <;> simp at hn ⊢
  by_cases hxy : x = true ∧ y = true
  case neg => exact hno hxy
  obtain ⟨rfl, rfl⟩ := hxy
  obtain ⟨b0, b1, a0, a1, ga⟩ := hxb rfl
  obtain ⟨d0, d1, c0, c1, gc⟩ := hyb rfl
  have e1 := mul_bd (a := a) (b := d) (M := 1000000000) (N := 1000000000) (by omega) (by omega) (by omega) (by omega) (by omega)
  have e2 := mul_bd (a := c) (b := b) (M := 1000000000) (N := 1000000000) (by omega) (by omega) (by omega) (by omega) (by omega)
  have e3 := mul_bd (a := b) (b := d) (M := 1000000000) (N := 1000000000) (by omega) (by omega) (by omega) (by omega) (by omega)
  have e4 : 0 < b * d := Int.mul_pos (by omega) (by omega)
  obtain ⟨N, D, ok, hr, hp⟩ := frac_ (a * d + c * b) (b * d) (by omega) (by omega) (by omega) (by omega)
  refine ⟨N, D, ok, fun k hk => ?_, ?_⟩
  · unfold impl_AddFractions.f spec_AddFractions.f
    rw [(hx k (by omega)).1, (hx k (by omega)).2, (hy k (by omega)).1, (hy k (by omega)).2]
    simp only [Option.bind_some, if_true]
    rw [w64 (x := a * d) (by omega) (by omega), w64 (x := c * b) (by omega) (by omega), Int.add_comm (c * b) (a * d), Int.mul_comm d b, w64 (x := a * d + c * b) (by omega) (by omega), w64 (x := b * d) (by omega) (by omega), (hr k hk).1, (hr k hk).2]
    exact ⟨rfl, rfl, rfl⟩
  · rcases hp with ⟨h1, h2, h3⟩ | h
    · exact Or.inl ⟨h1, ⟨b0, b1, a0, a1, ga⟩, ⟨d0, d1, c0, c1, gc⟩, h2, h3⟩
    · exact Or.inr h
theorem mul_ (a b c d : Int) (ha : -9223372036854775808 ≤ a ∧ a ≤ 9223372036854775807) (hc : -9223372036854775808 ≤ c ∧ c ≤ 9223372036854775807) :
    ∃ N D ok, (∀ k, 9223372036854775810 ≤ k → impl_MultiplyFractions.f k a b c d = some (N, D, ok)) ∧
      ((ok = true ∧ Fr a b ∧ Fr c d ∧ Fr N D ∧ N * (b * d) = (a * c) * D) ∨ (ok = false ∧ N = 0 ∧ D = 0)) := by
  obtain ⟨x, hx, hxb⟩ := isFrac_both a b ha.1 ha.2
  obtain ⟨y, hy, hyb⟩ := isFrac_both c d hc.1 hc.2
  by_cases hxy : x = true ∧ y = true
  case neg =>
    refine ⟨0, 0, false, fun k hk => ?_, Or.inr ⟨rfl, rfl, rfl⟩⟩
    unfold impl_MultiplyFractions.f
    rw [(hx k (by omega)).2, (hy k (by omega)).2]
    simp only [Option.bind_some]
    cases x <;> cases y <;> simp at hxy ⊢
  obtain ⟨rfl, rfl⟩ := hxy
  obtain ⟨b0, b1, a0, a1, ga⟩ := hxb rfl
  obtain ⟨d0, d1, c0, c1, gc⟩ := hyb rfl
  have e3 := mul_bd (a := b) (b := d) (M := 1000000000) (N := 1000000000) (by omega) (by omega) (by omega) (by omega) (by omega)
  have e4 : 0 < b * d := Int.mul_pos (by omega) (by omega)
  have e5 : -(1000000000 * 1000000000) ≤ a * c ∧ a * c ≤ 1000000000 * 1000000000 := by
    by_cases hz : 0 ≤ c
    · exact mul_bd (by omega) (by omega) hz (by omega) (by omega)
    · have := mul_bd (a := a) (b := -c) (M := 1000000000) (N := 1000000000) (by omega) (by omega) (by omega) (by omega) (by omega)
      rw [Int.mul_neg] at this; omega
  obtain ⟨N, D, ok, hr, hp⟩ := frac_ (a * c) (b * d) (by omega) (by omega) (by omega) (by omega)
  refine ⟨N, D, ok, fun k hk => ?_, ?_⟩
  · unfold impl_MultiplyFractions.f
    rw [(hx k (by omega)).2, (hy k (by omega)).2]
    simp only [Option.bind_some, if_true]
    rw [w64 (x := a * c) (by omega) (by omega), w64 (x := b * d) (by omega) (by omega), (hr k hk).2]
    rfl
  · rcases hp with ⟨h1, h2, h3⟩ | h
    · exact Or.inl ⟨h1, ⟨b0, b1, a0, a1, ga⟩, ⟨d0, d1, c0, c1, gc⟩, h2, h3⟩
    · exact Or.inr h
theorem comp_ (a b c d : Int) (ha : -9223372036854775808 ≤ a ∧ a ≤ 9223372036854775807) (hc : -9223372036854775808 ≤ c ∧ c ≤ 9223372036854775807) :
    ∃ x ok, (∀ k, 9223372036854775810 ≤ k → impl_CompareFractions.f k a b c d = some (x, ok)) ∧
      (ok = true → Fr a b ∧ Fr c d ∧ x = (if a * d < c * b then -1 else if a * d > c * b then 1 else 0)) := by
  obtain ⟨x, hx, hxb⟩ := isFrac_both a b ha.1 ha.2
  obtain ⟨y, hy, hyb⟩ := isFrac_both c d hc.1 hc.2
  by_cases hxy : x = true ∧ y = true
  case neg =>
    refine ⟨0, false, fun k hk => ?_, by simp⟩
    unfold impl_CompareFractions.f
    rw [(hx k (by omega)).2, (hy k (by omega)).2]
    simp only [Option.bind_some]
    cases x <;> cases y <;> simp at hxy ⊢
  obtain ⟨rfl, rfl⟩ := hxy
  obtain ⟨b0, b1, a0, a1, ga⟩ := hxb rfl
  obtain ⟨d0, d1, c0, c1, gc⟩ := hyb rfl
  have e1 := mul_bd (a := a) (b := d) (M := 1000000000) (N := 1000000000) (by omega) (by omega) (by omega) (by omega) (by omega)
  have e2 := mul_bd (a := c) (b := b) (M := 1000000000) (N := 1000000000) (by omega) (by omega) (by omega) (by omega) (by omega)
  refine ⟨_, true, fun k hk => ?_, fun _ => ⟨⟨b0, b1, a0, a1, ga⟩, ⟨d0, d1, c0, c1, gc⟩, rfl⟩⟩
  unfold impl_CompareFractions.f
  rw [(hx k (by omega)).2, (hy k (by omega)).2]
  simp only [Option.bind_some, if_true]
  rw [cmp_, w64 (x := a * d) (by omega) (by omega), w64 (x := c * b) (by omega) (by omega)]
  rfl

theorem fraction_ (l : List Int) (hl : ∀ x ∈ l, (Lit.int .u8 x).wf = true) (a s : Int) (h0 : 0 ≤ a) (h1 : a ≤ 2000000000000000000) (k : Nat) (hk : 9223372036854775810 ≤ k) :
    ∃ n d a' s', spec_l1Cur_fraction.f k l a s = some (n, d, a', s') ∧ -1000000001 ≤ n ∧ n ≤ 1000000001 ∧ a ≤ a' ∧ a' ≤ a + 4 := by
  unfold spec_l1Cur_fraction.f
  obtain ⟨r, a1, s1, e, r0, r1, b0, b1⟩ := pick_ l hl a s h0 (by omega) 19 (by omega)
  rw [e]
  simp only [Option.bind_some]
  obtain ⟨q, a2, s2, e2, q0, q1, c0, c1⟩ := pick_ l hl a1 s1 (by omega) (by omega) 12 (by omega)
  rw [e2]
  simp only [Option.bind_some]
  rw [w64 (x := r - 6) (by omega) (by omega), w64 (x := 1 + q) (by omega) (by omega)]
  obtain ⟨N, D, ok, hr, hp⟩ := frac_ (r - 6) (1 + q) (by omega) (by omega) (by omega) (by omega)
  rw [(hr k hk).1]
  refine ⟨_, _, _, _, rfl, ?_, ?_, by omega, by omega⟩
  · rcases hp with ⟨_, h, _⟩ | ⟨_, h, _⟩
    · have := h.2.2.1; show _ ≤ N; omega
    · show _ ≤ N; omega
  · rcases hp with ⟨_, h, _⟩ | ⟨_, h, _⟩
    · have := h.2.2.2.1; show N ≤ _; omega
    · show N ≤ _; omega
theorem anyFraction_ (l : List Int) (hl : ∀ x ∈ l, (Lit.int .u8 x).wf = true) (a s : Int) (h0 : 0 ≤ a) (h1 : a ≤ 1000000000000000000) (k : Nat) (hk : 9223372036854775810 ≤ k) :
    ∃ n d a' s', spec_l1Cur_anyFraction.f k l a s = some (n, d, a', s') ∧ -1000000001 ≤ n ∧ n ≤ 1000000001 ∧ a ≤ a' ∧ a' ≤ a + 6 := by
  unfold spec_l1Cur_anyFraction.f
  obtain ⟨r, a1, s1, e, r0, r1, b0, b1⟩ := pick_ l hl a s h0 (by omega) 16 (by omega)
  rw [e]
  simp only [Option.bind_some]
  by_cases c0 : r = 0
  · rw [if_pos c0]; exact ⟨_, _, _, _, rfl, by omega, by omega, by omega, by omega⟩
  rw [if_neg c0]
  by_cases c1 : r = 1
  · rw [if_pos c1]
    obtain ⟨x, a2, s2, e2, x0, x1, d0, d1⟩ := pick_ l hl a1 s1 (by omega) (by omega) 3 (by omega)
    rw [e2]
    simp only [Option.bind_some]
    obtain ⟨y, a3, s3, e3, hy, f0, f1⟩ := among_ l hl a2 s2 (by omega) (by omega) [0, (-1), 1000000000, 1000000001] (by simp) (by simp)
    rw [e3]
    exact ⟨_, _, _, _, rfl, by show _ ≤ x; omega, by show x ≤ _; omega, by show _ ≤ a3; omega, by show a3 ≤ _; omega⟩
  rw [if_neg c1]
  by_cases c2 : r = 2
  · rw [if_pos c2]
    obtain ⟨x, a2, s2, e2, hx, d0, d1⟩ := among_ l hl a1 s1 (by omega) (by omega) [999999999, (-999999999), 1000000001] (by simp) (by simp)
    rw [e2]
    simp only [Option.bind_some]
    obtain ⟨y, a3, s3, e3, hy, f0, f1⟩ := among_ l hl a2 s2 (by omega) (by omega) [1, 1000000000, 2] (by simp) (by simp)
    rw [e3]
    simp only [List.mem_cons, List.mem_nil_iff, or_false] at hx
    exact ⟨_, _, _, _, rfl, by show _ ≤ x; omega, by show x ≤ _; omega, by show _ ≤ a3; omega, by show a3 ≤ _; omega⟩
  rw [if_neg c2]
  obtain ⟨n, d, a2, s2, e2, n0, n1, d0, d1⟩ := fraction_ l hl a1 s1 (by omega) (by omega) k hk
  rw [e2]
  exact ⟨_, _, _, _, rfl, n0, n1, by show _ ≤ a2; omega, by show a2 ≤ _; omega⟩
theorem drawFr_ (l : List Int) (hl : ∀ x ∈ l, (Lit.int .u8 x).wf = true) (k : Nat) (hk : 9223372036854775810 ≤ k) :
    ∃ a b c d, spec_DrawAddFractions.f k l = some (a, b, c, d) ∧ (-9223372036854775808 ≤ a ∧ a ≤ 9223372036854775807) ∧ (-9223372036854775808 ≤ c ∧ c ≤ 9223372036854775807) := by
  unfold spec_DrawAddFractions.f
  obtain ⟨a, b, a1, s1, e1, a0, a0', d0, d1⟩ := anyFraction_ l hl 0 0 (by omega) (by omega) k hk
  rw [e1]
  simp only [Option.bind_some]
  obtain ⟨c, d, a2, s2, e2, c0, c0', f0, f1⟩ := anyFraction_ l hl a1 s1 (by omega) (by omega) k hk
  rw [e2]
  exact ⟨_, _, _, _, rfl, ⟨by omega, by omega⟩, ⟨by show _ ≤ c; omega, by show c ≤ _; omega⟩⟩
theorem u8wf (n : Int) (h0 : 0 ≤ n) (h1 : n < 256) : (Lit.int .u8 n).wf = true := by
  simp [Lit.wf, IntKind.min, IntKind.max, IntKind.signed, IntKind.bits]; omega
theorem vCut_ (l : List Int) (hl : ∀ x ∈ l, (Lit.int .u8 x).wf = true) (hn : l.length ≤ 65536) : ∃ l', laws_vCut.f l 9 = some l' ∧ ∀ x ∈ l', (Lit.int .u8 x).wf = true := by
  unfold laws_vCut.f
  by_cases h : (9 : Int) > (l.length : Int)
  · rw [if_pos h]
    simp only [Option.bind_some, List.nil_append, List.length_nil, List.length_drop]
    rw [if_pos (by omega), if_pos (by omega), if_pos (by omega)]
    refine ⟨_, rfl, fun x hx => ?_⟩
    rcases List.mem_append.1 hx with hx | hx
    · exact hl _ (List.mem_of_mem_drop hx)
    · rw [List.mem_singleton.1 hx]; exact u8wf _ (by omega) (by omega)
  · rw [if_neg h]
    simp only [Option.bind_some, List.nil_append, List.length_nil, List.length_drop]
    rw [if_pos (by omega), if_pos (by omega), if_pos (by omega), if_pos (by omega)]
    refine ⟨_, rfl, fun x hx => ?_⟩
    rcases List.mem_append.1 hx with hx | hx
    · exact hl _ (List.mem_of_mem_drop hx)
    · rw [List.mem_singleton.1 hx]; exact u8wf _ (by omega) (by omega)
theorem cancel_ {x y z : Int} (hz : 0 < z) (h : x * z = y * z) : x = y := Int.eq_of_mul_eq_mul_right (by omega) h
/-- Multiplication distributes over addition: the two ways end at one fraction. -/
theorem distr_ {a b c d e f sN sD pN pD qN qD rN rD uN uD : Int} (hab : Fr a b) (hcd : Fr c d) (hef : Fr e f) (hs : Fr sN sD) (hp : Fr pN pD) (hq : Fr qN qD) (hr : Fr rN rD) (hu : Fr uN uD)
    (Es : sN * (b * d) = (a * d + c * b) * sD) (Ep : pN * (b * f) = (a * e) * pD) (Eq : qN * (d * f) = (c * e) * qD) (Er : rN * (sD * f) = (sN * e) * rD) (Eu : uN * (pD * qD) = (pN * qD + qN * pD) * uD) : rN = uN ∧ rD = uD := by
  refine fr_eq hr hu ?_
  have b0 : 0 < b := hab.1
  have d0 : 0 < d := hcd.1
  have f0 : 0 < f := hef.1
  have s0 : 0 < sD := hs.1
  have p0 : 0 < pD := hp.1
  have q0 : 0 < qD := hq.1
  refine cancel_ (Int.mul_pos (Int.mul_pos (Int.mul_pos s0 f0) (Int.mul_pos b0 d0)) (Int.mul_pos p0 q0)) ?_
  have L : rN * uD * (sD * f * (b * d) * (pD * qD)) = (a * d + c * b) * e * (sD * rD * uD * (pD * qD)) := by
    calc rN * uD * (sD * f * (b * d) * (pD * qD)) = (rN * (sD * f)) * (uD * (b * d) * (pD * qD)) := by ac_rfl
      _ = (sN * e * rD) * (uD * (b * d) * (pD * qD)) := by rw [Er]
      _ = (sN * (b * d)) * (e * rD * uD * (pD * qD)) := by ac_rfl
      _ = ((a * d + c * b) * sD) * (e * rD * uD * (pD * qD)) := by rw [Es]
      _ = (a * d + c * b) * e * (sD * rD * uD * (pD * qD)) := by ac_rfl
  have M : (pN * qD + qN * pD) * (b * d * f) = (a * d + c * b) * e * (pD * qD) := by
    have h1 : pN * qD * (b * d * f) = a * d * e * (pD * qD) := by
      calc pN * qD * (b * d * f) = (pN * (b * f)) * (qD * d) := by ac_rfl
        _ = (a * e * pD) * (qD * d) := by rw [Ep]
        _ = a * d * e * (pD * qD) := by ac_rfl
    have h2 : qN * pD * (b * d * f) = c * b * e * (pD * qD) := by
      calc qN * pD * (b * d * f) = (qN * (d * f)) * (pD * b) := by ac_rfl
        _ = (c * e * qD) * (pD * b) := by rw [Eq]
        _ = c * b * e * (pD * qD) := by ac_rfl
    rw [Int.add_mul, h1, h2, ← Int.add_mul, ← Int.add_mul]
  have R : uN * rD * (sD * f * (b * d) * (pD * qD)) = (a * d + c * b) * e * (sD * rD * uD * (pD * qD)) := by
    calc uN * rD * (sD * f * (b * d) * (pD * qD)) = (uN * (pD * qD)) * (rD * sD * (b * d * f)) := by ac_rfl
      _ = ((pN * qD + qN * pD) * uD) * (rD * sD * (b * d * f)) := by rw [Eu]
      _ = ((pN * qD + qN * pD) * (b * d * f)) * (uD * rD * sD) := by ac_rfl
      _ = ((a * d + c * b) * e * (pD * qD)) * (uD * rD * sD) := by rw [M]
      _ = (a * d + c * b) * e * (sD * rD * uD * (pD * qD)) := by ac_rfl
  rw [L, R]
/-- The difference's sign is the order. -/
theorem sign_ {a b c d mN mD dN dD : Int} (hab : Fr a b) (hcd : Fr c d) (hm : Fr mN mD) (hd : Fr dN dD) (Em : mN * (d * 1) = (c * (-1)) * mD) (Ed : dN * (b * mD) = (a * mD + mN * b) * dD) :
    (0 < dN ↔ c * b < a * d) ∧ (dN < 0 ↔ a * d < c * b) := by
  have hc' : Fr (-c) d := by
    obtain ⟨h1, h2, h3, h4, h5⟩ := hcd
    exact ⟨h1, h2, by omega, by omega, by rw [Int.natAbs_neg]; exact h5⟩
  have e := fr_eq hm hc' (by rw [Int.mul_one] at Em; rw [Em]; rw [Int.mul_neg, Int.mul_one])
  obtain ⟨rfl, rfl⟩ := e
  have b0 : 0 < b := hab.1
  have m0 : 0 < mD := hm.1
  have dd0 : 0 < dD := hd.1
  have E : dN * (b * mD) = (a * mD - c * b) * dD := by rw [Ed]; congr 1; rw [Int.neg_mul]; omega
  have bm : 0 < b * mD := Int.mul_pos b0 m0
  generalize hX : a * mD - c * b = X at E
  have k1 : 0 < dN → 0 < X := by
    intro h
    have := Int.mul_pos h bm
    rw [E] at this
    exact Int.pos_of_mul_pos_left this (by omega)
  have k2 : dN < 0 → X < 0 := by
    intro h
    have := Int.mul_neg_of_neg_of_pos h bm
    rw [E] at this
    by_cases hx : X < 0
    · exact hx
    · have := Int.mul_nonneg (show 0 ≤ X by omega) (show 0 ≤ dD by omega); omega
  have k3 : dN = 0 → X = 0 := by
    intro h
    rw [h, Int.zero_mul] at E
    rcases Int.mul_eq_zero.1 E.symm with h | h
    · exact h
    · omega
  constructor
  · constructor
    · intro h; have := k1 h; omega
    · intro h
      by_cases h' : 0 < dN
      · exact h'
      · by_cases h2 : dN = 0
        · have := k3 h2; omega
        · have := k2 (by omega); omega
  · constructor
    · intro h; have := k2 h; omega
    · intro h
      by_cases h' : dN < 0
      · exact h'
      · by_cases h2 : dN = 0
        · have := k3 h2; omega
        · have := k1 (by omega); omega
theorem fr_one : Fr (-1) 1 := ⟨by omega, by omega, by omega, by omega, by decide⟩
theorem j1_ (a b c d : Int) (ha : -9223372036854775808 ≤ a ∧ a ≤ 9223372036854775807) (hc : -9223372036854775808 ≤ c ∧ c ≤ 9223372036854775807) (k : Nat) (hk : 9223372036854775810 ≤ k) : laws_FnFractions.j1 (k + 1) false a b c d = some true := by
  simp only [laws_FnFractions.j1, Bool.false_eq_true, if_false]
  obtain ⟨mN, mD, m, hm, pm⟩ := mul_ c d (-1) 1 hc ⟨by omega, by omega⟩
  rw [hm k hk]
  simp only [Option.bind_some]
  have bm : -9223372036854775808 ≤ mN ∧ mN ≤ 9223372036854775807 := by
    rcases pm with ⟨_, _, _, h, _⟩ | ⟨_, h, _⟩
    · have := h.2.2.1; have := h.2.2.2.1; omega
    · omega
  obtain ⟨dN, dD, five, hd, pd⟩ := add_ a b mN mD ha bm
  rw [(hd k hk).1]
  simp only [Option.bind_some]
  obtain ⟨x, six, hx, px⟩ := comp_ a b c d ha hc
  rw [hx k hk]
  simp only [Option.bind_some]
  cases five with
  | false => simp
  | true =>
    cases six with
    | false => simp
    | true =>
      simp only [if_true]
      obtain ⟨fab, fcd, hxe⟩ := px rfl
      rcases pd with ⟨_, _, fm, fd, Ed⟩ | ⟨h, _⟩
      case inr => cases h
      rcases pm with ⟨_, _, _, _, Em⟩ | ⟨_, h, h'⟩
      case inr => have := fm.1; omega
      obtain ⟨s1, s2⟩ := sign_ fab fcd fm fd Em Ed
      by_cases c1 : dN > 0
      · have := s1.1 c1
        have hx1 : x = 1 := by rw [hxe, if_neg (by omega), if_pos (by omega)]
        rw [if_pos c1, if_pos (by omega), if_neg (by omega), if_neg (by omega)]
      · rw [if_neg c1]
        by_cases c2 : dN < 0
        · have := s2.1 c2
          have hx1 : x = -1 := by rw [hxe, if_pos (by omega)]
          rw [if_neg (by omega), if_pos c2, if_pos (by omega)]
        · have h1 : ¬ (c * b < a * d) := fun h => c1 (s1.2 h)
          have h2 : ¬ (a * d < c * b) := fun h => c2 (s2.2 h)
          have hx1 : x = 0 := by rw [hxe, if_neg (by omega), if_neg (by omega)]
          rw [if_neg (by omega), if_neg c2, if_neg (by omega)]
theorem FnFractions (l : List Int) (_ : l.length ≤ maxLen) (hl : ∀ x ∈ l, (Lit.int .u8 x).wf = true) : ∃ k, laws_FnFractions.f k l = some true := by
  obtain ⟨k, hk⟩ : ∃ k : Nat, 9223372036854775810 ≤ k := ⟨_, Nat.le_refl _⟩
  refine ⟨k + 2, ?_⟩
  unfold laws_FnFractions.f laws_vBig.f
  simp only [Option.bind_some]
  by_cases hb : decide ((l.length : Int) > 65536) = true
  · rw [if_pos hb]
  rw [if_neg hb]
  have hlen : l.length ≤ 65536 := by simp at hb; omega
  obtain ⟨a, b, c, d, e1, ha, hc⟩ := drawFr_ l hl (k + 2) (by omega)
  obtain ⟨l', e2, hl'⟩ := vCut_ l hl hlen
  obtain ⟨e, f, _g, _h, e3, he, _⟩ := drawFr_ l' hl' (k + 2) (by omega)
  rw [e1]
  simp only [Option.bind_some]
  rw [e2]
  simp only [Option.bind_some]
  rw [e3]
  simp only [Option.bind_some]
  obtain ⟨sN, sD, ok, hs, ps⟩ := add_ a b c d ha hc
  obtain ⟨hs1, hs2, hs3⟩ := hs (k + 2) (by omega)
  rw [hs1, hs2, hs3]
  simp only [Option.bind_some]
  have hbb : (ok != ok) = false := by cases ok <;> rfl
  rw [hbb]
  simp only [Bool.false_eq_true, if_false, beq_self_eq_true, Bool.not_true, Bool.or_false]
  have hj : ∀ x : Bool, x = false → laws_FnFractions.j1 (k + 1) x a b c d = some true := fun x hx => by rw [hx]; exact j1_ a b c d ha hc k hk
  rw [show k + 2 = (k + 1) + 1 from rfl]
  simp only [laws_FnFractions.j0, Bool.false_eq_true, if_false]
  obtain ⟨pN, pD, one, hp, pp⟩ := mul_ a b e f ha he
  obtain ⟨qN, qD, two, hq, pq⟩ := mul_ c d e f hc he
  have bs : -9223372036854775808 ≤ sN ∧ sN ≤ 9223372036854775807 := by
    rcases ps with ⟨_, _, _, h, _⟩ | ⟨_, h, _⟩
    · have := h.2.2.1; have := h.2.2.2.1; omega
    · omega
  have bp : -9223372036854775808 ≤ pN ∧ pN ≤ 9223372036854775807 := by
    rcases pp with ⟨_, _, _, h, _⟩ | ⟨_, h, _⟩
    · have := h.2.2.1; have := h.2.2.2.1; omega
    · omega
  have bq : -9223372036854775808 ≤ qN ∧ qN ≤ 9223372036854775807 := by
    rcases pq with ⟨_, _, _, h, _⟩ | ⟨_, h, _⟩
    · have := h.2.2.1; have := h.2.2.2.1; omega
    · omega
  obtain ⟨rN, rD, three, hr, pr⟩ := mul_ sN sD e f bs he
  obtain ⟨uN, uD, four, hu, pu⟩ := add_ pN pD qN qD bp bq
  rw [hp (k + 1) (by omega), hq (k + 1) (by omega), hr (k + 1) (by omega)]
  simp only [Option.bind_some]
  rw [(hu (k + 1) (by omega)).1]
  simp only [Option.bind_some]
  have hf := hj false rfl
  cases ok with
  | false => simp only [Bool.false_eq_true, if_false]; exact hf
  | true =>
    cases one with
    | false => simp only [Bool.false_eq_true, if_false, if_true]; exact hf
    | true =>
      cases two with
      | false => simp only [Bool.false_eq_true, if_false, if_true]; exact hf
      | true =>
        cases three with
        | false => simp only [Bool.false_eq_true, if_false, if_true]; exact hf
        | true =>
          cases four with
          | false => simp only [Bool.false_eq_true, if_false, if_true]; exact hf
          | true =>
            simp only [if_true]
            refine hj _ ?_
            rcases ps with ⟨_, fab, fcd, fs, Es⟩ | ⟨h, _⟩
            case inr => cases h
            rcases pp with ⟨_, _, fef, fp, Ep⟩ | ⟨h, _⟩
            case inr => cases h
            rcases pq with ⟨_, _, _, fq, Eq⟩ | ⟨h, _⟩
            case inr => cases h
            rcases pr with ⟨_, _, _, fr, Er⟩ | ⟨h, _⟩
            case inr => cases h
            rcases pu with ⟨_, _, _, fu, Eu⟩ | ⟨h, _⟩
            case inr => cases h
            obtain ⟨rfl, rfl⟩ := distr_ fab fcd fef fs fp fq fr fu Es Ep Eq Er Eu
            simp

end Go.Proofs.Ytjdnongcefddiaa.Pure
