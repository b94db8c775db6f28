/- The shares of an amount add up to it, and each is its exact proportion rounded down or up; no condition. -/
import Derived.Test.YthdhcecmjkiepaaQFnSharesx3
namespace Go.Proofs.Ythdhcecmjkiepaa.Pure
open Go.RowKit Go.Proofs.Ythdhcecmjkiepaa.QFnShares Go.Proofs.YthdhcecmjkiepaaW.PrintWords Go.Proofs.YthdhcecmjkiepaaW.PrintLast Go.Proofs.YthdhcecmjkiepaaW.PrintMore
set_option linter.unusedVariables false
set_option linter.unusedSimpArgs false

theorem w64 {x : Int} (h : -9223372036854775808 ≤ x) (h' : x ≤ 9223372036854775807) : wrap64 x = x := by unfold wrap64; omega
theorem tdv {x : Int} (n : Int) (h : 0 ≤ x) : Int.tdiv x n = x / n := Int.tdiv_eq_ediv_of_nonneg h
theorem tmd {x : Int} (n : Int) (h : 0 ≤ x) : Int.tmod x n = x % n := Int.tmod_eq_emod_of_nonneg h
theorem wfb {a : Int} (h : (Lit.int .i64 a).wf = true) : -9223372036854775808 ≤ a ∧ a ≤ 9223372036854775807 := by
  simp [Lit.wf, IntKind.min, IntKind.max, IntKind.signed, IntKind.bits] at h
  omega
theorem within_ {x a b : Int} : (if x ≥ a then some (decide (x ≤ b)) else some false) = some (decide (a ≤ x ∧ x ≤ b)) := by
  by_cases h : x ≥ a
  · rw [if_pos h]; congr 1; simp; omega
  · rw [if_neg h]; congr 1; simp; omega

theorem u64_rng (n : Int) : 0 ≤ IntKind.u64.wrap n ∧ IntKind.u64.wrap n < 18446744073709551616 := by
  simp [IntKind.wrap, IntKind.bits, IntKind.signed]; omega
theorem u64_id (n : Int) (h0 : 0 ≤ n) (h1 : n < 2 ^ 24) : IntKind.u64.wrap n = n := by
  simp [IntKind.wrap, IntKind.bits, IntKind.signed]; omega
theorem seed_byte (n : Int) : 0 ≤ Go.bits .and .u64 (IntKind.u64.wrap n / 1099511627776) 255 ∧ Go.bits .and .u64 (IntKind.u64.wrap n / 1099511627776) 255 < 256 := by
  have h := u64_rng n
  have e := bits_mask .u64 24 (by decide) u64_id 8 (by decide) (IntKind.u64.wrap n / 1099511627776) (by omega) (by omega)
  rw [show ((2 : Int) ^ 8 - 1) = 255 from rfl, show ((2 : Int) ^ 8) = 256 from rfl] at e
  rw [e]
  omega
theorem rd_u8 (l : List Int) (hl : ∀ x ∈ l, (Lit.int .u8 x).wf = true) (i : Int) (h0 : 0 ≤ i) (h : i < l.length) : 0 ≤ rd l i ∧ rd l i < 256 := by
  have hm : rd l i ∈ l := by
    unfold rd
    have : i.toNat < l.length := by omega
    rw [List.getD_eq_getElem?_getD, List.getElem?_eq_getElem this]
    simp
  have := hl _ hm
  simp [Lit.wf, IntKind.min, IntKind.max, IntKind.signed, IntKind.bits] at this
  omega
/-- A cursor's reading: where it stands stays small. -/
theorem next_ (l : List Int) (hl : ∀ x ∈ l, (Lit.int .u8 x).wf = true) (a s : Int) (h0 : 0 ≤ a) (h1 : a ≤ 4000000000000000000) :
    ∃ b s', spec_l1Cur_next.f l a s = some (b, a + 1, s') ∧ 0 ≤ b ∧ b < 256 := by
  unfold spec_l1Cur_next.f
  rw [w64 (x := a + 1) (by omega) (by omega)]
  by_cases h : a < (l.length : Int)
  · have hr := rd_u8 l hl a h0 h
    rw [if_pos h, if_pos h0, if_pos (by omega), w64 (x := rd l a) (by omega) (by omega)]
    exact ⟨_, _, rfl, hr.1, hr.2⟩
  · rw [if_neg h, if_neg (by omega)]
    have hb := seed_byte ((IntKind.u64.wrap ((IntKind.u64.wrap (s * 6364136223846793005)) + 0)) + 902902)
    rw [w64 (by omega) (by omega)]
    exact ⟨_, _, rfl, hb.1, hb.2⟩
theorem pick_ (l : List Int) (hl : ∀ x ∈ l, (Lit.int .u8 x).wf = true) (a s : Int) (h0 : 0 ≤ a) (h1 : a ≤ 3000000000000000000) (n : Int) (hn : n ≤ 1000000) :
    ∃ r a' s', spec_l1Cur_pick.f l a s n = some (r, a', s') ∧ 0 ≤ r ∧ (r < n ∨ r = 0) ∧ a ≤ a' ∧ a' ≤ a + 2 := by
  unfold spec_l1Cur_pick.f
  by_cases h : n ≤ 1
  · rw [if_pos h]; exact ⟨_, _, _, rfl, by omega, Or.inr rfl, by omega, by omega⟩
  · rw [if_neg h]
    obtain ⟨b, s1, e1, hb, hb'⟩ := next_ l hl a s h0 (by omega)
    rw [e1]
    simp only [Option.bind_some]
    by_cases hg : n > 200
    · rw [if_pos hg]
      obtain ⟨b2, s2, e2, hc, hc'⟩ := next_ l hl (a + 1) s1 (by omega) (by omega)
      rw [e2]
      simp only [Option.bind_some]
      rw [if_neg (by omega), w64 (x := b * 256) (by omega) (by omega), w64 (x := b * 256 + b2) (by omega) (by omega), tmd n (by omega)]
      have m1 := Int.emod_nonneg (b * 256 + b2) (show n ≠ 0 by omega)
      have m2 := Int.emod_lt_of_pos (b * 256 + b2) (show 0 < n by omega)
      exact ⟨_, _, _, rfl, m1, Or.inl m2, by omega, by omega⟩
    · rw [if_neg hg, if_neg (by omega), tmd n (by omega)]
      have m1 := Int.emod_nonneg b (show n ≠ 0 by omega)
      have m2 := Int.emod_lt_of_pos b (show 0 < n by omega)
      exact ⟨_, _, _, rfl, m1, Or.inl m2, by omega, by omega⟩
theorem among_ (l : List Int) (hl : ∀ x ∈ l, (Lit.int .u8 x).wf = true) (a s : Int) (h0 : 0 ≤ a) (h1 : a ≤ 3000000000000000000) (xs : List Int) (hx : xs ≠ []) (hn : xs.length ≤ 1000000) :
    ∃ r a' s', spec_l1Cur_among.f l a s xs = some (r, a', s') ∧ r ∈ xs ∧ a ≤ a' ∧ a' ≤ a + 2 := by
  unfold spec_l1Cur_among.f
  have hp : 0 < xs.length := List.length_pos_iff.2 hx
  obtain ⟨r, a', s', e, r0, r1, a0, a1⟩ := pick_ l hl a s h0 h1 (xs.length : Int) (by omega)
  rw [e]
  simp only [Option.bind_some]
  rw [if_pos r0, if_pos (by omega)]
  refine ⟨_, _, _, rfl, ?_, a0, a1⟩
  unfold rd
  have : r.toNat < xs.length := by omega
  rw [List.getD_eq_getElem?_getD, List.getElem?_eq_getElem this]
  simp

/-- What the sort's test answers: indexes by falling remainders. -/
def cfI (f : Nat → Int) (x y : Nat) : Int := if f y < f x then -1 else if f x < f y then 1 else 0
def lt1 (f : Nat → Int) (x y : Nat) : Bool := decide (cfI f x y < 0)
def lt2 (f : Nat → Int) (x y : Nat) : Bool := decide (f y < f x ∨ (f x = f y ∧ x < y))
theorem lt1_eq (f : Nat → Int) (x y : Nat) : lt1 f x y = decide (f y < f x) := by
  unfold lt1 cfI
  by_cases h : f y < f x
  · simp [h]
  · by_cases h2 : f x < f y <;> simp [h, h2]
theorem swo2 (f : Nat → Int) : Sort.SWO (lt2 f) := by
  constructor
  · intro x; simp [lt2]
  · intro x y z h1 h2
    simp only [lt2, decide_eq_true_eq] at *
    omega
  · intro x y z h1 h2
    simp only [lt2, decide_eq_false_iff_not] at *
    omega
theorem inner_eq (f : Nat → Int) : ∀ (j : Nat) (d : Array Nat), j < d.size → (∀ p, p < j → d[p]! < d[j]!) → Sort.insInner (lt1 f) 0 j d = Sort.insInner (lt2 f) 0 j d
  | 0, _, _, _ => rfl
  | j + 1, d, hs, hp => by
    unfold Sort.insInner
    have hj := hp j (by omega)
    have e : lt1 f d[j + 1]! d[j]! = lt2 f d[j + 1]! d[j]! := by
      rw [lt1_eq]; unfold lt2
      congr 1
      apply propext
      constructor
      · exact fun h => .inl h
      · rintro (h | h)
        · exact h
        · omega
    rw [e]
    have ih := inner_eq f j (Sort.swp d (j + 1) j) (by rw [Sort.swp_size]; omega) (fun p hpj => by
      rw [Sort.swp_get d hs (by omega), Sort.swp_get d hs (by omega)]
      rw [if_neg (by omega), if_neg (by omega), if_pos rfl]
      exact hp p (by omega))
    rw [ih]
/-- All at places up to i are at most i, all above stand at their place. -/
def Up (n i : Nat) (d : Array Nat) : Prop := d.size = n ∧ (∀ p, p < i → d[p]! < i) ∧ ∀ p, i ≤ p → p < n → d[p]! = p
theorem inner_up (lt : Nat → Nat → Bool) (n i : Nat) : ∀ (j : Nat) (d : Array Nat), j < i → Up n i d → i ≤ n → Up n i (Sort.insInner lt 0 j d)
  | 0, d, _, h, _ => h
  | j + 1, d, hji, h, hin => by
    unfold Sort.insInner
    split
    · refine inner_up lt n i j _ (by omega) ?_ hin
      obtain ⟨h1, h2, h3⟩ := h
      refine ⟨by rw [Sort.swp_size]; exact h1, fun p hp => ?_, fun p hp hpn => ?_⟩
      · rw [Sort.swp_get d (by omega) (by omega)]
        split
        · exact h2 _ (by omega)
        · split
          · exact h2 _ (by omega)
          · exact h2 p hp
      · rw [Sort.swp_get d (by omega) (by omega), if_neg (by omega), if_neg (by omega)]
        exact h3 p hp hpn
    · exact h
theorem outer_eq (f : Nat → Int) (n : Nat) : ∀ (m i : Nat) (d : Array Nat), n - i = m → i ≤ n → Up n i d → Sort.insOuter (lt1 f) 0 n i d = Sort.insOuter (lt2 f) 0 n i d
  | 0, i, d, hm, hin, _ => by
    rw [Sort.insOuter, if_neg (by omega), Sort.insOuter, if_neg (by omega)]
  | m + 1, i, d, hm, hin, h => by
    have hlt : i < n := by omega
    obtain ⟨h1, h2, h3⟩ := h
    rw [show Sort.insOuter (lt1 f) 0 n i d = Sort.insOuter (lt1 f) 0 n (i + 1) (Sort.insInner (lt1 f) 0 i d) from by rw [Sort.insOuter, if_pos hlt], show Sort.insOuter (lt2 f) 0 n i d = Sort.insOuter (lt2 f) 0 n (i + 1) (Sort.insInner (lt2 f) 0 i d) from by rw [Sort.insOuter, if_pos hlt]]
    have hi := h3 i (Nat.le_refl _) hlt
    rw [inner_eq f i d (by omega) (fun p hp => by rw [hi]; exact h2 p hp)]
    have hu : Up n (i + 1) d := ⟨h1, fun p hp => by
      by_cases e : p = i
      · subst e; omega
      · have := h2 p (by omega); omega, fun p hp hpn => h3 p (by omega) hpn⟩
    exact outer_eq f n m (i + 1) _ (by omega) (by omega) (inner_up _ n (i + 1) i d (by omega) hu (by omega))
theorem range_up (n : Nat) : Up n 1 (Array.range n) := by
  refine ⟨by simp, fun p hp => ?_, fun p hp hpn => ?_⟩
  · by_cases h : p < n
    · rw [getElem!_pos _ p (by simpa using h)]; simp; omega
    · rw [getElem!_neg _ p (by simpa using h)]; decide
  · rw [getElem!_pos _ p (by simpa using hpn)]; simp
/-- The order of the indexes: by falling remainders, the first ahead among equals. -/
def orderI (f : Nat → Int) (n : Nat) : Array Nat := Sort.insertionSort (lt1 f) (Array.range n) 0 n
theorem orderI_facts (f : Nat → Int) (n : Nat) : (orderI f n).size = n ∧ (orderI f n).toList.Perm (List.range n) ∧ ∀ i j, i < j → j < n → lt2 f (orderI f n)[i]! (orderI f n)[j]! = true := by
  have e : orderI f n = Sort.insertionSort (lt2 f) (Array.range n) 0 n := by
    unfold orderI Sort.insertionSort
    by_cases h0 : n = 0
    · subst h0; rw [Sort.insOuter, if_neg (by omega), Sort.insOuter, if_neg (by omega)]
    · exact outer_eq f n _ 1 _ rfl (by omega) (range_up n)
  have h := Sort.insertionSort_holds (lt := lt2 f) (swo2 f) (Array.range n) 0 n (Nat.zero_le _) (by simp)
  rw [← e] at h
  obtain ⟨⟨hs, _, hp⟩, hso⟩ := h
  have hs' : (orderI f n).size = n := by rw [hs]; simp
  have hp' : (orderI f n).toList.Perm (List.range n) := by
    have e1 : (orderI f n).extract 0 n = orderI f n := by
      apply Array.ext
      · simp [hs']
      · intro i h1 h2; simp
    have e2 : (Array.range n).extract 0 n = Array.range n := by
      apply Array.ext
      · simp
      · intro i h1 h2; simp
    rw [e1, e2] at hp
    simpa using hp
  refine ⟨hs', hp', fun i j hij hj => ?_⟩
  have hso' := hso i j (Nat.zero_le _) hij hj
  have hnd : (orderI f n).toList.Nodup := hp'.nodup_iff.2 List.nodup_range
  have hi1 : i < (orderI f n).size := by omega
  have hj1 : j < (orderI f n).size := by omega
  have hne : (orderI f n)[i]! ≠ (orderI f n)[j]! := by
    rw [getElem!_pos _ i hi1, getElem!_pos _ j hj1]
    intro he
    have := (List.pairwise_iff_getElem.1 hnd) i j (by simpa using hi1) (by simpa using hj1) hij
    exact this (by simpa using he)
  revert hso'
  unfold lt2
  generalize (orderI f n)[i]! = a at *
  generalize (orderI f n)[j]! = b at *
  simp only [decide_eq_false_iff_not, decide_eq_true_eq]
  intro h
  have : a < b ∨ b < a := by omega
  omega
/-! Sums. -/
theorem foldW (B : Int) (xs : List Int) : ∀ (s : Int), (∀ x ∈ xs, 0 ≤ x ∧ x ≤ B) → 0 ≤ s → s + B * (xs.length : Int) ≤ 9000000000000000000 → xs.foldl (fun s x => wrap64 (s + x)) s = s + xs.sum := by
  induction xs with
  | nil => intro s _ _ _; simp
  | cons x xs ih =>
    intro s hx hs hb
    have hx0 := hx x (by simp)
    have hB : 0 ≤ B := by omega
    have hn : 0 ≤ B * (xs.length : Int) := Int.mul_nonneg hB (by omega)
    have e : B * ((x :: xs).length : Int) = B * (xs.length : Int) + B := by rw [List.length_cons, Int.natCast_add, Int.mul_add]; simp
    rw [e] at hb
    rw [List.foldl_cons, w64 (by omega) (by omega), ih (s + x) (fun y hy => hx y (by simp [hy])) (by omega) (by omega), List.sum_cons]
    omega
theorem sumW_ (B : Int) (xs : List Int) (hx : ∀ x ∈ xs, 0 ≤ x ∧ x ≤ B) (hb : B * (xs.length : Int) ≤ 9000000000000000000) : Own.sumW xs = xs.sum := by
  unfold Own.sumW
  rw [foldW B xs 0 hx (by omega) (by omega)]
  omega
theorem sum_parts (a all : Int) (h : 0 < all) (xs : List Int) : all * (xs.map fun x => a * x / all).sum + (xs.map fun x => a * x % all).sum = a * xs.sum ∧ 0 ≤ (xs.map fun x => a * x % all).sum ∧ (xs.map fun x => a * x % all).sum ≤ (all - 1) * (xs.length : Int) := by
  induction xs with
  | nil => simp
  | cons x xs ih =>
    obtain ⟨h1, h2, h3⟩ := ih
    have e := Int.mul_ediv_add_emod (a * x) all
    have m0 := Int.emod_nonneg (a * x) (by omega : all ≠ 0)
    have m1 := Int.emod_lt_of_pos (a * x) h
    simp only [List.map_cons, List.sum_cons, Int.mul_add, List.length_cons, Int.natCast_add]
    refine ⟨by omega, by omega, ?_⟩
    have : (all - 1) * ((1 : Nat) : Int) = all - 1 := by simp
    omega
theorem rest_small (a : Int) (xs : List Int) (h : 0 < xs.sum) (hn : 0 < xs.length) : 0 ≤ a - (xs.map fun x => a * x / xs.sum).sum ∧ a - (xs.map fun x => a * x / xs.sum).sum < (xs.length : Int) := by
  obtain ⟨h1, h2, h3⟩ := sum_parts a xs.sum h xs
  generalize (xs.map fun x => a * x / xs.sum).sum = Q at *
  generalize (xs.map fun x => a * x % xs.sum).sum = R at *
  generalize xs.sum = s at *
  have e : s * (a - Q) = R := by rw [Int.mul_sub]; rw [Int.mul_comm s a]; omega
  constructor
  · exact Int.nonneg_of_mul_nonneg_right (by rw [e]; exact h2) h
  · have : s * (a - Q) < s * (xs.length : Int) := by
      rw [e]
      have h4 : (s - 1) * (xs.length : Int) = s * (xs.length : Int) - (xs.length : Int) := by rw [Int.sub_mul]; simp
      omega
    exact Int.lt_of_mul_lt_mul_left this (by omega)
/-! The shares, exactly. -/
structure Dom (a : Int) (l : List Int) : Prop where
  a0 : 0 ≤ a
  a1 : a ≤ 1000000000
  n0 : 1 ≤ l.length
  n1 : l.length ≤ 20
  ws : ∀ x ∈ l, 0 ≤ x ∧ x ≤ 1000000
  s0 : 0 < l.sum
theorem Dom.mul {a : Int} {l : List Int} (h : Dom a l) {x : Int} (hx : x ∈ l) : 0 ≤ a * x ∧ a * x ≤ 1000000000000000 := by
  have := h.ws x hx
  have h0 := h.a0
  have h1 := h.a1
  refine ⟨Int.mul_nonneg h.a0 this.1, ?_⟩
  have := Int.mul_le_mul h.a1 this.2 this.1 (by omega)
  omega
theorem Dom.sum {a : Int} {l : List Int} (h : Dom a l) : Own.sumW l = l.sum := sumW_ 1000000 l h.ws (by have := h.n1; omega)
theorem Dom.out {a : Int} {l : List Int} (h : Dom a l) : Own.outI a l.sum l = l.map fun x => a * x / l.sum := by
  unfold Own.outI
  refine List.map_congr_left fun x hx => ?_
  have hm := h.mul hx
  have h0 := h.s0
  have e1 : a * x / l.sum ≤ a * x := Int.ediv_le_self _ hm.1
  have e2 : 0 ≤ a * x / l.sum := Int.ediv_nonneg hm.1 (by omega)
  rw [w64 (x := a * x) (by omega) (by omega), tdv _ hm.1, w64 (by omega) (by omega)]
theorem Dom.outB {a : Int} {l : List Int} (h : Dom a l) : ∀ y ∈ Own.outI a l.sum l, 0 ≤ y ∧ y ≤ 1000000000000000 := by
  rw [h.out]
  intro y hy
  obtain ⟨x, hx, rfl⟩ := List.mem_map.1 hy
  have hm := h.mul hx
  have h0 := h.s0
  have e1 : a * x / l.sum ≤ a * x := Int.ediv_le_self _ hm.1
  have e2 : 0 ≤ a * x / l.sum := Int.ediv_nonneg hm.1 (by omega)
  omega
theorem Dom.outS {a : Int} {l : List Int} (h : Dom a l) : Own.sumW (Own.outI a l.sum l) = (Own.outI a l.sum l).sum := sumW_ 1000000000000000 _ h.outB (by rw [Own.outI_len]; have := h.n1; omega)
/-- What is left to be dealt out. -/
def leftI (a : Int) (l : List Int) : Int := a - (Own.outI a l.sum l).sum
theorem Dom.left {a : Int} {l : List Int} (h : Dom a l) : 0 ≤ leftI a l ∧ leftI a l < (l.length : Int) := by
  unfold leftI
  rw [h.out]
  exact rest_small a l h.s0 (by have := h.n0; omega)
theorem Dom.leftW {a : Int} {l : List Int} (h : Dom a l) : wrap64 (a - Own.sumW (Own.outI a l.sum l)) = leftI a l := by
  rw [h.outS]
  have := h.left
  have := h.n1
  unfold leftI at *
  exact w64 (by omega) (by omega)
theorem rd_at (L : List Int) (i : Nat) (h : i < L.length) : rd L (i : Int) = L[i] := by
  unfold rd
  rw [Int.toNat_natCast, List.getD_eq_getElem?_getD, List.getElem?_eq_getElem h]
  rfl
theorem getD_at (L : List Int) (i : Nat) (h : i < L.length) : L.getD i 0 = L[i] := by
  rw [List.getD_eq_getElem?_getD, List.getElem?_eq_getElem h]
  rfl
/-- The remainders. -/
def fr (a : Int) (l : List Int) (i : Nat) : Int := Own.fracI a l.sum l (i % l.length)
theorem Dom.fr0 {a : Int} {l : List Int} (h : Dom a l) (i : Nat) (hi : i < l.length) : fr a l i = Int.tmod (wrap64 (a * rd l (i : Int))) l.sum ∧ 0 ≤ fr a l i := by
  have e : fr a l i = Int.tmod (wrap64 (a * rd l (i : Int))) l.sum := by
    unfold fr Own.fracI
    rw [Nat.mod_eq_of_lt hi, getD_at l i hi, rd_at l i hi]
  refine ⟨e, ?_⟩
  have hm := h.mul (List.getElem_mem hi)
  have h0 := h.s0
  rw [e, rd_at l i hi, w64 (by omega) (by omega), tmd _ hm.1]
  exact Int.emod_nonneg _ (by omega)
/-- The order's facts. -/
theorem ord_facts (a : Int) (l : List Int) (hn : 1 ≤ l.length) : ∃ S : List Nat, S.length = l.length ∧ Own.ordI a l.sum l = S.map (fun (x : Nat) => (x : Int)) ∧ S.Perm (List.range l.length) ∧
    ∀ i j (hi : i < S.length) (hj : j < S.length), i < j → fr a l S[j] < fr a l S[i] ∨ (fr a l S[i] = fr a l S[j] ∧ S[i] < S[j]) := by
  obtain ⟨h1, h2, h3⟩ := orderI_facts (fr a l) l.length
  have e : Own.ordA a l.sum l = orderI (fr a l) l.length := rfl
  refine ⟨(orderI (fr a l) l.length).toList, by rw [Array.length_toList]; exact h1, ?_, h2, ?_⟩
  · unfold Own.ordI
    rw [e]
    refine List.map_congr_left fun x hx => ?_
    have hx' : x < l.length := List.mem_range.1 (h2.mem_iff.1 hx)
    rw [Nat.mod_eq_of_lt hx']
  · intro i j hi hj hij
    rw [Array.length_toList] at hi hj
    have := h3 i j hij (by omega)
    rw [getElem!_pos _ i hi, getElem!_pos _ j hj] at this
    simpa [lt2] using this
/-! The reference: each time the greatest remainder, the first of equals. -/
theorem best_ (X L : List Int) (x8 : Int) (K : Nat) (hK : K < L.length) (hX : X.length = L.length) (hL : L.length ≤ 20) (hb : ∀ (j : Nat) (hj : j < L.length), j ≠ K → L[j] < L[K] ∨ (L[j] = L[K] ∧ K < j)) (d : Nat) :
    ∀ (i b k : Nat), i + d = L.length → b < i → (K < i → b = K) → d < k → spec_l2Share.l2 k X L x8 (b : Int) (i : Int) = spec_l2Share.l1 (k - d - 1) (X.set K (wrap64 (rd X (K : Int) + 1))) (L.set K (-1)) (wrap64 (x8 - 1)) := by
  induction d with
  | zero =>
    intro i b k hi hbi hKi hk
    obtain ⟨k, rfl⟩ : ∃ m, k = m + 1 := ⟨k - 1, by omega⟩
    obtain rfl := hKi (by omega)
    simp only [spec_l2Share.l2]
    rw [if_neg (by omega), if_pos (by omega), if_pos (by omega), if_pos (by omega), Int.toNat_natCast]
    rfl
  | succ d ih =>
    intro i b k hi hbi hKi hk
    obtain ⟨k, rfl⟩ : ∃ m, k = m + 1 := ⟨k - 1, by omega⟩
    have hiL : i < L.length := by omega
    have hbL : b < L.length := by omega
    simp only [spec_l2Share.l2]
    rw [if_pos (by omega), if_pos (by omega), if_pos (by omega), if_pos (by omega), rd_at L i hiL, rd_at L b hbL, w64 (x := (i : Int) + 1) (by omega) (by omega), show (i : Int) + 1 = ((i + 1 : Nat) : Int) by omega, show k + 1 - (d + 1) - 1 = k - d - 1 by omega]
    by_cases hiK : i = K
    · subst hiK
      have := hb b hbL (by omega)
      rw [if_pos (by omega)]
      exact ih (i + 1) i k (by omega) (by omega) (fun _ => rfl) (by omega)
    · by_cases hlt : K < i
      · obtain rfl := hKi hlt
        have := hb i hiL hiK
        rw [if_neg (by omega)]
        exact ih (i + 1) b k (by omega) (by omega) (fun _ => rfl) (by omega)
      · split
        · exact ih (i + 1) i k (by omega) (by omega) (fun h => by omega) (by omega)
        · exact ih (i + 1) b k (by omega) (by omega) (fun h => by omega) (by omega)
/-- The remainders of those served are struck. -/
def cut (L : List Int) (js : List Nat) : List Int := js.foldl (fun L j => L.set j (-1)) L
theorem cut_len : ∀ (js : List Nat) (L : List Int), (cut L js).length = L.length
  | [], _ => rfl
  | j :: js, L => by
    show (cut (L.set j (-1)) js).length = _
    rw [cut_len js, List.length_set]
theorem cut_get : ∀ (js : List Nat) (L : List Int) (i : Nat), i < L.length → (cut L js)[i]? = if i ∈ js then some (-1) else L[i]?
  | [], L, i, h => by simp [cut]
  | j :: js, L, i, h => by
    show (cut (L.set j (-1)) js)[i]? = _
    rw [cut_get js _ i (by simpa using h)]
    by_cases h1 : i ∈ js
    · simp [h1]
    · by_cases h2 : j = i
      · subst h2; simp [h1, h]
      · have h3 : i ≠ j := fun e => h2 e.symm
        simp [h1, h3, List.getElem?_set_ne h2]
theorem cut_step (L : List Int) (js : List Nat) (s : Nat) (h : s < js.length) : cut L (js.take (s + 1)) = (cut L (js.take s)).set js[s] (-1) := by
  rw [List.take_succ_eq_append_getElem h]
  unfold cut
  rw [List.foldl_append]
  rfl
def rests (a : Int) (l : List Int) : List Int := (List.range l.length).map fun i => fr a l i
theorem rests_len (a : Int) (l : List Int) : (rests a l).length = l.length := by simp [rests]
theorem rests_get (a : Int) (l : List Int) (i : Nat) (h : i < l.length) : (rests a l)[i]? = some (fr a l i) := by simp [rests, h]
/-- At each time the next of the order is the greatest. -/
theorem great_ {a : Int} {l : List Int} (h : Dom a l) (S : List Nat) (hS : S.length = l.length) (hp : S.Perm (List.range l.length)) (ho : ∀ i j (hi : i < S.length) (hj : j < S.length), i < j → fr a l S[j] < fr a l S[i] ∨ (fr a l S[i] = fr a l S[j] ∧ S[i] < S[j]))
    (s : Nat) (hs : s < S.length) : S[s] < (cut (rests a l) (S.take s)).length ∧ ∀ (hK : S[s] < (cut (rests a l) (S.take s)).length) (j : Nat) (hj : j < (cut (rests a l) (S.take s)).length), j ≠ S[s] → (cut (rests a l) (S.take s))[j] < (cut (rests a l) (S.take s))[S[s]] ∨ ((cut (rests a l) (S.take s))[j] = (cut (rests a l) (S.take s))[S[s]] ∧ S[s] < j) := by
  have hnd : S.Nodup := hp.nodup_iff.2 List.nodup_range
  have hK : S[s] < l.length := List.mem_range.1 (hp.mem_iff.1 (List.getElem_mem hs))
  have hlen : (cut (rests a l) (S.take s)).length = l.length := by rw [cut_len, rests_len]
  refine ⟨by rw [hlen]; exact hK, fun hK' j hj hne => ?_⟩
  have hj' : j < l.length := by rw [← hlen]; exact hj
  have nK : S[s] ∉ S.take s := by
    intro hm
    obtain ⟨p, hp1, hp2⟩ := List.getElem_of_mem hm
    rw [List.getElem_take] at hp2
    have hps : p < s := by rw [List.length_take] at hp1; omega
    exact (List.pairwise_iff_getElem.1 hnd p s (by omega) hs hps) hp2
  have vK : (cut (rests a l) (S.take s))[S[s]] = fr a l S[s] := by
    have e := cut_get (S.take s) (rests a l) S[s] (by rw [rests_len]; exact hK)
    rw [if_neg nK, rests_get a l _ hK, List.getElem?_eq_getElem hK'] at e
    exact Option.some.inj e
  rw [vK]
  have vj := cut_get (S.take s) (rests a l) j (by rw [rests_len]; exact hj')
  rw [rests_get a l j hj', List.getElem?_eq_getElem hj] at vj
  by_cases hm : j ∈ S.take s
  · rw [if_pos hm] at vj
    have := (h.fr0 S[s] hK).2
    have := Option.some.inj vj
    omega
  · rw [if_neg hm] at vj
    have ej := Option.some.inj vj
    rw [ej]
    obtain ⟨p, hp1, hp2⟩ := List.getElem_of_mem (hp.mem_iff.2 (List.mem_range.2 hj'))
    subst hp2
    have hps : s < p := by
      rcases Nat.lt_trichotomy p s with hlt | heq | hgt
      · exact absurd (List.mem_take_iff_getElem.2 ⟨p, by omega, rfl⟩) hm
      · subst heq; exact absurd rfl hne
      · exact hgt
    have := ho s p hs hp1 hps
    omega
theorem deal_ {a : Int} {l : List Int} (h : Dom a l) (S : List Nat) (hS : S.length = l.length) (he : Own.ordI a l.sum l = S.map (fun (x : Nat) => (x : Int))) (hp : S.Perm (List.range l.length)) (ho : ∀ i j (hi : i < S.length) (hj : j < S.length), i < j → fr a l S[j] < fr a l S[i] ∨ (fr a l S[i] = fr a l S[j] ∧ S[i] < S[j]))
    (m : Nat) (hm : m ≤ l.length) (d : Nat) : ∀ (s k : Nat), s + d = m → 25 * d < k → spec_l2Share.l1 k (Own.bumps (Own.outI a l.sum l) ((Own.ordI a l.sum l).take s)) (cut (rests a l) (S.take s)) (((m : Int) - (s : Int))) = some (Own.bumps (Own.outI a l.sum l) ((Own.ordI a l.sum l).take m)) := by
  induction d with
  | zero =>
    intro s k hs hk
    obtain ⟨k, rfl⟩ : ∃ q, k = q + 1 := ⟨k - 1, by omega⟩
    obtain rfl : s = m := by omega
    simp only [spec_l2Share.l1]
    rw [if_neg (by omega)]
  | succ d ih =>
    intro s k hs hk
    obtain ⟨k, rfl⟩ : ∃ q, k = q + 1 := ⟨k - 1, by omega⟩
    have hn1 := h.n1
    have hn0 := h.n0
    have hsS : s < S.length := by omega
    obtain ⟨hK, hg⟩ := great_ h S hS hp ho s hsS
    have hlen : (cut (rests a l) (S.take s)).length = l.length := by rw [cut_len, rests_len]
    have hX : (Own.bumps (Own.outI a l.sum l) ((Own.ordI a l.sum l).take s)).length = (cut (rests a l) (S.take s)).length := by rw [Own.bumps_len, Own.outI_len, hlen]
    have hb := best_ (Own.bumps (Own.outI a l.sum l) ((Own.ordI a l.sum l).take s)) (cut (rests a l) (S.take s)) ((m : Int) - (s : Int)) S[s] hK hX (by omega) (hg hK) (l.length - 1) 1 0 k (by omega) (by omega) (fun hlt => by omega) (by omega)
    have hj : s < (Own.ordI a l.sum l).length := by rw [Own.ordI_len]; omega
    have er : rd (Own.ordI a l.sum l) (s : Int) = (S[s] : Int) := by
      rw [rd_at _ s hj]
      simp only [he, List.getElem_map]
    have hst := Own.bumps_step (Own.outI a l.sum l) (Own.ordI a l.sum l) s hj
    rw [er, Int.toNat_natCast] at hst
    rw [← hst, ← cut_step (rests a l) S s hsS, w64 (by omega) (by omega), show (m : Int) - (s : Int) - 1 = (m : Int) - ((s + 1 : Nat) : Int) by omega] at hb
    have hi := ih (s + 1) (k - (l.length - 1) - 1) (by omega) (by omega)
    simp only [spec_l2Share.l1]
    rw [if_pos (by omega)]
    exact hb.trans hi
theorem sum_bound (B : Int) (hB : 0 ≤ B) : ∀ (xs : List Int), (∀ x ∈ xs, 0 ≤ x ∧ x ≤ B) → 0 ≤ xs.sum ∧ xs.sum ≤ B * (xs.length : Int)
  | [], _ => by simp
  | x :: xs, h => by
    have h1 := sum_bound B hB xs (fun y hy => h y (by simp [hy]))
    have h2 := h x (by simp)
    have e : B * ((x :: xs).length : Int) = B * (xs.length : Int) + B := by rw [List.length_cons, Int.natCast_add, Int.mul_add]; simp
    rw [List.sum_cons, e]
    omega
theorem l0_ {a : Int} {l : List Int} (h : Dom a l) (d : Nat) : ∀ (i k : Nat), i + d = l.length → d < k → spec_l2Share.l0 k a l l.sum ((Own.outI a l.sum l).take i) ((rests a l).take i) (a - ((Own.outI a l.sum l).take i).sum) (i : Int) = spec_l2Share.l1 (k - d - 1) (Own.outI a l.sum l) (rests a l) (leftI a l) := by
  induction d with
  | zero =>
    intro i k hi hk
    obtain ⟨k, rfl⟩ : ∃ q, k = q + 1 := ⟨k - 1, by omega⟩
    simp only [spec_l2Share.l0]
    rw [if_neg (by omega), List.take_of_length_le (by rw [Own.outI_len]; omega), List.take_of_length_le (by rw [rests_len]; omega)]
    rfl
  | succ d ih =>
    intro i k hi hk
    obtain ⟨k, rfl⟩ : ∃ q, k = q + 1 := ⟨k - 1, by omega⟩
    have hn1 := h.n1
    have hs0 := h.s0
    have h0 := h.a0
    have h1 := h.a1
    have hil : i < l.length := by omega
    have e1 := Own.outI_step a l.sum l i hil
    have e2 : (rests a l).take i ++ [Int.tmod (wrap64 (a * rd l (i : Int))) l.sum] = (rests a l).take (i + 1) := by
      rw [List.take_succ_eq_append_getElem (by rw [rests_len]; exact hil), ← (h.fr0 i hil).1]
      simp [rests]
    have hio : i < (Own.outI a l.sum l).length := by rw [Own.outI_len]; exact hil
    have hlo : ((Own.outI a l.sum l).take (i + 1)).length = i + 1 := by rw [List.length_take, Own.outI_len]; omega
    have e3 : rd ((Own.outI a l.sum l).take (i + 1)) (i : Int) = (Own.outI a l.sum l)[i] := by
      rw [rd_at _ i (by omega), List.getElem_take]
    have e4 : ((Own.outI a l.sum l).take (i + 1)).sum = ((Own.outI a l.sum l).take i).sum + (Own.outI a l.sum l)[i] := by
      rw [List.take_succ_eq_append_getElem hio, List.sum_append]
      simp
    have b1 := h.outB _ (List.getElem_mem hio)
    have b2 := sum_bound 1000000000000000 (by omega) ((Own.outI a l.sum l).take i) (fun x hx => h.outB x (List.mem_of_mem_take hx))
    have b3 : ((Own.outI a l.sum l).take i).length ≤ 20 := by rw [List.length_take]; omega
    simp only [spec_l2Share.l0]
    rw [if_pos (by omega), if_pos (by omega), if_neg (by omega), if_pos (by omega)]
    simp only [Option.bind_some]
    rw [if_pos (by rw [List.length_take]; omega), ← e1, if_pos (by omega), e2, e3, w64 (x := a - _ - _) (by omega) (by omega), w64 (x := (i : Int) + 1) (by omega) (by omega), show a - ((Own.outI a l.sum l).take i).sum - (Own.outI a l.sum l)[i] = a - ((Own.outI a l.sum l).take (i + 1)).sum by omega, show (i : Int) + 1 = ((i + 1 : Nat) : Int) by omega, show k + 1 - (d + 1) - 1 = k - d - 1 by omega]
    exact ih (i + 1) k (by omega) (by omega)
theorem spec_sum (l : List Int) (hl : l.length ≤ 1048576) (d : Nat) : ∀ (i k : Nat) (acc : Int), i + d = l.length → d < k → spec_l2Sum.l0 k l acc (i : Int) = some ((l.drop i).foldl (fun s x => wrap64 (s + x)) acc) := by
  induction d with
  | zero =>
    intro i k acc hi hk
    obtain ⟨k, rfl⟩ : ∃ q, k = q + 1 := ⟨k - 1, by omega⟩
    simp only [spec_l2Sum.l0]
    rw [if_neg (by omega), List.drop_of_length_le (by omega)]
    rfl
  | succ d ih =>
    intro i k acc hi hk
    obtain ⟨k, rfl⟩ : ∃ q, k = q + 1 := ⟨k - 1, by omega⟩
    have hil : i < l.length := by omega
    simp only [spec_l2Sum.l0]
    rw [if_pos (by omega), if_pos (by omega), w64 (x := (i : Int) + 1) (by omega) (by omega), show (i : Int) + 1 = ((i + 1 : Nat) : Int) by omega, ih (i + 1) k _ (by omega) (by omega), rd_at l i hil, List.drop_eq_getElem_cons hil]
    rfl
theorem impl_sum (l : List Int) (hl : l.length ≤ 1048576) (d : Nat) : ∀ (i k : Nat) (acc : Int), i + d = l.length → d < k → impl_sumOf.l0 k acc l (l.length : Int) (i : Int) = some ((l.drop i).foldl (fun s x => wrap64 (s + x)) acc) := by
  induction d with
  | zero =>
    intro i k acc hi hk
    obtain ⟨k, rfl⟩ : ∃ q, k = q + 1 := ⟨k - 1, by omega⟩
    simp only [impl_sumOf.l0]
    rw [if_neg (by omega), List.drop_of_length_le (by omega)]
    rfl
  | succ d ih =>
    intro i k acc hi hk
    obtain ⟨k, rfl⟩ : ∃ q, k = q + 1 := ⟨k - 1, by omega⟩
    have hil : i < l.length := by omega
    simp only [impl_sumOf.l0]
    rw [if_pos (by omega), if_pos (by omega), if_pos (by omega), w64 (x := (i : Int) + 1) (by omega) (by omega), show (i : Int) + 1 = ((i + 1 : Nat) : Int) by omega, ih (i + 1) k _ (by omega) (by omega), rd_at l i hil, List.drop_eq_getElem_cons hil]
    rfl
theorem sums_both (l : List Int) (hl : l.length ≤ 1048576) (k : Nat) (hk : 1048577 ≤ k) : spec_l2Sum.f k l = some (Own.sumW l) ∧ impl_sumOf.f k l = some (Own.sumW l) := ⟨by unfold spec_l2Sum.f; exact spec_sum l hl l.length 0 k 0 (by omega) (by omega), by unfold impl_sumOf.f; exact impl_sum l hl l.length 0 k 0 (by omega) (by omega)⟩
/-- The shares: what is rounded down, and one more for the first of the order. -/
def shareL (a : Int) (l : List Int) : List Int := Own.bumps (Own.outI a l.sum l) ((Own.ordI a l.sum l).take (leftI a l).toNat)
theorem core_ {a : Int} {l : List Int} (h : Dom a l) (k : Nat) (hk : 1048577 ≤ k) : spec_l2Share.f k a l = some (shareL a l) ∧ Own.sharesF a l = some (shareL a l) := by
  have hn0 := h.n0
  have hn1 := h.n1
  have hs0 := h.s0
  have hl := h.left
  constructor
  · unfold spec_l2Share.f
    rw [(sums_both l (by omega) k hk).1, h.sum]
    simp only [Option.bind_some]
    have e := l0_ h l.length 0 k (by omega) (by omega)
    simp only [List.take_zero, List.sum_nil, Int.sub_zero] at e
    refine (e.trans ?_ : spec_l2Share.l0 k a l l.sum [] [] a 0 = _)
    obtain ⟨S, hS, he, hp, ho⟩ := ord_facts a l hn0
    have hd := deal_ h S hS he hp ho (leftI a l).toNat (by omega) (leftI a l).toNat 0 (k - l.length - 1) (by omega) (by omega)
    simp only [List.take_zero] at hd
    have e0 : ((leftI a l).toNat : Int) - ((0 : Nat) : Int) = leftI a l := by omega
    rw [e0] at hd
    exact hd
  · unfold Own.sharesF
    rw [h.sum, h.leftW, if_pos ⟨by omega, hn0, hn1, by omega⟩]
    rfl
/-! Both functions. -/
theorem mIn (x a b : Int) : spec_l1In.f x a b = some (decide (a ≤ x ∧ x ≤ b)) := within_
theorem mWi (x a b : Int) : impl_within.f x a b = some (decide (a ≤ x ∧ x ≤ b)) := within_
def okW (l : List Int) : Prop := ∀ x ∈ l, 0 ≤ x ∧ x ≤ 1000000
theorem ws_good (a : Int) (l : List Int) (hl : l.length ≤ 20) (hw : okW l) (d : Nat) : ∀ (i k : Nat), i + d = l.length → d < k → spec_ShareAmount.l0 k a l (i : Int) = (spec_l2Sum.f (k - d - 1) l).bind (fun t134 => (if t134 = 0 then (some ((([] : List Int)), false)) else ((spec_l2Share.f (k - d - 1) a l).bind fun t138 => (some (t138, true))))) := by
  induction d with
  | zero =>
    intro i k hi hk
    obtain ⟨k, rfl⟩ : ∃ q, k = q + 1 := ⟨k - 1, by omega⟩
    simp only [spec_ShareAmount.l0]
    rw [if_neg (by omega)]
    rfl
  | succ d ih =>
    intro i k hi hk
    obtain ⟨k, rfl⟩ : ∃ q, k = q + 1 := ⟨k - 1, by omega⟩
    have hil : i < l.length := by omega
    have := hw _ (List.getElem_mem hil)
    simp only [spec_ShareAmount.l0, mIn, Option.bind_some]
    rw [if_pos (by omega), if_pos (by omega), rd_at l i hil, if_pos (decide_eq_true this), w64 (x := (i : Int) + 1) (by omega) (by omega), show (i : Int) + 1 = ((i + 1 : Nat) : Int) by omega, ih (i + 1) k (by omega) (by omega), show k + 1 - (d + 1) - 1 = k - d - 1 by omega]
theorem ws_bad (a : Int) (l : List Int) (hl : l.length ≤ 20) (d : Nat) : ∀ (i k : Nat), i + d = l.length → d < k → ¬ okW (l.drop i) → spec_ShareAmount.l0 k a l (i : Int) = some ([], false) := by
  induction d with
  | zero =>
    intro i k hi hk hw
    rw [List.drop_of_length_le (by omega)] at hw
    exact absurd (fun x hx => by simp at hx) hw
  | succ d ih =>
    intro i k hi hk hw
    obtain ⟨k, rfl⟩ : ∃ q, k = q + 1 := ⟨k - 1, by omega⟩
    have hil : i < l.length := by omega
    simp only [spec_ShareAmount.l0, mIn, Option.bind_some]
    rw [if_pos (by omega), if_pos (by omega), rd_at l i hil]
    by_cases hc : 0 ≤ l[i] ∧ l[i] ≤ 1000000
    · rw [if_pos (decide_eq_true hc), w64 (x := (i : Int) + 1) (by omega) (by omega), show (i : Int) + 1 = ((i + 1 : Nat) : Int) by omega]
      refine ih (i + 1) k (by omega) (by omega) (fun h => hw ?_)
      rw [List.drop_eq_getElem_cons hil]
      intro x hx
      rcases List.mem_cons.1 hx with rfl | hx
      · exact hc
      · exact h x hx
    · rw [decide_eq_false hc]; rfl
theorem ix_good (l : List Int) (hl : l.length ≤ 20) (hw : okW l) (d : Nat) : ∀ (i k : Nat), i + d = l.length → d < k → slices_IndexFunc_int_int.l0 k l (l.length : Int) (i : Int) = some (-1) := by
  induction d with
  | zero =>
    intro i k hi hk
    obtain ⟨k, rfl⟩ : ∃ q, k = q + 1 := ⟨k - 1, by omega⟩
    simp only [slices_IndexFunc_int_int.l0]
    rw [if_neg (by omega)]
  | succ d ih =>
    intro i k hi hk
    obtain ⟨k, rfl⟩ : ∃ q, k = q + 1 := ⟨k - 1, by omega⟩
    have hil : i < l.length := by omega
    have := hw _ (List.getElem_mem hil)
    simp only [slices_IndexFunc_int_int.l0, impl_ShareAmount_1.f, mWi, Option.bind_some]
    rw [if_pos (by omega), if_pos (by omega), if_pos (by omega), rd_at l i hil, decide_eq_true this, w64 (x := (i : Int) + 1) (by omega) (by omega), show (i : Int) + 1 = ((i + 1 : Nat) : Int) by omega]
    exact ih (i + 1) k (by omega) (by omega)
theorem ix_bad (l : List Int) (hl : l.length ≤ 20) (d : Nat) : ∀ (i k : Nat), i + d = l.length → d < k → ¬ okW (l.drop i) → ∃ j : Nat, slices_IndexFunc_int_int.l0 k l (l.length : Int) (i : Int) = some (j : Int) := by
  induction d with
  | zero =>
    intro i k hi hk hw
    rw [List.drop_of_length_le (by omega)] at hw
    exact absurd (fun x hx => by simp at hx) hw
  | succ d ih =>
    intro i k hi hk hw
    obtain ⟨k, rfl⟩ : ∃ q, k = q + 1 := ⟨k - 1, by omega⟩
    have hil : i < l.length := by omega
    simp only [slices_IndexFunc_int_int.l0, impl_ShareAmount_1.f, mWi, Option.bind_some]
    rw [if_pos (by omega), if_pos (by omega), if_pos (by omega), rd_at l i hil]
    by_cases hc : 0 ≤ l[i] ∧ l[i] ≤ 1000000
    · rw [decide_eq_true hc, w64 (x := (i : Int) + 1) (by omega) (by omega), show (i : Int) + 1 = ((i + 1 : Nat) : Int) by omega]
      refine ih (i + 1) k (by omega) (by omega) (fun h => hw ?_)
      rw [List.drop_eq_getElem_cons hil]
      intro x hx
      rcases List.mem_cons.1 hx with rfl | hx
      · exact hc
      · exact h x hx
    · rw [decide_eq_false hc]; exact ⟨i, rfl⟩
theorem nonneg_sum : ∀ (l : List Int), okW l → 0 ≤ l.sum
  | [], _ => by simp
  | x :: l, h => by
    have h1 := nonneg_sum l (fun y hy => h y (by simp [hy]))
    have h2 := h x (by simp)
    rw [List.sum_cons]; omega
theorem share_both (a : Int) (l : List Int) (hl : l.length ≤ 1048576) : ∃ o b, o.length ≤ 20 ∧ (∀ k, 1048700 ≤ k → spec_ShareAmount.f k a l = some (o, b) ∧ impl_ShareAmount.f k a l = some (o, b)) ∧ (b = true → Dom a l ∧ o = shareL a l) ∧ (b = false → o = []) := by
  by_cases ha : 0 ≤ a ∧ a ≤ 1000000000
  · by_cases hn : 1 ≤ (l.length : Int) ∧ (l.length : Int) ≤ 20
    · have hn20 : l.length ≤ 20 := by omega
      have pre : ∀ k, spec_ShareAmount.f (k + 1) a l = spec_ShareAmount.l0 k a l 0 ∧ impl_ShareAmount.f (k + 1) a l = ((slices_ContainsFunc_int_int.f k l).bind fun t153 => (if t153 = true then (some (([] : List Int), false)) else ((impl_sumOf.f k l).bind fun t154 => (if t154 = 0 then (some (([] : List Int), false)) else ((impl_shares.f a l).bind fun t155 => (some (t155, true))))))) := fun k => by
        unfold spec_ShareAmount.f impl_ShareAmount.f spec_l2Amount.f
        simp only [mIn, mWi, Option.bind_some]
        rw [if_pos (decide_eq_true ⟨by omega, ha.2⟩), if_neg (by omega), if_pos (decide_eq_true ha), decide_eq_true hn]
        simp only [spec_ShareAmount.j0, impl_ShareAmount.j0, Bool.not_true, Bool.false_eq_true, if_false]
        exact ⟨trivial, trivial⟩
      by_cases hw : okW l
      · have hB : ∀ k, 100 ≤ k → slices_ContainsFunc_int_int.f k l = some false := fun k hk => by
          unfold slices_ContainsFunc_int_int.f slices_IndexFunc_int_int.f
          rw [show slices_IndexFunc_int_int.l0 k l (l.length : Int) 0 = _ from ix_good l hn20 hw l.length 0 k (by omega) (by omega)]
          rfl
        have hA : ∀ k, 100 ≤ k → spec_ShareAmount.l0 k a l 0 = _ := fun k hk => ws_good a l hn20 hw l.length 0 k (by omega) (by omega)
        have es : Own.sumW l = l.sum := sumW_ 1000000 l hw (by omega)
        have hp := nonneg_sum l hw
        by_cases h0 : l.sum = 0
        · refine ⟨[], false, by simp, fun k hk => ?_, fun h => (by cases h), fun _ => rfl⟩
          obtain ⟨k, rfl⟩ : ∃ q, k = q + 1 := ⟨k - 1, by omega⟩
          rw [(pre k).1, (pre k).2, hA k (by omega), hB k (by omega), (sums_both l hl (k - l.length - 1) (by omega)).1, (sums_both l hl k (by omega)).2, es, h0]
          exact ⟨rfl, rfl⟩
        · have D : Dom a l := ⟨ha.1, ha.2, by omega, hn20, hw, by omega⟩
          refine ⟨shareL a l, true, ?_, fun k hk => ?_, fun _ => ⟨D, rfl⟩, fun h => (by cases h)⟩
          · unfold shareL; rw [Own.bumps_len, Own.outI_len]; omega
          · obtain ⟨k, rfl⟩ : ∃ q, k = q + 1 := ⟨k - 1, by omega⟩
            have hc := core_ D (k - l.length - 1) (by omega)
            have hc2 : impl_shares.f a l = _ := hc.2
            rw [(pre k).1, (pre k).2, hA k (by omega), hB k (by omega), (sums_both l hl (k - l.length - 1) (by omega)).1, (sums_both l hl k (by omega)).2, es, hc.1, hc2]
            simp only [Option.bind_some, h0, if_false, Bool.false_eq_true]
            exact ⟨trivial, trivial⟩
      · refine ⟨[], false, by simp, fun k hk => ?_, fun h => (by cases h), fun _ => rfl⟩
        obtain ⟨k, rfl⟩ : ∃ q, k = q + 1 := ⟨k - 1, by omega⟩
        obtain ⟨j, hj⟩ := ix_bad l hn20 l.length 0 k (by omega) (by omega) (by rw [List.drop_zero]; exact hw)
        have hj' : slices_ContainsFunc_int_int.f k l = some true := by
          unfold slices_ContainsFunc_int_int.f slices_IndexFunc_int_int.f
          rw [show slices_IndexFunc_int_int.l0 k l (l.length : Int) 0 = _ from hj]
          simp
        have hb : spec_ShareAmount.l0 k a l 0 = _ := ws_bad a l hn20 l.length 0 k (by omega) (by omega) (by rw [List.drop_zero]; exact hw)
        rw [(pre k).1, (pre k).2, hb, hj']
        exact ⟨rfl, rfl⟩
    · refine ⟨[], false, by simp, fun k hk => ?_, fun h => (by cases h), fun _ => rfl⟩
      obtain ⟨k, rfl⟩ : ∃ q, k = q + 1 := ⟨k - 1, by omega⟩
      unfold spec_ShareAmount.f impl_ShareAmount.f spec_l2Amount.f
      simp only [mIn, mWi, Option.bind_some]
      rw [if_pos (decide_eq_true ⟨by omega, ha.2⟩), if_neg (by omega), if_pos (decide_eq_true ha), decide_eq_false hn]
      exact ⟨rfl, rfl⟩
  · refine ⟨[], false, by simp, fun k hk => ?_, fun h => (by cases h), fun _ => rfl⟩
    obtain ⟨k, rfl⟩ : ∃ q, k = q + 1 := ⟨k - 1, by omega⟩
    unfold spec_ShareAmount.f impl_ShareAmount.f spec_l2Amount.f
    simp only [mIn, mWi, Option.bind_some]
    rw [decide_eq_false ha]
    refine ⟨?_, rfl⟩
    split
    · rename_i h
      have h := of_decide_eq_true h
      rw [if_pos (by omega)]
      rfl
    · rfl

theorem wt_l1 (l : List Int) (hl : ∀ x ∈ l, (Lit.int .u8 x).wf = true) (d : Nat) : ∀ (x : List Int) (a s : Int) (k : Nat), x.length + d = 22 → 0 ≤ a → a + 4 * (d : Int) + 4 ≤ 2000000000000000000 → d < k → ∃ o a' s', spec_l1Cur_weights.l1 k x l a s = some (o, a', s') ∧ o.length ≤ 22 := by
  induction d with
  | zero =>
    intro x a s k hx h0 h1 hk
    obtain ⟨k, rfl⟩ : ∃ q, k = q + 1 := ⟨k - 1, by omega⟩
    obtain ⟨r, a1, s1, e, r0, r1, _, _⟩ := pick_ l hl a s h0 (by omega) 2 (by omega)
    simp only [spec_l1Cur_weights.l1, e, Option.bind_some]
    rw [w64 (x := 20 + r) (by omega) (by omega), if_neg (by omega)]
    exact ⟨_, _, _, rfl, by omega⟩
  | succ d ih =>
    intro x a s k hx h0 h1 hk
    obtain ⟨k, rfl⟩ : ∃ q, k = q + 1 := ⟨k - 1, by omega⟩
    obtain ⟨r, a1, s1, e, r0, r1, b0, b1⟩ := pick_ l hl a s h0 (by omega) 2 (by omega)
    simp only [spec_l1Cur_weights.l1, e, Option.bind_some]
    rw [w64 (x := 20 + r) (by omega) (by omega)]
    by_cases hc : (x.length : Int) < 20 + r
    · rw [if_pos hc]
      obtain ⟨q, a2, s2, e2, _, _, c0, c1⟩ := pick_ l hl a1 s1 (by omega) (by omega) 9 (by omega)
      simp only [e2, Option.bind_some]
      rw [if_pos (by omega)]
      exact ih (x ++ [q]) a2 s2 k (by rw [List.length_append, List.length_singleton]; omega) (by omega) (by omega) (by omega)
    · rw [if_neg hc]
      exact ⟨_, _, _, rfl, by omega⟩
theorem wt_l0 (l : List Int) (hl : ∀ x ∈ l, (Lit.int .u8 x).wf = true) (d : Nat) : ∀ (x : List Int) (a s : Int) (k : Nat), x.length + d ≤ 10 → 0 ≤ a → a + 4 * (d : Int) + 1000 ≤ 2000000000000000000 → d + 30 < k → ∃ o a' s', spec_l1Cur_weights.l0 k x (d : Int) l a s = some (o, a', s') ∧ o.length ≤ 22 := by
  induction d with
  | zero =>
    intro x a s k hx h0 h1 hk
    obtain ⟨k, rfl⟩ : ∃ q, k = q + 1 := ⟨k - 1, by omega⟩
    obtain ⟨r, a1, s1, e, r0, r1, b0, b1⟩ := pick_ l hl a s h0 (by omega) 16 (by omega)
    simp only [spec_l1Cur_weights.l0]
    rw [if_neg (by omega), e]
    simp only [Option.bind_some]
    by_cases c0 : r = 0
    · rw [if_pos c0]; exact ⟨_, _, _, rfl, by simp⟩
    · rw [if_neg c0]
      by_cases c1 : r = 1
      · rw [if_pos c1]
        exact wt_l1 l hl (22 - x.length) x a1 s1 k (by omega) (by omega) (by omega) (by omega)
      · rw [if_neg c1]
        by_cases c2 : r = 2
        · rw [if_pos c2]
          obtain ⟨q, a2, s2, e2, _, _, _⟩ := among_ l hl a1 s1 (by omega) (by omega) ([1000000, 1000001, (-1), 0] : List Int) (by simp) (by simp)
          simp only [e2, Option.bind_some]
          rw [if_pos (by omega)]
          exact ⟨_, _, _, rfl, by rw [List.length_append, List.length_singleton]; omega⟩
        · rw [if_neg c2]
          by_cases c3 : r = 3
          · rw [if_pos c3]; exact ⟨_, _, _, rfl, by simp⟩
          · rw [if_neg c3]; exact ⟨_, _, _, rfl, by omega⟩
  | succ d ih =>
    intro x a s k hx h0 h1 hk
    obtain ⟨k, rfl⟩ : ∃ q, k = q + 1 := ⟨k - 1, by omega⟩
    obtain ⟨r, a1, s1, e, r0, r1, b0, b1⟩ := pick_ l hl a s h0 (by omega) 6 (by omega)
    simp only [spec_l1Cur_weights.l0]
    rw [if_pos (by omega), e]
    simp only [Option.bind_some]
    rw [if_pos (by omega), w64 (by omega) (by omega), show ((d + 1 : Nat) : Int) - 1 = (d : Int) by omega]
    exact ih (x ++ [r]) a1 s1 k (by rw [List.length_append, List.length_singleton]; omega) (by omega) (by omega) (by omega)
theorem amount_ (l : List Int) (hl : ∀ x ∈ l, (Lit.int .u8 x).wf = true) (a s : Int) (h0 : 0 ≤ a) (h1 : a ≤ 1000000000000000) : ∃ r a' s', spec_l1Cur_amount.f l a s = some (r, a', s') ∧ a ≤ a' ∧ a' ≤ a + 4 := by
  unfold spec_l1Cur_amount.f
  obtain ⟨r, a1, s1, e, r0, r1, b0, b1⟩ := pick_ l hl a s h0 (by omega) 12 (by omega)
  rw [e]
  simp only [Option.bind_some]
  by_cases c0 : r = 0
  · rw [if_pos c0]
    obtain ⟨q, a2, s2, e2, _, d0, d1⟩ := among_ l hl a1 s1 (by omega) (by omega) ([1000000000, (-1000000000), 1000000001, (-1000000001)] : List Int) (by simp) (by simp)
    rw [e2]; exact ⟨_, a2, s2, rfl, by omega, by omega⟩
  · rw [if_neg c0]
    by_cases c1 : r = 1
    · rw [if_pos c1]
      obtain ⟨q, a2, s2, e2, _, _, d0, d1⟩ := pick_ l hl a1 s1 (by omega) (by omega) 2000 (by omega)
      rw [e2]; exact ⟨_, a2, s2, rfl, by omega, by omega⟩
    · rw [if_neg c1]
      by_cases c2 : r = 2
      · rw [if_pos c2]
        obtain ⟨q, a2, s2, e2, _, _, d0, d1⟩ := pick_ l hl a1 s1 (by omega) (by omega) 60000 (by omega)
        rw [e2]; exact ⟨_, a2, s2, rfl, by omega, by omega⟩
      · rw [if_neg c2]
        obtain ⟨q, a2, s2, e2, _, _, d0, d1⟩ := pick_ l hl a1 s1 (by omega) (by omega) 2000 (by omega)
        rw [e2]; exact ⟨_, a2, s2, rfl, by omega, by omega⟩
theorem drawn_ (l : List Int) (hl : ∀ x ∈ l, (Lit.int .u8 x).wf = true) (k : Nat) (hk : 100 ≤ k) : ∃ a ws, spec_DrawShareAmount.f k l = some (a, ws) ∧ ws.length ≤ 22 := by
  unfold spec_DrawShareAmount.f
  obtain ⟨r, a1, s1, e, b0, b1⟩ := amount_ l hl 0 0 (by omega) (by omega)
  rw [e]
  simp only [Option.bind_some]
  unfold spec_l1Cur_weights.f
  obtain ⟨q, a2, s2, e2, q0, q1, c0, c1⟩ := pick_ l hl a1 s1 (by omega) (by omega) 5 (by omega)
  rw [e2]
  simp only [Option.bind_some]
  rw [w64 (x := 1 + q) (by omega) (by omega)]
  obtain ⟨o, a3, s3, e3, ho⟩ := wt_l0 l hl (1 + q).toNat [] a2 s2 k (by simp; omega) (by omega) (by omega) (by omega)
  rw [show (((1 + q).toNat : Nat) : Int) = 1 + q by omega] at e3
  rw [e3]
  exact ⟨_, _, rfl, ho⟩
/-! One more for some of the shares. -/
theorem set_sum (x : Int) : ∀ (o : List Int) (j : Nat) (h : j < o.length), (o.set j x).sum = o.sum - o[j] + x
  | y :: o, 0, _ => by simp; omega
  | y :: o, j + 1, h => by
    have := set_sum x o j (by simpa using h)
    simp only [List.set_cons_succ, List.sum_cons, List.getElem_cons_succ]
    omega
theorem bumps_facts : ∀ (js : List Nat) (o : List Int), js.Nodup → (∀ j ∈ js, ∃ h : j < o.length, 0 ≤ o[j] ∧ o[j] ≤ 1000000000000000) →
    (Own.bumps o (js.map fun (j : Nat) => (j : Int))).sum = o.sum + (js.length : Int) ∧ ∀ i (h : i < o.length) (h' : i < (Own.bumps o (js.map fun (j : Nat) => (j : Int))).length), (Own.bumps o (js.map fun (j : Nat) => (j : Int)))[i] = o[i] ∨ (Own.bumps o (js.map fun (j : Nat) => (j : Int)))[i] = o[i] + 1 ∧ i ∈ js
  | [], o, _, _ => ⟨by simp [Own.bumps], fun i h h' => .inl rfl⟩
  | j :: js, o, hn, hb => by
    obtain ⟨hj, b0, b1⟩ := hb j (by simp)
    have hnj : j ∉ js := (List.nodup_cons.1 hn).1
    have e : Own.bump o (j : Int) = o.set j (o[j] + 1) := by
      unfold Own.bump
      rw [Int.toNat_natCast]
      congr 1
      rw [show YthdhcecmjkiepaaW.PrintWords.rd o (j : Int) = o[j] from rd_at o j hj]
      exact w64 (by omega) (by omega)
    have hb' : ∀ j' ∈ js, ∃ h : j' < (Own.bump o (j : Int)).length, 0 ≤ (Own.bump o (j : Int))[j'] ∧ (Own.bump o (j : Int))[j'] ≤ 1000000000000000 := by
      intro j' hj'
      obtain ⟨h, h1⟩ := hb j' (by simp [hj'])
      refine ⟨by rw [Own.bump_len]; exact h, ?_⟩
      have hne : j ≠ j' := fun e => hnj (e ▸ hj')
      simp only [e, List.getElem_set_ne hne]
      exact h1
    obtain ⟨h1, h2⟩ := bumps_facts js (Own.bump o (j : Int)) (List.nodup_cons.1 hn).2 hb'
    have e2 : Own.bumps o ((j :: js).map fun (j : Nat) => (j : Int)) = Own.bumps (Own.bump o (j : Int)) (js.map fun (j : Nat) => (j : Int)) := rfl
    simp only [e2]
    constructor
    · rw [h1, e, set_sum _ o j hj, List.length_cons]
      omega
    · intro i hi hi'
      have hv := h2 i (by rw [Own.bump_len]; exact hi) hi'
      by_cases hij : j = i
      · subst hij
        have : (Own.bump o (j : Int))[j]'(by rw [Own.bump_len]; exact hi) = o[j] + 1 := by simp only [e, List.getElem_set_self]
        rw [this] at hv
        rcases hv with hv | ⟨_, hv⟩
        · exact .inr ⟨hv, by simp⟩
        · exact absurd hv hnj
      · have : (Own.bump o (j : Int))[i]'(by rw [Own.bump_len]; exact hi) = o[i] := by simp only [e, List.getElem_set_ne hij]
        rw [this] at hv
        rcases hv with hv | ⟨hv, hm⟩
        · exact .inl hv
        · exact .inr ⟨hv, by simp [hm]⟩
theorem share_facts {a : Int} {l : List Int} (h : Dom a l) : (shareL a l).length = l.length ∧ (shareL a l).sum = a ∧ ∀ i (h1 : i < (shareL a l).length) (h2 : i < (Own.outI a l.sum l).length), (shareL a l)[i] = (Own.outI a l.sum l)[i] ∨ (shareL a l)[i] = (Own.outI a l.sum l)[i] + 1 := by
  obtain ⟨S, hS, he, hp, _⟩ := ord_facts a l h.n0
  have hl := h.left
  have hnd : S.Nodup := hp.nodup_iff.2 List.nodup_range
  have hsub : (S.take (leftI a l).toNat).Nodup := List.Nodup.sublist (List.take_sublist _ _) hnd
  have e : shareL a l = Own.bumps (Own.outI a l.sum l) ((S.take (leftI a l).toNat).map fun (j : Nat) => (j : Int)) := by
    unfold shareL
    rw [he, List.map_take]
  obtain ⟨h1, h2⟩ := bumps_facts (S.take (leftI a l).toNat) (Own.outI a l.sum l) hsub (fun j hj => by
    have hjl : j < l.length := List.mem_range.1 (hp.mem_iff.1 (List.mem_of_mem_take hj))
    have hjo : j < (Own.outI a l.sum l).length := by rw [Own.outI_len]; exact hjl
    exact ⟨hjo, h.outB _ (List.getElem_mem hjo)⟩)
  refine ⟨by unfold shareL; rw [Own.bumps_len, Own.outI_len], ?_, fun i hi hi2 => ?_⟩
  · rw [e, h1, List.length_take, hS]
    have e2 : leftI a l = a - (Own.outI a l.sum l).sum := rfl
    omega
  · have := h2 i hi2 (by rw [← e]; exact hi)
    simp only [e]
    rcases this with h | h
    · exact .inl h
    · exact .inr h.1
theorem lw_l0 (a : Int) (l o : List Int) (hl : l.length ≤ 1048576) (ho : o.length = l.length) (x9 : Int) (d : Nat) : ∀ (i k : Nat) (acc : Int), i + d = l.length → d < k → laws_FnShares.l0 k a l o x9 acc (i : Int) = laws_FnShares.l1 (k - d - 1) a l o x9 ((l.drop i).foldl (fun s x => wrap64 (s + x)) acc) 0 := by
  induction d with
  | zero =>
    intro i k acc hi hk
    obtain ⟨k, rfl⟩ : ∃ q, k = q + 1 := ⟨k - 1, by omega⟩
    simp only [laws_FnShares.l0]
    rw [if_neg (by omega), if_pos (by omega), List.drop_of_length_le (by omega)]
    rfl
  | succ d ih =>
    intro i k acc hi hk
    obtain ⟨k, rfl⟩ : ∃ q, k = q + 1 := ⟨k - 1, by omega⟩
    have hil : i < l.length := by omega
    simp only [laws_FnShares.l0]
    rw [if_pos (by omega), if_pos (by omega), w64 (x := (i : Int) + 1) (by omega) (by omega), show (i : Int) + 1 = ((i + 1 : Nat) : Int) by omega, ih (i + 1) k _ (by omega) (by omega), rd_at l i hil, List.drop_eq_getElem_cons hil, show k + 1 - (d + 1) - 1 = k - d - 1 by omega]
    rfl
theorem lw_l1 {a : Int} {l : List Int} (h : Dom a l) (d : Nat) : ∀ (i k : Nat), i + d = l.length → d < k → laws_FnShares.l1 k a l (shareL a l) ((shareL a l).take i).sum l.sum (i : Int) = some true := by
  obtain ⟨h1, h2, h3⟩ := share_facts h
  have hn1 := h.n1
  have hs0 := h.s0
  induction d with
  | zero =>
    intro i k hi hk
    obtain ⟨k, rfl⟩ : ∃ q, k = q + 1 := ⟨k - 1, by omega⟩
    simp only [laws_FnShares.l1]
    rw [if_neg (by omega), List.take_of_length_le (by omega), h2]
    simp
  | succ d ih =>
    intro i k hi hk
    obtain ⟨k, rfl⟩ : ∃ q, k = q + 1 := ⟨k - 1, by omega⟩
    have hil : i < l.length := by omega
    have his : i < (shareL a l).length := by omega
    have hio : i < (Own.outI a l.sum l).length := by rw [Own.outI_len]; exact hil
    have hv := h3 i his hio
    have eo : wrap64 (Int.tdiv (wrap64 (a * rd l (i : Int))) l.sum) = (Own.outI a l.sum l)[i] := by
      rw [rd_at l i hil]
      simp [Own.outI]
    have bo := h.outB _ (List.getElem_mem hio)
    have hall : ∀ x ∈ shareL a l, 0 ≤ x ∧ x ≤ 1000000000000001 := fun x hx => by
      obtain ⟨p, hp1, rfl⟩ := List.getElem_of_mem hx
      have hpo : p < (Own.outI a l.sum l).length := by rw [Own.outI_len]; omega
      have := h3 p hp1 hpo
      have := h.outB _ (List.getElem_mem hpo)
      omega
    have b2 := sum_bound 1000000000000001 (by omega) ((shareL a l).take i) (fun x hx => hall x (List.mem_of_mem_take hx))
    have b3 : ((shareL a l).take i).length ≤ 20 := by rw [List.length_take]; omega
    have e4 : ((shareL a l).take (i + 1)).sum = ((shareL a l).take i).sum + (shareL a l)[i] := by
      rw [List.take_succ_eq_append_getElem his, List.sum_append]
      simp
    have hi' := ih (i + 1) k (by omega) (by omega)
    rw [e4] at hi'
    simp only [laws_FnShares.l1]
    rw [if_pos (by omega), if_pos (by omega), if_pos (by omega), if_neg (by omega), eo, rd_at _ i his, w64 (x := (i : Int) + 1) (by omega) (by omega), show (i : Int) + 1 = ((i + 1 : Nat) : Int) by omega, w64 (x := ((shareL a l).take i).sum + _) (by omega) (by omega), w64 (x := (Own.outI a l.sum l)[i] + 1) (by omega) (by omega)]
    rcases hv with hv | hv
    · rw [if_pos hv]; exact hi'
    · rw [if_neg (by omega), if_pos hv]; exact hi'
theorem FnShares (l : List Int) (_ : l.length ≤ maxLen) (hl : ∀ x ∈ l, (Lit.int .u8 x).wf = true) : ∃ k, laws_FnShares.f k l = some true := by
  refine ⟨2000000, ?_⟩
  unfold laws_FnShares.f laws_vBig.f
  simp only [Option.bind_some]
  by_cases hv : (l.length : Int) > 65536
  · rw [if_pos (decide_eq_true hv)]
  · rw [decide_eq_false hv]
    obtain ⟨a, ws, e, hw⟩ := drawn_ l hl 2000000 (by omega)
    obtain ⟨o, b, ho, hb, ht, hf⟩ := share_both a ws (by omega)
    rw [e]
    simp only [Option.bind_some, Bool.false_eq_true, if_false, (hb 2000000 (by omega)).1, (hb 2000000 (by omega)).2, bne_self_eq_false]
    cases b with
    | false =>
      rw [hf rfl]
      rfl
    | true =>
      obtain ⟨D, rfl⟩ := ht rfl
      obtain ⟨h1, _, _⟩ := share_facts D
      have hn1 := D.n1
      rw [if_pos rfl]
      have e0 := lw_l0 a ws (shareL a ws) (by omega) h1 0 ws.length 0 2000000 0 (by omega) (by omega)
      refine (e0.trans ?_ : laws_FnShares.l0 2000000 a ws (shareL a ws) 0 0 0 = _)
      have e1 : (ws.drop 0).foldl (fun s x => wrap64 (s + x)) 0 = ws.sum := D.sum
      rw [e1]
      have := lw_l1 D ws.length 0 (2000000 - ws.length - 1) (by omega) (by omega)
      simpa using this

end Go.Proofs.Ythdhcecmjkiepaa.Pure
