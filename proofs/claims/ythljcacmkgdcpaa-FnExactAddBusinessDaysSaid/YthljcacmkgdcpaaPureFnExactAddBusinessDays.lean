/- The program's AddBusinessDays and the reference's return the same for every calendar and number, and the calendar stays as it was; no condition. -/
import Derived.Test.YthljcacmkgdcpaaQFnExactAddBusinessDaysx4
namespace Go.Proofs.Ythljcacmkgdcpaa.Pure
open Go.RowKit Go.Proofs.Ythljcacmkgdcpaa.QFnExactAddBusinessDays Go.Proofs.YthljcacmkgdcpaaW.PrintWords Go.Proofs.YthljcacmkgdcpaaW.PrintLast Go.Proofs.YthljcacmkgdcpaaW.PrintMore
set_option linter.unusedVariables false
set_option linter.unusedSimpArgs false

theorem w64 {x : Int} (h : -9223372036854775808 ≤ x) (h' : x ≤ 9223372036854775807) : wrap64 x = x := by unfold wrap64; omega
theorem tdv {x : Int} (n : Int) (h : 0 ≤ x) : Int.tdiv x n = x / n := Int.tdiv_eq_ediv_of_nonneg h
theorem tmd {x : Int} (n : Int) (h : 0 ≤ x) : Int.tmod x n = x % n := Int.tmod_eq_emod_of_nonneg h
theorem wfb {a : Int} (h : (Lit.int .i64 a).wf = true) : -9223372036854775808 ≤ a ∧ a ≤ 9223372036854775807 := by
  simp [Lit.wf, IntKind.min, IntKind.max, IntKind.signed, IntKind.bits] at h
  omega
theorem within_ {x a b : Int} : (if x ≥ a then some (decide (x ≤ b)) else some false) = some (decide (a ≤ x ∧ x ≤ b)) := by
  by_cases h : x ≥ a
  · rw [if_pos h]; congr 1; simp; omega
  · rw [if_neg h]; congr 1; simp; omega

theorem maxLen_ : maxLen = 9223372036854775807 := rfl
theorem set_take {l x : List Int} {n i : Nat} (hl : x.length = l.length) (hi : i < l.length) (h : x.take i = l.take i) : (x.set i (rd l i)).take (i + 1) = l.take (i + 1) := by
  have e : rd l i = l[i] := by unfold rd; simp [List.getD_eq_getElem?_getD, hi]
  rw [e]
  apply List.ext_getElem
  · simp [hl]
  · intro j h1 h2
    simp only [List.getElem_take, List.getElem_set]
    split
    · subst_vars; rfl
    · have hj : j < i := by simp at h1; omega
      have := congrArg (fun z => z[j]?) h
      simp only [List.getElem?_take_of_lt hj] at this
      rw [List.getElem?_eq_getElem (by omega), List.getElem?_eq_getElem (by omega)] at this
      exact Option.some.inj this
theorem toIntS_l0 (l : List Int) (hl : l.length ≤ 1048576) (d : Nat) : ∀ (x : List Int) (i k : Nat), x.length = l.length → i + d = l.length → d < k → x.take i = l.take i → laws_toIntS.l0 k l x (i : Int) = some l := by
  induction d with
  | zero =>
    intro x i k hx hi hk ht
    obtain ⟨k, rfl⟩ : ∃ j, k = j + 1 := ⟨k - 1, by omega⟩
    simp only [laws_toIntS.l0]
    rw [if_neg (by omega)]
    rw [List.take_of_length_le (by omega), List.take_of_length_le (by omega)] at ht
    rw [ht]
  | succ d ih =>
    intro x i k hx hi hk ht
    obtain ⟨k, rfl⟩ : ∃ j, k = j + 1 := ⟨k - 1, by omega⟩
    simp only [laws_toIntS.l0]
    rw [if_pos (by omega), if_pos (by omega), if_pos (by omega), w64 (by omega) (by omega), show ((i : Int) + 1) = ((i + 1 : Nat) : Int) by omega, Int.toNat_natCast]
    exact ih _ (i + 1) k (by rw [List.length_set]; exact hx) (by omega) (by omega) (set_take (n := 0) hx (by omega) ht)
theorem toIntS_ (l : List Int) (hl : l.length ≤ 1048576) (k : Nat) (hk : l.length < k) : laws_toIntS.f k l = some l := by
  unfold laws_toIntS.f
  rw [if_pos (by omega), if_pos (by omega), Int.toNat_natCast]
  exact toIntS_l0 l hl l.length _ 0 k (by simp) (by omega) hk (by simp)
theorem eqIntS_l0 (l : List Int) (hl : l.length ≤ 1048576) (d : Nat) : ∀ (i k : Nat), i + d = l.length → d < k → laws_eqIntS.l0 k l l (i : Int) = some true := by
  induction d with
  | zero =>
    intro i k hi hk
    obtain ⟨k, rfl⟩ : ∃ j, k = j + 1 := ⟨k - 1, by omega⟩
    simp only [laws_eqIntS.l0]
    rw [if_neg (by omega)]
  | succ d ih =>
    intro i k hi hk
    obtain ⟨k, rfl⟩ : ∃ j, k = j + 1 := ⟨k - 1, by omega⟩
    simp only [laws_eqIntS.l0]
    rw [if_pos (by omega), if_pos (by omega), if_pos (by omega), if_pos trivial, w64 (by omega) (by omega), show ((i : Int) + 1) = ((i + 1 : Nat) : Int) by omega]
    exact ih (i + 1) k (by omega) (by omega)
theorem eqIntS_ (l : List Int) (hl : l.length ≤ 1048576) (k : Nat) (hk : l.length < k) : laws_eqIntS.f k l l = some true := by
  unfold laws_eqIntS.f
  rw [if_pos rfl]
  exact eqIntS_l0 l hl l.length 0 k (by omega) hk

theorem toCalendar_ (a b : List Int) (ha : a.length ≤ 1048576) (hb : b.length ≤ 1048576) (k : Nat) (hk : 1048576 < k) : laws_toCalendar.f k a b = some (a, b) := by
  unfold laws_toCalendar.f
  rw [toIntS_ a ha k (by omega), toIntS_ b hb k (by omega)]; rfl
theorem eqCalendar_ (a b : List Int) (ha : a.length ≤ 1048576) (hb : b.length ≤ 1048576) (k : Nat) (hk : 1048576 < k) : laws_eqCalendar.f k a b a b = some true := by
  unfold laws_eqCalendar.f
  rw [eqIntS_ a ha k (by omega), eqIntS_ b hb k (by omega)]; rfl
theorem szCalendar_ (a b : List Int) (ha : a.length ≤ maxLen) (hb : b.length ≤ maxLen) : ∃ t, laws_szCalendar.f a b 1048576 = some t ∧ (t < 0 ∨ (0 ≤ t ∧ a.length ≤ 1048576 ∧ b.length ≤ 1048576)) := by
  rw [maxLen_] at ha hb
  unfold laws_szCalendar.f laws_szIntS.f
  rw [w64 (x := 1048576 - (a.length : Int)) (by omega) (by omega)]
  by_cases h1 : (1048576 : Int) - a.length < 0
  · rw [if_pos h1]; exact ⟨-1, by simp, Or.inl (by omega)⟩
  · rw [if_neg h1]
    simp only [Option.bind_some]
    rw [if_neg h1, w64 (by omega) (by omega)]
    by_cases h2 : (1048576 : Int) - a.length - b.length < 0
    · rw [if_pos h2]; exact ⟨-1, by simp, Or.inl (by omega)⟩
    · rw [if_neg h2]
      simp only [Option.bind_some]
      rw [if_neg h2]
      exact ⟨_, rfl, Or.inr (by omega)⟩

theorem cwithin_ (x a b : Int) : impl_within.f x a b = some (decide (a ≤ x ∧ x ≤ b)) := by unfold impl_within.f; exact within_
theorem cl1In_ (x a b : Int) : spec_l1In.f x a b = some (decide (a ≤ x ∧ x ≤ b)) := by unfold spec_l1In.f; exact within_
theorem rising_l0 (l : List Int) (hl : l.length ≤ 1048576) (lo hi most : Int) (d : Nat) : ∀ (i k : Nat), i + d = l.length → d < k →
    ∃ b, spec_l1Rising.l0 k l lo hi (i : Int) = some b ∧ impl_isRising.l0 k l lo hi most l (l.length : Int) (i : Int) = some (b && decide ((l.length : Int) ≤ most)) := by
  induction d with
  | zero =>
    intro i k hid hk
    obtain ⟨k, rfl⟩ : ∃ j, k = j + 1 := ⟨k - 1, by omega⟩
    refine ⟨true, ?_, ?_⟩
    · simp only [spec_l1Rising.l0]; rw [if_neg (by omega)]
    · simp only [impl_isRising.l0]; rw [if_neg (by omega)]; simp
  | succ d ih =>
    intro i k hid hk
    obtain ⟨k, rfl⟩ : ∃ j, k = j + 1 := ⟨k - 1, by omega⟩
    obtain ⟨b, h1, h2⟩ := ih (i + 1) k (by omega) (by omega)
    have c1 : (i : Int) < (l.length : Int) := by omega
    have c0 : (0 : Int) ≤ (i : Int) := by omega
    simp only [spec_l1Rising.l0, impl_isRising.l0, cwithin_, cl1In_, Option.bind_some, c1, c0, if_true]
    rw [w64 (x := (i : Int) + 1) (by omega) (by omega), show ((i : Int) + 1) = ((i + 1 : Nat) : Int) by omega, h1, h2]
    by_cases hr : decide (lo ≤ rd l (i : Int) ∧ rd l (i : Int) ≤ hi) = true
    · rw [if_pos hr, if_pos hr]
      by_cases h0 : (i : Int) > 0
      · have c2 : (0 : Int) ≤ (i : Int) - 1 := by omega
        have c3 : (i : Int) - 1 < (l.length : Int) := by omega
        rw [w64 (x := (i : Int) - 1) (by omega) (by omega)]
        simp only [h0, c2, c3, if_true]
        by_cases hc : rd l (i : Int) ≤ rd l ((i : Int) - 1)
        · exact ⟨false, by rw [if_pos (by omega)], by rw [if_pos hc]; rfl⟩
        · exact ⟨b, by rw [if_neg (by omega)], by rw [if_neg hc]⟩
      · exact ⟨b, by rw [if_neg h0], by rw [if_neg h0]⟩
    · exact ⟨false, by rw [if_neg hr], by rw [if_neg hr]; rfl⟩
theorem good_ (a b : List Int) (ha : a.length ≤ 1048576) (hb : b.length ≤ 1048576) : ∃ v, ∀ k, 1048577 < k → spec_l4Good.f k a b = some v ∧ impl_IsValidCalendar.f k a b = some v := by
  obtain ⟨x, x1, x2⟩ := rising_l0 a ha 0 6 6 a.length 0 1048577 (by omega) (by omega)
  obtain ⟨y, y1, y2⟩ := rising_l0 b hb 0 36524 40 b.length 0 1048577 (by omega) (by omega)
  refine ⟨(decide ((a.length : Int) ≤ 6) && x) && (decide ((b.length : Int) ≤ 40) && y), fun k hk => ?_⟩
  have X1 : spec_l1Rising.f k a 0 6 = some x := at_rounds (fun k => spec_l1Rising.mono a 0 6 k) (by omega : 1048577 ≤ k) (by unfold spec_l1Rising.f; exact x1)
  have Y1 : spec_l1Rising.f k b 0 36524 = some y := at_rounds (fun k => spec_l1Rising.mono b 0 36524 k) (by omega : 1048577 ≤ k) (by unfold spec_l1Rising.f; exact y1)
  have X2 : impl_isRising.f k a 0 6 6 = some (x && decide ((a.length : Int) ≤ 6)) := at_rounds (fun k => impl_isRising.mono a 0 6 6 k) (by omega : 1048577 ≤ k) (by unfold impl_isRising.f; exact x2)
  have Y2 : impl_isRising.f k b 0 36524 40 = some (y && decide ((b.length : Int) ≤ 40)) := at_rounds (fun k => impl_isRising.mono b 0 36524 40 k) (by omega : 1048577 ≤ k) (by unfold impl_isRising.f; exact y2)
  constructor
  · unfold spec_l4Good.f
    rw [X1, Y1]
    simp only [Option.bind_some]
    by_cases h1 : (a.length : Int) ≤ 6 <;> cases x <;> by_cases h2 : (b.length : Int) ≤ 40 <;> simp [h1, h2]
  · unfold impl_IsValidCalendar.f
    rw [X2, Y2]
    simp only [Option.bind_some]
    by_cases h1 : (a.length : Int) ≤ 6 <;> cases x <;> by_cases h2 : (b.length : Int) ≤ 40 <;> cases y <;> simp [h1, h2]

theorem has_l0 (l : List Int) (hl : l.length ≤ 1048576) (v : Int) (d : Nat) : ∀ (i k : Nat), i + d = l.length → d < k →
    ∃ b j, spec_l1Has.l0 k l v (i : Int) = some b ∧ slices_Index_int_int.l0 k l v (l.length : Int) (i : Int) = some j ∧ decide (j ≥ 0) = b := by
  induction d with
  | zero =>
    intro i k hi hk
    obtain ⟨k, rfl⟩ : ∃ j, k = j + 1 := ⟨k - 1, by omega⟩
    refine ⟨false, -1, ?_, ?_, by decide⟩
    · simp only [spec_l1Has.l0]; rw [if_neg (by omega)]
    · simp only [slices_Index_int_int.l0]; rw [if_neg (by omega)]
  | succ d ih =>
    intro i k hi hk
    obtain ⟨k, rfl⟩ : ∃ j, k = j + 1 := ⟨k - 1, by omega⟩
    obtain ⟨b, j, h1, h2, h3⟩ := ih (i + 1) k (by omega) (by omega)
    by_cases hc : rd l (i : Int) = v
    · refine ⟨true, (i : Int), ?_, ?_, decide_eq_true (by omega)⟩
      · simp only [spec_l1Has.l0]; rw [if_pos (by omega), if_pos (by omega), if_pos hc]
      · simp only [slices_Index_int_int.l0]; rw [if_pos (by omega), if_pos (by omega), if_pos (by omega), if_pos hc.symm]
    · refine ⟨b, j, ?_, ?_, h3⟩
      · simp only [spec_l1Has.l0]; rw [if_pos (by omega), if_pos (by omega), if_neg hc, w64 (by omega) (by omega), show ((i : Int) + 1) = ((i + 1 : Nat) : Int) by omega]; exact h1
      · simp only [slices_Index_int_int.l0]; rw [if_pos (by omega), if_pos (by omega), if_pos (by omega), if_neg (fun h => hc h.symm), w64 (by omega) (by omega), show ((i : Int) + 1) = ((i + 1 : Nat) : Int) by omega]; exact h2
theorem has_ (l : List Int) (hl : l.length ≤ 1048576) (v : Int) : ∃ b, ∀ k, 1048577 < k → spec_l1Has.f k l v = some b ∧ slices_Contains_int_int.f k l v = some b := by
  obtain ⟨b, j, h1, h2, h3⟩ := has_l0 l hl v l.length 0 1048577 (by omega) (by omega)
  refine ⟨b, fun k hk => ⟨at_rounds (fun k => spec_l1Has.mono l v k) (by omega : 1048577 ≤ k) (by unfold spec_l1Has.f; exact h1), ?_⟩⟩
  have : slices_Index_int_int.f k l v = some j := at_rounds (fun k => slices_Index_int_int.mono l v k) (by omega : 1048577 ≤ k) (by unfold slices_Index_int_int.f; exact h2)
  unfold slices_Contains_int_int.f
  rw [this]; simp only [Option.bind_some]; rw [h3]
theorem open_ (a b : List Int) (ha : a.length ≤ 1048576) (hb : b.length ≤ 1048576) (day : Int) : ∃ v, ∀ k, 1048577 < k → spec_l4Open.f k a b day = some v ∧ impl_isBusiness.f k a b day = some v := by
  obtain ⟨x, hx⟩ := has_ a ha (Int.tmod (wrap64 (day + 5)) 7)
  obtain ⟨y, hy⟩ := has_ b hb day
  refine ⟨if x = true then false else !y, fun k hk => ?_⟩
  unfold spec_l4Open.f impl_isBusiness.f spec_l3Weekday.f impl_weekday.f
  simp only [Option.bind_some, (hx k hk).1, (hx k hk).2, (hy k hk).1, (hy k hk).2]
  cases x <;> simp

theorem goodday_ (day : Int) : spec_l3Good.f day = some (decide (0 ≤ day ∧ day ≤ 36524)) := by unfold spec_l3Good.f; rw [cl1In_]; rfl
theorem isDay__ (day : Int) : impl_isDay.f day = some (decide (0 ≤ day ∧ day ≤ 36524)) := by unfold impl_isDay.f; rw [cwithin_]; rfl

theorem seek_l0 (a b : List Int) (ha : a.length ≤ 1048576) (hb : b.length ≤ 1048576) (s : Int) (hs : s = 1 ∨ s = -1) (d : Nat) : ∀ (day : Int) (k : Nat), (s = 1 → 36524 - day < d ∧ -2 ≤ day) → (s = -1 → day < d ∧ day ≤ 36526) → 1048578 + d < k →
    ∃ r, spec_l4Seek.l0 k day s a b = some r ∧ impl_nearBusiness.l0 k day s a b = some r ∧ (r = -1 ∨ 0 ≤ r ∧ r ≤ 36524) := by
  induction d with
  | zero =>
    intro day k h1 h2 hk
    obtain ⟨k, rfl⟩ : ∃ j, k = j + 1 := ⟨k - 1, by omega⟩
    refine ⟨-1, ?_, ?_, Or.inl rfl⟩
    · simp only [spec_l4Seek.l0, goodday_, Option.bind_some]; rw [if_neg (by simp; intro; rcases hs with h | h <;> simp [h] at h1 h2 <;> omega)]
    · simp only [impl_nearBusiness.l0, isDay__, Option.bind_some]; rw [if_neg (by simp; intro; rcases hs with h | h <;> simp [h] at h1 h2 <;> omega)]
  | succ d ih =>
    intro day k h1 h2 hk
    obtain ⟨k, rfl⟩ : ∃ j, k = j + 1 := ⟨k - 1, by omega⟩
    simp only [spec_l4Seek.l0, goodday_, impl_nearBusiness.l0, isDay__, Option.bind_some]
    by_cases hg : decide (0 ≤ day ∧ day ≤ 36524) = true
    · have hd := of_decide_eq_true hg
      obtain ⟨v, hv⟩ := open_ a b ha hb day
      have hv := hv k (by omega)
      rw [if_pos hg, if_pos hg, hv.1, hv.2]
      simp only [Option.bind_some]
      cases v with
      | true => exact ⟨day, by simp, by simp, Or.inr hd⟩
      | false =>
        obtain ⟨r, r1, r2, r3⟩ := ih (day + s) k (by omega) (by omega) (by omega)
        refine ⟨r, ?_, ?_, r3⟩
        · simp only [Bool.false_eq_true, if_false]; rw [w64 (by omega) (by omega)]; exact r1
        · simp only [Bool.false_eq_true, if_false]; rw [w64 (by omega) (by omega)]; exact r2
    · exact ⟨-1, by rw [if_neg hg], by rw [if_neg hg], Or.inl rfl⟩
theorem seek_ (a b : List Int) (ha : a.length ≤ 1048576) (hb : b.length ≤ 1048576) (s day : Int) (hs : s = 1 ∨ s = -1) (h0 : -1 ≤ day) (h1 : day ≤ 36525) :
    ∃ r, (r = -1 ∨ 0 ≤ r ∧ r ≤ 36524) ∧ ∀ k, 1100000 ≤ k → spec_l4Seek.f k a b day s = some r ∧ impl_nearBusiness.f k a b day s = some r := by
  obtain ⟨r, r1, r2, r3⟩ := seek_l0 a b ha hb s hs 36530 day 1100000 (by omega) (by omega) (by omega)
  exact ⟨r, r3, fun k hk => ⟨at_rounds (fun k => spec_l4Seek.mono a b day s k) hk (by unfold spec_l4Seek.f; exact r1), at_rounds (fun k => impl_nearBusiness.mono a b day s k) hk (by unfold impl_nearBusiness.f; exact r2)⟩⟩

theorem csize_ (x : Int) (h : -9223372036854775807 ≤ x) (h' : x ≤ 9223372036854775807) : impl_size.f x = some (x.natAbs : Int) := by
  unfold impl_size.f mx; rw [w64 (by omega) (by omega)]; congr 1; split <;> omega
theorem add_l0 (a b : List Int) (ha : a.length ≤ 1048576) (hb : b.length ≤ 1048576) (s N : Int) (hs : s = 1 ∨ s = -1) (hN : N ≤ 1000) (d : Nat) : ∀ (day : Int) (k : Nat), 0 ≤ day → day ≤ 36524 → (d : Int) ≤ N → 1100000 + d < k →
    ∃ r, spec_AddBusinessDays.l0 k day d s a b = some r ∧ impl_AddBusinessDays.l0 k day s N (N - d) a b = some r := by
  induction d with
  | zero =>
    intro day k h0 h1 h2 hk
    obtain ⟨k, rfl⟩ : ∃ j, k = j + 1 := ⟨k - 1, by omega⟩
    refine ⟨(day, true), ?_, ?_⟩
    · simp only [spec_AddBusinessDays.l0]; rw [if_neg (by omega)]
    · simp only [impl_AddBusinessDays.l0]; rw [if_neg (by omega)]
  | succ d ih =>
    intro day k h0 h1 h2 hk
    obtain ⟨k, rfl⟩ : ∃ j, k = j + 1 := ⟨k - 1, by omega⟩
    obtain ⟨r, hr, hr2⟩ := seek_ a b ha hb s (day + s) hs (by omega) (by omega)
    have hr2 := hr2 k (by omega)
    simp only [spec_AddBusinessDays.l0, impl_AddBusinessDays.l0]
    rw [if_pos (by omega), if_pos (by omega), w64 (x := day + s) (by omega) (by omega), hr2.1, hr2.2]
    simp only [Option.bind_some]
    by_cases hn : r < 0
    · exact ⟨(0, false), by rw [if_pos hn], by rw [if_pos hn]⟩
    · obtain ⟨q, q1, q2⟩ := ih r k (by omega) (by omega) (by omega) (by omega)
      refine ⟨q, ?_, ?_⟩
      · rw [if_neg hn, w64 (by omega) (by omega), show (((d + 1 : Nat) : Int) - 1) = (d : Int) by omega]; exact q1
      · rw [if_neg hn, w64 (by omega) (by omega), show (N - ((d + 1 : Nat) : Int) + 1) = N - d by omega]; exact q2
theorem both_Add (a b : List Int) (ha : a.length ≤ 1048576) (hb : b.length ≤ 1048576) (day n : Int) : ∃ r, spec_AddBusinessDays.f 2000000 a b day n = some r ∧ impl_AddBusinessDays.f 2000000 a b day n = some r := by
  obtain ⟨v, hv⟩ := good_ a b ha hb
  have hv := hv 2000000 (by omega)
  unfold spec_AddBusinessDays.f impl_AddBusinessDays.f
  rw [hv.1, hv.2]
  simp only [goodday_, isDay__, cwithin_, cl1In_, Option.bind_some]
  have off1 : ∀ x y, spec_AddBusinessDays.j0 2000000 x y true a b = some (0, false) := fun x y => by simp [spec_AddBusinessDays.j0]
  have off2 : ∀ x y, impl_AddBusinessDays.j0 2000000 x y true a b = some (0, false) := fun x y => by simp [impl_AddBusinessDays.j0]
  cases v with
  | false => exact ⟨(0, false), by simp [off1], by simp [off2]⟩
  | true =>
    simp only [if_true]
    by_cases h1 : decide (0 ≤ day ∧ day ≤ 36524) = true
    case neg => exact ⟨(0, false), by rw [if_neg h1, off1], by rw [if_neg h1, off2]⟩
    by_cases h2 : decide (-1000 ≤ n ∧ n ≤ 1000) = true
    case neg =>
      have : decide (-1000 ≤ n ∧ n ≤ 1000) = false := by simpa using h2
      exact ⟨(0, false), by rw [if_pos h1, this]; exact off1 _ _, by rw [if_pos h1, this]; exact off2 _ _⟩
    have a1 := of_decide_eq_true h1
    have a2 := of_decide_eq_true h2
    rw [if_pos h1, if_pos h1, h2]
    simp only [Bool.not_true, spec_AddBusinessDays.j0, impl_AddBusinessDays.j0, Bool.false_eq_true, if_false]
    by_cases hn : n < 0
    · obtain ⟨r, r1, r2⟩ := add_l0 a b ha hb (-1) (n.natAbs : Int) (Or.inr rfl) (by omega) n.natAbs day 1999998 a1.1 a1.2 (by omega) (by omega)
      refine ⟨r, ?_, ?_⟩
      · rw [if_pos hn]; simp only [spec_AddBusinessDays.j1]; rw [w64 (by omega) (by omega), show -n = (n.natAbs : Int) by omega]; exact r1
      · rw [if_pos hn]; simp only [impl_AddBusinessDays.j1]; rw [csize_ n (by omega) (by omega)]; simp only [Option.bind_some]; rw [← r2]; congr 1; omega
    · obtain ⟨r, r1, r2⟩ := add_l0 a b ha hb 1 (n.natAbs : Int) (Or.inl rfl) (by omega) n.natAbs day 1999998 a1.1 a1.2 (by omega) (by omega)
      refine ⟨r, ?_, ?_⟩
      · rw [if_neg hn]; simp only [spec_AddBusinessDays.j1]; rw [← r1]; congr 1; omega
      · rw [if_neg hn]; simp only [impl_AddBusinessDays.j1]; rw [csize_ n (by omega) (by omega)]; simp only [Option.bind_some]; rw [← r2]; congr 1; omega

theorem FnExactAddBusinessDays (a b : List Int) (day n : Int) (ha : a.length ≤ maxLen) (_ : ∀ x ∈ a, (Lit.int .i64 x).wf = true) (hb : b.length ≤ maxLen) (_ : ∀ x ∈ b, (Lit.int .i64 x).wf = true) (_ : (Lit.int .i64 day).wf = true) (_ : (Lit.int .i64 n).wf = true) : ∃ k, laws_FnExactAddBusinessDays.f k a b day n = some true := by
  obtain ⟨t, ht, hc⟩ := szCalendar_ a b ha hb
  refine ⟨2000000, ?_⟩
  unfold laws_FnExactAddBusinessDays.f
  rw [ht]
  simp only [Option.bind_some]
  rcases hc with hc | ⟨hc, la, lb⟩
  · rw [if_pos hc]
  · obtain ⟨r, r1, r2⟩ := both_Add a b la lb day n
    rw [if_neg (by omega), toCalendar_ a b la lb 2000000 (by omega)]
    simp only [Option.bind_some, r1, r2, bne_self_eq_false, if_true, Bool.false_eq_true, if_false, laws_FnExactAddBusinessDays.j0]
    rw [toCalendar_ a b la lb 1999999 (by omega)]
    simp only [Option.bind_some]
    rw [eqCalendar_ a b la lb 1999999 (by omega)]
    simp

end Go.Proofs.Ythljcacmkgdcpaa.Pure
