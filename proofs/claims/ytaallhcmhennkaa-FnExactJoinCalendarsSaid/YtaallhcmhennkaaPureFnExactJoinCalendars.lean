/- The program's JoinCalendars and the reference's return the same for any two calendars, the calendars stay as they were, and the result is the call's own; no condition. -/
import Derived.Test.YtaallhcmhennkaaQFnExactJoinCalendarsx90
namespace Go.Proofs.Ytaallhcmhennkaa.Pure
open Go.RowKit Go.Proofs.Ytaallhcmhennkaa.QFnExactJoinCalendars Go.Proofs.YtaallhcmhennkaaW.PrintWords Go.Proofs.YtaallhcmhennkaaW.PrintLast Go.Proofs.YtaallhcmhennkaaW.PrintMore
set_option linter.unusedVariables false
set_option linter.unusedSimpArgs false

theorem w64 {x : Int} (h : -9223372036854775808 ≤ x) (h' : x ≤ 9223372036854775807) : wrap64 x = x := by unfold wrap64; omega
theorem tdv {x : Int} (n : Int) (h : 0 ≤ x) : Int.tdiv x n = x / n := Int.tdiv_eq_ediv_of_nonneg h
theorem tmd {x : Int} (n : Int) (h : 0 ≤ x) : Int.tmod x n = x % n := Int.tmod_eq_emod_of_nonneg h
theorem wfb {a : Int} (h : (Lit.int .i64 a).wf = true) : -9223372036854775808 ≤ a ∧ a ≤ 9223372036854775807 := by
  simp [Lit.wf, IntKind.min, IntKind.max, IntKind.signed, IntKind.bits] at h
  omega
theorem within_ {x a b : Int} : (if x ≥ a then some (decide (x ≤ b)) else some false) = some (decide (a ≤ x ∧ x ≤ b)) := by
  by_cases h : x ≥ a
  · rw [if_pos h]; congr 1; simp; omega
  · rw [if_neg h]; congr 1; simp; omega

theorem cwithin_ (x a b : Int) : impl_within.f x a b = some (decide (a ≤ x ∧ x ≤ b)) := by unfold impl_within.f; exact within_
theorem cl1In_ (x a b : Int) : spec_l1In.f x a b = some (decide (a ≤ x ∧ x ≤ b)) := by unfold spec_l1In.f; exact within_
theorem rising_l0 (l : List Int) (hl : l.length ≤ 1048576) (lo hi most : Int) (d : Nat) : ∀ (i k : Nat), i + d = l.length → d < k →
    ∃ b, spec_l1Rising.l0 k l lo hi (i : Int) = some b ∧ impl_isRising.l0 k l lo hi most l (l.length : Int) (i : Int) = some (b && decide ((l.length : Int) ≤ most)) := by
  induction d with
  | zero =>
    intro i k hid hk
    obtain ⟨k, rfl⟩ : ∃ j, k = j + 1 := ⟨k - 1, by omega⟩
    refine ⟨true, ?_, ?_⟩
    · simp only [spec_l1Rising.l0]; rw [if_neg (by omega)]
    · simp only [impl_isRising.l0]; rw [if_neg (by omega)]; simp
  | succ d ih =>
    intro i k hid hk
    obtain ⟨k, rfl⟩ : ∃ j, k = j + 1 := ⟨k - 1, by omega⟩
    obtain ⟨b, h1, h2⟩ := ih (i + 1) k (by omega) (by omega)
    have c1 : (i : Int) < (l.length : Int) := by omega
    have c0 : (0 : Int) ≤ (i : Int) := by omega
    simp only [spec_l1Rising.l0, impl_isRising.l0, cwithin_, cl1In_, Option.bind_some, c1, c0, if_true]
    rw [w64 (x := (i : Int) + 1) (by omega) (by omega), show ((i : Int) + 1) = ((i + 1 : Nat) : Int) by omega, h1, h2]
    by_cases hr : decide (lo ≤ rd l (i : Int) ∧ rd l (i : Int) ≤ hi) = true
    · rw [if_pos hr, if_pos hr]
      by_cases h0 : (i : Int) > 0
      · have c2 : (0 : Int) ≤ (i : Int) - 1 := by omega
        have c3 : (i : Int) - 1 < (l.length : Int) := by omega
        rw [w64 (x := (i : Int) - 1) (by omega) (by omega)]
        simp only [h0, c2, c3, if_true]
        by_cases hc : rd l (i : Int) ≤ rd l ((i : Int) - 1)
        · exact ⟨false, by rw [if_pos (by omega)], by rw [if_pos hc]; rfl⟩
        · exact ⟨b, by rw [if_neg (by omega)], by rw [if_neg hc]⟩
      · exact ⟨b, by rw [if_neg h0], by rw [if_neg h0]⟩
    · exact ⟨false, by rw [if_neg hr], by rw [if_neg hr]; rfl⟩
theorem good_ (a b : List Int) (ha : a.length ≤ 1048576) (hb : b.length ≤ 1048576) : ∃ v, ∀ k, 1048577 < k → spec_l4Good.f k a b = some v ∧ impl_IsValidCalendar.f k a b = some v := by
  obtain ⟨x, x1, x2⟩ := rising_l0 a ha 0 6 6 a.length 0 1048577 (by omega) (by omega)
  obtain ⟨y, y1, y2⟩ := rising_l0 b hb 0 36524 40 b.length 0 1048577 (by omega) (by omega)
  refine ⟨(decide ((a.length : Int) ≤ 6) && x) && (decide ((b.length : Int) ≤ 40) && y), fun k hk => ?_⟩
  have X1 : spec_l1Rising.f k a 0 6 = some x := at_rounds (fun k => spec_l1Rising.mono a 0 6 k) (by omega : 1048577 ≤ k) (by unfold spec_l1Rising.f; exact x1)
  have Y1 : spec_l1Rising.f k b 0 36524 = some y := at_rounds (fun k => spec_l1Rising.mono b 0 36524 k) (by omega : 1048577 ≤ k) (by unfold spec_l1Rising.f; exact y1)
  have X2 : impl_isRising.f k a 0 6 6 = some (x && decide ((a.length : Int) ≤ 6)) := at_rounds (fun k => impl_isRising.mono a 0 6 6 k) (by omega : 1048577 ≤ k) (by unfold impl_isRising.f; exact x2)
  have Y2 : impl_isRising.f k b 0 36524 40 = some (y && decide ((b.length : Int) ≤ 40)) := at_rounds (fun k => impl_isRising.mono b 0 36524 40 k) (by omega : 1048577 ≤ k) (by unfold impl_isRising.f; exact y2)
  constructor
  · unfold spec_l4Good.f
    rw [X1, Y1]
    simp only [Option.bind_some]
    by_cases h1 : (a.length : Int) ≤ 6 <;> cases x <;> by_cases h2 : (b.length : Int) ≤ 40 <;> simp [h1, h2]
  · unfold impl_IsValidCalendar.f
    rw [X2, Y2]
    simp only [Option.bind_some]
    by_cases h1 : (a.length : Int) ≤ 6 <;> cases x <;> by_cases h2 : (b.length : Int) ≤ 40 <;> cases y <;> simp [h1, h2]

theorem strict_uniq (l : List Int) : ∀ m : List Int, l.Pairwise (· < ·) → m.Pairwise (· < ·) → (∀ x, x ∈ l ↔ x ∈ m) → l = m := by
  induction l with
  | nil => intro m _ _ h; cases m with
    | nil => rfl
    | cons y ys => exact absurd ((h y).2 List.mem_cons_self) (by simp)
  | cons x xs ih => intro m hl hm h; cases m with
    | nil => exact absurd ((h x).1 List.mem_cons_self) (by simp)
    | cons y ys =>
      rw [List.pairwise_cons] at hl hm
      have hxy : x = y := by
        rcases List.mem_cons.1 ((h x).1 List.mem_cons_self) with e | e
        · exact e
        · rcases List.mem_cons.1 ((h y).2 List.mem_cons_self) with e' | e'
          · exact e'.symm
          · have := hm.1 x e; have := hl.1 y e'; omega
      subst hxy
      congr 1
      refine ih ys hl.2 hm.2 (fun z => ?_)
      constructor
      · intro hz
        rcases List.mem_cons.1 ((h z).1 (List.mem_cons_of_mem _ hz)) with e | e
        · subst e; have := hl.1 z hz; omega
        · exact e
      · intro hz
        rcases List.mem_cons.1 ((h z).2 (List.mem_cons_of_mem _ hz)) with e | e
        · subst e; have := hm.1 z hz; omega
        · exact e
def putI : List Int → Int → List Int
  | [], n => [n]
  | x :: xs, n => if x < n then x :: putI xs n else if x = n then x :: xs else n :: x :: xs
def putsI (l ds : List Int) : List Int := ds.foldl putI l
theorem putI_len (l : List Int) (n : Int) : (putI l n).length ≤ l.length + 1 := by
  induction l with
  | nil => simp [putI]
  | cons x xs ih =>
    simp only [putI]; repeat' split
    all_goals simp only [List.length_cons]; omega
theorem putI_mem (l : List Int) (n x : Int) : x ∈ putI l n ↔ x = n ∨ x ∈ l := by
  induction l with
  | nil => simp [putI]
  | cons y ys ih =>
    simp only [putI]
    split
    · simp only [List.mem_cons, ih]; constructor <;> (rintro (h | h | h) <;> simp [h])
    · split
      · rename_i h; subst h; simp
      · simp
theorem putI_sorted (l : List Int) (n : Int) (h : l.Pairwise (· < ·)) : (putI l n).Pairwise (· < ·) := by
  induction l with
  | nil => simp [putI]
  | cons y ys ih =>
    simp only [putI]
    rw [List.pairwise_cons] at h
    split
    · rename_i hy
      rw [List.pairwise_cons]
      refine ⟨fun z hz => ?_, ih h.2⟩
      rcases (putI_mem ys n z).1 hz with rfl | hz
      · exact hy
      · exact h.1 z hz
    · split
      · exact List.pairwise_cons.2 h
      · rename_i h1 h2
        have hny : n < y := by omega
        rw [List.pairwise_cons]
        refine ⟨fun z hz => ?_, List.pairwise_cons.2 h⟩
        rcases List.mem_cons.1 hz with rfl | hz
        · exact hny
        · have := h.1 z hz; omega
theorem putsI_len (ds : List Int) : ∀ l : List Int, (putsI l ds).length ≤ l.length + ds.length := by
  induction ds with
  | nil => intro l; simp [putsI]
  | cons d ds ih => intro l; have h1 := ih (putI l d); have h2 := putI_len l d; unfold putsI at *; simp only [List.foldl_cons, List.length_cons] at *; omega
theorem putsI_mem (ds : List Int) (x : Int) : ∀ l : List Int, x ∈ putsI l ds ↔ x ∈ l ∨ x ∈ ds := by
  induction ds with
  | nil => intro l; simp [putsI]
  | cons d ds ih =>
    intro l
    have := ih (putI l d)
    unfold putsI at *
    rw [List.foldl_cons, this, putI_mem, List.mem_cons]
    constructor
    · rintro ((h | h) | h) <;> simp [h]
    · rintro (h | h | h) <;> simp [h]
theorem putsI_sorted (ds : List Int) : ∀ l : List Int, l.Pairwise (· < ·) → (putsI l ds).Pairwise (· < ·) := by
  induction ds with
  | nil => intro l h; exact h
  | cons d ds ih => intro l h; exact ih _ (putI_sorted l d h)
theorem rd_nat (l : List Int) (i : Nat) (h : i < l.length) : rd l (i : Int) = l[i] := by
  unfold rd
  rw [Int.toNat_natCast, List.getD_eq_getElem?_getD, List.getElem?_eq_getElem h]; rfl
theorem putI_l0 (l : List Int) (n : Int) (hl : l.length ≤ 4000000) (d : Nat) : ∀ (i k : Nat), i + d = l.length → d < k → spec_l1Put.l0 k l n (i : Int) = some (l.take i ++ putI (l.drop i) n) := by
  induction d with
  | zero =>
    intro i k hi hk
    obtain ⟨k, rfl⟩ : ∃ m, k = m + 1 := ⟨k - 1, by omega⟩
    simp only [spec_l1Put.l0, Option.bind_some]
    rw [if_neg (by omega), if_pos (by omega), if_pos (by omega), Int.toNat_natCast, List.drop_eq_nil_of_le (by omega), if_pos (by simp; omega), if_pos (by simp; omega), if_pos (by simp; omega)]
    simp [putI]
  | succ d ih =>
    intro i k hi hk
    obtain ⟨k, rfl⟩ : ∃ m, k = m + 1 := ⟨k - 1, by omega⟩
    have hlt : i < l.length := by omega
    simp only [spec_l1Put.l0, Option.bind_some]
    rw [if_pos (by omega), if_pos (by omega), rd_nat l i hlt, List.drop_eq_getElem_cons hlt]
    by_cases c : l[i] < n
    · rw [if_pos c, w64 (x := (i : Int) + 1) (by omega) (by omega), show (i : Int) + 1 = ((i + 1 : Nat) : Int) by omega, ih (i + 1) k (by omega) (by omega)]
      simp only [putI]
      rw [if_pos c, List.take_succ_eq_append_getElem hlt, List.append_assoc]
      rfl
    · rw [if_neg c]
      by_cases c2 : l[i] = n
      · rw [if_pos c2]
        simp only [putI]
        rw [if_neg c, if_pos c2, ← List.drop_eq_getElem_cons hlt, List.take_append_drop]
      · rw [if_neg c2, if_pos (by omega), Int.toNat_natCast, List.drop_eq_getElem_cons hlt, if_pos (by simp; omega), if_pos (by simp; omega), if_pos (by simp; omega)]
        simp only [putI]
        rw [if_neg c, if_neg c2]
        simp
theorem putI_ (l : List Int) (n : Int) (hl : l.length ≤ 4000000) (k : Nat) (hk : l.length < k) : spec_l1Put.f k l n = some (putI l n) := by
  have := putI_l0 l n hl l.length 0 k (by omega) hk
  simpa [spec_l1Put.f] using this
theorem union_l0 (b : List Int) (hb : b.length ≤ 1048576) (d : Nat) : ∀ (i k : Nat) (acc : List Int), i + d = b.length → acc.length + d ≤ 2200000 → acc.length + 2 * d < k → spec_l4Union.l0 k b acc (i : Int) = some (putsI acc (b.drop i)) := by
  induction d with
  | zero =>
    intro i k acc hi ha hk
    obtain ⟨k, rfl⟩ : ∃ m, k = m + 1 := ⟨k - 1, by omega⟩
    simp only [spec_l4Union.l0]
    rw [if_neg (by omega), List.drop_eq_nil_of_le (by omega)]; rfl
  | succ d ih =>
    intro i k acc hi ha hk
    obtain ⟨k, rfl⟩ : ∃ m, k = m + 1 := ⟨k - 1, by omega⟩
    have hlt : i < b.length := by omega
    have hpl := putI_len acc b[i]
    simp only [spec_l4Union.l0]
    rw [if_pos (by omega), if_pos (by omega), rd_nat b i hlt, putI_ acc _ (by omega) k (by omega), Option.bind_some, w64 (x := (i : Int) + 1) (by omega) (by omega), show (i : Int) + 1 = ((i + 1 : Nat) : Int) by omega,
      ih (i + 1) k _ (by omega) (by omega) (by omega), List.drop_eq_getElem_cons hlt]
    rfl
theorem union_ (a b : List Int) (ha : a.length ≤ 1048576) (hb : b.length ≤ 1048576) (k : Nat) (hk : a.length + 2 * b.length < k) : spec_l4Union.f k a b = some (putsI a b) := by
  unfold spec_l4Union.f spec_l1Own.f
  simp only [Option.bind_some, List.nil_append, List.length_nil]
  rw [if_pos (by omega), Option.bind_some]
  exact union_l0 b hb b.length 0 k a (by omega) (by omega) (by omega)
theorem upTo_props (d : Array Int) (hs : ∀ i j, i < j → j < d.size → d[i]! ≤ d[j]!) (m : Nat) (hm : m ≤ d.size) :
    (Lib.compactUpTo d m).Pairwise (· < ·) ∧ (∀ x, x ∈ Lib.compactUpTo d m ↔ ∃ j, j < m ∧ d[j]! = x) := by
  induction m with
  | zero => exact ⟨by simp [Lib.compactUpTo], fun x => by simp [Lib.compactUpTo]⟩
  | succ m ih =>
    obtain ⟨h1, h2⟩ := ih (by omega)
    rw [Lib.compactUpTo_succ]
    by_cases hk : Lib.keeps d m = true
    · rw [if_pos hk]
      refine ⟨?_, fun x => ?_⟩
      · rw [List.pairwise_append]
        refine ⟨h1, by simp, fun x hx y hy => ?_⟩
        obtain ⟨j, hj, rfl⟩ := (h2 x).1 hx
        have hy' : y = d[m]! := by simpa using hy
        subst hy'
        have hm0 : m ≠ 0 := by omega
        have hne : d[m]! ≠ d[m - 1]! := by
          unfold Lib.keeps at hk
          have := of_decide_eq_true hk
          rcases this with h | h
          · exact absurd h hm0
          · exact h
        have l1 : d[j]! ≤ d[m - 1]! := by
          by_cases e : j = m - 1
          · subst e; exact Int.le_refl _
          · exact hs j (m - 1) (by omega) (by omega)
        have l2 : d[m - 1]! ≤ d[m]! := hs (m - 1) m (by omega) (by omega)
        omega
      · rw [List.mem_append, h2]
        constructor
        · rintro (⟨j, hj, e⟩ | h)
          · exact ⟨j, by omega, e⟩
          · exact ⟨m, by omega, (List.mem_singleton.1 h).symm⟩
        · rintro ⟨j, hj, e⟩
          by_cases ej : j = m
          · subst ej; exact .inr (by simp [e])
          · exact .inl ⟨j, by omega, e⟩
    · rw [if_neg hk, List.append_nil]
      refine ⟨h1, fun x => ?_⟩
      rw [h2]
      constructor
      · rintro ⟨j, hj, e⟩; exact ⟨j, by omega, e⟩
      · rintro ⟨j, hj, e⟩
        by_cases ej : j = m
        · subst ej
          have hk' : ¬ (j = 0 ∨ d[j]! ≠ d[j - 1]!) := by unfold Lib.keeps at hk; simpa using hk
          have hj0 : j ≠ 0 := fun h => hk' (.inl h)
          have : d[j]! = d[j - 1]! := Classical.byContradiction fun h => hk' (.inr h)
          exact ⟨j - 1, by omega, by rw [← this]; exact e⟩
        · exact ⟨j, by omega, e⟩
theorem sortedI_props (l : List Int) : (Own.sortedI l).Pairwise (· < ·) ∧ ∀ x, x ∈ Own.sortedI l ↔ x ∈ l := by
  unfold Own.sortedI
  generalize hz : l.mergeSort (fun x y => decide (x ≤ y)) = zs
  have hsort : zs.Pairwise (fun x y => decide (x ≤ y) = true) := by
    rw [← hz]
    exact List.pairwise_mergeSort (fun a b c h1 h2 => by simp only [decide_eq_true_eq] at *; omega) (fun a b => by simp only [Bool.or_eq_true, decide_eq_true_eq]; omega) _
  have hmem : ∀ y, y ∈ zs ↔ y ∈ l := by intro y; rw [← hz, List.mem_mergeSort]
  have hidx : ∀ i j, i < j → j < zs.toArray.size → zs.toArray[i]! ≤ zs.toArray[j]! := by
    intro i j hij hj
    have hj' : j < zs.length := by simpa using hj
    have h := List.pairwise_iff_getElem.1 hsort i j (by omega) hj' hij
    simpa [getElem!_pos, hj', show i < zs.length by omega] using h
  obtain ⟨h1, h2⟩ := upTo_props zs.toArray hidx zs.length (by simp)
  refine ⟨h1, fun x => ?_⟩
  rw [← hmem]
  constructor
  · intro hx
    obtain ⟨j, hj, e⟩ := (h2 x).1 hx
    rw [← e]
    have : zs.toArray[j]! = zs[j] := by simp [getElem!_pos, hj]
    rw [this]; exact List.getElem_mem hj
  · intro hx
    refine (h2 _).2 ?_
    obtain ⟨j, hj, e⟩ := List.mem_iff_getElem.1 hx
    exact ⟨j, hj, by simp [getElem!_pos, hj, e]⟩
theorem united_eq (a b : List Int) (ha : a.Pairwise (· < ·)) : Own.sortedI (a ++ b) = putsI a b := by
  obtain ⟨h1, h2⟩ := sortedI_props (a ++ b)
  refine strict_uniq _ _ h1 (putsI_sorted b a ha) (fun x => ?_)
  rw [h2, putsI_mem, List.mem_append]
theorem rising_up (l : List Int) (hl : l.length ≤ 1048576) (lo up : Int) (d : Nat) : ∀ (i k : Nat), i + d = l.length → spec_l1Rising.l0 k l lo up (i : Int) = some true → (l.drop i).Pairwise (· < ·) ∧ ∀ j, j + 1 = i → ∀ x ∈ l.drop i, rd l (j : Int) < x := by
  induction d with
  | zero =>
    intro i k hi h
    rw [List.drop_eq_nil_of_le (by omega)]
    exact ⟨.nil, fun _ _ _ h => by cases h⟩
  | succ d ih =>
    intro i k hi h
    cases k with
    | zero => simp [spec_l1Rising.l0] at h
    | succ k =>
      have hlt : i < l.length := by omega
      have c1 : (i : Int) < (l.length : Int) := by omega
      have c0 : (0 : Int) ≤ (i : Int) := by omega
      simp only [spec_l1Rising.l0, cl1In_, Option.bind_some, c1, c0, if_true] at h
      rw [w64 (x := (i : Int) + 1) (by omega) (by omega), show ((i : Int) + 1) = ((i + 1 : Nat) : Int) by omega] at h
      by_cases hr : decide (lo ≤ rd l (i : Int) ∧ rd l (i : Int) ≤ up) = true
      case neg => rw [if_neg hr] at h; cases h
      rw [if_pos hr] at h
      have key : spec_l1Rising.l0 k l lo up ((i + 1 : Nat) : Int) = some true ∧ ∀ j : Nat, j + 1 = i → rd l (j : Int) < rd l (i : Int) := by
        by_cases h0 : (i : Int) > 0
        · have c2 : (0 : Int) ≤ (i : Int) - 1 := by omega
          have c3 : (i : Int) - 1 < (l.length : Int) := by omega
          rw [w64 (x := (i : Int) - 1) (by omega) (by omega)] at h
          simp only [h0, c2, c3, if_true] at h
          by_cases hc : rd l (i : Int) ≤ rd l ((i : Int) - 1)
          · rw [if_pos (by omega)] at h; cases h
          · rw [if_neg (by omega)] at h
            refine ⟨h, fun j hj => ?_⟩
            rw [show (j : Int) = (i : Int) - 1 by omega]; omega
        · rw [if_neg h0] at h
          exact ⟨h, fun j hj => by omega⟩
      obtain ⟨p1, p2⟩ := ih (i + 1) k (by omega) key.1
      have p3 := p2 i rfl
      rw [List.drop_eq_getElem_cons hlt, ← rd_nat l i hlt]
      refine ⟨List.pairwise_cons.2 ⟨p3, p1⟩, fun j hj x hx => ?_⟩
      have q := key.2 j hj
      rcases List.mem_cons.1 hx with rfl | hx
      · exact q
      · have := p3 x hx; omega
theorem good_up (k : Nat) (a b : List Int) (ha : a.length ≤ 1048576) (hb : b.length ≤ 1048576) (h : spec_l4Good.f k a b = some true) : a.Pairwise (· < ·) ∧ b.Pairwise (· < ·) ∧ a.length ≤ 6 ∧ b.length ≤ 40 := by
  unfold spec_l4Good.f at h
  by_cases h1 : (a.length : Int) ≤ 6
  case neg => rw [if_neg h1] at h; cases h
  rw [if_pos h1] at h
  obtain ⟨t, q1, h⟩ := Option.bind_eq_some_iff.1 h
  cases t with
  | false => rw [if_neg Bool.false_ne_true] at h; cases h
  | true =>
    rw [if_pos rfl] at h
    by_cases h2 : (b.length : Int) ≤ 40
    case neg => rw [if_neg h2] at h; cases h
    rw [if_pos h2] at h
    obtain ⟨u, q2, h⟩ := Option.bind_eq_some_iff.1 h
    obtain rfl := Option.some.inj h
    unfold spec_l1Rising.f at q1 q2
    have r1 := (rising_up a ha 0 6 a.length 0 k (by omega) q1).1
    have r2 := (rising_up b hb 0 36524 b.length 0 k (by omega) q2).1
    rw [List.drop_zero] at r1 r2
    exact ⟨r1, r2, by omega, by omega⟩
theorem join_both (a b c d : List Int) (ha : a.length ≤ 1048576) (hb : b.length ≤ 1048576) (hc : c.length ≤ 1048576) (hd : d.length ≤ 1048576) (k : Nat) (hk : 1048600 < k) :
    ∃ r1 r2 t, r1.length ≤ 100 ∧ r2.length ≤ 100 ∧ spec_JoinCalendars.f k a b c d = some (r1, r2, t) ∧ impl_JoinCalendars.f k a b c d = some (r1, r2, t) := by
  obtain ⟨x, hx⟩ := good_ a b ha hb
  obtain ⟨y, hy⟩ := good_ c d hc hd
  obtain ⟨k', rfl⟩ : ∃ m, k = m + 1 := ⟨k - 1, by omega⟩
  have hx1 := hx (k' + 1) (by omega)
  have hy1 := hy (k' + 1) (by omega)
  unfold spec_JoinCalendars.f impl_JoinCalendars.f impl_united.f Own.unitedF
  rw [hx1.1, hx1.2, hy1.1, hy1.2, if_pos ⟨by omega, by omega⟩, if_pos ⟨by omega, by omega⟩]
  simp only [Option.bind_some]
  cases x with
  | false =>
    refine ⟨[], [], false, by simp, by simp, ?_, ?_⟩
    · rw [if_neg Bool.false_ne_true]; simp only [spec_JoinCalendars.j0]; rw [if_pos trivial]
    · rw [if_neg Bool.false_ne_true]
  | true =>
    rw [if_pos rfl, if_pos rfl]
    cases y with
    | false =>
      refine ⟨[], [], false, by simp, by simp, ?_, ?_⟩
      · simp only [spec_JoinCalendars.j0, Bool.not_false, if_true]
      · rw [if_neg Bool.false_ne_true]
    | true =>
      obtain ⟨u1, u2, u3, u4⟩ := good_up _ a b ha hb hx1.1
      obtain ⟨v1, v2, v3, v4⟩ := good_up _ c d hc hd hy1.1
      have l1 := putsI_len c a
      have l2 := putsI_len d b
      obtain ⟨z, hz⟩ := good_ (putsI a c) (putsI b d) (by omega) (by omega)
      have hz0 := hz k' (by omega)
      have hz1 := hz (k' + 1) (by omega)
      rw [if_pos rfl, united_eq a c u1, united_eq b d u2, hz1.2]
      simp only [spec_JoinCalendars.j0, Bool.not_true, Bool.false_eq_true, if_false]
      rw [union_ a c ha hc k' (by omega), union_ b d hb hd k' (by omega)]
      simp only [Option.bind_some]
      rw [hz0.1, Option.bind_some]
      cases z with
      | true => exact ⟨putsI a c, putsI b d, true, by omega, by omega, by rw [if_pos rfl], by rw [if_pos rfl]⟩
      | false => exact ⟨[], [], false, by simp, by simp, by rw [if_neg Bool.false_ne_true], by rw [if_neg Bool.false_ne_true]⟩

theorem maxLen_ : maxLen = 9223372036854775807 := rfl
theorem set_take {l x : List Int} {n i : Nat} (hl : x.length = l.length) (hi : i < l.length) (h : x.take i = l.take i) : (x.set i (rd l i)).take (i + 1) = l.take (i + 1) := by
  have e : rd l i = l[i] := by unfold rd; simp [List.getD_eq_getElem?_getD, hi]
  rw [e]
  apply List.ext_getElem
  · simp [hl]
  · intro j h1 h2
    simp only [List.getElem_take, List.getElem_set]
    split
    · subst_vars; rfl
    · have hj : j < i := by simp at h1; omega
      have := congrArg (fun z => z[j]?) h
      simp only [List.getElem?_take_of_lt hj] at this
      rw [List.getElem?_eq_getElem (by omega), List.getElem?_eq_getElem (by omega)] at this
      exact Option.some.inj this
theorem toIntS_l0 (l : List Int) (hl : l.length ≤ 1048576) (d : Nat) : ∀ (x : List Int) (i k : Nat), x.length = l.length → i + d = l.length → d < k → x.take i = l.take i → laws_toIntS.l0 k l x (i : Int) = some l := by
  induction d with
  | zero =>
    intro x i k hx hi hk ht
    obtain ⟨k, rfl⟩ : ∃ j, k = j + 1 := ⟨k - 1, by omega⟩
    simp only [laws_toIntS.l0]
    rw [if_neg (by omega)]
    rw [List.take_of_length_le (by omega), List.take_of_length_le (by omega)] at ht
    rw [ht]
  | succ d ih =>
    intro x i k hx hi hk ht
    obtain ⟨k, rfl⟩ : ∃ j, k = j + 1 := ⟨k - 1, by omega⟩
    simp only [laws_toIntS.l0]
    rw [if_pos (by omega), if_pos (by omega), if_pos (by omega), w64 (by omega) (by omega), show ((i : Int) + 1) = ((i + 1 : Nat) : Int) by omega, Int.toNat_natCast]
    exact ih _ (i + 1) k (by rw [List.length_set]; exact hx) (by omega) (by omega) (set_take (n := 0) hx (by omega) ht)
theorem toIntS_ (l : List Int) (hl : l.length ≤ 1048576) (k : Nat) (hk : l.length < k) : laws_toIntS.f k l = some l := by
  unfold laws_toIntS.f
  rw [if_pos (by omega), if_pos (by omega), Int.toNat_natCast]
  exact toIntS_l0 l hl l.length _ 0 k (by simp) (by omega) hk (by simp)
theorem eqIntS_l0 (l : List Int) (hl : l.length ≤ 1048576) (d : Nat) : ∀ (i k : Nat), i + d = l.length → d < k → laws_eqIntS.l0 k l l (i : Int) = some true := by
  induction d with
  | zero =>
    intro i k hi hk
    obtain ⟨k, rfl⟩ : ∃ j, k = j + 1 := ⟨k - 1, by omega⟩
    simp only [laws_eqIntS.l0]
    rw [if_neg (by omega)]
  | succ d ih =>
    intro i k hi hk
    obtain ⟨k, rfl⟩ : ∃ j, k = j + 1 := ⟨k - 1, by omega⟩
    simp only [laws_eqIntS.l0]
    rw [if_pos (by omega), if_pos (by omega), if_pos (by omega), if_pos trivial, w64 (by omega) (by omega), show ((i : Int) + 1) = ((i + 1 : Nat) : Int) by omega]
    exact ih (i + 1) k (by omega) (by omega)
theorem eqIntS_ (l : List Int) (hl : l.length ≤ 1048576) (k : Nat) (hk : l.length < k) : laws_eqIntS.f k l l = some true := by
  unfold laws_eqIntS.f
  rw [if_pos rfl]
  exact eqIntS_l0 l hl l.length 0 k (by omega) hk

theorem toCalendar_ (a b : List Int) (ha : a.length ≤ 1048576) (hb : b.length ≤ 1048576) (k : Nat) (hk : 1048576 < k) : laws_toCalendar.f k a b = some (a, b) := by
  unfold laws_toCalendar.f
  rw [toIntS_ a ha k (by omega), toIntS_ b hb k (by omega)]; rfl
theorem eqCalendar_ (a b : List Int) (ha : a.length ≤ 1048576) (hb : b.length ≤ 1048576) (k : Nat) (hk : 1048576 < k) : laws_eqCalendar.f k a b a b = some true := by
  unfold laws_eqCalendar.f
  rw [eqIntS_ a ha k (by omega), eqIntS_ b hb k (by omega)]; rfl
theorem szCalendar_ (a b : List Int) (ha : a.length ≤ maxLen) (hb : b.length ≤ maxLen) : ∃ t, laws_szCalendar.f a b 1048576 = some t ∧ (t < 0 ∨ (0 ≤ t ∧ a.length ≤ 1048576 ∧ b.length ≤ 1048576)) := by
  rw [maxLen_] at ha hb
  unfold laws_szCalendar.f laws_szIntS.f
  rw [w64 (x := 1048576 - (a.length : Int)) (by omega) (by omega)]
  by_cases h1 : (1048576 : Int) - a.length < 0
  · rw [if_pos h1]; exact ⟨-1, by simp, Or.inl (by omega)⟩
  · rw [if_neg h1]
    simp only [Option.bind_some]
    rw [if_neg h1, w64 (by omega) (by omega)]
    by_cases h2 : (1048576 : Int) - a.length - b.length < 0
    · rw [if_pos h2]; exact ⟨-1, by simp, Or.inl (by omega)⟩
    · rw [if_neg h2]
      simp only [Option.bind_some]
      rw [if_neg h2]
      exact ⟨_, rfl, Or.inr (by omega)⟩

theorem mark_l0IJ (N : Nat) (hN : N ≤ 1048577) (v : Int) (h0 : 1 ≤ v) (hv : v ≤ 100000000) (d : Nat) : ∀ (i k : Nat) (l : List Int), l.length = N → i + d = N → d < k →
    ∃ L, laws_markIntS.l0 k l (v + i) (i : Int) = some (v + N, L) ∧ L.length = N ∧ (∀ j, j < i → L[j]? = l[j]?) ∧ ∀ j : Nat, i ≤ j → j < N → L[j]? = some (v + j) := by
  induction d with
  | zero =>
    intro i k l hl hi hk
    obtain ⟨k, rfl⟩ : ∃ m, k = m + 1 := ⟨k - 1, by omega⟩
    refine ⟨l, ?_, hl, fun _ _ => rfl, fun j a b => by omega⟩
    simp only [laws_markIntS.l0]
    rw [if_neg (by omega), show i = N by omega]
  | succ d ih =>
    intro i k l hl hi hk
    obtain ⟨k, rfl⟩ : ∃ m, k = m + 1 := ⟨k - 1, by omega⟩
    obtain ⟨L, h1, h2, h3, h4⟩ := ih (i + 1) k (l.set i (v + i)) (by simpa using hl) (by omega) (by omega)
    refine ⟨L, ?_, h2, fun j hj => ?_, fun j a b => ?_⟩
    · simp only [laws_markIntS.l0]
      rw [if_pos (by omega), if_pos (by omega), w64 (x := v + i + 1) (by omega) (by omega), w64 (x := (i : Int) + 1) (by omega) (by omega), Int.toNat_natCast]
      rw [show v + (i : Int) + 1 = v + ((i + 1 : Nat) : Int) by omega, show (i : Int) + 1 = ((i + 1 : Nat) : Int) by omega]
      exact h1
    · rw [h3 j (by omega), List.getElem?_set_ne (by omega)]
    · by_cases hj : j = i
      · subst hj; rw [h3 j (by omega), List.getElem?_set_self (by omega)]
      · exact h4 j (by omega) b
theorem held_l0IJ (N : Nat) (hN : N ≤ 1048577) (v : Int) (h0 : 1 ≤ v) (hv : v ≤ 100000000) (L : List Int) (hL : L.length = N) (hm : ∀ j : Nat, j < N → L[j]? = some (v + j)) (d : Nat) : ∀ (i k : Nat), i + d = N → d < k →
    laws_heldIntS.l0 k L (v + i) (i : Int) = some (v + N) := by
  induction d with
  | zero =>
    intro i k hi hk
    obtain ⟨k, rfl⟩ : ∃ m, k = m + 1 := ⟨k - 1, by omega⟩
    simp only [laws_heldIntS.l0]
    rw [if_neg (by omega), show i = N by omega]
  | succ d ih =>
    intro i k hi hk
    obtain ⟨k, rfl⟩ : ∃ m, k = m + 1 := ⟨k - 1, by omega⟩
    have hlt : i < L.length := by omega
    have e := hm i (by omega)
    rw [List.getElem?_eq_getElem hlt] at e
    simp only [laws_heldIntS.l0]
    rw [if_pos (by omega), if_pos (by omega), rd_nat L i hlt, Option.some.inj e, if_pos rfl, w64 (x := v + i + 1) (by omega) (by omega), w64 (x := (i : Int) + 1) (by omega) (by omega)]
    rw [show v + (i : Int) + 1 = v + ((i + 1 : Nat) : Int) by omega, show (i : Int) + 1 = ((i + 1 : Nat) : Int) by omega]
    exact ih (i + 1) k (by omega) (by omega)
theorem eqI_l0 (l : List Int) (hl : l.length ≤ 1048577) (d : Nat) : ∀ (i k : Nat), i + d = l.length → d < k → laws_eqIntS.l0 k l l (i : Int) = some true := by
  induction d with
  | zero =>
    intro i k hi hk
    obtain ⟨k, rfl⟩ : ∃ m, k = m + 1 := ⟨k - 1, by omega⟩
    simp only [laws_eqIntS.l0]; rw [if_neg (by omega)]
  | succ d ih =>
    intro i k hi hk
    obtain ⟨k, rfl⟩ : ∃ m, k = m + 1 := ⟨k - 1, by omega⟩
    simp only [laws_eqIntS.l0]
    rw [if_pos (by omega), if_pos (by omega), if_pos (by omega), if_pos trivial, w64 (x := (i : Int) + 1) (by omega) (by omega), show (i : Int) + 1 = ((i + 1 : Nat) : Int) by omega]
    exact ih (i + 1) k (by omega) (by omega)
theorem eqI_ (l : List Int) (hl : l.length ≤ 1048577) (k : Nat) (hk : l.length < k) : laws_eqIntS.f k l l = some true := by
  unfold laws_eqIntS.f
  rw [if_pos rfl]
  exact eqI_l0 l hl l.length 0 k (by omega) hk
/-- Marked, the list holds its marks. -/
theorem markedJ_ (l : List Int) (hl : l.length ≤ 1048577) (v : Int) (h0 : 1 ≤ v) (hv : v ≤ 100000000) : ∃ L, L.length = l.length ∧ (∀ k, l.length + 12 ≤ k → laws_markIntS.f k l v = some (v + l.length, L)) ∧ ∀ k, l.length + 12 ≤ k → laws_heldIntS.f k L v = some (v + l.length) := by
  obtain ⟨L, h1, h2, _, h4⟩ := mark_l0IJ l.length hl v h0 hv l.length 0 (l.length + 12) l rfl (by omega) (by omega)
  refine ⟨L, h2, fun k hk => at_rounds (fun k => laws_markIntS.mono l v k) hk ?_, fun k hk => ?_⟩
  · unfold laws_markIntS.f; simpa using h1
  · unfold laws_heldIntS.f
    have := held_l0IJ l.length hl v h0 hv L h2 (fun j hj => h4 j (by omega) hj) l.length 0 k (by omega) (by omega)
    simpa using this

theorem szJ (a b : List Int) (ha : a.length ≤ maxLen) (hb : b.length ≤ maxLen) (n : Int) (h0 : 0 ≤ n) (h1 : n ≤ 1048576) : ∃ t, laws_szCalendar.f a b n = some t ∧ (t < 0 ∨ (0 ≤ t ∧ t + a.length + b.length = n)) := by
  rw [maxLen_] at ha hb
  unfold laws_szCalendar.f laws_szIntS.f
  rw [w64 (x := n - (a.length : Int)) (by omega) (by omega)]
  by_cases c1 : n - (a.length : Int) < 0
  · rw [if_pos c1]; exact ⟨-1, by simp, Or.inl (by omega)⟩
  · rw [if_neg c1]
    simp only [Option.bind_some]
    rw [if_neg c1, w64 (by omega) (by omega)]
    by_cases c2 : n - (a.length : Int) - (b.length : Int) < 0
    · rw [if_pos c2]; exact ⟨-1, by simp, Or.inl (by omega)⟩
    · rw [if_neg c2]
      simp only [Option.bind_some]
      rw [if_neg c2]
      exact ⟨_, rfl, Or.inr (by omega)⟩
theorem markCal (a b : List Int) (ha : a.length ≤ 1048576) (hb : b.length ≤ 1048576) (v : Int) (h0 : 1 ≤ v) (hv : v ≤ 50000000) : ∃ L M, ∀ k, 1048600 ≤ k → laws_markCalendar.f k a b v = some (v + a.length + b.length, L, M) ∧ laws_heldCalendar.f k L M v = some (v + a.length + b.length) := by
  obtain ⟨L, _, h1, h2⟩ := markedJ_ a (by omega) v h0 (by omega)
  obtain ⟨M, _, h3, h4⟩ := markedJ_ b (by omega) (v + a.length) (by omega) (by omega)
  refine ⟨L, M, fun k hk => ⟨?_, ?_⟩⟩
  · unfold laws_markCalendar.f
    rw [h1 k (by omega)]
    simp only [Option.bind_some]
    rw [h3 k (by omega)]
    rfl
  · unfold laws_heldCalendar.f
    rw [h2 k (by omega)]
    simp only [Option.bind_some]
    rw [if_neg (by omega), h4 k (by omega)]
    simp only [Option.bind_some]
    rw [if_neg (by omega)]
theorem FnExactJoinCalendars (a b c d : List Int) (ha : a.length ≤ maxLen) (_ : ∀ x ∈ a, (Lit.int .i64 x).wf = true) (hb : b.length ≤ maxLen) (_ : ∀ x ∈ b, (Lit.int .i64 x).wf = true) (hc : c.length ≤ maxLen) (_ : ∀ x ∈ c, (Lit.int .i64 x).wf = true) (hd : d.length ≤ maxLen) (_ : ∀ x ∈ d, (Lit.int .i64 x).wf = true) : ∃ k, laws_FnExactJoinCalendars.f k a b c d = some true := by
  refine ⟨2000000, ?_⟩
  unfold laws_FnExactJoinCalendars.f
  obtain ⟨t, e1, ht⟩ := szJ a b ha hb 1048576 (by omega) (by omega)
  rw [e1]
  simp only [Option.bind_some]
  by_cases c1 : t < 0
  · rw [if_pos c1]
  · rw [if_neg c1]
    obtain ⟨u, e2, hu⟩ := szJ c d hc hd t (by omega) (by omega)
    rw [e2]
    simp only [Option.bind_some]
    by_cases c2 : u < 0
    · rw [if_pos c2]
    · rw [if_neg c2]
      obtain ⟨r1, r2, s, hr1, hr2, h1, h2⟩ := join_both a b c d (by omega) (by omega) (by omega) (by omega) 2000000 (by omega)
      obtain ⟨L1, M1, m1⟩ := markCal a b (by omega) (by omega) 1 (by omega) (by omega)
      obtain ⟨L2, M2, m2⟩ := markCal c d (by omega) (by omega) (1 + a.length + b.length) (by omega) (by omega)
      obtain ⟨L3, M3, m3⟩ := markCal r1 r2 (by omega) (by omega) 1 (by omega) (by omega)
      rw [toCalendar_ a b (by omega) (by omega) _ (by omega), toCalendar_ c d (by omega) (by omega) _ (by omega)]
      simp only [Option.bind_some]
      rw [h1, h2]
      simp only [Option.bind_some]
      rw [eqCalendar_ r1 r2 (by omega) (by omega) _ (by omega), eqCalendar_ a b (by omega) (by omega) _ (by omega), eqCalendar_ c d (by omega) (by omega) _ (by omega)]
      simp only [Option.bind_some]
      rw [(m1 2000000 (by omega)).1]
      simp only [Option.bind_some]
      rw [(m2 2000000 (by omega)).1]
      simp only [Option.bind_some]
      rw [(m3 2000000 (by omega)).1]
      simp only [Option.bind_some]
      rw [(m3 2000000 (by omega)).2]
      simp only [Option.bind_some]
      rw [if_pos ⟨trivial, trivial, trivial, trivial, by omega, by omega, trivial⟩]

end Go.Proofs.Ytaallhcmhennkaa.Pure
