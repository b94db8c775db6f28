/- The program's IsValidName and the reference's return the same for every string; no condition. -/
import Derived.Test.YthdcmcackobodaaDoorQFnExactIsValidNamex2
namespace Go.Proofs.YthdcmcackobodaaDoor.Pure
open Go.RowKit Go.Proofs.YthdcmcackobodaaDoor.QFnExactIsValidName Go.Proofs.YthdcmcackobodaaDoorW.PrintWords Go.Proofs.YthdcmcackobodaaDoorW.PrintLast Go.Proofs.YthdcmcackobodaaDoorW.PrintMore
set_option linter.unusedVariables false
set_option linter.unusedSimpArgs false

theorem w64 {x : Int} (h : -9223372036854775808 ≤ x) (h' : x ≤ 9223372036854775807) : wrap64 x = x := by unfold wrap64; omega
theorem tdv {x : Int} (n : Int) (h : 0 ≤ x) : Int.tdiv x n = x / n := Int.tdiv_eq_ediv_of_nonneg h
theorem tmd {x : Int} (n : Int) (h : 0 ≤ x) : Int.tmod x n = x % n := Int.tmod_eq_emod_of_nonneg h
theorem wfb {a : Int} (h : (Lit.int .i64 a).wf = true) : -9223372036854775808 ≤ a ∧ a ≤ 9223372036854775807 := by
  simp [Lit.wf, IntKind.min, IntKind.max, IntKind.signed, IntKind.bits] at h
  omega
theorem within_ {x a b : Int} : (if x ≥ a then some (decide (x ≤ b)) else some false) = some (decide (a ≤ x ∧ x ≤ b)) := by
  by_cases h : x ≥ a
  · rw [if_pos h]; congr 1; simp; omega
  · rw [if_neg h]; congr 1; simp; omega

theorem toList_inj {a b : ByteArray} (h : a.toList = b.toList) : a = b := by
  rw [ByteArray.toList_eq, ByteArray.toList_eq] at h
  exact Go.WideShapes.bytes_inj h
theorem szD (s : ByteArray) : s.data.toList.length = s.size := by simp
theorem rdOf_nat (l : List ByteArray) (i : Nat) (h : i < l.length) : rdOf ByteArray.empty l (i : Int) = l[i] := by
  unfold rdOf; rw [Int.toNat_natCast, List.getD_eq_getElem?_getD, List.getElem?_eq_getElem h]; rfl

def words9 : List ByteArray := [⟨#[116, 114, 117, 101]⟩, ⟨#[102, 114, 111, 109]⟩, ⟨#[110, 111, 116]⟩, ⟨#[97, 110, 100]⟩, ⟨#[111, 114]⟩, ⟨#[98, 111, 116, 104]⟩, ⟨#[101, 105, 116, 104, 101, 114]⟩, ⟨#[105, 116]⟩, ⟨#[105, 110]⟩]
theorem split9 : strings_Split.f ⟨#[116, 114, 117, 101, 32, 102, 114, 111, 109, 32, 110, 111, 116, 32, 97, 110, 100, 32, 111, 114, 32, 98, 111, 116, 104, 32, 101, 105, 116, 104, 101, 114, 32, 105, 116, 32, 105, 110]⟩ ⟨#[32]⟩ = some words9 := by kernel_rfl
theorem sign_ (c : Int) : spec_l5Sign.f c = some (decide ((97 ≤ c ∧ c ≤ 122) ∨ (48 ≤ c ∧ c ≤ 57))) := by
  unfold spec_l5Sign.f
  repeat' split
  all_goals first | (congr 1; apply decide_eq_decide.2; omega) | (congr 1; symm; exact decide_eq_true (by omega)) | (congr 1; symm; exact decide_eq_false (by omega))
theorem impl_step (c : Int) (N : Option Bool) : (if c < 97 then (if c < 48 then some false else (if c > 57 then some false else N)) else (if c > 122 then (if c < 48 then some false else (if c > 57 then some false else N)) else N)) = if (97 ≤ c ∧ c ≤ 122) ∨ (48 ≤ c ∧ c ≤ 57) then N else some false := by
  repeat' split
  all_goals first | rfl | (exfalso; omega)
theorem index_l0 (l : List ByteArray) (hl : l.length ≤ 1048576) (s : ByteArray) (d : Nat) : ∀ (i k : Nat), i + d = l.length → d < k → ∃ r : Int, slices_Index_string_string.l0 k l s (l.length : Int) (i : Int) = some r ∧ (0 ≤ r ↔ s ∈ l.drop i) := by
  induction d with
  | zero =>
    intro i k hi hk
    obtain ⟨k, rfl⟩ : ∃ m, k = m + 1 := ⟨k - 1, by omega⟩
    refine ⟨-1, ?_, ?_⟩
    · simp only [slices_Index_string_string.l0]; rw [if_neg (by omega)]
    · rw [List.drop_eq_nil_of_le (by omega)]; simp
  | succ d ih =>
    intro i k hi hk
    obtain ⟨k, rfl⟩ : ∃ m, k = m + 1 := ⟨k - 1, by omega⟩
    have hlt : i < l.length := by omega
    simp only [slices_Index_string_string.l0]
    rw [if_pos (by omega), if_pos (by omega), if_pos (by omega), rdOf_nat l i hlt, List.drop_eq_getElem_cons hlt]
    by_cases h : s.toList = l[i].toList
    · rw [if_pos h]
      refine ⟨i, rfl, ?_⟩
      have := toList_inj h
      exact ⟨fun _ => by rw [this]; exact List.mem_cons_self, fun _ => by omega⟩
    · rw [if_neg h, w64 (x := (i : Int) + 1) (by omega) (by omega), show (i : Int) + 1 = ((i + 1 : Nat) : Int) by omega]
      obtain ⟨r, h1, h2⟩ := ih (i + 1) k (by omega) (by omega)
      refine ⟨r, h1, ?_⟩
      rw [h2, List.mem_cons]
      constructor
      · exact Or.inr
      · rintro (e | e)
        · exact absurd (by rw [← e]) h
        · exact e
theorem contains9 (s : ByteArray) (k : Nat) (hk : 10 ≤ k) : ∃ b, slices_Contains_string_string.f k words9 s = some b ∧ (b = true ↔ s ∈ words9) := by
  obtain ⟨r, h1, h2⟩ := index_l0 words9 (by decide) s 9 0 k rfl (by omega)
  refine ⟨decide (r ≥ 0), ?_, ?_⟩
  · unfold slices_Contains_string_string.f slices_Index_string_string.f
    have h1' : slices_Index_string_string.l0 k words9 s (words9.length : Int) 0 = some r := h1
    rw [h1', Option.bind_some]
  · rw [decide_eq_true_iff, ge_iff_le, h2, List.drop_zero]
theorem toList_iff (s : ByteArray) (l : List UInt8) : s.toList = l ↔ s = ⟨l.toArray⟩ := by
  constructor
  · intro h; apply toList_inj; rw [h, ByteArray.toList_eq]
  · rintro rfl; rw [ByteArray.toList_eq]
theorem not_or9 {a b c d e f g h i : Prop} (n : (a ∨ b ∨ c ∨ d ∨ e ∨ f ∨ g ∨ h ∨ i) → False) : ¬a ∧ ¬b ∧ ¬c ∧ ¬d ∧ ¬e ∧ ¬f ∧ ¬g ∧ ¬h ∧ ¬i := by
  refine ⟨?_, ?_, ?_, ?_, ?_, ?_, ?_, ?_, ?_⟩ <;> intro x <;> exact n (by simp [x])
theorem name_l0 (s : ByteArray) (hs : s.size ≤ 1048576) (d : Nat) : ∀ (i k : Nat), i + d = s.size → d + 11 < k → ∃ b, spec_l5Name.l0 k s (i : Int) = some b ∧ impl_IsValidName.l0 k s (s.size : Int) (i : Int) = some b := by
  induction d with
  | zero =>
    intro i k hi hk
    obtain ⟨k, rfl⟩ : ∃ m, k = m + 1 := ⟨k - 1, by omega⟩
    obtain ⟨b, hb, hm⟩ := contains9 s k (by omega)
    refine ⟨!b, ?_, ?_⟩
    · simp only [spec_l5Name.l0]
      rw [if_neg (by omega)]
      simp only [toList_iff]
      unfold words9 at hm
      simp only [List.mem_cons, List.mem_nil_iff, or_false] at hm
      cases b with
      | true =>
        have := hm.1 rfl
        rcases this with h | h | h | h | h | h | h | h | h <;> simp [h]
      | false =>
        have hn := fun h => Bool.false_ne_true (hm.2 h)
        obtain ⟨n1, n2, n3, n4, n5, n6, n7, n8, n9⟩ : _ ∧ _ ∧ _ ∧ _ ∧ _ ∧ _ ∧ _ ∧ _ ∧ _ := not_or9 hn
        rw [if_neg n1, if_neg n2, if_neg n3, if_neg n4, if_neg n5, if_neg n6, if_neg n7, if_neg n8, if_neg n9]
        rfl
    · simp only [impl_IsValidName.l0]
      rw [if_neg (by omega), split9, Option.bind_some, hb, Option.bind_some]
  | succ d ih =>
    intro i k hi hk
    obtain ⟨k, rfl⟩ : ∃ m, k = m + 1 := ⟨k - 1, by omega⟩
    obtain ⟨b, h1, h2⟩ := ih (i + 1) k (by omega) (by omega)
    simp only [spec_l5Name.l0, impl_IsValidName.l0]
    rw [if_pos (by omega), if_pos (by omega), if_pos (by omega), if_pos (by omega), if_pos (by omega), impl_step, sign_, Option.bind_some, w64 (x := (i : Int) + 1) (by omega) (by omega), show (i : Int) + 1 = ((i + 1 : Nat) : Int) by omega, h1, h2]
    by_cases hc : (97 ≤ bt s (i : Int) ∧ bt s (i : Int) ≤ 122) ∨ (48 ≤ bt s (i : Int) ∧ bt s (i : Int) ≤ 57)
    · exact ⟨b, by simp [hc], by simp [hc]⟩
    · exact ⟨false, by simp [hc], by simp [hc]⟩
theorem FnExactIsValidName (s : ByteArray) (hs0 : s.size ≤ maxLen) : ∃ k, laws_FnExactIsValidName.f k s = some true := by
  refine ⟨30, ?_⟩
  unfold laws_FnExactIsValidName.f
  by_cases hb : (s.size : Int) > 1048576
  · rw [if_pos hb]
  rw [if_neg hb]
  unfold spec_IsValidName.f spec_l5Name.f impl_IsValidName.f spec_l1In.f impl_within.f
  by_cases h1 : (s.size : Int) ≥ 1
  · by_cases h8 : (s.size : Int) ≤ 8
    · obtain ⟨b, e1, e2⟩ := name_l0 s (by omega) s.size 0 29 (by omega) (by omega)
      have e1' : spec_l5Name.l0 29 s 0 = some b := e1
      have e2' : impl_IsValidName.l0 29 s (s.size : Int) 0 = some b := e2
      have h0 : 0 < (s.size : Int) := by omega
      have h0' : 0 < s.size := by omega
      by_cases c1 : bt s 0 < 97
      · simp [h1, h8, h0, h0', c1, spec_l5Name.j0, impl_IsValidName.j0]
      · by_cases c2 : bt s 0 > 122
        · simp [h1, h8, h0, h0', c1, c2, spec_l5Name.j0, impl_IsValidName.j0]
        · simp only [h1, h8, h0, h0', c1, c2, spec_l5Name.j0, impl_IsValidName.j0, if_true, if_false, decide_true, decide_false, Option.bind_some, e1', e2', Bool.false_eq_true]
          simp
    · simp [h1, h8, spec_l5Name.j0, impl_IsValidName.j0]
  · simp [h1, spec_l5Name.j0, impl_IsValidName.j0]

end Go.Proofs.YthdcmcackobodaaDoor.Pure
