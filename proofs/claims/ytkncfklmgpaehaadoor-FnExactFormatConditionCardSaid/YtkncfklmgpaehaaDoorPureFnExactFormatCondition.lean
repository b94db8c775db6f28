/- The program's FormatCondition and the reference's return the same for every condition; no condition. -/
import Derived.Test.YtkncfklmgpaehaaDoorQFnExactFormatConditionx11
namespace Go.Proofs.YtkncfklmgpaehaaDoor.Pure
open Go.RowKit Go.Proofs.YtkncfklmgpaehaaDoor.QFnExactFormatCondition Go.Proofs.YtkncfklmgpaehaaDoorW.PrintWords Go.Proofs.YtkncfklmgpaehaaDoorW.PrintLast Go.Proofs.YtkncfklmgpaehaaDoorW.PrintMore
set_option linter.unusedVariables false
set_option linter.unusedSimpArgs false

inductive ok24 : S24 → Prop
  | mk (x : S24) (h0 : (Lit.int .i64 x.f0).wf = true) (h1 : x.f1.size ≤ maxLen) (h2 : (Lit.int .i64 x.f2).wf = true) (h3 : x.f3.length ≤ maxLen) (h4 : ∀ y ∈ x.f3, ok24 y) : ok24 x

theorem w64 {x : Int} (h : -9223372036854775808 ≤ x) (h' : x ≤ 9223372036854775807) : wrap64 x = x := by unfold wrap64; omega
theorem tdv {x : Int} (n : Int) (h : 0 ≤ x) : Int.tdiv x n = x / n := Int.tdiv_eq_ediv_of_nonneg h
theorem tmd {x : Int} (n : Int) (h : 0 ≤ x) : Int.tmod x n = x % n := Int.tmod_eq_emod_of_nonneg h
theorem wfb {a : Int} (h : (Lit.int .i64 a).wf = true) : -9223372036854775808 ≤ a ∧ a ≤ 9223372036854775807 := by
  simp [Lit.wf, IntKind.min, IntKind.max, IntKind.signed, IntKind.bits] at h
  omega
theorem within_ {x a b : Int} : (if x ≥ a then some (decide (x ≤ b)) else some false) = some (decide (a ≤ x ∧ x ≤ b)) := by
  by_cases h : x ≥ a
  · rw [if_pos h]; congr 1; simp; omega
  · rw [if_neg h]; congr 1; simp; omega

theorem toList_inj {a b : ByteArray} (h : a.toList = b.toList) : a = b := by
  rw [ByteArray.toList_eq, ByteArray.toList_eq] at h
  exact Go.WideShapes.bytes_inj h
theorem szD (s : ByteArray) : s.data.toList.length = s.size := by simp
theorem rdOf_nat (l : List ByteArray) (i : Nat) (h : i < l.length) : rdOf ByteArray.empty l (i : Int) = l[i] := by
  unfold rdOf; rw [Int.toNat_natCast, List.getD_eq_getElem?_getD, List.getElem?_eq_getElem h]; rfl

def words9 : List ByteArray := [⟨#[116, 114, 117, 101]⟩, ⟨#[102, 114, 111, 109]⟩, ⟨#[110, 111, 116]⟩, ⟨#[97, 110, 100]⟩, ⟨#[111, 114]⟩, ⟨#[98, 111, 116, 104]⟩, ⟨#[101, 105, 116, 104, 101, 114]⟩, ⟨#[105, 116]⟩, ⟨#[105, 110]⟩]
theorem split9 : strings_Split.f ⟨#[116, 114, 117, 101, 32, 102, 114, 111, 109, 32, 110, 111, 116, 32, 97, 110, 100, 32, 111, 114, 32, 98, 111, 116, 104, 32, 101, 105, 116, 104, 101, 114, 32, 105, 116, 32, 105, 110]⟩ ⟨#[32]⟩ = some words9 := by kernel_rfl
theorem sign_ (c : Int) : spec_l5Sign.f c = some (decide ((97 ≤ c ∧ c ≤ 122) ∨ (48 ≤ c ∧ c ≤ 57))) := by
  unfold spec_l5Sign.f
  repeat' split
  all_goals first | (congr 1; apply decide_eq_decide.2; omega) | (congr 1; symm; exact decide_eq_true (by omega)) | (congr 1; symm; exact decide_eq_false (by omega))
theorem impl_step (c : Int) (N : Option Bool) : (if c < 97 then (if c < 48 then some false else (if c > 57 then some false else N)) else (if c > 122 then (if c < 48 then some false else (if c > 57 then some false else N)) else N)) = if (97 ≤ c ∧ c ≤ 122) ∨ (48 ≤ c ∧ c ≤ 57) then N else some false := by
  repeat' split
  all_goals first | rfl | (exfalso; omega)
theorem index_l0 (l : List ByteArray) (hl : l.length ≤ 1048576) (s : ByteArray) (d : Nat) : ∀ (i k : Nat), i + d = l.length → d < k → ∃ r : Int, slices_Index_string_string.l0 k l s (l.length : Int) (i : Int) = some r ∧ (0 ≤ r ↔ s ∈ l.drop i) := by
  induction d with
  | zero =>
    intro i k hi hk
    obtain ⟨k, rfl⟩ : ∃ m, k = m + 1 := ⟨k - 1, by omega⟩
    refine ⟨-1, ?_, ?_⟩
    · simp only [slices_Index_string_string.l0]; rw [if_neg (by omega)]
    · rw [List.drop_eq_nil_of_le (by omega)]; simp
  | succ d ih =>
    intro i k hi hk
    obtain ⟨k, rfl⟩ : ∃ m, k = m + 1 := ⟨k - 1, by omega⟩
    have hlt : i < l.length := by omega
    simp only [slices_Index_string_string.l0]
    rw [if_pos (by omega), if_pos (by omega), if_pos (by omega), rdOf_nat l i hlt, List.drop_eq_getElem_cons hlt]
    by_cases h : s.toList = l[i].toList
    · rw [if_pos h]
      refine ⟨i, rfl, ?_⟩
      have := toList_inj h
      exact ⟨fun _ => by rw [this]; exact List.mem_cons_self, fun _ => by omega⟩
    · rw [if_neg h, w64 (x := (i : Int) + 1) (by omega) (by omega), show (i : Int) + 1 = ((i + 1 : Nat) : Int) by omega]
      obtain ⟨r, h1, h2⟩ := ih (i + 1) k (by omega) (by omega)
      refine ⟨r, h1, ?_⟩
      rw [h2, List.mem_cons]
      constructor
      · exact Or.inr
      · rintro (e | e)
        · exact absurd (by rw [← e]) h
        · exact e
theorem contains9 (s : ByteArray) (k : Nat) (hk : 10 ≤ k) : ∃ b, slices_Contains_string_string.f k words9 s = some b ∧ (b = true ↔ s ∈ words9) := by
  obtain ⟨r, h1, h2⟩ := index_l0 words9 (by decide) s 9 0 k rfl (by omega)
  refine ⟨decide (r ≥ 0), ?_, ?_⟩
  · unfold slices_Contains_string_string.f slices_Index_string_string.f
    have h1' : slices_Index_string_string.l0 k words9 s (words9.length : Int) 0 = some r := h1
    rw [h1', Option.bind_some]
  · rw [decide_eq_true_iff, ge_iff_le, h2, List.drop_zero]
theorem toList_iff (s : ByteArray) (l : List UInt8) : s.toList = l ↔ s = ⟨l.toArray⟩ := by
  constructor
  · intro h; apply toList_inj; rw [h, ByteArray.toList_eq]
  · rintro rfl; rw [ByteArray.toList_eq]
theorem not_or9 {a b c d e f g h i : Prop} (n : (a ∨ b ∨ c ∨ d ∨ e ∨ f ∨ g ∨ h ∨ i) → False) : ¬a ∧ ¬b ∧ ¬c ∧ ¬d ∧ ¬e ∧ ¬f ∧ ¬g ∧ ¬h ∧ ¬i := by
  refine ⟨?_, ?_, ?_, ?_, ?_, ?_, ?_, ?_, ?_⟩ <;> intro x <;> exact n (by simp [x])
theorem name_l0 (s : ByteArray) (hs : s.size ≤ 1048576) (d : Nat) : ∀ (i k : Nat), i + d = s.size → d + 11 < k → ∃ b, spec_l5Name.l0 k s (i : Int) = some b ∧ impl_IsValidName.l0 k s (s.size : Int) (i : Int) = some b := by
  induction d with
  | zero =>
    intro i k hi hk
    obtain ⟨k, rfl⟩ : ∃ m, k = m + 1 := ⟨k - 1, by omega⟩
    obtain ⟨b, hb, hm⟩ := contains9 s k (by omega)
    refine ⟨!b, ?_, ?_⟩
    · simp only [spec_l5Name.l0]
      rw [if_neg (by omega)]
      simp only [toList_iff]
      unfold words9 at hm
      simp only [List.mem_cons, List.mem_nil_iff, or_false] at hm
      cases b with
      | true =>
        have := hm.1 rfl
        rcases this with h | h | h | h | h | h | h | h | h <;> simp [h]
      | false =>
        have hn := fun h => Bool.false_ne_true (hm.2 h)
        obtain ⟨n1, n2, n3, n4, n5, n6, n7, n8, n9⟩ : _ ∧ _ ∧ _ ∧ _ ∧ _ ∧ _ ∧ _ ∧ _ ∧ _ := not_or9 hn
        rw [if_neg n1, if_neg n2, if_neg n3, if_neg n4, if_neg n5, if_neg n6, if_neg n7, if_neg n8, if_neg n9]
        rfl
    · simp only [impl_IsValidName.l0]
      rw [if_neg (by omega), split9, Option.bind_some, hb, Option.bind_some]
  | succ d ih =>
    intro i k hi hk
    obtain ⟨k, rfl⟩ : ∃ m, k = m + 1 := ⟨k - 1, by omega⟩
    obtain ⟨b, h1, h2⟩ := ih (i + 1) k (by omega) (by omega)
    simp only [spec_l5Name.l0, impl_IsValidName.l0]
    rw [if_pos (by omega), if_pos (by omega), if_pos (by omega), if_pos (by omega), if_pos (by omega), impl_step, sign_, Option.bind_some, w64 (x := (i : Int) + 1) (by omega) (by omega), show (i : Int) + 1 = ((i + 1 : Nat) : Int) by omega, h1, h2]
    by_cases hc : (97 ≤ bt s (i : Int) ∧ bt s (i : Int) ≤ 122) ∨ (48 ≤ bt s (i : Int) ∧ bt s (i : Int) ≤ 57)
    · exact ⟨b, by simp [hc], by simp [hc]⟩
    · exact ⟨false, by simp [hc], by simp [hc]⟩
theorem names_ (s : ByteArray) : ∃ b, spec_l5Name.f 30 s = some b ∧ impl_IsValidName.f 30 s = some b := by
  unfold spec_l5Name.f impl_IsValidName.f spec_l1In.f impl_within.f
  by_cases h1 : (s.size : Int) ≥ 1
  · by_cases h8 : (s.size : Int) ≤ 8
    · obtain ⟨b, e1, e2⟩ := name_l0 s (by omega) s.size 0 29 (by omega) (by omega)
      have e1' : spec_l5Name.l0 29 s 0 = some b := e1
      have e2' : impl_IsValidName.l0 29 s (s.size : Int) 0 = some b := e2
      have h0 : 0 < (s.size : Int) := by omega
      have h0' : 0 < s.size := by omega
      by_cases c1 : bt s 0 < 97
      · simp [h1, h8, h0, h0', c1, spec_l5Name.j0, impl_IsValidName.j0]
      · by_cases c2 : bt s 0 > 122
        · simp [h1, h8, h0, h0', c1, c2, spec_l5Name.j0, impl_IsValidName.j0]
        · refine ⟨b, ?_, ?_⟩ <;> simp [h1, h8, h0, h0', c1, c2, spec_l5Name.j0, impl_IsValidName.j0, e1', e2']
    · simp [h1, h8, spec_l5Name.j0, impl_IsValidName.j0]
  · simp [h1, spec_l5Name.j0, impl_IsValidName.j0]
def nameB (s : ByteArray) : Bool := (spec_l5Name.f 30 s).getD false
theorem nameS_ (s : ByteArray) {k : Nat} (hk : 30 ≤ k) : spec_l5Name.f k s = some (nameB s) := by
  obtain ⟨b, e1, _⟩ := names_ s
  have : nameB s = b := by unfold nameB; rw [e1]; rfl
  rw [this]; exact at_rounds (fun k => spec_l5Name.mono s k) hk e1
theorem nameI_ (s : ByteArray) {k : Nat} (hk : 30 ≤ k) : impl_IsValidName.f k s = some (nameB s) := by
  obtain ⟨b, e1, e2⟩ := names_ s
  have : nameB s = b := by unfold nameB; rw [e1]; rfl
  rw [this]; exact at_rounds (fun k => impl_IsValidName.mono s k) hk e2
theorem nameB_nil (s : ByteArray) (h : s.toList = []) : nameB s = false := by
  have : s.size = 0 := by
    have h2 : s.toList.length = 0 := by rw [h]; rfl
    rw [ByteArray.toList_eq] at h2; simpa using h2
  unfold nameB spec_l5Name.f spec_l1In.f
  simp [this, spec_l5Name.j0]

theorem indL {P : S24 → Prop} (h : ∀ c : S24, (∀ x ∈ c.f3, P x) → P c) (c : S24) : P c :=
  S24.rec (motive_1 := P) (motive_2 := fun l => ∀ x ∈ l, P x) (fun a b c l ih => h ⟨a, b, c, l⟩ ih) (fun x hx => by cases hx) (fun x xs hx hxs y hy => by cases hy with | head => exact hx | tail _ h => exact hxs y h) c
theorem indC {P : S29 → Prop} (h : ∀ c : S29, (∀ x ∈ c.f3, P x) → P c) (c : S29) : P c :=
  S29.rec (motive_1 := P) (motive_2 := fun l => ∀ x ∈ l, P x) (fun a b c l ih => h ⟨a, b, c, l⟩ ih) (fun x hx => by cases hx) (fun x xs hx hxs y hy => by cases hy with | head => exact hx | tail _ h => exact hxs y h) c
mutual
def cv : S24 → S29
  | ⟨a, b, c, l⟩ => ⟨a, b, c, cvL l⟩
def cvL : List S24 → List S29
  | [] => []
  | x :: xs => cv x :: cvL xs
end
mutual
def wC : S29 → Nat
  | ⟨_, _, _, l⟩ => wL l + 8
def wL : List S29 → Nat
  | [] => 0
  | x :: xs => wC x + wL xs + 1
end
mutual
def tC : S29 → Nat
  | ⟨_, b, _, l⟩ => b.size + l.length + tL l
def tL : List S29 → Nat
  | [] => 0
  | x :: xs => tC x + tL xs
end
mutual
def nC : S29 → Nat
  | ⟨_, _, _, l⟩ => nL l + 1
def nL : List S29 → Nat
  | [] => 0
  | x :: xs => nC x + nL xs
end
theorem cvL_map (l : List S24) : cvL l = l.map cv := by
  induction l with
  | nil => rfl
  | cons x xs ih => simp [cvL, ih]
theorem cv_f0 (c : S24) : (cv c).f0 = c.f0 := by cases c; rfl
theorem cv_f1 (c : S24) : (cv c).f1 = c.f1 := by cases c; rfl
theorem cv_f2 (c : S24) : (cv c).f2 = c.f2 := by cases c; rfl
theorem cv_f3 (c : S24) : (cv c).f3 = c.f3.map cv := by cases c; simp [cv, cvL_map]
theorem wC_eq (c : S29) : wC c = wL c.f3 + 8 := by cases c; rfl
theorem tC_eq (c : S29) : tC c = c.f1.size + c.f3.length + tL c.f3 := by cases c; rfl
theorem nC_eq (c : S29) : nC c = nL c.f3 + 1 := by cases c; rfl
theorem tL_mem {l : List S29} {x : S29} (h : x ∈ l) : tC x ≤ tL l := by
  induction l with
  | nil => cases h
  | cons y ys ih =>
    simp only [tL]
    cases h with
    | head => omega
    | tail _ h => have := ih h; omega
theorem nL_le (l : List S29) (h : ∀ x ∈ l, nC x ≤ tC x + 1) : nL l ≤ tL l + l.length := by
  induction l with
  | nil => simp [nL]
  | cons y ys ih =>
    have h1 := h y List.mem_cons_self
    have h2 := ih (fun x hx => h x (List.mem_cons_of_mem _ hx))
    simp only [nL, tL, List.length_cons]; omega
theorem nC_le (c : S29) : nC c ≤ tC c + 1 := by
  refine indC (P := fun c => nC c ≤ tC c + 1) ?_ c
  intro c ih
  have := nL_le c.f3 ih
  rw [nC_eq, tC_eq]; omega
theorem nL_sum (l : List S29) : nL l ≤ tL l + l.length := nL_le l (fun x _ => nC_le x)
theorem rdL_ (l : List S24) (i : Nat) (h : i < l.length) : rd_T24 l (i : Int) = l[i] := by
  unfold rd_T24; rw [Int.toNat_natCast, List.getD_eq_getElem?_getD, List.getElem?_eq_getElem h]; rfl
theorem rdC_ (l : List S29) (i : Nat) (h : i < l.length) : rd_T29 l (i : Int) = l[i] := by
  unfold rd_T29; rw [Int.toNat_natCast, List.getD_eq_getElem?_getD, List.getElem?_eq_getElem h]; rfl
theorem dropL_ (l : List S24) (i : Nat) (h : i < l.length) : (l.drop i).map cv = cv l[i] :: (l.drop (i + 1)).map cv := by
  rw [List.drop_eq_getElem_cons h, List.map_cons]
theorem dropC_ (l : List S29) (i : Nat) (h : i < l.length) : l.drop i = l[i] :: l.drop (i + 1) := List.drop_eq_getElem_cons h
theorem szL_ (l : List S24) (hl : l.length ≤ 1048576) (h : ∀ x ∈ l, ∀ k left, wC (cv x) + 5 ≤ k → 0 ≤ left → left ≤ 1048576 → laws_szCondition.f k x.f0 x.f1 x.f2 x.f3 left = some (if left < tC (cv x) then -1 else left - tC (cv x))) (d : Nat) :
    ∀ (i k : Nat) (left : Int), i + d = l.length → wL ((l.drop i).map cv) + 5 ≤ k → 0 ≤ left → left ≤ 1048576 → laws_szConditionS.l0 k l left (i : Int) = some (if left < tL ((l.drop i).map cv) then -1 else left - tL ((l.drop i).map cv)) := by
  induction d with
  | zero =>
    intro i k left hi hk h0 h1
    obtain ⟨k, rfl⟩ : ∃ m, k = m + 1 := ⟨k - 1, by omega⟩
    simp only [laws_szConditionS.l0]
    rw [if_neg (by omega), List.drop_eq_nil_of_le (by omega)]
    have e_ : tL (List.map cv ([] : List S24)) = 0 := rfl
    rw [e_]
    rw [if_neg (by omega)]; congr 1; omega
  | succ d ih =>
    intro i k left hi hk h0 h1
    have hlt : i < l.length := by omega
    obtain ⟨k, rfl⟩ : ∃ m, k = m + 1 := ⟨k - 1, by omega⟩
    rw [dropL_ l i hlt] at hk ⊢
    simp only [wL] at hk
    have e_ : tL (cv l[i] :: (l.drop (i + 1)).map cv) = tC (cv l[i]) + tL ((l.drop (i + 1)).map cv) := rfl
    rw [e_]
    simp only [laws_szConditionS.l0]
    rw [if_pos (by omega), if_pos (by omega), rdL_ l i hlt, h l[i] (List.getElem_mem hlt) k left (by omega) h0 h1, Option.bind_some]
    by_cases hc : left < tC (cv l[i])
    · rw [if_pos hc, if_pos (by omega), if_pos (by omega)]
    · rw [if_neg hc, if_neg (by omega), w64 (x := (i : Int) + 1) (by omega) (by omega), show (i : Int) + 1 = ((i + 1 : Nat) : Int) by omega, ih (i + 1) k _ (by omega) (by omega) (by omega) (by omega)]
      congr 1
      by_cases h2 : left - (tC (cv l[i]) : Int) < tL ((l.drop (i + 1)).map cv)
      · rw [if_pos h2, if_pos (by omega)]
      · rw [if_neg h2, if_neg (by omega)]; omega
theorem sz_ (c : S24) : ok24 c → ∀ (k : Nat) (left : Int), wC (cv c) + 5 ≤ k → 0 ≤ left → left ≤ 1048576 → laws_szCondition.f k c.f0 c.f1 c.f2 c.f3 left = some (if left < tC (cv c) then -1 else left - tC (cv c)) := by
  refine indL (P := fun c => ok24 c → ∀ (k : Nat) (left : Int), wC (cv c) + 5 ≤ k → 0 ≤ left → left ≤ 1048576 → laws_szCondition.f k c.f0 c.f1 c.f2 c.f3 left = some (if left < tC (cv c) then -1 else left - tC (cv c))) ?_ c
  rintro c ih ⟨_, _, h1, _, h3, h4⟩ k left hk h0 hle
  rw [wC_eq, cv_f3] at hk
  rw [tC_eq, cv_f1, cv_f3, List.length_map]
  obtain ⟨k, rfl⟩ : ∃ m, k = m + 3 := ⟨k - 3, by omega⟩
  have hm : maxLen = 9223372036854775807 := rfl
  simp only [laws_szCondition.f, laws_szConditionS.f]
  rw [w64 (x := left - (c.f1.size : Int)) (by omega) (by omega)]
  by_cases hc : left - (c.f1.size : Int) < 0
  · rw [if_pos hc, if_pos (by omega)]
  rw [if_neg hc, w64 (x := left - (c.f1.size : Int) - (c.f3.length : Int)) (by omega) (by omega)]
  by_cases hd : left - (c.f1.size : Int) - (c.f3.length : Int) < 0
  · rw [if_pos hd, Option.bind_some, if_pos (by omega), if_pos (by omega)]
  rw [if_neg hd]
  have hS := szL_ c.f3 (by omega) (fun x hx => ih x hx (h4 x hx)) c.f3.length 0 (k + 1) (left - (c.f1.size : Int) - (c.f3.length : Int)) (by omega) (by simp only [List.drop_zero]; omega) (by omega) (by omega)
  simp only [List.drop_zero] at hS
  have hS' : laws_szConditionS.l0 (k + 1) c.f3 (left - (c.f1.size : Int) - (c.f3.length : Int)) 0 = _ := hS
  rw [hS', Option.bind_some]
  by_cases he : left - (c.f1.size : Int) - (c.f3.length : Int) < (tL (c.f3.map cv) : Int)
  · rw [if_pos he, if_pos (by omega), if_pos (by omega)]
  · rw [if_neg he, if_neg (by omega), if_neg (by omega)]; congr 1; omega
theorem set_grow {α : Type} (a : List α) (d : Nat) (z x : α) (i : Nat) (h : a.length = i) : (a ++ List.replicate (d + 1) z).set i x = (a ++ [x]) ++ List.replicate d z := by
  subst h
  rw [List.set_append_right _ _ (Nat.le_refl _), Nat.sub_self, List.replicate_succ, List.set_cons_zero, List.append_assoc, List.singleton_append]
theorem mkC_ (c : S29) : (⟨c.f0, c.f1, c.f2, c.f3⟩ : S29) = c := by cases c; rfl
theorem toL_ (l : List S24) (hl : l.length ≤ 1048576) (h : ∀ x ∈ l, ∀ k, wC (cv x) + 5 ≤ k → laws_toCondition.f k x.f0 x.f1 x.f2 x.f3 = some ((cv x).f0, (cv x).f1, (cv x).f2, (cv x).f3)) (d : Nat) :
    ∀ (i k : Nat), i + d = l.length → wL ((l.drop i).map cv) + 5 ≤ k → laws_toConditionS.l0 k l ((l.take i).map cv ++ List.replicate d z29) (i : Int) = some (l.map cv) := by
  induction d with
  | zero =>
    intro i k hi hk
    obtain ⟨k, rfl⟩ : ∃ m, k = m + 1 := ⟨k - 1, by omega⟩
    simp only [laws_toConditionS.l0]
    rw [if_neg (by omega), List.take_of_length_le (by omega)]
    simp
  | succ d ih =>
    intro i k hi hk
    have hlt : i < l.length := by omega
    obtain ⟨k, rfl⟩ : ∃ m, k = m + 1 := ⟨k - 1, by omega⟩
    rw [dropL_ l i hlt] at hk
    simp only [wL] at hk
    simp only [laws_toConditionS.l0]
    rw [if_pos (by omega), if_pos (by omega), rdL_ l i hlt, h l[i] (List.getElem_mem hlt) k (by omega), Option.bind_some]
    rw [if_pos (by simp; omega), w64 (x := (i : Int) + 1) (by omega) (by omega), show (i : Int) + 1 = ((i + 1 : Nat) : Int) by omega, Int.toNat_natCast, set_grow _ _ _ _ _ (by simp; omega)]
    have := ih (i + 1) k (by omega) (by omega)
    rw [List.take_succ_eq_append_getElem hlt, List.map_append, List.map_cons, List.map_nil] at this
    rw [← this]
    dsimp only
    rw [mkC_]
theorem to_ (c : S24) : tC (cv c) ≤ 1048576 → ∀ (k : Nat), wC (cv c) + 5 ≤ k → laws_toCondition.f k c.f0 c.f1 c.f2 c.f3 = some ((cv c).f0, (cv c).f1, (cv c).f2, (cv c).f3) := by
  refine indL (P := fun c => tC (cv c) ≤ 1048576 → ∀ (k : Nat), wC (cv c) + 5 ≤ k → laws_toCondition.f k c.f0 c.f1 c.f2 c.f3 = some ((cv c).f0, (cv c).f1, (cv c).f2, (cv c).f3)) ?_ c
  intro c ih ht k hk
  rw [wC_eq, cv_f3] at hk
  rw [tC_eq, cv_f3, List.length_map] at ht
  obtain ⟨k, rfl⟩ : ∃ m, k = m + 3 := ⟨k - 3, by omega⟩
  rw [cv_f0, cv_f1, cv_f2, cv_f3]
  simp only [laws_toCondition.f, laws_toConditionS.f]
  rw [if_pos (by omega), if_pos (by omega)]
  have hS := toL_ c.f3 (by omega) (fun x hx => ih x hx (by have := tL_mem (List.mem_map_of_mem (f := cv) hx); omega)) c.f3.length 0 (k + 1) (by omega) (by simp only [List.drop_zero]; omega)
  simp only [List.take_zero, List.map_nil, List.nil_append] at hS
  have hS' : laws_toConditionS.l0 (k + 1) c.f3 (List.replicate c.f3.length z29) 0 = _ := hS
  rw [Int.toNat_natCast, hS', Option.bind_some]
theorem eqL_ (l : List S29) (hl : l.length ≤ 1048576) (h : ∀ x ∈ l, ∀ k, wC x + 5 ≤ k → laws_eqCondition.f k x.f0 x.f1 x.f2 x.f3 x.f0 x.f1 x.f2 x.f3 = some true) (d : Nat) :
    ∀ (i k : Nat), i + d = l.length → wL (l.drop i) + 5 ≤ k → laws_eqConditionS.l0 k l l (i : Int) = some true := by
  induction d with
  | zero =>
    intro i k hi hk
    obtain ⟨k, rfl⟩ : ∃ m, k = m + 1 := ⟨k - 1, by omega⟩
    simp only [laws_eqConditionS.l0]
    rw [if_neg (by omega)]
  | succ d ih =>
    intro i k hi hk
    have hlt : i < l.length := by omega
    obtain ⟨k, rfl⟩ : ∃ m, k = m + 1 := ⟨k - 1, by omega⟩
    rw [dropC_ l i hlt] at hk
    simp only [wL] at hk
    simp only [laws_eqConditionS.l0]
    rw [if_pos (by omega), if_pos (by omega), if_pos (by omega), rdC_ l i hlt, h l[i] (List.getElem_mem hlt) k (by omega), Option.bind_some, if_pos rfl]
    rw [w64 (x := (i : Int) + 1) (by omega) (by omega), show (i : Int) + 1 = ((i + 1 : Nat) : Int) by omega]
    exact ih (i + 1) k (by omega) (by omega)
theorem eq_ (c : S29) : tC c ≤ 1048576 → ∀ (k : Nat), wC c + 5 ≤ k → laws_eqCondition.f k c.f0 c.f1 c.f2 c.f3 c.f0 c.f1 c.f2 c.f3 = some true := by
  refine indC (P := fun c => tC c ≤ 1048576 → ∀ (k : Nat), wC c + 5 ≤ k → laws_eqCondition.f k c.f0 c.f1 c.f2 c.f3 c.f0 c.f1 c.f2 c.f3 = some true) ?_ c
  intro c ih ht k hk
  rw [wC_eq] at hk
  rw [tC_eq] at ht
  obtain ⟨k, rfl⟩ : ∃ m, k = m + 3 := ⟨k - 3, by omega⟩
  have hS := eqL_ c.f3 (by omega) (fun x hx => ih x hx (by have := tL_mem hx; omega)) c.f3.length 0 (k + 1) (by omega) (by simp only [List.drop_zero]; omega)
  have hS' : laws_eqConditionS.l0 (k + 1) c.f3 c.f3 0 = some true := hS
  simp only [laws_eqCondition.f, laws_eqConditionS.f, if_true, hS', Option.bind_some]

def formB (a : Int) (b : ByteArray) (c : Int) (n : Nat) : Bool :=
  if a = 1 then decide (n = 0 ∧ b.toList = [] ∧ c = 0) else if a = 2 then decide (n = 0 ∧ nameB b = true ∧ c = 0) else if a = 3 then decide (n = 0 ∧ b.toList = [] ∧ 0 ≤ c ∧ c ≤ 36524)
  else if a = 4 then decide (n = 1 ∧ b.toList = [] ∧ c = 0) else if a = 5 then decide (n = 2 ∧ b.toList = [] ∧ c = 0) else if a = 6 then decide (n = 2 ∧ b.toList = [] ∧ c = 0) else false
mutual
def forms : S29 → Bool
  | ⟨a, b, c, l⟩ => formB a b c l.length && formsL l
def formsL : List S29 → Bool
  | [] => true
  | x :: xs => forms x && formsL xs
end
def good (c : S29) : Bool := forms c && decide (nC c ≤ 15)
theorem forms_eq (c : S29) : forms c = (formB c.f0 c.f1 c.f2 c.f3.length && formsL c.f3) := by cases c; rfl
theorem l1In_ (x a b : Int) : spec_l1In.f x a b = some (decide (a ≤ x ∧ x ≤ b)) := within_
theorem withinI_ (x a b : Int) : impl_within.f x a b = some (decide (a ≤ x ∧ x ≤ b)) := within_
theorem isDay_ (x : Int) : impl_isDay.f x = some (decide (0 ≤ x ∧ x ≤ 36524)) := by unfold impl_isDay.f; rw [withinI_, Option.bind_some]
theorem l3Good_ (x : Int) : spec_l3Good.f x = some (decide (0 ≤ x ∧ x ≤ 36524)) := by unfold spec_l3Good.f; rw [l1In_, Option.bind_some]
theorem form_ (a : Int) (b : ByteArray) (c : Int) (l : List S29) (k : Nat) (hk : 30 ≤ k) : spec_l5Form.f k a b c l = some (formB a b c l.length) := by
  unfold spec_l5Form.f formB
  rw [nameS_ b hk, l3Good_]
  simp only [Option.bind_some]
  have e0 : ((l.length : Int) = 0) = (l.length = 0) := by apply propext; omega
  have e1 : ((l.length : Int) = 1) = (l.length = 1) := by apply propext; omega
  have e2 : ((l.length : Int) = 2) = (l.length = 2) := by apply propext; omega
  simp only [e0, e1, e2]
  repeat' split
  all_goals simp_all
  all_goals first | (apply Bool.eq_iff_iff.2; simp) | skip
theorem formsS_ (l : List S29) (hl : l.length ≤ 1048576) (a : Int) (b : ByteArray) (c : Int) (h : ∀ x ∈ l, ∀ k, wC x + 60 ≤ k → spec_l5Forms.f k x.f0 x.f1 x.f2 x.f3 = some (forms x)) (d : Nat) :
    ∀ (i k : Nat), i + d = l.length → wL (l.drop i) + 60 ≤ k → spec_l5Forms.l0 k (i : Int) a b c l = some (formsL (l.drop i)) := by
  induction d with
  | zero =>
    intro i k hi hk
    obtain ⟨k, rfl⟩ : ∃ m, k = m + 1 := ⟨k - 1, by omega⟩
    simp only [spec_l5Forms.l0]
    rw [if_neg (by omega), List.drop_eq_nil_of_le (by omega)]; rfl
  | succ d ih =>
    intro i k hi hk
    have hlt : i < l.length := by omega
    obtain ⟨k, rfl⟩ : ∃ m, k = m + 1 := ⟨k - 1, by omega⟩
    rw [dropC_ l i hlt] at hk ⊢
    simp only [wL] at hk
    simp only [spec_l5Forms.l0, formsL]
    rw [if_pos (by omega), if_pos (by omega), rdC_ l i hlt, h l[i] (List.getElem_mem hlt) k (by omega), Option.bind_some]
    rw [w64 (x := (i : Int) + 1) (by omega) (by omega), show (i : Int) + 1 = ((i + 1 : Nat) : Int) by omega, ih (i + 1) k (by omega) (by omega)]
    cases forms l[i] <;> simp
theorem forms_ (c : S29) : tC c ≤ 1048576 → ∀ (k : Nat), wC c + 60 ≤ k → spec_l5Forms.f k c.f0 c.f1 c.f2 c.f3 = some (forms c) := by
  refine indC (P := fun c => tC c ≤ 1048576 → ∀ (k : Nat), wC c + 60 ≤ k → spec_l5Forms.f k c.f0 c.f1 c.f2 c.f3 = some (forms c)) ?_ c
  intro c ih ht k hk
  rw [wC_eq] at hk
  rw [tC_eq] at ht
  obtain ⟨k, rfl⟩ : ∃ m, k = m + 1 := ⟨k - 1, by omega⟩
  have hS := formsS_ c.f3 (by omega) c.f0 c.f1 c.f2 (fun x hx => ih x hx (by have := tL_mem hx; omega)) c.f3.length 0 k (by omega) (by simp only [List.drop_zero]; omega)
  rw [List.drop_zero] at hS
  have hS' : spec_l5Forms.l0 k 0 c.f0 c.f1 c.f2 c.f3 = _ := hS
  simp only [spec_l5Forms.f]
  rw [form_ _ _ _ _ k (by omega), Option.bind_some, hS', forms_eq]
  cases formB c.f0 c.f1 c.f2 c.f3.length <;> simp
theorem sizeS_ (l : List S29) (hl : l.length ≤ 1048576) (hn : tL l ≤ 1048576) (a : Int) (b : ByteArray) (c : Int) (h : ∀ x ∈ l, ∀ k, wC x + 60 ≤ k → spec_l5Size.f k x.f0 x.f1 x.f2 x.f3 = some (nC x : Int)) (d : Nat) :
    ∀ (i k : Nat) (s : Int), i + d = l.length → wL (l.drop i) + 60 ≤ k → 0 ≤ s → s + nL (l.drop i) ≤ 4000000 → spec_l5Size.l0 k s (i : Int) a b c l = some (s + nL (l.drop i)) := by
  induction d with
  | zero =>
    intro i k s hi hk h0 hs
    obtain ⟨k, rfl⟩ : ∃ m, k = m + 1 := ⟨k - 1, by omega⟩
    simp only [spec_l5Size.l0]
    rw [if_neg (by omega), List.drop_eq_nil_of_le (by omega)]
    simp [nL]
  | succ d ih =>
    intro i k s hi hk h0 hs
    have hlt : i < l.length := by omega
    obtain ⟨k, rfl⟩ : ∃ m, k = m + 1 := ⟨k - 1, by omega⟩
    rw [dropC_ l i hlt] at hk hs ⊢
    simp only [wL] at hk
    have e_ : nL (l[i] :: l.drop (i + 1)) = nC l[i] + nL (l.drop (i + 1)) := rfl
    rw [e_] at hs ⊢
    simp only [spec_l5Size.l0]
    rw [if_pos (by omega), if_pos (by omega), rdC_ l i hlt, h l[i] (List.getElem_mem hlt) k (by omega), Option.bind_some]
    rw [w64 (x := (i : Int) + 1) (by omega) (by omega), w64 (x := s + (nC l[i] : Int)) (by omega) (by omega), show (i : Int) + 1 = ((i + 1 : Nat) : Int) by omega, ih (i + 1) k _ (by omega) (by omega) (by omega) (by omega)]
    congr 1; omega
theorem size_ (c : S29) : tC c ≤ 1048576 → ∀ (k : Nat), wC c + 60 ≤ k → spec_l5Size.f k c.f0 c.f1 c.f2 c.f3 = some (nC c : Int) := by
  refine indC (P := fun c => tC c ≤ 1048576 → ∀ (k : Nat), wC c + 60 ≤ k → spec_l5Size.f k c.f0 c.f1 c.f2 c.f3 = some (nC c : Int)) ?_ c
  intro c ih ht k hk
  rw [wC_eq] at hk
  rw [tC_eq] at ht
  have hn := nL_sum c.f3
  obtain ⟨k, rfl⟩ : ∃ m, k = m + 1 := ⟨k - 1, by omega⟩
  have hS := sizeS_ c.f3 (by omega) (by omega) c.f0 c.f1 c.f2 (fun x hx => ih x hx (by have := tL_mem hx; omega)) c.f3.length 0 k 1 (by omega) (by simp only [List.drop_zero]; omega) (by omega) (by simp only [List.drop_zero]; omega)
  rw [List.drop_zero] at hS
  have hS' : spec_l5Size.l0 k 1 0 c.f0 c.f1 c.f2 c.f3 = _ := hS
  simp only [spec_l5Size.f]
  rw [hS', nC_eq]; congr 1; omega
theorem good_ (c : S29) (ht : tC c ≤ 1048576) (k : Nat) (hk : wC c + 60 ≤ k) : spec_l5Good.f k c.f0 c.f1 c.f2 c.f3 = some (good c) := by
  unfold spec_l5Good.f good
  rw [forms_ c ht k hk, Option.bind_some, size_ c ht k hk, Option.bind_some]
  have e : decide ((nC c : Int) ≤ 15) = decide (nC c ≤ 15) := by apply decide_eq_decide.2; omega
  rw [e]
  cases forms c <;> simp
theorem formB_op {a : Int} {b : ByteArray} {c : Int} {n : Nat} (h : formB a b c n = true) : 1 ≤ a ∧ a ≤ 6 := by
  unfold formB at h
  repeat' split at h
  all_goals first | omega | cases h
/-- The program's test of one node, as its second half asks it. -/
theorem countJ_ (a : Int) (b : ByteArray) (c : Int) (l : List S29) (so : Int) (k : Nat) (hk : 40 ≤ k) (bad : Bool) (n : Nat) (hn : n = l.length) (h1 : 1 ≤ a) (h6 : a ≤ 6)
    (hbad : bad = ((n : Int) != (rd [(-1), 0, 0, 0, 1, 2, 2] a))) : impl_countCondition.j0 (k + 2) so bad a b c l = if formB a b c n = true then impl_countCondition.l0 k so l (l.length : Int) 0 else some (-1) := by
  have hnil := nameB_nil b
  subst hn
  simp only [impl_countCondition.j0, nameI_ b (show 30 ≤ k + 1 by omega), isDay_, Option.bind_some, impl_countCondition.j1]
  have hcases : a = 1 ∨ a = 2 ∨ a = 3 ∨ a = 4 ∨ a = 5 ∨ a = 6 := by omega
  unfold formB
  rcases hcases with rfl | rfl | rfl | rfl | rfl | rfl
  all_goals
    simp [rd] at hbad
    subst hbad
    by_cases e : b.toList = []
    all_goals by_cases ec : c = 0
    all_goals by_cases ed : 0 ≤ c
    all_goals by_cases eg : c ≤ 36524
    all_goals by_cases en : nameB b = true
    all_goals by_cases e0 : l.length = 0
    all_goals by_cases e1 : l.length = 1
    all_goals by_cases e2 : l.length = 2
    all_goals first | omega | skip
    all_goals first | (simp_all; done) | (simp_all; omega) | skip

theorem countL_ (l : List S29) (hl : l.length ≤ 1048576) (h : ∀ x ∈ l, ∀ k so, wC x + 60 ≤ k → 0 ≤ so → so ≤ 15 → impl_countCondition.f k x.f0 x.f1 x.f2 x.f3 so = some (if forms x = true ∧ so + nC x ≤ 15 then so + nC x else -1)) (d : Nat) :
    ∀ (i k : Nat) (so : Int), i + d = l.length → wL (l.drop i) + 60 ≤ k → 0 ≤ so → so ≤ 15 → impl_countCondition.l0 k so l (l.length : Int) (i : Int) = some (if formsL (l.drop i) = true ∧ so + nL (l.drop i) ≤ 15 then so + nL (l.drop i) else -1) := by
  induction d with
  | zero =>
    intro i k so hi hk h0 h1
    obtain ⟨k, rfl⟩ : ∃ m, k = m + 1 := ⟨k - 1, by omega⟩
    simp only [impl_countCondition.l0]
    rw [if_neg (by omega), List.drop_eq_nil_of_le (by omega)]
    have e_ : nL ([] : List S29) = 0 := rfl
    have f_ : formsL ([] : List S29) = true := rfl
    rw [e_, f_, if_pos ⟨rfl, by omega⟩]; congr 1; omega
  | succ d ih =>
    intro i k so hi hk h0 h1
    have hlt : i < l.length := by omega
    obtain ⟨k, rfl⟩ : ∃ m, k = m + 1 := ⟨k - 1, by omega⟩
    rw [dropC_ l i hlt] at hk ⊢
    simp only [wL] at hk
    have e_ : nL (l[i] :: l.drop (i + 1)) = nC l[i] + nL (l.drop (i + 1)) := rfl
    have f_ : formsL (l[i] :: l.drop (i + 1)) = (forms l[i] && formsL (l.drop (i + 1))) := rfl
    rw [e_, f_]
    simp only [impl_countCondition.l0]
    rw [if_pos (by omega), if_pos (by omega), if_pos (by omega), rdC_ l i hlt, h l[i] (List.getElem_mem hlt) k so (by omega) h0 h1, Option.bind_some]
    have hp : 0 < nC l[i] := by rw [nC_eq]; omega
    by_cases hc : forms l[i] = true ∧ so + (nC l[i] : Int) ≤ 15
    · rw [if_pos hc, if_neg (by omega), w64 (x := (i : Int) + 1) (by omega) (by omega), show (i : Int) + 1 = ((i + 1 : Nat) : Int) by omega, ih (i + 1) k _ (by omega) (by omega) (by omega) (by omega)]
      rw [hc.1, Bool.true_and]
      congr 1
      by_cases h2 : formsL (l.drop (i + 1)) = true ∧ so + (nC l[i] : Int) + (nL (l.drop (i + 1)) : Int) ≤ 15
      · rw [if_pos h2, if_pos ⟨h2.1, by omega⟩]; omega
      · rw [if_neg h2, if_neg (fun h3 => h2 ⟨h3.1, by omega⟩)]
    · rw [if_neg hc, if_pos (by omega), if_neg (fun h3 => hc ⟨by simp at h3; exact h3.1.1, by omega⟩)]
theorem count_ (c : S29) : tC c ≤ 1048576 → ∀ (k : Nat) (so : Int), wC c + 60 ≤ k → 0 ≤ so → so ≤ 15 → impl_countCondition.f k c.f0 c.f1 c.f2 c.f3 so = some (if forms c = true ∧ so + nC c ≤ 15 then so + nC c else -1) := by
  refine indC (P := fun c => tC c ≤ 1048576 → ∀ (k : Nat) (so : Int), wC c + 60 ≤ k → 0 ≤ so → so ≤ 15 → impl_countCondition.f k c.f0 c.f1 c.f2 c.f3 so = some (if forms c = true ∧ so + nC c ≤ 15 then so + nC c else -1)) ?_ c
  intro c ih ht k so hk h0 h1
  rw [wC_eq] at hk
  rw [tC_eq] at ht
  rw [forms_eq, nC_eq]
  obtain ⟨k, rfl⟩ : ∃ m, k = m + 4 := ⟨k - 4, by omega⟩
  simp only [impl_countCondition.f, Option.bind_some]
  rw [w64 (x := so + 1) (by omega) (by omega)]
  by_cases hs : so + 1 > 15
  · rw [if_pos hs, if_neg (by omega)]
    simp [impl_countCondition.j0]
  rw [if_neg hs, withinI_, Option.bind_some]
  by_cases hop : decide (1 ≤ c.f0 ∧ c.f0 ≤ 6) = true
  · have ho := of_decide_eq_true hop
    rw [if_pos hop, if_pos (by omega), if_pos (by simp; omega)]
    rw [countJ_ c.f0 c.f1 c.f2 c.f3 (so + 1) (k + 1) (by omega) _ c.f3.length rfl ho.1 ho.2 rfl]
    by_cases hf : formB c.f0 c.f1 c.f2 c.f3.length = true
    · rw [if_pos hf, hf, Bool.true_and]
      have hL := countL_ c.f3 (by omega) (fun x hx => ih x hx (by have := tL_mem hx; omega)) c.f3.length 0 (k + 1) (so + 1) (by omega) (by simp only [List.drop_zero]; omega) (by omega) (by omega)
      rw [List.drop_zero] at hL
      have hL' : impl_countCondition.l0 (k + 1) (so + 1) c.f3 (c.f3.length : Int) 0 = _ := hL
      rw [hL']
      congr 1
      by_cases h2 : formsL c.f3 = true ∧ so + 1 + (nL c.f3 : Int) ≤ 15
      · rw [if_pos h2, if_pos ⟨h2.1, by omega⟩]; omega
      · rw [if_neg h2, if_neg (fun h3 => h2 ⟨h3.1, by omega⟩)]
    · rw [if_neg hf, if_neg (fun h3 => hf (by simp at h3; exact h3.1.1))]
  · rw [if_neg hop, if_neg (fun h3 => hop (decide_eq_true (formB_op (by simp at h3; exact h3.1.1))))]
    simp [impl_countCondition.j0]
theorem valid_ (c : S29) (ht : tC c ≤ 1048576) (k : Nat) (hk : wC c + 60 ≤ k) : impl_IsValidCondition.f k c.f0 c.f1 c.f2 c.f3 = some (good c) := by
  unfold impl_IsValidCondition.f good
  rw [count_ c ht k 0 hk (by omega) (by omega), Option.bind_some]
  have hp : 0 < nC c := by rw [nC_eq]; omega
  by_cases h : forms c = true ∧ 0 + (nC c : Int) ≤ 15
  · rw [if_pos h, h.1, Bool.true_and]; congr 1; apply decide_eq_decide.2; omega
  · rw [if_neg h]
    congr 1
    cases hf : forms c
    · simp
    · simp only [Bool.true_and]
      apply decide_eq_decide.2
      constructor
      · omega
      · intro h2; exact absurd ⟨hf, by omega⟩ h

theorem one_ {α : Type} {l : List α} (h : l.length = 1) : ∃ a, l = [a] := by
  match l, h with
  | [a], _ => exact ⟨a, rfl⟩
theorem two2_ {α : Type} {l : List α} (h : l.length = 2) : ∃ a b, l = [a, b] := by
  match l, h with
  | [a, b], _ => exact ⟨a, b, rfl⟩
/-- What a valid node's form says. -/
theorem formB_cases {a : Int} {b : ByteArray} {c : Int} {l : List S29} (h : formB a b c l.length = true) :
    (a = 1 ∧ l = [] ∧ b.toList = [] ∧ c = 0) ∨ (a = 2 ∧ l = [] ∧ nameB b = true ∧ c = 0) ∨ (a = 3 ∧ l = [] ∧ b.toList = [] ∧ 0 ≤ c ∧ c ≤ 36524) ∨ (a = 4 ∧ b.toList = [] ∧ c = 0 ∧ ∃ p, l = [p]) ∨ (a = 5 ∧ b.toList = [] ∧ c = 0 ∧ ∃ p q, l = [p, q]) ∨ (a = 6 ∧ b.toList = [] ∧ c = 0 ∧ ∃ p q, l = [p, q]) := by
  unfold formB at h
  repeat' split at h
  all_goals first | cases h | skip
  all_goals (have h := of_decide_eq_true h)
  · exact .inl ⟨‹_›, List.length_eq_zero_iff.1 h.1, h.2⟩
  · exact .inr (.inl ⟨‹_›, List.length_eq_zero_iff.1 h.1, h.2⟩)
  · exact .inr (.inr (.inl ⟨‹_›, List.length_eq_zero_iff.1 h.1, h.2⟩))
  · exact .inr (.inr (.inr (.inl ⟨‹_›, h.2.1, h.2.2, one_ h.1⟩)))
  · exact .inr (.inr (.inr (.inr (.inl ⟨‹_›, h.2.1, h.2.2, two2_ h.1⟩))))
  · exact .inr (.inr (.inr (.inr (.inr ⟨‹_›, h.2.1, h.2.2, two2_ h.1⟩))))
theorem rd0_ (p : S29) (l : List S29) : rd_T29 (p :: l) 0 = p := rfl
theorem rd1_ (p q : S29) (l : List S29) : rd_T29 (p :: q :: l) 1 = q := rfl

def dim (y m : Int) : Int := if m = 2 then (if y % 4 = 0 then 29 else 28) else if m = 4 ∨ m = 6 ∨ m = 9 ∨ m = 11 then 30 else 31
def cum (y m : Int) : Int := (if m ≤ 1 then 0 else if m = 2 then 31 else 
  (if m = 3 then 59 else if m = 4 then 90 else if m = 5 then 120 else if m = 6 then 151 else if m = 7 then 181 else if m = 8 then 212 else if m = 9 then 243 else if m = 10 then 273 else if m = 11 then 304 else if m = 12 then 334 else 365) + (if y % 4 = 0 then 1 else 0))
def dby (y : Int) : Int := 365 * (y - 2000) + (y - 2000 + 3) / 4
def dnum (y m d : Int) : Int := dby y + cum y m + d - 1
structure IsDate (y m d day : Int) : Prop where
  y0 : 2000 ≤ y
  y1 : y ≤ 2099
  m0 : 1 ≤ m
  m1 : m ≤ 12
  d0 : 1 ≤ d
  d1 : d ≤ dim y m
  eq : dnum y m d = day
theorem cum_succ (y m : Int) (h1 : 1 ≤ m) (h2 : m ≤ 12) : cum y (m + 1) = cum y m + dim y m := by
  unfold cum dim
  have : m = 1 ∨ m = 2 ∨ m = 3 ∨ m = 4 ∨ m = 5 ∨ m = 6 ∨ m = 7 ∨ m = 8 ∨ m = 9 ∨ m = 10 ∨ m = 11 ∨ m = 12 := by omega
  rcases this with h | h | h | h | h | h | h | h | h | h | h | h <;> subst h <;> simp <;> (try split) <;> rfl
theorem dby_succ (y : Int) : dby (y + 1) = dby y + 337 + dim y 2 := by
  unfold dby dim; simp; split <;> omega
theorem cum_1 (y : Int) : cum y 1 = 0 := by unfold cum; simp
theorem cum_13 (y : Int) : cum y 13 = 337 + dim y 2 := by
  unfold cum dim; simp; split <;> rfl
theorem dim_pos (y m : Int) : 28 ≤ dim y m ∧ dim y m ≤ 31 := by unfold dim; repeat' split <;> omega
theorem cum_mono (y m : Int) (n : Nat) (h1 : 1 ≤ m) (h2 : m + n ≤ 13) : cum y m + 28 * n ≤ cum y (m + n) := by
  induction n with
  | zero => simp
  | succ n ih =>
    have a := ih (by omega)
    have b := cum_succ y (m + n) (by omega) (by omega)
    have c := dim_pos y (m + n)
    have e : m + ((n + 1 : Nat) : Int) = m + n + 1 := by omega
    rw [e, b]; omega
theorem cum_le (y m m' : Int) (h1 : 1 ≤ m) (h2 : m ≤ m') (h3 : m' ≤ 13) : cum y m ≤ cum y m' := by
  have := cum_mono y m (m' - m).toNat h1 (by omega)
  rw [show m + ((m' - m).toNat : Int) = m' by omega] at this
  omega
theorem cum_bd (y m : Int) (h1 : 1 ≤ m) (h3 : m ≤ 13) : 0 ≤ cum y m ∧ cum y m ≤ 366 := by
  have a := cum_le y 1 m (by omega) h1 h3
  have b := cum_le y m 13 h1 h3 (by omega)
  have c := dim_pos y 2
  rw [cum_1] at a; rw [cum_13] at b
  unfold dim at b; simp at b
  have : (if y % 4 = 0 then (29:Int) else 28) ≤ 29 := by split <;> omega
  omega
theorem dby_le (y y' : Int) (h : y ≤ y') : dby y ≤ dby y' := by unfold dby; omega
theorem dby_bd (y : Int) (h : 2000 ≤ y) (h' : y ≤ 2100) : 0 ≤ dby y ∧ dby y ≤ 36525 := by unfold dby; omega
theorem dby_2000 : dby 2000 = 0 := by decide
theorem dby_2100 : dby 2100 = 36525 := by decide
theorem IsDate.lo {y m d day : Int} (h : IsDate y m d day) : dby y + cum y m ≤ day := by
  have := h.eq; have := h.d0; unfold dnum at *; omega
theorem IsDate.hi {y m d day : Int} (h : IsDate y m d day) : day < dby y + cum y (m + 1) := by
  have a := h.eq; have b := h.d1; have c := cum_succ y m h.m0 h.m1; unfold dnum at *; omega
theorem IsDate.year_hi {y m d day : Int} (h : IsDate y m d day) : day < dby (y + 1) := by
  have a := h.hi
  have b := cum_le y (m + 1) 13 (by have := h.m0; omega) (by have := h.m1; omega) (by omega)
  have c := dby_succ y; rw [cum_13] at b; omega
theorem IsDate.year_lo {y m d day : Int} (h : IsDate y m d day) : dby y ≤ day := by
  have a := h.lo
  have b := cum_bd y m h.m0 (by have := h.m1; omega); omega
theorem IsDate.range {y m d day : Int} (h : IsDate y m d day) : 0 ≤ day ∧ day ≤ 36524 := by
  have a := h.year_lo; have b := h.year_hi
  have c := dby_bd y h.y0 (by have := h.y1; omega)
  have e := dby_le (y + 1) 2100 (by have := h.y1; omega)
  rw [dby_2100] at e; omega
theorem IsDate.d31 {y m d day : Int} (h : IsDate y m d day) : d ≤ 31 := by
  have := h.d1; have := dim_pos y m; omega
theorem IsDate.uniq {y m d y' m' d' day : Int} (h : IsDate y m d day) (h' : IsDate y' m' d' day) : y = y' ∧ m = m' ∧ d = d' := by
  have hy : y = y' := by
    by_cases c : y < y'
    · have := h.year_hi; have := h'.year_lo; have := dby_le (y + 1) y' (by omega); omega
    · by_cases c' : y' < y
      · have := h'.year_hi; have := h.year_lo; have := dby_le (y' + 1) y (by omega); omega
      · omega
  subst hy
  have hm : m = m' := by
    by_cases c : m < m'
    · have := h.hi; have := h'.lo; have := cum_le y (m + 1) m' (by have := h.m0; omega) (by omega) (by have := h'.m1; omega); omega
    · by_cases c' : m' < m
      · have := h'.hi; have := h.lo; have := cum_le y (m' + 1) m (by have := h'.m0; omega) (by omega) (by have := h.m1; omega); omega
      · omega
  subst hm
  have a := h.eq; have b := h'.eq
  refine ⟨rfl, rfl, ?_⟩
  unfold dnum at a b; omega

theorem l3Length_ (y m : Int) (hy : 0 ≤ y) (k : Nat) (hk : 1 ≤ k) : spec_l3Length.f k y m = some (dim y m) := by
  obtain ⟨k, rfl⟩ : ∃ j, k = j + 1 := ⟨k - 1, by omega⟩
  unfold spec_l3Length.f dim
  simp only [spec_l3Length.j0, tmd 4 hy]
  by_cases h2 : m = 2
  · subst h2; simp; split <;> rfl
  · by_cases h4 : m = 4
    · subst h4; simp
    · by_cases h6 : m = 6
      · subst h6; simp
      · by_cases h9 : m = 9
        · subst h9; simp
        · by_cases h11 : m = 11
          · subst h11; simp
          · simp [h2, h4, h6, h9, h11]
theorem l3Day_l0 (y m d : Int) (hy : 2000 ≤ y) (hy' : y ≤ 2100) (hm : 1 ≤ m) (hm' : m ≤ 13) (hd : -1000 ≤ d) (hd' : d ≤ 1000) (n : Nat) : ∀ (j : Int) (k : Nat), 1 ≤ j → j ≤ m → m - j = n → n + 2 ≤ k →
    spec_l3Day.l0 k (dby y + cum y j) j y m d = some (dnum y m d) := by
  have b := dby_bd y hy hy'
  induction n with
  | zero =>
    intro j k h1 h2 hn hk
    obtain ⟨k, rfl⟩ : ∃ i, k = i + 1 := ⟨k - 1, by omega⟩
    obtain rfl : j = m := by omega
    have c := cum_bd y j h1 hm'
    simp only [spec_l3Day.l0]
    rw [if_neg (by omega)]
    simp (disch := omega) only [w64]
    rfl
  | succ n ih =>
    intro j k h1 h2 hn hk
    obtain ⟨k, rfl⟩ : ∃ i, k = i + 1 := ⟨k - 1, by omega⟩
    have c := cum_bd y j h1 (by omega)
    have e := dim_pos y j
    have s := cum_succ y j h1 (by omega)
    simp only [spec_l3Day.l0]
    rw [if_pos (by omega), l3Length_ y j (by omega) k (by omega)]
    simp only [Option.bind_some]
    simp (disch := omega) only [w64]
    have := ih (j + 1) k (by omega) (by omega) (by omega) (by omega)
    rw [s] at this
    rw [← this]; congr 1 <;> omega
theorem l3Day_ (y m d : Int) (hy : 2000 ≤ y) (hy' : y ≤ 2100) (hm : 1 ≤ m) (hm' : m ≤ 13) (hd : -1000 ≤ d) (hd' : d ≤ 1000) (k : Nat) (hk : 14 ≤ k) : spec_l3Day.f k y m d = some (dnum y m d) := by
  unfold spec_l3Day.f
  simp (disch := omega) only [w64, tdv]
  have := l3Day_l0 y m d hy hy' hm hm' hd hd' (m - 1).toNat 1 k (by omega) (by omega) (by omega) (by omega)
  rw [cum_1] at this
  rw [← this]; unfold dby; congr 1 <;> omega

theorem dnum_y11 (y : Int) : dnum y 1 1 = dby y := by unfold dnum; rw [cum_1]; omega
theorem l3Date_l1 (day y : Int) (hy : 2000 ≤ y) (hy' : y ≤ 2099) (h2 : day < dby (y + 1)) (n : Nat) : ∀ (m : Int) (k : Nat), 1 ≤ m → m ≤ 12 → 12 - m = n → n + 16 ≤ k → dby y + cum y m ≤ day →
    ∃ m' d, spec_l3Date.l1 k day y m 1 = some (y, m', d) ∧ IsDate y m' d day := by
  have b := dby_bd y hy (by omega)
  induction n with
  | zero =>
    intro m k h1 h2' hn hk hlo
    obtain ⟨k, rfl⟩ : ∃ i, k = i + 1 := ⟨k - 1, by omega⟩
    obtain rfl : m = 12 := by omega
    have c := cum_bd y 12 (by omega) (by omega)
    have s := cum_succ y 12 (by omega) (by omega)
    have e := dby_succ y
    have c13 := cum_13 y
    have b2 := dby_bd (y + 1) (by omega) (by omega)
    refine ⟨12, day - (dby y + cum y 12) + 1, ?_, ⟨hy, hy', by omega, by omega, by omega, ?_, ?_⟩⟩
    · simp only [spec_l3Date.l1]
      rw [if_neg (by omega), l3Day_ y 12 1 hy (by omega) (by omega) (by omega) (by omega) (by omega) k (by omega)]
      simp only [Option.bind_some]
      have : dnum y 12 1 = dby y + cum y 12 := by unfold dnum; omega
      rw [this]
      simp (disch := omega) only [w64]
    · have : cum y (12 + 1) = cum y 13 := rfl
      omega
    · unfold dnum; omega
  | succ n ih =>
    intro m k h1 h2' hn hk hlo
    obtain ⟨k, rfl⟩ : ∃ i, k = i + 1 := ⟨k - 1, by omega⟩
    have c := cum_bd y m (by omega) (by omega)
    have s := cum_succ y m (by omega) (by omega)
    have b2 := dby_bd (y + 1) (by omega) (by omega)
    have e1 : dnum y (m + 1) 1 = dby y + cum y (m + 1) := by unfold dnum; omega
    have e0 : dnum y m 1 = dby y + cum y m := by unfold dnum; omega
    by_cases hc : dby y + cum y (m + 1) ≤ day
    · obtain ⟨m', d, h, hD⟩ := ih (m + 1) k (by omega) (by omega) (by omega) (by omega) hc
      refine ⟨m', d, ?_, hD⟩
      simp only [spec_l3Date.l1]
      rw [if_pos (by omega), w64 (x := m + 1) (by omega) (by omega), l3Day_ y (m + 1) 1 hy (by omega) (by omega) (by omega) (by omega) (by omega) k (by omega), e1]
      simp only [Option.bind_some]
      rw [if_pos hc]; exact h
    · refine ⟨m, day - (dby y + cum y m) + 1, ?_, ⟨hy, hy', by omega, by omega, by omega, by omega, by unfold dnum; omega⟩⟩
      simp only [spec_l3Date.l1]
      rw [if_pos (by omega), w64 (x := m + 1) (by omega) (by omega), l3Day_ y (m + 1) 1 hy (by omega) (by omega) (by omega) (by omega) (by omega) k (by omega), e1]
      simp only [Option.bind_some]
      rw [if_neg hc, l3Day_ y m 1 hy (by omega) (by omega) (by omega) (by omega) (by omega) k (by omega), e0]
      simp only [Option.bind_some]
      simp (disch := omega) only [w64]
theorem l3Date_l0 (day : Int) (h2 : day ≤ 36524) (n : Nat) : ∀ (y : Int) (k : Nat), 2000 ≤ y → y ≤ 2099 → 2099 - y = n → n + 40 ≤ k → dby y ≤ day →
    ∃ y' m' d, spec_l3Date.l0 k day y 1 1 = some (y', m', d) ∧ IsDate y' m' d day := by
  induction n with
  | zero =>
    intro y k h1 h2' hn hk hlo
    obtain ⟨k, rfl⟩ : ∃ i, k = i + 2 := ⟨k - 2, by omega⟩
    obtain rfl : y = 2099 := by omega
    obtain ⟨m', d, h, hD⟩ := l3Date_l1 day 2099 (by omega) (by omega) (by have := dby_2100; have e : (2099 : Int) + 1 = 2100 := rfl; rw [e]; omega) 11 1 k (by omega) (by omega) (by omega) (by omega) (by rw [cum_1]; omega)
    refine ⟨2099, m', d, ?_, hD⟩
    simp only [spec_l3Date.l0]
    rw [if_neg (by omega)]
    simp only [spec_l3Date.j1]; exact h
  | succ n ih =>
    intro y k h1 h2' hn hk hlo
    obtain ⟨k, rfl⟩ : ∃ i, k = i + 2 := ⟨k - 2, by omega⟩
    by_cases hc : dby (y + 1) ≤ day
    · obtain ⟨y', m', d, h, hD⟩ := ih (y + 1) (k + 1) (by omega) (by omega) (by omega) (by omega) hc
      refine ⟨y', m', d, ?_, hD⟩
      rw [spec_l3Date.l0]
      rw [if_pos (by omega), w64 (x := y + 1) (by omega) (by omega), l3Day_ (y + 1) 1 1 (by omega) (by omega) (by omega) (by omega) (by omega) (by omega) (k + 1) (by omega), dnum_y11]
      simp only [Option.bind_some]
      rw [if_pos hc]; exact h
    · obtain ⟨m', d, h, hD⟩ := l3Date_l1 day y (by omega) (by omega) (by omega) 11 1 k (by omega) (by omega) (by omega) (by omega) (by rw [cum_1]; omega)
      refine ⟨y, m', d, ?_, hD⟩
      rw [spec_l3Date.l0]
      rw [if_pos (by omega), w64 (x := y + 1) (by omega) (by omega), l3Day_ (y + 1) 1 1 (by omega) (by omega) (by omega) (by omega) (by omega) (by omega) (k + 1) (by omega), dnum_y11]
      simp only [Option.bind_some]
      rw [if_neg hc]
      simp only [spec_l3Date.j1]; exact h
theorem l3Date_ (day : Int) (h : 0 ≤ day) (h2 : day ≤ 36524) : ∃ y m d, IsDate y m d day ∧ ∀ k, 139 ≤ k → spec_l3Date.f k day = some (y, m, d) := by
  obtain ⟨y, m, d, h1, hD⟩ := l3Date_l0 day h2 99 2000 139 (by omega) (by omega) (by omega) (by omega) (by rw [dby_2000]; exact h)
  refine ⟨y, m, d, hD, fun k hk => ?_⟩
  exact at_rounds (fun k => spec_l3Date.mono day k) hk (by unfold spec_l3Date.f; exact h1)

theorem daysIn_ (y m : Int) (hy : 0 ≤ y) : impl_daysIn.f y m = some (dim y m) := by
  unfold impl_daysIn.f dim
  simp only [tmd 4 hy]
  by_cases h2 : m = 2
  · subst h2; simp; split <;> rfl
  · by_cases h4 : m = 4
    · subst h4; simp
    · by_cases h6 : m = 6
      · subst h6; simp
      · by_cases h9 : m = 9
        · subst h9; simp
        · by_cases h11 : m = 11
          · subst h11; simp
          · simp [h2, h4, h6, h9, h11]

theorem daysOf_ (y : Int) (hy : 0 ≤ y) : impl_daysOf.f y = some (337 + dim y 2) := by
  unfold impl_daysOf.f
  have := dim_pos y 2
  rw [daysIn_ y 2 hy]
  simp only [Option.bind_some]
  simp (disch := omega) only [w64]

theorem dateOf_l1 (day y : Int) (hy : 2000 ≤ y) (hy' : y ≤ 2099) (h2 : day < dby (y + 1)) (n : Nat) : ∀ (m : Int) (k : Nat), 1 ≤ m → m ≤ 12 → 12 - m = n → n + 1 ≤ k → dby y + cum y m ≤ day →
    ∃ m' d, impl_dateOf.l1 k (day - (dby y + cum y m)) y m 0 = some (y, m', d) ∧ IsDate y m' d day := by
  have b := dby_bd y hy (by omega)
  have b2 := dby_bd (y + 1) (by omega) (by omega)
  induction n with
  | zero =>
    intro m k h1 h2' hn hk hlo
    obtain ⟨k, rfl⟩ : ∃ i, k = i + 1 := ⟨k - 1, by omega⟩
    obtain rfl : m = 12 := by omega
    have c := cum_bd y 12 (by omega) (by omega)
    have s := cum_succ y 12 (by omega) (by omega)
    have e := dby_succ y
    have c13 := cum_13 y
    have : cum y (12 + 1) = cum y 13 := rfl
    refine ⟨12, day - (dby y + cum y 12) + 1, ?_, ⟨hy, hy', by omega, by omega, by omega, by omega, by unfold dnum; omega⟩⟩
    simp only [impl_dateOf.l1]
    rw [daysIn_ y 12 (by omega)]
    simp only [Option.bind_some]
    rw [if_neg (by omega)]
    simp (disch := omega) only [w64]
  | succ n ih =>
    intro m k h1 h2' hn hk hlo
    obtain ⟨k, rfl⟩ : ∃ i, k = i + 1 := ⟨k - 1, by omega⟩
    have c := cum_bd y m (by omega) (by omega)
    have s := cum_succ y m (by omega) (by omega)
    have e := dim_pos y m
    by_cases hc : dby y + cum y (m + 1) ≤ day
    · obtain ⟨m', d, h, hD⟩ := ih (m + 1) k (by omega) (by omega) (by omega) (by omega) hc
      refine ⟨m', d, ?_, hD⟩
      simp only [impl_dateOf.l1]
      rw [daysIn_ y m (by omega)]
      simp only [Option.bind_some]
      rw [if_pos (by omega)]
      simp (disch := omega) only [w64]
      rw [← h, s]; congr 1 <;> omega
    · refine ⟨m, day - (dby y + cum y m) + 1, ?_, ⟨hy, hy', by omega, by omega, by omega, by omega, by unfold dnum; omega⟩⟩
      simp only [impl_dateOf.l1]
      rw [daysIn_ y m (by omega)]
      simp only [Option.bind_some]
      rw [if_neg (by omega)]
      simp (disch := omega) only [w64]
theorem dateOf_l0 (day : Int) (h2 : day ≤ 36524) (n : Nat) : ∀ (y : Int) (k : Nat), 2000 ≤ y → y ≤ 2099 → 2099 - y = n → n + 20 ≤ k → dby y ≤ day →
    ∃ y' m' d, impl_dateOf.l0 k (day - dby y) y 1 0 = some (y', m', d) ∧ IsDate y' m' d day := by
  induction n with
  | zero =>
    intro y k h1 h2' hn hk hlo
    obtain ⟨k, rfl⟩ : ∃ i, k = i + 1 := ⟨k - 1, by omega⟩
    obtain rfl : y = 2099 := by omega
    have e1 : (2099 : Int) + 1 = 2100 := rfl
    have s := dby_succ 2099
    rw [e1, dby_2100] at s
    obtain ⟨m', d, h, hD⟩ := dateOf_l1 day 2099 (by omega) (by omega) (by rw [e1, dby_2100]; omega) 11 1 k (by omega) (by omega) (by omega) (by omega) (by rw [cum_1]; omega)
    refine ⟨2099, m', d, ?_, hD⟩
    simp only [impl_dateOf.l0]
    rw [daysOf_ 2099 (by omega)]
    simp only [Option.bind_some]
    rw [if_neg (by omega)]
    rw [cum_1] at h
    rw [← h]; congr 1 <;> omega
  | succ n ih =>
    intro y k h1 h2' hn hk hlo
    obtain ⟨k, rfl⟩ : ∃ i, k = i + 1 := ⟨k - 1, by omega⟩
    have s := dby_succ y
    have b := dby_bd y h1 (by omega)
    have e := dim_pos y 2
    by_cases hc : dby (y + 1) ≤ day
    · obtain ⟨y', m', d, h, hD⟩ := ih (y + 1) k (by omega) (by omega) (by omega) (by omega) hc
      refine ⟨y', m', d, ?_, hD⟩
      simp only [impl_dateOf.l0]
      rw [daysOf_ y (by omega)]
      simp only [Option.bind_some]
      rw [if_pos (by omega)]
      simp (disch := omega) only [w64]
      rw [← h, s]; congr 1 <;> omega
    · obtain ⟨m', d, h, hD⟩ := dateOf_l1 day y (by omega) (by omega) (by omega) 11 1 k (by omega) (by omega) (by omega) (by omega) (by rw [cum_1]; omega)
      refine ⟨y, m', d, ?_, hD⟩
      simp only [impl_dateOf.l0]
      rw [daysOf_ y (by omega)]
      simp only [Option.bind_some]
      rw [if_neg (by omega)]
      rw [cum_1] at h
      rw [← h]; congr 1 <;> omega
theorem dateOf_ (day : Int) (h : 0 ≤ day) (h2 : day ≤ 36524) : ∃ y m d, IsDate y m d day ∧ ∀ k, 119 ≤ k → impl_dateOf.f k day = some (y, m, d) := by
  obtain ⟨y, m, d, h1, hD⟩ := dateOf_l0 day h2 99 2000 119 (by omega) (by omega) (by omega) (by omega) (by rw [dby_2000]; exact h)
  rw [dby_2000] at h1
  refine ⟨y, m, d, hD, fun k hk => ?_⟩
  exact at_rounds (fun k => impl_dateOf.mono day k) hk (by unfold impl_dateOf.f; rw [← h1]; congr 1 <;> omega)

theorem dates_ (day : Int) (h : 0 ≤ day) (h2 : day ≤ 36524) : ∃ y m d, IsDate y m d day ∧ (∀ k, 139 ≤ k → spec_l3Date.f k day = some (y, m, d)) ∧ ∀ k, 139 ≤ k → impl_dateOf.f k day = some (y, m, d) := by
  obtain ⟨y, m, d, hD, hs⟩ := l3Date_ day h h2
  obtain ⟨y', m', d', hD', hi⟩ := dateOf_ day h h2
  obtain ⟨rfl, rfl, rfl⟩ := hD.uniq hD'
  exact ⟨y, m, d, hD, hs, fun k hk => hi k (by omega)⟩

theorem digit_ (d : Nat) (h : d < 10) : (⟨#[48, 49, 50, 51, 52, 53, 54, 55, 56, 57]⟩ : ByteArray).extract d (d + 1) = ⟨#[UInt8.ofNat (48 + d)]⟩ := by
  match d, h with
  | 0, _ => rfl
  | 1, _ => rfl
  | 2, _ => rfl
  | 3, _ => rfl
  | 4, _ => rfl
  | 5, _ => rfl
  | 6, _ => rfl
  | 7, _ => rfl
  | 8, _ => rfl
  | 9, _ => rfl
theorem digits_len (k : Nat) : ∀ u : Nat, u < 10 ^ (k + 1) → (Lib.decDigits u).length ≤ k + 1 := by
  induction k with
  | zero => intro u hu; rw [Lib.decDigits]; split <;> simp_all
  | succ k ih =>
    intro u hu
    rw [Lib.decDigits]
    split
    · simp
    · have : u / 10 < 10 ^ (k + 1) := by rw [Nat.div_lt_iff_lt_mul (by omega)]; rw [Nat.pow_succ] at hu; omega
      have := ih _ this
      simp; omega
theorem app_mk (a b : Array UInt8) : (⟨a⟩ : ByteArray) ++ ⟨b⟩ = ⟨a ++ b⟩ := by apply ByteArray.ext; simp
theorem sz_mk (a : Array UInt8) : (⟨a⟩ : ByteArray).size = a.size := rfl
theorem num_some (k : Nat) : ∀ n : Int, 0 ≤ n → n < 10 ^ (k + 1) → n < 9223372036854775807 → k ≤ 30 → spec_l1Num.f (k + 1) n = some ⟨(Lib.decDigits n.toNat).toArray⟩ := by
  induction k with
  | zero =>
    intro n h0 h1 h2 hk
    obtain ⟨u, rfl⟩ : ∃ u : Nat, n = u := ⟨n.toNat, by omega⟩
    have hu : u < 10 := by omega
    unfold spec_l1Num.f
    rw [if_neg (by omega), if_pos (by omega), if_pos h0, w64 (x := (u : Int) + 1) (by omega) (by omega), if_pos (by omega), if_pos (by omega)]
    rw [show ((u : Int) + 1).toNat = u + 1 by omega, show ((u : Int)).toNat = u by omega, digit_ u hu, Lib.decDigits, dif_pos hu]
  | succ k ih =>
    intro n h0 h1 h2 hk
    obtain ⟨u, rfl⟩ : ∃ u : Nat, n = u := ⟨n.toNat, by omega⟩
    by_cases hu : u < 10
    · unfold spec_l1Num.f
      rw [if_neg (by omega), if_pos (by omega), if_pos h0, w64 (x := (u : Int) + 1) (by omega) (by omega), if_pos (by omega), if_pos (by omega)]
      rw [show ((u : Int) + 1).toNat = u + 1 by omega, show ((u : Int)).toNat = u by omega, digit_ u hu, Lib.decDigits, dif_pos hu]
    · have e1 : Int.tdiv (u : Int) 10 = ((u / 10 : Nat) : Int) := by rw [Int.tdiv_eq_ediv_of_nonneg h0]; omega
      have e2 : Int.tmod (u : Int) 10 = ((u % 10 : Nat) : Int) := by rw [Int.tmod_eq_emod_of_nonneg h0]; omega
      have hu2 : u < 10 ^ (k + 1 + 1) := by exact_mod_cast h1
      have hu1 : u / 10 < 10 ^ (k + 1) := by rw [Nat.div_lt_iff_lt_mul (by omega)]; rw [Nat.pow_succ] at hu2; omega
      have hi := ih ((u / 10 : Nat) : Int) (by omega) (by exact_mod_cast hu1) (by omega) (by omega)
      have hl := digits_len k (u / 10) hu1
      unfold spec_l1Num.f
      rw [if_neg (by omega), if_neg (by omega), e1, w64 (x := ((u / 10 : Nat) : Int)) (by omega) (by omega), hi, Option.bind_some, e2]
      rw [w64 (x := ((u % 10 : Nat) : Int) + 1) (by omega) (by omega), if_pos (by omega), if_pos (by omega), if_pos (by omega)]
      rw [show (((u % 10 : Nat) : Int) + 1).toNat = u % 10 + 1 by omega, show (((u % 10 : Nat) : Int)).toNat = u % 10 by omega, show (((u / 10 : Nat) : Int)).toNat = u / 10 by omega, show ((u : Int)).toNat = u by omega, digit_ (u % 10) (by omega)]
      rw [if_pos (by simp only [sz_mk, List.size_toArray, List.length_cons, List.length_nil]; omega), app_mk]
      have e3 : Lib.decDigits u = Lib.decDigits (u / 10) ++ [UInt8.ofNat (48 + u % 10)] := by rw [Lib.decDigits, dif_neg hu]
      rw [e3]
      simp
theorem num_ (n : Int) (h0 : -1000000000000000000 < n) (h1 : n < 1000000000000000000) : ∀ k, 20 ≤ k → spec_l1Num.f k n = some ⟨(Lib.itoa n).toArray⟩ := by
  intro k hk
  refine at_rounds (fun k => spec_l1Num.mono n k) hk ?_
  unfold Lib.itoa
  by_cases hn : n < 0
  · rw [if_pos hn]
    have hu : n.natAbs < 10 ^ 19 := by omega
    have hl := digits_len 18 n.natAbs hu
    have hs := num_some 18 (-n) (by omega) (by omega) (by omega) (by omega)
    unfold spec_l1Num.f
    rw [if_pos hn, w64 (x := -n) (by omega) (by omega), hs, Option.bind_some, show (-n).toNat = n.natAbs by omega, if_pos (by simp only [sz_mk, List.size_toArray]; omega), app_mk]
    simp
  · rw [if_neg hn]
    exact num_some 19 n (by omega) (by omega) (by omega) (by omega)
theorem itoa_ (n : Int) (h0 : -1000000000000000000 < n) (h1 : n < 1000000000000000000) : strconv_Itoa.f n = some ⟨(Lib.itoa n).toArray⟩ := by
  unfold strconv_Itoa.f Own.itoaF
  rw [if_pos (by omega)]

theorem itoa_nat (u : Nat) : Lib.itoa (u : Int) = Lib.decDigits u := by unfold Lib.itoa; rw [if_neg (by omega)]; simp
theorem dig1 (u : Nat) (h : u < 10) : (Lib.decDigits u).length = 1 := by rw [Lib.decDigits, dif_pos h]; rfl
theorem digS (u n : Nat) (h : 10 ≤ u) (hn : (Lib.decDigits (u / 10)).length = n) : (Lib.decDigits u).length = n + 1 := by
  have e3 : Lib.decDigits u = Lib.decDigits (u / 10) ++ [UInt8.ofNat (48 + u % 10)] := by rw [Lib.decDigits, dif_neg (by omega)]
  rw [e3]; simp [hn]
theorem itoa_s (n : Int) : (⟨(Lib.itoa n).toArray⟩ : ByteArray).size = (Lib.itoa n).length := by simp [sz_mk]
theorem itoa_len (n : Int) (h0 : 0 ≤ n) (h1 : n < 1000000000000000000) : (⟨(Lib.itoa n).toArray⟩ : ByteArray).size ≤ 19 := by
  obtain ⟨u, rfl⟩ : ∃ u : Nat, n = u := ⟨n.toNat, by omega⟩
  rw [itoa_s, itoa_nat]
  exact digits_len 18 u (by omega)
theorem itoa_len' (n : Int) (h0 : -1000000000000000000 < n) (h1 : n < 1000000000000000000) : (⟨(Lib.itoa n).toArray⟩ : ByteArray).size ≤ 20 := by
  by_cases h : 0 ≤ n
  · have := itoa_len n h h1; omega
  · rw [itoa_s]
    unfold Lib.itoa
    rw [if_pos (by omega)]
    have := digits_len 18 n.natAbs (by omega)
    simp only [List.length_cons]; omega
theorem itoa_1 (n : Int) (h0 : 0 ≤ n) (h1 : n < 10) : (⟨(Lib.itoa n).toArray⟩ : ByteArray).size = 1 := by
  obtain ⟨u, rfl⟩ : ∃ u : Nat, n = u := ⟨n.toNat, by omega⟩
  rw [itoa_s, itoa_nat]
  exact dig1 u (by omega)
theorem itoa_2 (n : Int) (h0 : 10 ≤ n) (h1 : n < 100) : (⟨(Lib.itoa n).toArray⟩ : ByteArray).size = 2 := by
  obtain ⟨u, rfl⟩ : ∃ u : Nat, n = u := ⟨n.toNat, by omega⟩
  rw [itoa_s, itoa_nat]
  exact digS u 1 (by omega) (dig1 _ (by omega))
theorem itoa_4 (n : Int) (h0 : 1000 ≤ n) (h1 : n < 10000) : (⟨(Lib.itoa n).toArray⟩ : ByteArray).size = 4 := by
  obtain ⟨u, rfl⟩ : ∃ u : Nat, n = u := ⟨n.toNat, by omega⟩
  rw [itoa_s, itoa_nat]
  exact digS u 3 (by omega) (digS _ 2 (by omega) (digS _ 1 (by omega) (dig1 _ (by omega))))

theorem padded_1 (k : Nat) (n : Int) (h0 : 0 ≤ n) (h1 : n < 10) : impl_padded.f (k + 2) n 2 = some (⟨#[48]⟩ ++ ⟨(Lib.itoa n).toArray⟩) := by
  have hs := itoa_1 n h0 h1
  have hs2 : ((⟨#[48]⟩ : ByteArray) ++ ⟨(Lib.itoa n).toArray⟩).size = 2 := by rw [ByteArray.size_append, hs]; rfl
  unfold impl_padded.f
  rw [itoa_ n (by omega) (by omega), Option.bind_some]
  simp only [impl_padded.l0]
  rw [if_pos (by rw [hs]; decide), if_pos (by rw [hs]; decide), if_neg (by rw [hs2]; decide)]
theorem padded_2 (k : Nat) (n : Int) (h0 : 10 ≤ n) (h1 : n < 100) : impl_padded.f (k + 1) n 2 = some ⟨(Lib.itoa n).toArray⟩ := by
  have hs := itoa_2 n h0 h1
  unfold impl_padded.f
  rw [itoa_ n (by omega) (by omega), Option.bind_some]
  simp only [impl_padded.l0]
  rw [if_neg (by rw [hs]; decide)]
theorem padded_4 (k : Nat) (n : Int) (h0 : 1000 ≤ n) (h1 : n < 10000) : impl_padded.f (k + 1) n 4 = some ⟨(Lib.itoa n).toArray⟩ := by
  have hs := itoa_4 n h0 h1
  unfold impl_padded.f
  rw [itoa_ n (by omega) (by omega), Option.bind_some]
  simp only [impl_padded.l0]
  rw [if_neg (by rw [hs]; decide)]

theorem szC (a b : ByteArray) : (a ++ b).size = a.size + b.size := ByteArray.size_append
theorem two_ (n : Int) (h0 : 0 ≤ n) (h1 : n < 100) : ∃ r : ByteArray, r.size ≤ 20 ∧ spec_l3Two.f 200 n = some r ∧ impl_padded.f 200 n 2 = some r := by
  have l2 := itoa_len n (by omega) (by omega)
  by_cases hd : n < 10
  · refine ⟨⟨#[48]⟩ ++ ⟨(Lib.itoa n).toArray⟩, ?_, ?_, padded_1 198 n h0 hd⟩
    · rw [szC, show (⟨#[48]⟩ : ByteArray).size = 1 from rfl]; omega
    · unfold spec_l3Two.f
      rw [if_pos hd, num_ n (by omega) (by omega) 200 (by omega), Option.bind_some, if_pos (by omega)]
  · refine ⟨⟨(Lib.itoa n).toArray⟩, by omega, ?_, padded_2 199 n (by omega) h1⟩
    unfold spec_l3Two.f
    rw [if_neg hd, num_ n (by omega) (by omega) 200 (by omega), Option.bind_some]
theorem dtext_ (day : Int) (h0 : 0 ≤ day) (h1 : day ≤ 36524) : ∃ r : ByteArray, r.size ≤ 50 ∧ ∀ k, 200 ≤ k → spec_l3Text.f k day = some r ∧ impl_dateText.f k day = some r := by
  obtain ⟨y, m, d, hD, hs, hi⟩ := dates_ day h0 h1
  have h31 := hD.d31
  obtain ⟨hy, hy', hm, hm', hd1, _⟩ := hD
  obtain ⟨rm, lm, sm, im⟩ := two_ m (by omega) (by omega)
  obtain ⟨rd_, ld, sd, id_⟩ := two_ d (by omega) (by omega)
  have ly := itoa_4 y (by omega) (by omega)
  have s1 : (⟨#[45]⟩ : ByteArray).size = 1 := rfl
  refine ⟨⟨(Lib.itoa y).toArray⟩ ++ ⟨#[45]⟩ ++ rm ++ ⟨#[45]⟩ ++ rd_, by simp only [szC]; omega, fun k hk => ⟨at_rounds (fun k => spec_l3Text.mono day k) hk ?_, at_rounds (fun k => impl_dateText.mono day k) hk ?_⟩⟩
  · unfold spec_l3Text.f
    rw [hs 200 (by omega)]
    simp only [Option.bind_some, num_ y (by omega) (by omega) 200 (by omega), sm, sd]
    rw [if_pos (by omega), if_pos (by simp only [szC]; omega), if_pos (by simp only [szC]; omega), if_pos (by simp only [szC]; omega)]
  · unfold impl_dateText.f
    rw [hi 200 (by omega)]
    simp only [Option.bind_some, padded_4 199 y (by omega) (by omega), im, id_]
    rw [if_pos (by omega), if_pos (by simp only [szC]; omega), if_pos (by simp only [szC]; omega), if_pos (by simp only [szC]; omega)]

theorem nameB_size (s : ByteArray) (h : nameB s = true) : s.size ≤ 8 := by
  by_cases h8 : (s.size : Int) ≤ 8
  · omega
  · exfalso
    unfold nameB spec_l5Name.f spec_l1In.f at h
    by_cases h1 : (s.size : Int) ≥ 1 <;> simp [h1, h8, spec_l5Name.j0] at h
theorem s5_ : (⟨#[102, 114, 111, 109, 32]⟩ : ByteArray).size = 5 := rfl
theorem s4_ : (⟨#[110, 111, 116, 32]⟩ : ByteArray).size = 4 := rfl
theorem s1_ : (⟨#[40]⟩ : ByteArray).size = 1 := rfl
theorem s1b_ : (⟨#[41]⟩ : ByteArray).size = 1 := rfl
theorem s5a_ : (⟨#[32, 97, 110, 100, 32]⟩ : ByteArray).size = 5 := rfl
theorem s4o_ : (⟨#[32, 111, 114, 32]⟩ : ByteArray).size = 4 := rfl
theorem texts_ (c : S29) : forms c = true → tC c ≤ 1048576 → ∃ r : ByteArray, r.size ≤ 60 * nC c ∧ ∀ k, wC c + 300 ≤ k → spec_l5Text.f k c.f0 c.f1 c.f2 c.f3 = some r ∧ impl_conditionText.f k c.f0 c.f1 c.f2 c.f3 = some r := by
  refine indC (P := fun c => forms c = true → tC c ≤ 1048576 → ∃ r : ByteArray, r.size ≤ 60 * nC c ∧ ∀ k, wC c + 300 ≤ k → spec_l5Text.f k c.f0 c.f1 c.f2 c.f3 = some r ∧ impl_conditionText.f k c.f0 c.f1 c.f2 c.f3 = some r) ?_ c
  rintro ⟨a, b, d, m⟩ ih hf ht
  rw [forms_eq, Bool.and_eq_true] at hf
  obtain ⟨h1, h2⟩ := hf
  rw [tC_eq] at ht
  simp only at h1 h2 ih ht ⊢
  rcases formB_cases h1 with ⟨rfl, rfl, _, _⟩ | ⟨rfl, rfl, hn, _⟩ | ⟨rfl, rfl, _, hd0, hd1⟩ | ⟨rfl, _, _, p, rfl⟩ | ⟨rfl, _, _, p, q, rfl⟩ | ⟨rfl, _, _, p, q, rfl⟩
  · refine ⟨⟨#[116, 114, 117, 101]⟩, by rw [nC_eq]; show 4 ≤ _; omega, fun k hk => ?_⟩
    obtain ⟨k, rfl⟩ : ∃ m, k = m + 1 := ⟨k - 1, by omega⟩
    constructor <;> simp [spec_l5Text.f, impl_conditionText.f]
  · have := nameB_size b hn
    refine ⟨b, by rw [nC_eq]; omega, fun k hk => ?_⟩
    obtain ⟨k, rfl⟩ : ∃ m, k = m + 1 := ⟨k - 1, by omega⟩
    constructor <;> simp [spec_l5Text.f, impl_conditionText.f]
  · obtain ⟨r, hr, hk2⟩ := dtext_ d hd0 hd1
    refine ⟨⟨#[102, 114, 111, 109, 32]⟩ ++ r, by rw [nC_eq, szC, s5_]; omega, fun k hk => ?_⟩
    obtain ⟨k, rfl⟩ : ∃ m, k = m + 1 := ⟨k - 1, by omega⟩
    obtain ⟨e1, e2⟩ := hk2 k (by omega)
    have hb : 5 + r.size ≤ 9223372036854775807 := by omega
    constructor <;> simp [spec_l5Text.f, impl_conditionText.f, e1, e2, hb]
  · simp only [formsL, Bool.and_true] at h2
    simp only [tL] at ht
    have n1 := nC_le p
    obtain ⟨r, hr, hk2⟩ := ih p (by simp) h2 (by omega)
    refine ⟨⟨#[110, 111, 116, 32]⟩ ++ r, by rw [nC_eq, szC, s4_]; simp only [nL]; omega, fun k hk => ?_⟩
    rw [wC_eq] at hk
    simp only [wL] at hk
    obtain ⟨k, rfl⟩ : ∃ m, k = m + 1 := ⟨k - 1, by omega⟩
    obtain ⟨e1, e2⟩ := hk2 k (by omega)
    have hb : 4 + r.size ≤ 9223372036854775807 := by omega
    constructor <;> simp [spec_l5Text.f, impl_conditionText.f, rd0_, e1, e2, hb]
  · simp only [formsL, Bool.and_true, Bool.and_eq_true] at h2
    simp only [tL] at ht
    have n1 := nC_le p
    have n2 := nC_le q
    obtain ⟨r, hr, hk2⟩ := ih p (by simp) h2.1 (by omega)
    obtain ⟨r', hr', hk3⟩ := ih q (by simp) h2.2 (by omega)
    refine ⟨⟨#[40]⟩ ++ r ++ ⟨#[32, 97, 110, 100, 32]⟩ ++ r' ++ ⟨#[41]⟩, by rw [nC_eq]; simp only [szC, s1_, s1b_, s5a_, nL]; omega, fun k hk => ?_⟩
    rw [wC_eq] at hk
    simp only [wL] at hk
    obtain ⟨k, rfl⟩ : ∃ m, k = m + 1 := ⟨k - 1, by omega⟩
    obtain ⟨e1, e2⟩ := hk2 k (by omega)
    obtain ⟨e3, e4⟩ := hk3 k (by omega)
    have b1 : 1 + r.size ≤ 9223372036854775807 := by omega
    have b2 : 1 + r.size + 5 ≤ 9223372036854775807 := by omega
    have b3 : 1 + r.size + 5 + r'.size ≤ 9223372036854775807 := by omega
    have b4 : 1 + r.size + 5 + r'.size + 1 ≤ 9223372036854775807 := by omega
    constructor <;> simp [spec_l5Text.f, impl_conditionText.f, rd0_, rd1_, e1, e2, e3, e4, szC, s1_, s5a_, b1, b2, b3, b4] <;> omega
  · simp only [formsL, Bool.and_true, Bool.and_eq_true] at h2
    simp only [tL] at ht
    have n1 := nC_le p
    have n2 := nC_le q
    obtain ⟨r, hr, hk2⟩ := ih p (by simp) h2.1 (by omega)
    obtain ⟨r', hr', hk3⟩ := ih q (by simp) h2.2 (by omega)
    refine ⟨⟨#[40]⟩ ++ r ++ ⟨#[32, 111, 114, 32]⟩ ++ r' ++ ⟨#[41]⟩, by rw [nC_eq]; simp only [szC, s1_, s1b_, s4o_, nL]; omega, fun k hk => ?_⟩
    rw [wC_eq] at hk
    simp only [wL] at hk
    obtain ⟨k, rfl⟩ : ∃ m, k = m + 1 := ⟨k - 1, by omega⟩
    obtain ⟨e1, e2⟩ := hk2 k (by omega)
    obtain ⟨e3, e4⟩ := hk3 k (by omega)
    have b1 : 1 + r.size ≤ 9223372036854775807 := by omega
    have b2 : 1 + r.size + 4 ≤ 9223372036854775807 := by omega
    have b3 : 1 + r.size + 4 + r'.size ≤ 9223372036854775807 := by omega
    have b4 : 1 + r.size + 4 + r'.size + 1 ≤ 9223372036854775807 := by omega
    constructor <;> simp [spec_l5Text.f, impl_conditionText.f, rd0_, rd1_, e1, e2, e3, e4, szC, s1_, s4o_, b1, b2, b3, b4] <;> omega

theorem FnExactFormatCondition (c : S24) (hc : ok24 c) : ∃ k, laws_FnExactFormatCondition.f k c.f0 c.f1 c.f2 c.f3 = some true := by
  refine ⟨wC (cv c) + 400, ?_⟩
  unfold laws_FnExactFormatCondition.f
  rw [sz_ c hc _ 1048576 (by omega) (by omega) (by omega), Option.bind_some]
  by_cases ht : (1048576 : Int) < tC (cv c)
  · rw [if_pos ht, if_pos (by omega)]
  rw [if_neg ht, if_neg (by omega)]
  have ht' : tC (cv c) ≤ 1048576 := by omega
  have hJ : laws_FnExactFormatCondition.j0 (wC (cv c) + 400) false c.f0 c.f1 c.f2 c.f3 (cv c).f0 (cv c).f1 (cv c).f2 (cv c).f3 = some true := by
    obtain ⟨m, hm'⟩ : ∃ m, wC (cv c) + 400 = m + 1 := ⟨wC (cv c) + 399, by omega⟩
    rw [hm']
    simp only [laws_FnExactFormatCondition.j0, Bool.false_eq_true, if_false, to_ c ht' m (by omega), eq_ (cv c) ht' m (by omega), Option.bind_some, if_true]
  unfold spec_FormatCondition.f impl_FormatCondition.f
  simp only [to_ c ht' (wC (cv c) + 400) (by omega), good_ (cv c) ht' (wC (cv c) + 400) (by omega), valid_ (cv c) ht' (wC (cv c) + 400) (by omega), Option.bind_some]
  cases hg : good (cv c) with
  | false => simp [hJ]
  | true =>
    have hf : forms (cv c) = true := by unfold good at hg; simp at hg; exact hg.1
    obtain ⟨r, _, hr⟩ := texts_ (cv c) hf ht'
    obtain ⟨e1, e2⟩ := hr (wC (cv c) + 400) (by omega)
    simp [e1, e2, hJ]

end Go.Proofs.YtkncfklmgpaehaaDoor.Pure
