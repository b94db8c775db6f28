/- The program's ImpliesCondition and the reference's return the same for every two conditions; no condition. -/
import Derived.Test.YtkncfklmgpaehaaDoorQFnExactImpliesConditionx15
namespace Go.Proofs.YtkncfklmgpaehaaDoor.Pure
open Go.RowKit Go.Proofs.YtkncfklmgpaehaaDoor.QFnExactImpliesCondition Go.Proofs.YtkncfklmgpaehaaDoorW.PrintWords Go.Proofs.YtkncfklmgpaehaaDoorW.PrintLast Go.Proofs.YtkncfklmgpaehaaDoorW.PrintMore
set_option linter.unusedVariables false
set_option linter.unusedSimpArgs false

inductive ok24 : S24 → Prop
  | mk (x : S24) (h0 : (Lit.int .i64 x.f0).wf = true) (h1 : x.f1.size ≤ maxLen) (h2 : (Lit.int .i64 x.f2).wf = true) (h3 : x.f3.length ≤ maxLen) (h4 : ∀ y ∈ x.f3, ok24 y) : ok24 x

theorem w64 {x : Int} (h : -9223372036854775808 ≤ x) (h' : x ≤ 9223372036854775807) : wrap64 x = x := by unfold wrap64; omega
theorem tdv {x : Int} (n : Int) (h : 0 ≤ x) : Int.tdiv x n = x / n := Int.tdiv_eq_ediv_of_nonneg h
theorem tmd {x : Int} (n : Int) (h : 0 ≤ x) : Int.tmod x n = x % n := Int.tmod_eq_emod_of_nonneg h
theorem wfb {a : Int} (h : (Lit.int .i64 a).wf = true) : -9223372036854775808 ≤ a ∧ a ≤ 9223372036854775807 := by
  simp [Lit.wf, IntKind.min, IntKind.max, IntKind.signed, IntKind.bits] at h
  omega
theorem within_ {x a b : Int} : (if x ≥ a then some (decide (x ≤ b)) else some false) = some (decide (a ≤ x ∧ x ≤ b)) := by
  by_cases h : x ≥ a
  · rw [if_pos h]; congr 1; simp; omega
  · rw [if_neg h]; congr 1; simp; omega

theorem toList_inj {a b : ByteArray} (h : a.toList = b.toList) : a = b := by
  rw [ByteArray.toList_eq, ByteArray.toList_eq] at h
  exact Go.WideShapes.bytes_inj h
theorem szD (s : ByteArray) : s.data.toList.length = s.size := by simp
theorem rdOf_nat (l : List ByteArray) (i : Nat) (h : i < l.length) : rdOf ByteArray.empty l (i : Int) = l[i] := by
  unfold rdOf; rw [Int.toNat_natCast, List.getD_eq_getElem?_getD, List.getElem?_eq_getElem h]; rfl

def words9 : List ByteArray := [⟨#[116, 114, 117, 101]⟩, ⟨#[102, 114, 111, 109]⟩, ⟨#[110, 111, 116]⟩, ⟨#[97, 110, 100]⟩, ⟨#[111, 114]⟩, ⟨#[98, 111, 116, 104]⟩, ⟨#[101, 105, 116, 104, 101, 114]⟩, ⟨#[105, 116]⟩, ⟨#[105, 110]⟩]
theorem split9 : strings_Split.f ⟨#[116, 114, 117, 101, 32, 102, 114, 111, 109, 32, 110, 111, 116, 32, 97, 110, 100, 32, 111, 114, 32, 98, 111, 116, 104, 32, 101, 105, 116, 104, 101, 114, 32, 105, 116, 32, 105, 110]⟩ ⟨#[32]⟩ = some words9 := by kernel_rfl
theorem sign_ (c : Int) : spec_l5Sign.f c = some (decide ((97 ≤ c ∧ c ≤ 122) ∨ (48 ≤ c ∧ c ≤ 57))) := by
  unfold spec_l5Sign.f
  repeat' split
  all_goals first | (congr 1; apply decide_eq_decide.2; omega) | (congr 1; symm; exact decide_eq_true (by omega)) | (congr 1; symm; exact decide_eq_false (by omega))
theorem impl_step (c : Int) (N : Option Bool) : (if c < 97 then (if c < 48 then some false else (if c > 57 then some false else N)) else (if c > 122 then (if c < 48 then some false else (if c > 57 then some false else N)) else N)) = if (97 ≤ c ∧ c ≤ 122) ∨ (48 ≤ c ∧ c ≤ 57) then N else some false := by
  repeat' split
  all_goals first | rfl | (exfalso; omega)
theorem index_l0 (l : List ByteArray) (hl : l.length ≤ 1048576) (s : ByteArray) (d : Nat) : ∀ (i k : Nat), i + d = l.length → d < k → ∃ r : Int, slices_Index_string_string.l0 k l s (l.length : Int) (i : Int) = some r ∧ (0 ≤ r ↔ s ∈ l.drop i) := by
  induction d with
  | zero =>
    intro i k hi hk
    obtain ⟨k, rfl⟩ : ∃ m, k = m + 1 := ⟨k - 1, by omega⟩
    refine ⟨-1, ?_, ?_⟩
    · simp only [slices_Index_string_string.l0]; rw [if_neg (by omega)]
    · rw [List.drop_eq_nil_of_le (by omega)]; simp
  | succ d ih =>
    intro i k hi hk
    obtain ⟨k, rfl⟩ : ∃ m, k = m + 1 := ⟨k - 1, by omega⟩
    have hlt : i < l.length := by omega
    simp only [slices_Index_string_string.l0]
    rw [if_pos (by omega), if_pos (by omega), if_pos (by omega), rdOf_nat l i hlt, List.drop_eq_getElem_cons hlt]
    by_cases h : s.toList = l[i].toList
    · rw [if_pos h]
      refine ⟨i, rfl, ?_⟩
      have := toList_inj h
      exact ⟨fun _ => by rw [this]; exact List.mem_cons_self, fun _ => by omega⟩
    · rw [if_neg h, w64 (x := (i : Int) + 1) (by omega) (by omega), show (i : Int) + 1 = ((i + 1 : Nat) : Int) by omega]
      obtain ⟨r, h1, h2⟩ := ih (i + 1) k (by omega) (by omega)
      refine ⟨r, h1, ?_⟩
      rw [h2, List.mem_cons]
      constructor
      · exact Or.inr
      · rintro (e | e)
        · exact absurd (by rw [← e]) h
        · exact e
theorem contains9 (s : ByteArray) (k : Nat) (hk : 10 ≤ k) : ∃ b, slices_Contains_string_string.f k words9 s = some b ∧ (b = true ↔ s ∈ words9) := by
  obtain ⟨r, h1, h2⟩ := index_l0 words9 (by decide) s 9 0 k rfl (by omega)
  refine ⟨decide (r ≥ 0), ?_, ?_⟩
  · unfold slices_Contains_string_string.f slices_Index_string_string.f
    have h1' : slices_Index_string_string.l0 k words9 s (words9.length : Int) 0 = some r := h1
    rw [h1', Option.bind_some]
  · rw [decide_eq_true_iff, ge_iff_le, h2, List.drop_zero]
theorem toList_iff (s : ByteArray) (l : List UInt8) : s.toList = l ↔ s = ⟨l.toArray⟩ := by
  constructor
  · intro h; apply toList_inj; rw [h, ByteArray.toList_eq]
  · rintro rfl; rw [ByteArray.toList_eq]
theorem not_or9 {a b c d e f g h i : Prop} (n : (a ∨ b ∨ c ∨ d ∨ e ∨ f ∨ g ∨ h ∨ i) → False) : ¬a ∧ ¬b ∧ ¬c ∧ ¬d ∧ ¬e ∧ ¬f ∧ ¬g ∧ ¬h ∧ ¬i := by
  refine ⟨?_, ?_, ?_, ?_, ?_, ?_, ?_, ?_, ?_⟩ <;> intro x <;> exact n (by simp [x])
theorem name_l0 (s : ByteArray) (hs : s.size ≤ 1048576) (d : Nat) : ∀ (i k : Nat), i + d = s.size → d + 11 < k → ∃ b, spec_l5Name.l0 k s (i : Int) = some b ∧ impl_IsValidName.l0 k s (s.size : Int) (i : Int) = some b := by
  induction d with
  | zero =>
    intro i k hi hk
    obtain ⟨k, rfl⟩ : ∃ m, k = m + 1 := ⟨k - 1, by omega⟩
    obtain ⟨b, hb, hm⟩ := contains9 s k (by omega)
    refine ⟨!b, ?_, ?_⟩
    · simp only [spec_l5Name.l0]
      rw [if_neg (by omega)]
      simp only [toList_iff]
      unfold words9 at hm
      simp only [List.mem_cons, List.mem_nil_iff, or_false] at hm
      cases b with
      | true =>
        have := hm.1 rfl
        rcases this with h | h | h | h | h | h | h | h | h <;> simp [h]
      | false =>
        have hn := fun h => Bool.false_ne_true (hm.2 h)
        obtain ⟨n1, n2, n3, n4, n5, n6, n7, n8, n9⟩ : _ ∧ _ ∧ _ ∧ _ ∧ _ ∧ _ ∧ _ ∧ _ ∧ _ := not_or9 hn
        rw [if_neg n1, if_neg n2, if_neg n3, if_neg n4, if_neg n5, if_neg n6, if_neg n7, if_neg n8, if_neg n9]
        rfl
    · simp only [impl_IsValidName.l0]
      rw [if_neg (by omega), split9, Option.bind_some, hb, Option.bind_some]
  | succ d ih =>
    intro i k hi hk
    obtain ⟨k, rfl⟩ : ∃ m, k = m + 1 := ⟨k - 1, by omega⟩
    obtain ⟨b, h1, h2⟩ := ih (i + 1) k (by omega) (by omega)
    simp only [spec_l5Name.l0, impl_IsValidName.l0]
    rw [if_pos (by omega), if_pos (by omega), if_pos (by omega), if_pos (by omega), if_pos (by omega), impl_step, sign_, Option.bind_some, w64 (x := (i : Int) + 1) (by omega) (by omega), show (i : Int) + 1 = ((i + 1 : Nat) : Int) by omega, h1, h2]
    by_cases hc : (97 ≤ bt s (i : Int) ∧ bt s (i : Int) ≤ 122) ∨ (48 ≤ bt s (i : Int) ∧ bt s (i : Int) ≤ 57)
    · exact ⟨b, by simp [hc], by simp [hc]⟩
    · exact ⟨false, by simp [hc], by simp [hc]⟩
theorem names_ (s : ByteArray) : ∃ b, spec_l5Name.f 30 s = some b ∧ impl_IsValidName.f 30 s = some b := by
  unfold spec_l5Name.f impl_IsValidName.f spec_l1In.f impl_within.f
  by_cases h1 : (s.size : Int) ≥ 1
  · by_cases h8 : (s.size : Int) ≤ 8
    · obtain ⟨b, e1, e2⟩ := name_l0 s (by omega) s.size 0 29 (by omega) (by omega)
      have e1' : spec_l5Name.l0 29 s 0 = some b := e1
      have e2' : impl_IsValidName.l0 29 s (s.size : Int) 0 = some b := e2
      have h0 : 0 < (s.size : Int) := by omega
      have h0' : 0 < s.size := by omega
      by_cases c1 : bt s 0 < 97
      · simp [h1, h8, h0, h0', c1, spec_l5Name.j0, impl_IsValidName.j0]
      · by_cases c2 : bt s 0 > 122
        · simp [h1, h8, h0, h0', c1, c2, spec_l5Name.j0, impl_IsValidName.j0]
        · refine ⟨b, ?_, ?_⟩ <;> simp [h1, h8, h0, h0', c1, c2, spec_l5Name.j0, impl_IsValidName.j0, e1', e2']
    · simp [h1, h8, spec_l5Name.j0, impl_IsValidName.j0]
  · simp [h1, spec_l5Name.j0, impl_IsValidName.j0]
def nameB (s : ByteArray) : Bool := (spec_l5Name.f 30 s).getD false
theorem nameS_ (s : ByteArray) {k : Nat} (hk : 30 ≤ k) : spec_l5Name.f k s = some (nameB s) := by
  obtain ⟨b, e1, _⟩ := names_ s
  have : nameB s = b := by unfold nameB; rw [e1]; rfl
  rw [this]; exact at_rounds (fun k => spec_l5Name.mono s k) hk e1
theorem nameI_ (s : ByteArray) {k : Nat} (hk : 30 ≤ k) : impl_IsValidName.f k s = some (nameB s) := by
  obtain ⟨b, e1, e2⟩ := names_ s
  have : nameB s = b := by unfold nameB; rw [e1]; rfl
  rw [this]; exact at_rounds (fun k => impl_IsValidName.mono s k) hk e2
theorem nameB_nil (s : ByteArray) (h : s.toList = []) : nameB s = false := by
  have : s.size = 0 := by
    have h2 : s.toList.length = 0 := by rw [h]; rfl
    rw [ByteArray.toList_eq] at h2; simpa using h2
  unfold nameB spec_l5Name.f spec_l1In.f
  simp [this, spec_l5Name.j0]

theorem indL {P : S24 → Prop} (h : ∀ c : S24, (∀ x ∈ c.f3, P x) → P c) (c : S24) : P c :=
  S24.rec (motive_1 := P) (motive_2 := fun l => ∀ x ∈ l, P x) (fun a b c l ih => h ⟨a, b, c, l⟩ ih) (fun x hx => by cases hx) (fun x xs hx hxs y hy => by cases hy with | head => exact hx | tail _ h => exact hxs y h) c
theorem indC {P : S29 → Prop} (h : ∀ c : S29, (∀ x ∈ c.f3, P x) → P c) (c : S29) : P c :=
  S29.rec (motive_1 := P) (motive_2 := fun l => ∀ x ∈ l, P x) (fun a b c l ih => h ⟨a, b, c, l⟩ ih) (fun x hx => by cases hx) (fun x xs hx hxs y hy => by cases hy with | head => exact hx | tail _ h => exact hxs y h) c
mutual
def cv : S24 → S29
  | ⟨a, b, c, l⟩ => ⟨a, b, c, cvL l⟩
def cvL : List S24 → List S29
  | [] => []
  | x :: xs => cv x :: cvL xs
end
mutual
def wC : S29 → Nat
  | ⟨_, _, _, l⟩ => wL l + 8
def wL : List S29 → Nat
  | [] => 0
  | x :: xs => wC x + wL xs + 1
end
mutual
def tC : S29 → Nat
  | ⟨_, b, _, l⟩ => b.size + l.length + tL l
def tL : List S29 → Nat
  | [] => 0
  | x :: xs => tC x + tL xs
end
mutual
def nC : S29 → Nat
  | ⟨_, _, _, l⟩ => nL l + 1
def nL : List S29 → Nat
  | [] => 0
  | x :: xs => nC x + nL xs
end
theorem cvL_map (l : List S24) : cvL l = l.map cv := by
  induction l with
  | nil => rfl
  | cons x xs ih => simp [cvL, ih]
theorem cv_f0 (c : S24) : (cv c).f0 = c.f0 := by cases c; rfl
theorem cv_f1 (c : S24) : (cv c).f1 = c.f1 := by cases c; rfl
theorem cv_f2 (c : S24) : (cv c).f2 = c.f2 := by cases c; rfl
theorem cv_f3 (c : S24) : (cv c).f3 = c.f3.map cv := by cases c; simp [cv, cvL_map]
theorem wC_eq (c : S29) : wC c = wL c.f3 + 8 := by cases c; rfl
theorem tC_eq (c : S29) : tC c = c.f1.size + c.f3.length + tL c.f3 := by cases c; rfl
theorem nC_eq (c : S29) : nC c = nL c.f3 + 1 := by cases c; rfl
theorem tL_mem {l : List S29} {x : S29} (h : x ∈ l) : tC x ≤ tL l := by
  induction l with
  | nil => cases h
  | cons y ys ih =>
    simp only [tL]
    cases h with
    | head => omega
    | tail _ h => have := ih h; omega
theorem nL_le (l : List S29) (h : ∀ x ∈ l, nC x ≤ tC x + 1) : nL l ≤ tL l + l.length := by
  induction l with
  | nil => simp [nL]
  | cons y ys ih =>
    have h1 := h y List.mem_cons_self
    have h2 := ih (fun x hx => h x (List.mem_cons_of_mem _ hx))
    simp only [nL, tL, List.length_cons]; omega
theorem nC_le (c : S29) : nC c ≤ tC c + 1 := by
  refine indC (P := fun c => nC c ≤ tC c + 1) ?_ c
  intro c ih
  have := nL_le c.f3 ih
  rw [nC_eq, tC_eq]; omega
theorem nL_sum (l : List S29) : nL l ≤ tL l + l.length := nL_le l (fun x _ => nC_le x)
theorem rdL_ (l : List S24) (i : Nat) (h : i < l.length) : rd_T24 l (i : Int) = l[i] := by
  unfold rd_T24; rw [Int.toNat_natCast, List.getD_eq_getElem?_getD, List.getElem?_eq_getElem h]; rfl
theorem rdC_ (l : List S29) (i : Nat) (h : i < l.length) : rd_T29 l (i : Int) = l[i] := by
  unfold rd_T29; rw [Int.toNat_natCast, List.getD_eq_getElem?_getD, List.getElem?_eq_getElem h]; rfl
theorem dropL_ (l : List S24) (i : Nat) (h : i < l.length) : (l.drop i).map cv = cv l[i] :: (l.drop (i + 1)).map cv := by
  rw [List.drop_eq_getElem_cons h, List.map_cons]
theorem dropC_ (l : List S29) (i : Nat) (h : i < l.length) : l.drop i = l[i] :: l.drop (i + 1) := List.drop_eq_getElem_cons h
theorem szL_ (l : List S24) (hl : l.length ≤ 1048576) (h : ∀ x ∈ l, ∀ k left, wC (cv x) + 5 ≤ k → 0 ≤ left → left ≤ 1048576 → laws_szCondition.f k x.f0 x.f1 x.f2 x.f3 left = some (if left < tC (cv x) then -1 else left - tC (cv x))) (d : Nat) :
    ∀ (i k : Nat) (left : Int), i + d = l.length → wL ((l.drop i).map cv) + 5 ≤ k → 0 ≤ left → left ≤ 1048576 → laws_szConditionS.l0 k l left (i : Int) = some (if left < tL ((l.drop i).map cv) then -1 else left - tL ((l.drop i).map cv)) := by
  induction d with
  | zero =>
    intro i k left hi hk h0 h1
    obtain ⟨k, rfl⟩ : ∃ m, k = m + 1 := ⟨k - 1, by omega⟩
    simp only [laws_szConditionS.l0]
    rw [if_neg (by omega), List.drop_eq_nil_of_le (by omega)]
    have e_ : tL (List.map cv ([] : List S24)) = 0 := rfl
    rw [e_]
    rw [if_neg (by omega)]; congr 1; omega
  | succ d ih =>
    intro i k left hi hk h0 h1
    have hlt : i < l.length := by omega
    obtain ⟨k, rfl⟩ : ∃ m, k = m + 1 := ⟨k - 1, by omega⟩
    rw [dropL_ l i hlt] at hk ⊢
    simp only [wL] at hk
    have e_ : tL (cv l[i] :: (l.drop (i + 1)).map cv) = tC (cv l[i]) + tL ((l.drop (i + 1)).map cv) := rfl
    rw [e_]
    simp only [laws_szConditionS.l0]
    rw [if_pos (by omega), if_pos (by omega), rdL_ l i hlt, h l[i] (List.getElem_mem hlt) k left (by omega) h0 h1, Option.bind_some]
    by_cases hc : left < tC (cv l[i])
    · rw [if_pos hc, if_pos (by omega), if_pos (by omega)]
    · rw [if_neg hc, if_neg (by omega), w64 (x := (i : Int) + 1) (by omega) (by omega), show (i : Int) + 1 = ((i + 1 : Nat) : Int) by omega, ih (i + 1) k _ (by omega) (by omega) (by omega) (by omega)]
      congr 1
      by_cases h2 : left - (tC (cv l[i]) : Int) < tL ((l.drop (i + 1)).map cv)
      · rw [if_pos h2, if_pos (by omega)]
      · rw [if_neg h2, if_neg (by omega)]; omega
theorem sz_ (c : S24) : ok24 c → ∀ (k : Nat) (left : Int), wC (cv c) + 5 ≤ k → 0 ≤ left → left ≤ 1048576 → laws_szCondition.f k c.f0 c.f1 c.f2 c.f3 left = some (if left < tC (cv c) then -1 else left - tC (cv c)) := by
  refine indL (P := fun c => ok24 c → ∀ (k : Nat) (left : Int), wC (cv c) + 5 ≤ k → 0 ≤ left → left ≤ 1048576 → laws_szCondition.f k c.f0 c.f1 c.f2 c.f3 left = some (if left < tC (cv c) then -1 else left - tC (cv c))) ?_ c
  rintro c ih ⟨_, _, h1, _, h3, h4⟩ k left hk h0 hle
  rw [wC_eq, cv_f3] at hk
  rw [tC_eq, cv_f1, cv_f3, List.length_map]
  obtain ⟨k, rfl⟩ : ∃ m, k = m + 3 := ⟨k - 3, by omega⟩
  have hm : maxLen = 9223372036854775807 := rfl
  simp only [laws_szCondition.f, laws_szConditionS.f]
  rw [w64 (x := left - (c.f1.size : Int)) (by omega) (by omega)]
  by_cases hc : left - (c.f1.size : Int) < 0
  · rw [if_pos hc, if_pos (by omega)]
  rw [if_neg hc, w64 (x := left - (c.f1.size : Int) - (c.f3.length : Int)) (by omega) (by omega)]
  by_cases hd : left - (c.f1.size : Int) - (c.f3.length : Int) < 0
  · rw [if_pos hd, Option.bind_some, if_pos (by omega), if_pos (by omega)]
  rw [if_neg hd]
  have hS := szL_ c.f3 (by omega) (fun x hx => ih x hx (h4 x hx)) c.f3.length 0 (k + 1) (left - (c.f1.size : Int) - (c.f3.length : Int)) (by omega) (by simp only [List.drop_zero]; omega) (by omega) (by omega)
  simp only [List.drop_zero] at hS
  have hS' : laws_szConditionS.l0 (k + 1) c.f3 (left - (c.f1.size : Int) - (c.f3.length : Int)) 0 = _ := hS
  rw [hS', Option.bind_some]
  by_cases he : left - (c.f1.size : Int) - (c.f3.length : Int) < (tL (c.f3.map cv) : Int)
  · rw [if_pos he, if_pos (by omega), if_pos (by omega)]
  · rw [if_neg he, if_neg (by omega), if_neg (by omega)]; congr 1; omega
theorem set_grow {α : Type} (a : List α) (d : Nat) (z x : α) (i : Nat) (h : a.length = i) : (a ++ List.replicate (d + 1) z).set i x = (a ++ [x]) ++ List.replicate d z := by
  subst h
  rw [List.set_append_right _ _ (Nat.le_refl _), Nat.sub_self, List.replicate_succ, List.set_cons_zero, List.append_assoc, List.singleton_append]
theorem mkC_ (c : S29) : (⟨c.f0, c.f1, c.f2, c.f3⟩ : S29) = c := by cases c; rfl
theorem toL_ (l : List S24) (hl : l.length ≤ 1048576) (h : ∀ x ∈ l, ∀ k, wC (cv x) + 5 ≤ k → laws_toCondition.f k x.f0 x.f1 x.f2 x.f3 = some ((cv x).f0, (cv x).f1, (cv x).f2, (cv x).f3)) (d : Nat) :
    ∀ (i k : Nat), i + d = l.length → wL ((l.drop i).map cv) + 5 ≤ k → laws_toConditionS.l0 k l ((l.take i).map cv ++ List.replicate d z29) (i : Int) = some (l.map cv) := by
  induction d with
  | zero =>
    intro i k hi hk
    obtain ⟨k, rfl⟩ : ∃ m, k = m + 1 := ⟨k - 1, by omega⟩
    simp only [laws_toConditionS.l0]
    rw [if_neg (by omega), List.take_of_length_le (by omega)]
    simp
  | succ d ih =>
    intro i k hi hk
    have hlt : i < l.length := by omega
    obtain ⟨k, rfl⟩ : ∃ m, k = m + 1 := ⟨k - 1, by omega⟩
    rw [dropL_ l i hlt] at hk
    simp only [wL] at hk
    simp only [laws_toConditionS.l0]
    rw [if_pos (by omega), if_pos (by omega), rdL_ l i hlt, h l[i] (List.getElem_mem hlt) k (by omega), Option.bind_some]
    rw [if_pos (by simp; omega), w64 (x := (i : Int) + 1) (by omega) (by omega), show (i : Int) + 1 = ((i + 1 : Nat) : Int) by omega, Int.toNat_natCast, set_grow _ _ _ _ _ (by simp; omega)]
    have := ih (i + 1) k (by omega) (by omega)
    rw [List.take_succ_eq_append_getElem hlt, List.map_append, List.map_cons, List.map_nil] at this
    rw [← this]
    dsimp only
    rw [mkC_]
theorem to_ (c : S24) : tC (cv c) ≤ 1048576 → ∀ (k : Nat), wC (cv c) + 5 ≤ k → laws_toCondition.f k c.f0 c.f1 c.f2 c.f3 = some ((cv c).f0, (cv c).f1, (cv c).f2, (cv c).f3) := by
  refine indL (P := fun c => tC (cv c) ≤ 1048576 → ∀ (k : Nat), wC (cv c) + 5 ≤ k → laws_toCondition.f k c.f0 c.f1 c.f2 c.f3 = some ((cv c).f0, (cv c).f1, (cv c).f2, (cv c).f3)) ?_ c
  intro c ih ht k hk
  rw [wC_eq, cv_f3] at hk
  rw [tC_eq, cv_f3, List.length_map] at ht
  obtain ⟨k, rfl⟩ : ∃ m, k = m + 3 := ⟨k - 3, by omega⟩
  rw [cv_f0, cv_f1, cv_f2, cv_f3]
  simp only [laws_toCondition.f, laws_toConditionS.f]
  rw [if_pos (by omega), if_pos (by omega)]
  have hS := toL_ c.f3 (by omega) (fun x hx => ih x hx (by have := tL_mem (List.mem_map_of_mem (f := cv) hx); omega)) c.f3.length 0 (k + 1) (by omega) (by simp only [List.drop_zero]; omega)
  simp only [List.take_zero, List.map_nil, List.nil_append] at hS
  have hS' : laws_toConditionS.l0 (k + 1) c.f3 (List.replicate c.f3.length z29) 0 = _ := hS
  rw [Int.toNat_natCast, hS', Option.bind_some]
theorem eqL_ (l : List S29) (hl : l.length ≤ 1048576) (h : ∀ x ∈ l, ∀ k, wC x + 5 ≤ k → laws_eqCondition.f k x.f0 x.f1 x.f2 x.f3 x.f0 x.f1 x.f2 x.f3 = some true) (d : Nat) :
    ∀ (i k : Nat), i + d = l.length → wL (l.drop i) + 5 ≤ k → laws_eqConditionS.l0 k l l (i : Int) = some true := by
  induction d with
  | zero =>
    intro i k hi hk
    obtain ⟨k, rfl⟩ : ∃ m, k = m + 1 := ⟨k - 1, by omega⟩
    simp only [laws_eqConditionS.l0]
    rw [if_neg (by omega)]
  | succ d ih =>
    intro i k hi hk
    have hlt : i < l.length := by omega
    obtain ⟨k, rfl⟩ : ∃ m, k = m + 1 := ⟨k - 1, by omega⟩
    rw [dropC_ l i hlt] at hk
    simp only [wL] at hk
    simp only [laws_eqConditionS.l0]
    rw [if_pos (by omega), if_pos (by omega), if_pos (by omega), rdC_ l i hlt, h l[i] (List.getElem_mem hlt) k (by omega), Option.bind_some, if_pos rfl]
    rw [w64 (x := (i : Int) + 1) (by omega) (by omega), show (i : Int) + 1 = ((i + 1 : Nat) : Int) by omega]
    exact ih (i + 1) k (by omega) (by omega)
theorem eq_ (c : S29) : tC c ≤ 1048576 → ∀ (k : Nat), wC c + 5 ≤ k → laws_eqCondition.f k c.f0 c.f1 c.f2 c.f3 c.f0 c.f1 c.f2 c.f3 = some true := by
  refine indC (P := fun c => tC c ≤ 1048576 → ∀ (k : Nat), wC c + 5 ≤ k → laws_eqCondition.f k c.f0 c.f1 c.f2 c.f3 c.f0 c.f1 c.f2 c.f3 = some true) ?_ c
  intro c ih ht k hk
  rw [wC_eq] at hk
  rw [tC_eq] at ht
  obtain ⟨k, rfl⟩ : ∃ m, k = m + 3 := ⟨k - 3, by omega⟩
  have hS := eqL_ c.f3 (by omega) (fun x hx => ih x hx (by have := tL_mem hx; omega)) c.f3.length 0 (k + 1) (by omega) (by simp only [List.drop_zero]; omega)
  have hS' : laws_eqConditionS.l0 (k + 1) c.f3 c.f3 0 = some true := hS
  simp only [laws_eqCondition.f, laws_eqConditionS.f, if_true, hS', Option.bind_some]

def formB (a : Int) (b : ByteArray) (c : Int) (n : Nat) : Bool :=
  if a = 1 then decide (n = 0 ∧ b.toList = [] ∧ c = 0) else if a = 2 then decide (n = 0 ∧ nameB b = true ∧ c = 0) else if a = 3 then decide (n = 0 ∧ b.toList = [] ∧ 0 ≤ c ∧ c ≤ 36524)
  else if a = 4 then decide (n = 1 ∧ b.toList = [] ∧ c = 0) else if a = 5 then decide (n = 2 ∧ b.toList = [] ∧ c = 0) else if a = 6 then decide (n = 2 ∧ b.toList = [] ∧ c = 0) else false
mutual
def forms : S29 → Bool
  | ⟨a, b, c, l⟩ => formB a b c l.length && formsL l
def formsL : List S29 → Bool
  | [] => true
  | x :: xs => forms x && formsL xs
end
def good (c : S29) : Bool := forms c && decide (nC c ≤ 15)
theorem forms_eq (c : S29) : forms c = (formB c.f0 c.f1 c.f2 c.f3.length && formsL c.f3) := by cases c; rfl
theorem l1In_ (x a b : Int) : spec_l1In.f x a b = some (decide (a ≤ x ∧ x ≤ b)) := within_
theorem withinI_ (x a b : Int) : impl_within.f x a b = some (decide (a ≤ x ∧ x ≤ b)) := within_
theorem isDay_ (x : Int) : impl_isDay.f x = some (decide (0 ≤ x ∧ x ≤ 36524)) := by unfold impl_isDay.f; rw [withinI_, Option.bind_some]
theorem l3Good_ (x : Int) : spec_l3Good.f x = some (decide (0 ≤ x ∧ x ≤ 36524)) := by unfold spec_l3Good.f; rw [l1In_, Option.bind_some]
theorem form_ (a : Int) (b : ByteArray) (c : Int) (l : List S29) (k : Nat) (hk : 30 ≤ k) : spec_l5Form.f k a b c l = some (formB a b c l.length) := by
  unfold spec_l5Form.f formB
  rw [nameS_ b hk, l3Good_]
  simp only [Option.bind_some]
  have e0 : ((l.length : Int) = 0) = (l.length = 0) := by apply propext; omega
  have e1 : ((l.length : Int) = 1) = (l.length = 1) := by apply propext; omega
  have e2 : ((l.length : Int) = 2) = (l.length = 2) := by apply propext; omega
  simp only [e0, e1, e2]
  repeat' split
  all_goals simp_all
  all_goals first | (apply Bool.eq_iff_iff.2; simp) | skip
theorem formsS_ (l : List S29) (hl : l.length ≤ 1048576) (a : Int) (b : ByteArray) (c : Int) (h : ∀ x ∈ l, ∀ k, wC x + 60 ≤ k → spec_l5Forms.f k x.f0 x.f1 x.f2 x.f3 = some (forms x)) (d : Nat) :
    ∀ (i k : Nat), i + d = l.length → wL (l.drop i) + 60 ≤ k → spec_l5Forms.l0 k (i : Int) a b c l = some (formsL (l.drop i)) := by
  induction d with
  | zero =>
    intro i k hi hk
    obtain ⟨k, rfl⟩ : ∃ m, k = m + 1 := ⟨k - 1, by omega⟩
    simp only [spec_l5Forms.l0]
    rw [if_neg (by omega), List.drop_eq_nil_of_le (by omega)]; rfl
  | succ d ih =>
    intro i k hi hk
    have hlt : i < l.length := by omega
    obtain ⟨k, rfl⟩ : ∃ m, k = m + 1 := ⟨k - 1, by omega⟩
    rw [dropC_ l i hlt] at hk ⊢
    simp only [wL] at hk
    simp only [spec_l5Forms.l0, formsL]
    rw [if_pos (by omega), if_pos (by omega), rdC_ l i hlt, h l[i] (List.getElem_mem hlt) k (by omega), Option.bind_some]
    rw [w64 (x := (i : Int) + 1) (by omega) (by omega), show (i : Int) + 1 = ((i + 1 : Nat) : Int) by omega, ih (i + 1) k (by omega) (by omega)]
    cases forms l[i] <;> simp
theorem forms_ (c : S29) : tC c ≤ 1048576 → ∀ (k : Nat), wC c + 60 ≤ k → spec_l5Forms.f k c.f0 c.f1 c.f2 c.f3 = some (forms c) := by
  refine indC (P := fun c => tC c ≤ 1048576 → ∀ (k : Nat), wC c + 60 ≤ k → spec_l5Forms.f k c.f0 c.f1 c.f2 c.f3 = some (forms c)) ?_ c
  intro c ih ht k hk
  rw [wC_eq] at hk
  rw [tC_eq] at ht
  obtain ⟨k, rfl⟩ : ∃ m, k = m + 1 := ⟨k - 1, by omega⟩
  have hS := formsS_ c.f3 (by omega) c.f0 c.f1 c.f2 (fun x hx => ih x hx (by have := tL_mem hx; omega)) c.f3.length 0 k (by omega) (by simp only [List.drop_zero]; omega)
  rw [List.drop_zero] at hS
  have hS' : spec_l5Forms.l0 k 0 c.f0 c.f1 c.f2 c.f3 = _ := hS
  simp only [spec_l5Forms.f]
  rw [form_ _ _ _ _ k (by omega), Option.bind_some, hS', forms_eq]
  cases formB c.f0 c.f1 c.f2 c.f3.length <;> simp
theorem sizeS_ (l : List S29) (hl : l.length ≤ 1048576) (hn : tL l ≤ 1048576) (a : Int) (b : ByteArray) (c : Int) (h : ∀ x ∈ l, ∀ k, wC x + 60 ≤ k → spec_l5Size.f k x.f0 x.f1 x.f2 x.f3 = some (nC x : Int)) (d : Nat) :
    ∀ (i k : Nat) (s : Int), i + d = l.length → wL (l.drop i) + 60 ≤ k → 0 ≤ s → s + nL (l.drop i) ≤ 4000000 → spec_l5Size.l0 k s (i : Int) a b c l = some (s + nL (l.drop i)) := by
  induction d with
  | zero =>
    intro i k s hi hk h0 hs
    obtain ⟨k, rfl⟩ : ∃ m, k = m + 1 := ⟨k - 1, by omega⟩
    simp only [spec_l5Size.l0]
    rw [if_neg (by omega), List.drop_eq_nil_of_le (by omega)]
    simp [nL]
  | succ d ih =>
    intro i k s hi hk h0 hs
    have hlt : i < l.length := by omega
    obtain ⟨k, rfl⟩ : ∃ m, k = m + 1 := ⟨k - 1, by omega⟩
    rw [dropC_ l i hlt] at hk hs ⊢
    simp only [wL] at hk
    have e_ : nL (l[i] :: l.drop (i + 1)) = nC l[i] + nL (l.drop (i + 1)) := rfl
    rw [e_] at hs ⊢
    simp only [spec_l5Size.l0]
    rw [if_pos (by omega), if_pos (by omega), rdC_ l i hlt, h l[i] (List.getElem_mem hlt) k (by omega), Option.bind_some]
    rw [w64 (x := (i : Int) + 1) (by omega) (by omega), w64 (x := s + (nC l[i] : Int)) (by omega) (by omega), show (i : Int) + 1 = ((i + 1 : Nat) : Int) by omega, ih (i + 1) k _ (by omega) (by omega) (by omega) (by omega)]
    congr 1; omega
theorem size_ (c : S29) : tC c ≤ 1048576 → ∀ (k : Nat), wC c + 60 ≤ k → spec_l5Size.f k c.f0 c.f1 c.f2 c.f3 = some (nC c : Int) := by
  refine indC (P := fun c => tC c ≤ 1048576 → ∀ (k : Nat), wC c + 60 ≤ k → spec_l5Size.f k c.f0 c.f1 c.f2 c.f3 = some (nC c : Int)) ?_ c
  intro c ih ht k hk
  rw [wC_eq] at hk
  rw [tC_eq] at ht
  have hn := nL_sum c.f3
  obtain ⟨k, rfl⟩ : ∃ m, k = m + 1 := ⟨k - 1, by omega⟩
  have hS := sizeS_ c.f3 (by omega) (by omega) c.f0 c.f1 c.f2 (fun x hx => ih x hx (by have := tL_mem hx; omega)) c.f3.length 0 k 1 (by omega) (by simp only [List.drop_zero]; omega) (by omega) (by simp only [List.drop_zero]; omega)
  rw [List.drop_zero] at hS
  have hS' : spec_l5Size.l0 k 1 0 c.f0 c.f1 c.f2 c.f3 = _ := hS
  simp only [spec_l5Size.f]
  rw [hS', nC_eq]; congr 1; omega
theorem good_ (c : S29) (ht : tC c ≤ 1048576) (k : Nat) (hk : wC c + 60 ≤ k) : spec_l5Good.f k c.f0 c.f1 c.f2 c.f3 = some (good c) := by
  unfold spec_l5Good.f good
  rw [forms_ c ht k hk, Option.bind_some, size_ c ht k hk, Option.bind_some]
  have e : decide ((nC c : Int) ≤ 15) = decide (nC c ≤ 15) := by apply decide_eq_decide.2; omega
  rw [e]
  cases forms c <;> simp
theorem formB_op {a : Int} {b : ByteArray} {c : Int} {n : Nat} (h : formB a b c n = true) : 1 ≤ a ∧ a ≤ 6 := by
  unfold formB at h
  repeat' split at h
  all_goals first | omega | cases h
/-- The program's test of one node, as its second half asks it. -/
theorem countJ_ (a : Int) (b : ByteArray) (c : Int) (l : List S29) (so : Int) (k : Nat) (hk : 40 ≤ k) (bad : Bool) (n : Nat) (hn : n = l.length) (h1 : 1 ≤ a) (h6 : a ≤ 6)
    (hbad : bad = ((n : Int) != (rd [(-1), 0, 0, 0, 1, 2, 2] a))) : impl_countCondition.j0 (k + 2) so bad a b c l = if formB a b c n = true then impl_countCondition.l0 k so l (l.length : Int) 0 else some (-1) := by
  have hnil := nameB_nil b
  subst hn
  simp only [impl_countCondition.j0, nameI_ b (show 30 ≤ k + 1 by omega), isDay_, Option.bind_some, impl_countCondition.j1]
  have hcases : a = 1 ∨ a = 2 ∨ a = 3 ∨ a = 4 ∨ a = 5 ∨ a = 6 := by omega
  unfold formB
  rcases hcases with rfl | rfl | rfl | rfl | rfl | rfl
  all_goals
    simp [rd] at hbad
    subst hbad
    by_cases e : b.toList = []
    all_goals by_cases ec : c = 0
    all_goals by_cases ed : 0 ≤ c
    all_goals by_cases eg : c ≤ 36524
    all_goals by_cases en : nameB b = true
    all_goals by_cases e0 : l.length = 0
    all_goals by_cases e1 : l.length = 1
    all_goals by_cases e2 : l.length = 2
    all_goals first | omega | skip
    all_goals first | (simp_all; done) | (simp_all; omega) | skip

theorem countL_ (l : List S29) (hl : l.length ≤ 1048576) (h : ∀ x ∈ l, ∀ k so, wC x + 60 ≤ k → 0 ≤ so → so ≤ 15 → impl_countCondition.f k x.f0 x.f1 x.f2 x.f3 so = some (if forms x = true ∧ so + nC x ≤ 15 then so + nC x else -1)) (d : Nat) :
    ∀ (i k : Nat) (so : Int), i + d = l.length → wL (l.drop i) + 60 ≤ k → 0 ≤ so → so ≤ 15 → impl_countCondition.l0 k so l (l.length : Int) (i : Int) = some (if formsL (l.drop i) = true ∧ so + nL (l.drop i) ≤ 15 then so + nL (l.drop i) else -1) := by
  induction d with
  | zero =>
    intro i k so hi hk h0 h1
    obtain ⟨k, rfl⟩ : ∃ m, k = m + 1 := ⟨k - 1, by omega⟩
    simp only [impl_countCondition.l0]
    rw [if_neg (by omega), List.drop_eq_nil_of_le (by omega)]
    have e_ : nL ([] : List S29) = 0 := rfl
    have f_ : formsL ([] : List S29) = true := rfl
    rw [e_, f_, if_pos ⟨rfl, by omega⟩]; congr 1; omega
  | succ d ih =>
    intro i k so hi hk h0 h1
    have hlt : i < l.length := by omega
    obtain ⟨k, rfl⟩ : ∃ m, k = m + 1 := ⟨k - 1, by omega⟩
    rw [dropC_ l i hlt] at hk ⊢
    simp only [wL] at hk
    have e_ : nL (l[i] :: l.drop (i + 1)) = nC l[i] + nL (l.drop (i + 1)) := rfl
    have f_ : formsL (l[i] :: l.drop (i + 1)) = (forms l[i] && formsL (l.drop (i + 1))) := rfl
    rw [e_, f_]
    simp only [impl_countCondition.l0]
    rw [if_pos (by omega), if_pos (by omega), if_pos (by omega), rdC_ l i hlt, h l[i] (List.getElem_mem hlt) k so (by omega) h0 h1, Option.bind_some]
    have hp : 0 < nC l[i] := by rw [nC_eq]; omega
    by_cases hc : forms l[i] = true ∧ so + (nC l[i] : Int) ≤ 15
    · rw [if_pos hc, if_neg (by omega), w64 (x := (i : Int) + 1) (by omega) (by omega), show (i : Int) + 1 = ((i + 1 : Nat) : Int) by omega, ih (i + 1) k _ (by omega) (by omega) (by omega) (by omega)]
      rw [hc.1, Bool.true_and]
      congr 1
      by_cases h2 : formsL (l.drop (i + 1)) = true ∧ so + (nC l[i] : Int) + (nL (l.drop (i + 1)) : Int) ≤ 15
      · rw [if_pos h2, if_pos ⟨h2.1, by omega⟩]; omega
      · rw [if_neg h2, if_neg (fun h3 => h2 ⟨h3.1, by omega⟩)]
    · rw [if_neg hc, if_pos (by omega), if_neg (fun h3 => hc ⟨by simp at h3; exact h3.1.1, by omega⟩)]
theorem count_ (c : S29) : tC c ≤ 1048576 → ∀ (k : Nat) (so : Int), wC c + 60 ≤ k → 0 ≤ so → so ≤ 15 → impl_countCondition.f k c.f0 c.f1 c.f2 c.f3 so = some (if forms c = true ∧ so + nC c ≤ 15 then so + nC c else -1) := by
  refine indC (P := fun c => tC c ≤ 1048576 → ∀ (k : Nat) (so : Int), wC c + 60 ≤ k → 0 ≤ so → so ≤ 15 → impl_countCondition.f k c.f0 c.f1 c.f2 c.f3 so = some (if forms c = true ∧ so + nC c ≤ 15 then so + nC c else -1)) ?_ c
  intro c ih ht k so hk h0 h1
  rw [wC_eq] at hk
  rw [tC_eq] at ht
  rw [forms_eq, nC_eq]
  obtain ⟨k, rfl⟩ : ∃ m, k = m + 4 := ⟨k - 4, by omega⟩
  simp only [impl_countCondition.f, Option.bind_some]
  rw [w64 (x := so + 1) (by omega) (by omega)]
  by_cases hs : so + 1 > 15
  · rw [if_pos hs, if_neg (by omega)]
    simp [impl_countCondition.j0]
  rw [if_neg hs, withinI_, Option.bind_some]
  by_cases hop : decide (1 ≤ c.f0 ∧ c.f0 ≤ 6) = true
  · have ho := of_decide_eq_true hop
    rw [if_pos hop, if_pos (by omega), if_pos (by simp; omega)]
    rw [countJ_ c.f0 c.f1 c.f2 c.f3 (so + 1) (k + 1) (by omega) _ c.f3.length rfl ho.1 ho.2 rfl]
    by_cases hf : formB c.f0 c.f1 c.f2 c.f3.length = true
    · rw [if_pos hf, hf, Bool.true_and]
      have hL := countL_ c.f3 (by omega) (fun x hx => ih x hx (by have := tL_mem hx; omega)) c.f3.length 0 (k + 1) (so + 1) (by omega) (by simp only [List.drop_zero]; omega) (by omega) (by omega)
      rw [List.drop_zero] at hL
      have hL' : impl_countCondition.l0 (k + 1) (so + 1) c.f3 (c.f3.length : Int) 0 = _ := hL
      rw [hL']
      congr 1
      by_cases h2 : formsL c.f3 = true ∧ so + 1 + (nL c.f3 : Int) ≤ 15
      · rw [if_pos h2, if_pos ⟨h2.1, by omega⟩]; omega
      · rw [if_neg h2, if_neg (fun h3 => h2 ⟨h3.1, by omega⟩)]
    · rw [if_neg hf, if_neg (fun h3 => hf (by simp at h3; exact h3.1.1))]
  · rw [if_neg hop, if_neg (fun h3 => hop (decide_eq_true (formB_op (by simp at h3; exact h3.1.1))))]
    simp [impl_countCondition.j0]
theorem valid_ (c : S29) (ht : tC c ≤ 1048576) (k : Nat) (hk : wC c + 60 ≤ k) : impl_IsValidCondition.f k c.f0 c.f1 c.f2 c.f3 = some (good c) := by
  unfold impl_IsValidCondition.f good
  rw [count_ c ht k 0 hk (by omega) (by omega), Option.bind_some]
  have hp : 0 < nC c := by rw [nC_eq]; omega
  by_cases h : forms c = true ∧ 0 + (nC c : Int) ≤ 15
  · rw [if_pos h, h.1, Bool.true_and]; congr 1; apply decide_eq_decide.2; omega
  · rw [if_neg h]
    congr 1
    cases hf : forms c
    · simp
    · simp only [Bool.true_and]
      apply decide_eq_decide.2
      constructor
      · omega
      · intro h2; exact absurd ⟨hf, by omega⟩ h

theorem one_ {α : Type} {l : List α} (h : l.length = 1) : ∃ a, l = [a] := by
  match l, h with
  | [a], _ => exact ⟨a, rfl⟩
theorem two2_ {α : Type} {l : List α} (h : l.length = 2) : ∃ a b, l = [a, b] := by
  match l, h with
  | [a, b], _ => exact ⟨a, b, rfl⟩
/-- What a valid node's form says. -/
theorem formB_cases {a : Int} {b : ByteArray} {c : Int} {l : List S29} (h : formB a b c l.length = true) :
    (a = 1 ∧ l = [] ∧ b.toList = [] ∧ c = 0) ∨ (a = 2 ∧ l = [] ∧ nameB b = true ∧ c = 0) ∨ (a = 3 ∧ l = [] ∧ b.toList = [] ∧ 0 ≤ c ∧ c ≤ 36524) ∨ (a = 4 ∧ b.toList = [] ∧ c = 0 ∧ ∃ p, l = [p]) ∨ (a = 5 ∧ b.toList = [] ∧ c = 0 ∧ ∃ p q, l = [p, q]) ∨ (a = 6 ∧ b.toList = [] ∧ c = 0 ∧ ∃ p q, l = [p, q]) := by
  unfold formB at h
  repeat' split at h
  all_goals first | cases h | skip
  all_goals (have h := of_decide_eq_true h)
  · exact .inl ⟨‹_›, List.length_eq_zero_iff.1 h.1, h.2⟩
  · exact .inr (.inl ⟨‹_›, List.length_eq_zero_iff.1 h.1, h.2⟩)
  · exact .inr (.inr (.inl ⟨‹_›, List.length_eq_zero_iff.1 h.1, h.2⟩))
  · exact .inr (.inr (.inr (.inl ⟨‹_›, h.2.1, h.2.2, one_ h.1⟩)))
  · exact .inr (.inr (.inr (.inr (.inl ⟨‹_›, h.2.1, h.2.2, two2_ h.1⟩))))
  · exact .inr (.inr (.inr (.inr (.inr ⟨‹_›, h.2.1, h.2.2, two2_ h.1⟩))))
theorem rd0_ (p : S29) (l : List S29) : rd_T29 (p :: l) 0 = p := rfl
theorem rd1_ (p q : S29) (l : List S29) : rd_T29 (p :: q :: l) 1 = q := rfl

def memB (s : ByteArray) (l : List ByteArray) : Bool := l.any fun x => x.toList == s.toList
theorem memB_iff (s : ByteArray) (l : List ByteArray) : memB s l = true ↔ s ∈ l := by
  unfold memB
  rw [List.any_eq_true]
  constructor
  · rintro ⟨x, hx, h⟩
    have e : x = s := toList_inj (by simpa using h)
    rw [← e]; exact hx
  · intro h; exact ⟨s, h, by simp⟩
theorem has_l0 (l : List ByteArray) (hl : l.length ≤ 1048577) (s : ByteArray) (d : Nat) : ∀ (i k : Nat), i + d = l.length → d < k → spec_l5Has.l0 k l s (i : Int) = some (memB s (l.drop i)) := by
  induction d with
  | zero =>
    intro i k hi hk
    obtain ⟨k, rfl⟩ : ∃ m, k = m + 1 := ⟨k - 1, by omega⟩
    simp only [spec_l5Has.l0]; rw [if_neg (by omega), List.drop_eq_nil_of_le (by omega)]; rfl
  | succ d ih =>
    intro i k hi hk
    obtain ⟨k, rfl⟩ : ∃ m, k = m + 1 := ⟨k - 1, by omega⟩
    have hlt : i < l.length := by omega
    simp only [spec_l5Has.l0]
    rw [if_pos (by omega), if_pos (by omega), rdOf_nat l i hlt, List.drop_eq_getElem_cons hlt]
    have m_ : memB s (l[i] :: l.drop (i + 1)) = (l[i].toList == s.toList || memB s (l.drop (i + 1))) := by unfold memB; rw [List.any_cons]
    rw [m_]
    by_cases h : l[i].toList = s.toList
    · rw [if_pos h, beq_iff_eq.2 h, Bool.true_or]
    · rw [if_neg h, w64 (x := (i : Int) + 1) (by omega) (by omega), show (i : Int) + 1 = ((i + 1 : Nat) : Int) by omega, ih (i + 1) k (by omega) (by omega), beq_eq_false_iff_ne.2 h, Bool.false_or]
theorem has_ (l : List ByteArray) (hl : l.length ≤ 1048577) (s : ByteArray) (k : Nat) (hk : l.length < k) : spec_l5Has.f k l s = some (memB s l) := by
  unfold spec_l5Has.f
  have h := has_l0 l hl s l.length 0 k (by omega) hk
  rw [List.drop_zero] at h
  exact h
theorem contains_ (l : List ByteArray) (hl : l.length ≤ 1048576) (s : ByteArray) (k : Nat) (hk : l.length < k) : slices_Contains_string_string.f k l s = some (memB s l) := by
  obtain ⟨r, h1, h2⟩ := index_l0 l hl s l.length 0 k (by omega) hk
  rw [List.drop_zero] at h2
  unfold slices_Contains_string_string.f slices_Index_string_string.f
  have h1' : slices_Index_string_string.l0 k l s (l.length : Int) 0 = some r := h1
  rw [h1', Option.bind_some]
  congr 1
  apply Bool.eq_iff_iff.2
  rw [memB_iff, decide_eq_true_iff, ← h2]
theorem holds_ (l : List ByteArray) (day : Int) (hl : l.length ≤ 1048576) (c : S29) : forms c = true → ∃ b, ∀ k, wC c + l.length + 100 ≤ k → spec_l5Holds.f k c.f0 c.f1 c.f2 c.f3 l day = some b ∧ impl_evaluate.f k c.f0 c.f1 c.f2 c.f3 l day = some b := by
  refine indC (P := fun c => forms c = true → ∃ b, ∀ k, wC c + l.length + 100 ≤ k → spec_l5Holds.f k c.f0 c.f1 c.f2 c.f3 l day = some b ∧ impl_evaluate.f k c.f0 c.f1 c.f2 c.f3 l day = some b) ?_ c
  rintro ⟨a, b, d, m⟩ ih hf
  rw [forms_eq, Bool.and_eq_true] at hf
  obtain ⟨h1, h2⟩ := hf
  simp only at h1 h2 ih ⊢
  rcases formB_cases h1 with ⟨rfl, rfl, _, _⟩ | ⟨rfl, rfl, _, _⟩ | ⟨rfl, rfl, _, _, _⟩ | ⟨rfl, _, _, p, rfl⟩ | ⟨rfl, _, _, p, q, rfl⟩ | ⟨rfl, _, _, p, q, rfl⟩
  · refine ⟨true, fun k hk => ?_⟩
    obtain ⟨k, rfl⟩ : ∃ m, k = m + 1 := ⟨k - 1, by omega⟩
    constructor <;> simp [spec_l5Holds.f, impl_evaluate.f]
  · refine ⟨memB b l, fun k hk => ?_⟩
    rw [wC_eq] at hk
    obtain ⟨k, rfl⟩ : ∃ m, k = m + 1 := ⟨k - 1, by omega⟩
    constructor <;> simp [spec_l5Holds.f, impl_evaluate.f, has_ l (by omega) b k (by omega), contains_ l hl b k (by omega)]
  · refine ⟨decide (day ≥ d), fun k hk => ?_⟩
    obtain ⟨k, rfl⟩ : ∃ m, k = m + 1 := ⟨k - 1, by omega⟩
    constructor <;> simp [spec_l5Holds.f, impl_evaluate.f]
  · simp only [formsL, Bool.and_true] at h2
    obtain ⟨r, hr⟩ := ih p (by simp) h2
    refine ⟨!r, fun k hk => ?_⟩
    rw [wC_eq] at hk
    simp only [wL] at hk
    obtain ⟨k, rfl⟩ : ∃ m, k = m + 1 := ⟨k - 1, by omega⟩
    obtain ⟨e1, e2⟩ := hr k (by omega)
    constructor <;> simp [spec_l5Holds.f, impl_evaluate.f, rd0_, e1, e2]
  · simp only [formsL, Bool.and_true, Bool.and_eq_true] at h2
    obtain ⟨r, hr⟩ := ih p (by simp) h2.1
    obtain ⟨r', hr'⟩ := ih q (by simp) h2.2
    refine ⟨r && r', fun k hk => ?_⟩
    rw [wC_eq] at hk
    simp only [wL] at hk
    obtain ⟨k, rfl⟩ : ∃ m, k = m + 1 := ⟨k - 1, by omega⟩
    obtain ⟨e1, e2⟩ := hr k (by omega)
    obtain ⟨e3, e4⟩ := hr' k (by omega)
    constructor <;> cases r <;> simp [spec_l5Holds.f, impl_evaluate.f, rd0_, rd1_, e1, e2, e3, e4]
  · simp only [formsL, Bool.and_true, Bool.and_eq_true] at h2
    obtain ⟨r, hr⟩ := ih p (by simp) h2.1
    obtain ⟨r', hr'⟩ := ih q (by simp) h2.2
    refine ⟨r || r', fun k hk => ?_⟩
    rw [wC_eq] at hk
    simp only [wL] at hk
    obtain ⟨k, rfl⟩ : ∃ m, k = m + 1 := ⟨k - 1, by omega⟩
    obtain ⟨e1, e2⟩ := hr k (by omega)
    obtain ⟨e3, e4⟩ := hr' k (by omega)
    constructor <;> cases r <;> simp [spec_l5Holds.f, impl_evaluate.f, rd0_, rd1_, e1, e2, e3, e4]
def ev (c : S29) (l : List ByteArray) (day : Int) : Bool := (spec_l5Holds.f (wC c + l.length + 100) c.f0 c.f1 c.f2 c.f3 l day).getD false
theorem ev_ (c : S29) (l : List ByteArray) (day : Int) (hl : l.length ≤ 1048576) (hf : forms c = true) (k : Nat) (hk : wC c + l.length + 100 ≤ k) :
    spec_l5Holds.f k c.f0 c.f1 c.f2 c.f3 l day = some (ev c l day) ∧ impl_evaluate.f k c.f0 c.f1 c.f2 c.f3 l day = some (ev c l day) := by
  obtain ⟨b, hb⟩ := holds_ l day hl c hf
  have : ev c l day = b := by unfold ev; rw [(hb _ (Nat.le_refl _)).1]; rfl
  rw [this]; exact hb k hk

theorem rdI_ (l : List Int) (i : Nat) (h : i < l.length) : rd l (i : Int) = l[i] := by
  unfold rd; rw [Int.toNat_natCast, List.getD_eq_getElem?_getD, List.getElem?_eq_getElem h]; rfl
def put : List Int → Int → List Int
  | [], n => [n]
  | x :: xs, n => if x < n then x :: put xs n else if x = n then x :: xs else n :: x :: xs
theorem put_len (l : List Int) (n : Int) : (put l n).length ≤ l.length + 1 := by
  induction l with
  | nil => simp [put]
  | cons x xs ih => simp only [put]; repeat' split
                    all_goals simp only [List.length_cons]; omega
theorem put_mem (l : List Int) (n x : Int) : x ∈ put l n ↔ x = n ∨ x ∈ l := by
  induction l with
  | nil => simp [put]
  | cons y ys ih =>
    simp only [put]
    split
    · simp only [List.mem_cons, ih]; constructor <;> (rintro (h | h | h) <;> simp [h])
    · split
      · rename_i h; subst h; simp
      · simp
theorem put_sorted (l : List Int) (n : Int) (h : l.Pairwise (· < ·)) : (put l n).Pairwise (· < ·) := by
  induction l with
  | nil => simp [put]
  | cons y ys ih =>
    simp only [put]
    rw [List.pairwise_cons] at h
    split
    · rename_i hy
      rw [List.pairwise_cons]
      refine ⟨fun z hz => ?_, ih h.2⟩
      rcases (put_mem ys n z).1 hz with rfl | hz
      · exact hy
      · exact h.1 z hz
    · split
      · exact List.pairwise_cons.2 h
      · rename_i h1 h2
        rw [List.pairwise_cons]
        refine ⟨fun z hz => ?_, List.pairwise_cons.2 h⟩
        rcases List.mem_cons.1 hz with rfl | hz
        · omega
        · have := h.1 z hz; omega
theorem put_l0 (l : List Int) (n : Int) (hl : l.length ≤ 4000000) (d : Nat) : ∀ (i k : Nat), i + d = l.length → d < k → spec_l1Put.l0 k l n (i : Int) = some (l.take i ++ put (l.drop i) n) := by
  induction d with
  | zero =>
    intro i k hi hk
    obtain ⟨k, rfl⟩ : ∃ m, k = m + 1 := ⟨k - 1, by omega⟩
    simp only [spec_l1Put.l0, Option.bind_some]
    rw [if_neg (by omega), if_pos (by omega), if_pos (by omega), Int.toNat_natCast, List.take_of_length_le (by omega), List.drop_eq_nil_of_le (by omega)]
    rw [if_pos (by simp; omega), if_pos (by simp; omega), if_pos (by simp; omega)]
    simp [put]
  | succ d ih =>
    intro i k hi hk
    obtain ⟨k, rfl⟩ : ∃ m, k = m + 1 := ⟨k - 1, by omega⟩
    have hlt : i < l.length := by omega
    simp only [spec_l1Put.l0, Option.bind_some]
    rw [if_pos (by omega), if_pos (by omega), rdI_ l i hlt, List.drop_eq_getElem_cons hlt]
    simp only [put]
    by_cases h1 : l[i] < n
    · rw [if_pos h1, if_pos h1, w64 (x := (i : Int) + 1) (by omega) (by omega), show (i : Int) + 1 = ((i + 1 : Nat) : Int) by omega, ih (i + 1) k (by omega) (by omega), List.take_succ_eq_append_getElem hlt, List.append_assoc, List.singleton_append]
    · rw [if_neg h1, if_neg h1]
      by_cases h2 : l[i] = n
      · rw [if_pos h2, if_pos h2]
        congr 1
        rw [← List.drop_eq_getElem_cons hlt, List.take_append_drop]
      · rw [if_neg h2, if_neg h2, if_pos (by omega), Int.toNat_natCast]
        rw [if_pos (by simp; omega), if_pos (by simp; omega), if_pos (by simp; omega)]
        rw [← List.drop_eq_getElem_cons hlt]
        simp
theorem put_ (l : List Int) (n : Int) (hl : l.length ≤ 4000000) (k : Nat) (hk : l.length < k) : spec_l1Put.f k l n = some (put l n) := by
  unfold spec_l1Put.f
  have h := put_l0 l n hl l.length 0 k (by omega) hk
  rw [List.take_zero, List.drop_zero, List.nil_append] at h
  exact h
def puts (l : List Int) (ds : List Int) : List Int := ds.foldl put l
theorem puts_len (ds : List Int) : ∀ l : List Int, (puts l ds).length ≤ l.length + ds.length := by
  induction ds with
  | nil => intro l; simp [puts]
  | cons x xs ih => intro l; have h1 := put_len l x; have h2 := ih (put l x); simp only [puts, List.foldl_cons, List.length_cons] at h2 ⊢; omega
theorem puts_mem (ds : List Int) (x : Int) : ∀ l : List Int, x ∈ puts l ds ↔ x ∈ l ∨ x ∈ ds := by
  induction ds with
  | nil => intro l; simp [puts]
  | cons y ys ih =>
    intro l
    have h := ih (put l y)
    simp only [puts, List.foldl_cons] at h ⊢
    rw [h, put_mem, List.mem_cons]
    constructor
    · rintro ((h | h) | h) <;> simp [h]
    · rintro (h | h | h) <;> simp [h]
theorem puts_sorted (ds : List Int) : ∀ l : List Int, l.Pairwise (· < ·) → (puts l ds).Pairwise (· < ·) := by
  induction ds with
  | nil => intro l h; simpa [puts] using h
  | cons y ys ih => intro l h; exact ih (put l y) (put_sorted l y h)
theorem puts_app (l ds es : List Int) : puts l (ds ++ es) = puts (puts l ds) es := by simp [puts, List.foldl_append]

mutual
def dsC : S29 → List Int
  | ⟨a, _, c, l⟩ => (if a = 3 then [c] else []) ++ dsL l
def dsL : List S29 → List Int
  | [] => []
  | x :: xs => dsC x ++ dsL xs
end
theorem dsC_eq (c : S29) : dsC c = (if c.f0 = 3 then [c.f2] else []) ++ dsL c.f3 := by cases c; rfl
theorem dsL_len (l : List S29) (h : ∀ x ∈ l, (dsC x).length ≤ nC x) : (dsL l).length ≤ nL l := by
  induction l with
  | nil => simp [dsL]
  | cons y ys ih =>
    have h1 := h y List.mem_cons_self
    have h2 := ih (fun x hx => h x (List.mem_cons_of_mem _ hx))
    simp only [nL, dsL, List.length_append]; omega
theorem dsC_len (c : S29) : (dsC c).length ≤ nC c := by
  refine indC (P := fun c => (dsC c).length ≤ nC c) ?_ c
  intro c ih
  have := dsL_len c.f3 ih
  rw [dsC_eq, nC_eq, List.length_append]
  split <;> simp <;> omega
theorem dsL_sum (l : List S29) : (dsL l).length ≤ nL l := dsL_len l (fun x _ => dsC_len x)
theorem nL_drop (l : List S29) (i : Nat) : nL (l.drop i) ≤ nL l := by
  induction i generalizing l with
  | zero => simp
  | succ i ih => cases l with
    | nil => simp
    | cons x xs => have := ih xs; simp only [List.drop_succ_cons, nL]; omega
theorem addL_ (l : List S29) (hl : l.length ≤ 1048576) (h : ∀ x ∈ l, ∀ k acc, wC x + 5 ≤ k → acc.length + nC x ≤ 4000000 → impl_addDays.f k x.f0 x.f1 x.f2 x.f3 acc = some (acc ++ dsC x)) (d : Nat) :
    ∀ (i k : Nat) (acc : List Int), i + d = l.length → wL (l.drop i) + 5 ≤ k → acc.length + nL (l.drop i) ≤ 4000000 → impl_addDays.l0 k acc l (l.length : Int) (i : Int) = some (acc ++ dsL (l.drop i)) := by
  induction d with
  | zero =>
    intro i k acc hi hk hn
    obtain ⟨k, rfl⟩ : ∃ m, k = m + 1 := ⟨k - 1, by omega⟩
    simp only [impl_addDays.l0]
    rw [if_neg (by omega), List.drop_eq_nil_of_le (by omega)]
    simp [dsL]
  | succ d ih =>
    intro i k acc hi hk hn
    have hlt : i < l.length := by omega
    obtain ⟨k, rfl⟩ : ∃ m, k = m + 1 := ⟨k - 1, by omega⟩
    rw [dropC_ l i hlt] at hk hn ⊢
    simp only [wL] at hk
    simp only [nL] at hn
    have e_ : dsL (l[i] :: l.drop (i + 1)) = dsC l[i] ++ dsL (l.drop (i + 1)) := rfl
    have hd := dsC_len l[i]
    rw [e_]
    simp only [impl_addDays.l0]
    rw [if_pos (by omega), if_pos (by omega), if_pos (by omega), rdC_ l i hlt, h l[i] (List.getElem_mem hlt) k acc (by omega) (by omega), Option.bind_some]
    rw [w64 (x := (i : Int) + 1) (by omega) (by omega), show (i : Int) + 1 = ((i + 1 : Nat) : Int) by omega, ih (i + 1) k _ (by omega) (by omega) (by simp only [List.length_append]; omega)]
    simp
theorem addDays_ (c : S29) : tC c ≤ 1048576 → ∀ (k : Nat) (acc : List Int), wC c + 5 ≤ k → acc.length + nC c ≤ 4000000 → impl_addDays.f k c.f0 c.f1 c.f2 c.f3 acc = some (acc ++ dsC c) := by
  refine indC (P := fun c => tC c ≤ 1048576 → ∀ (k : Nat) (acc : List Int), wC c + 5 ≤ k → acc.length + nC c ≤ 4000000 → impl_addDays.f k c.f0 c.f1 c.f2 c.f3 acc = some (acc ++ dsC c)) ?_ c
  intro c ih ht k acc hk hn
  rw [wC_eq] at hk
  rw [tC_eq] at ht
  rw [nC_eq] at hn
  rw [dsC_eq]
  obtain ⟨k, rfl⟩ : ∃ m, k = m + 2 := ⟨k - 2, by omega⟩
  have hS := fun acc' (h' : acc'.length + nL c.f3 ≤ 4000000) => addL_ c.f3 (by omega) (fun x hx => ih x hx (by have := tL_mem hx; omega)) c.f3.length 0 k acc' (by omega) (by simp only [List.drop_zero]; omega) (by simp only [List.drop_zero]; omega)
  simp only [List.drop_zero] at hS
  simp only [impl_addDays.f]
  by_cases h3 : c.f0 = 3
  · rw [if_pos h3, if_pos (by omega), if_pos h3]
    simp only [impl_addDays.j0]
    have := hS (acc ++ [c.f2]) (by simp; omega)
    have h2 : impl_addDays.l0 k (acc ++ [c.f2]) c.f3 (c.f3.length : Int) 0 = _ := this
    rw [h2]; simp
  · rw [if_neg h3, if_neg h3]
    simp only [impl_addDays.j0]
    have h2 : impl_addDays.l0 k acc c.f3 (c.f3.length : Int) 0 = _ := hS acc (by omega)
    rw [h2]; simp
theorem daysL_ (l : List S29) (hl : l.length ≤ 1048576) (a : Int) (b : ByteArray) (c : Int) (h : ∀ x ∈ l, ∀ k acc, wC x + 4000100 ≤ k → acc.length + nC x ≤ 4000000 → spec_l5Days.f k acc x.f0 x.f1 x.f2 x.f3 = some (puts acc (dsC x))) (d : Nat) :
    ∀ (i k : Nat) (acc : List Int), i + d = l.length → wL (l.drop i) + 4000100 ≤ k → acc.length + nL (l.drop i) ≤ 4000000 → spec_l5Days.l0 k acc (i : Int) a b c l = some (puts acc (dsL (l.drop i))) := by
  induction d with
  | zero =>
    intro i k acc hi hk hn
    obtain ⟨k, rfl⟩ : ∃ m, k = m + 1 := ⟨k - 1, by omega⟩
    simp only [spec_l5Days.l0]
    rw [if_neg (by omega), List.drop_eq_nil_of_le (by omega)]
    simp [dsL, puts]
  | succ d ih =>
    intro i k acc hi hk hn
    have hlt : i < l.length := by omega
    obtain ⟨k, rfl⟩ : ∃ m, k = m + 1 := ⟨k - 1, by omega⟩
    rw [dropC_ l i hlt] at hk hn ⊢
    simp only [wL] at hk
    simp only [nL] at hn
    have e_ : dsL (l[i] :: l.drop (i + 1)) = dsC l[i] ++ dsL (l.drop (i + 1)) := rfl
    have hd := dsC_len l[i]
    have hp := puts_len (dsC l[i]) acc
    rw [e_, puts_app]
    simp only [spec_l5Days.l0]
    rw [if_pos (by omega), if_pos (by omega), rdC_ l i hlt, h l[i] (List.getElem_mem hlt) k acc (by omega) (by omega), Option.bind_some]
    rw [w64 (x := (i : Int) + 1) (by omega) (by omega), show (i : Int) + 1 = ((i + 1 : Nat) : Int) by omega, ih (i + 1) k _ (by omega) (by omega) (by omega)]
theorem l5Days_ (c : S29) : forms c = true → tC c ≤ 1048576 → ∀ (k : Nat) (acc : List Int), wC c + 4000100 ≤ k → acc.length + nC c ≤ 4000000 → spec_l5Days.f k acc c.f0 c.f1 c.f2 c.f3 = some (puts acc (dsC c)) := by
  refine indC (P := fun c => forms c = true → tC c ≤ 1048576 → ∀ (k : Nat) (acc : List Int), wC c + 4000100 ≤ k → acc.length + nC c ≤ 4000000 → spec_l5Days.f k acc c.f0 c.f1 c.f2 c.f3 = some (puts acc (dsC c))) ?_ c
  intro c ih hf ht k acc hk hn
  rw [wC_eq] at hk
  rw [tC_eq] at ht
  rw [nC_eq] at hn
  rw [forms_eq, Bool.and_eq_true] at hf
  rw [dsC_eq]
  obtain ⟨k, rfl⟩ : ∃ m, k = m + 1 := ⟨k - 1, by omega⟩
  simp only [spec_l5Days.f]
  by_cases h3 : c.f0 = 3
  · have hnil : c.f3 = [] := by
      rcases formB_cases hf.1 with ⟨h, e, _⟩ | ⟨h, e, _⟩ | ⟨h, e, _⟩ | ⟨h, _⟩ | ⟨h, _⟩ | ⟨h, _⟩ <;> first | exact e | omega
    rw [if_pos h3, put_ acc c.f2 (by omega) k (by omega), Option.bind_some, if_pos h3, hnil]
    simp [dsL, puts]
  · have hfl : ∀ x ∈ c.f3, forms x = true := by
      have := hf.2
      generalize c.f3 = l at this ⊢
      induction l with
      | nil => intro x hx; cases hx
      | cons y ys ih2 =>
        simp only [formsL, Bool.and_eq_true] at this
        intro x hx
        cases hx with
        | head => exact this.1
        | tail _ hx => exact ih2 this.2 x hx
    have hS := daysL_ c.f3 (by omega) c.f0 c.f1 c.f2 (fun x hx => ih x hx (hfl x hx) (by have := tL_mem hx; omega)) c.f3.length 0 k acc (by omega) (by simp only [List.drop_zero]; omega) (by simp only [List.drop_zero]; omega)
    rw [List.drop_zero] at hS
    have h2 : spec_l5Days.l0 k acc 0 c.f0 c.f1 c.f2 c.f3 = _ := hS
    rw [if_neg h3, if_neg h3, h2]; simp
/-- The days of a valid condition are days. -/
theorem dsC_day (c : S29) : forms c = true → ∀ x ∈ dsC c, 0 ≤ x ∧ x ≤ 36524 := by
  refine indC (P := fun c => forms c = true → ∀ x ∈ dsC c, 0 ≤ x ∧ x ≤ 36524) ?_ c
  intro c ih hf x hx
  rw [forms_eq, Bool.and_eq_true] at hf
  rw [dsC_eq, List.mem_append] at hx
  rcases hx with hx | hx
  · split at hx
    · rename_i h3
      rcases formB_cases hf.1 with ⟨h, e, _⟩ | ⟨h, e, _⟩ | ⟨h, e, _, h0, h1⟩ | ⟨h, _⟩ | ⟨h, _⟩ | ⟨h, _⟩ <;> first | omega | skip
      simp at hx; subst hx; exact ⟨h0, h1⟩
    · cases hx
  · have hL : ∀ l : List S29, formsL l = true → (∀ y ∈ l, forms y = true → ∀ x ∈ dsC y, 0 ≤ x ∧ x ≤ 36524) → ∀ x ∈ dsL l, 0 ≤ x ∧ x ≤ 36524 := by
      intro l
      induction l with
      | nil => intro _ _ x hx; cases hx
      | cons y ys ih2 =>
        intro h1 h2 x hx
        simp only [formsL, Bool.and_eq_true] at h1
        simp only [dsL, List.mem_append] at hx
        rcases hx with hx | hx
        · exact h2 y List.mem_cons_self h1.1 x hx
        · exact ih2 h1.2 (fun y hy => h2 y (List.mem_cons_of_mem _ hy)) x hx
    exact hL c.f3 hf.2 ih x hx

def ltB (a b : ByteArray) : Prop := Op.bytesLess a.toList b.toList = true
theorem ltB_irr (a : ByteArray) : ¬ ltB a a := by
  unfold ltB
  have h := Own.bless_total a.toList a.toList
  cases e : Op.bytesLess a.toList a.toList
  · simp
  · rw [e] at h; simp at h
theorem bl_trans (a : List UInt8) : ∀ b c : List UInt8, Op.bytesLess a b = true → Op.bytesLess b c = true → Op.bytesLess a c = true := by
  induction a with
  | nil => intro b c h1 h2; cases c with
    | nil => cases b <;> simp [Op.bytesLess] at h2
    | cons z zs => simp [Op.bytesLess]
  | cons x xs ih => intro b c h1 h2; cases b with
    | nil => simp [Op.bytesLess] at h1
    | cons y ys => cases c with
      | nil => simp [Op.bytesLess] at h2
      | cons z zs =>
        simp only [Op.bytesLess, Bool.or_eq_true, decide_eq_true_eq, Bool.and_eq_true, beq_iff_eq] at h1 h2 ⊢
        rcases h1 with h1 | ⟨rfl, h1⟩
        · rcases h2 with h2 | ⟨rfl, h2⟩
          · exact .inl (UInt8.lt_trans h1 h2)
          · exact .inl h1
        · rcases h2 with h2 | ⟨rfl, h2⟩
          · exact .inl h2
          · exact .inr ⟨rfl, ih _ _ h1 h2⟩
theorem ltB_trans {a b c : ByteArray} (h1 : ltB a b) (h2 : ltB b c) : ltB a c := bl_trans _ _ _ h1 h2
theorem ltB_asym {a b : ByteArray} (h1 : ltB a b) : ¬ ltB b a := fun h2 => ltB_irr a (ltB_trans h1 h2)
theorem ltB_tri (a b : ByteArray) (h : ¬ ltB a b) (hn : a.toList ≠ b.toList) : ltB b a := by
  unfold ltB at h ⊢
  have ht := Own.bless_total a.toList b.toList
  have h1 : Op.bytesLess a.toList b.toList = false := by simpa using h
  have h2 : (a.toList == b.toList) = false := by simpa using hn
  rw [h1, h2] at ht
  simpa using ht.symm
theorem strict_uniq {α : Type} {lt : α → α → Prop} (irr : ∀ a, ¬ lt a a) (asym : ∀ a b, lt a b → ¬ lt b a) (l : List α) : ∀ m : List α, l.Pairwise lt → m.Pairwise lt → (∀ x, x ∈ l ↔ x ∈ m) → l = m := by
  induction l with
  | nil => intro m _ _ h; cases m with
    | nil => rfl
    | cons y ys => exact absurd ((h y).2 List.mem_cons_self) (by simp)
  | cons x xs ih => intro m hl hm h; cases m with
    | nil => exact absurd ((h x).1 List.mem_cons_self) (by simp)
    | cons y ys =>
      rw [List.pairwise_cons] at hl hm
      have hxy : x = y := by
        rcases List.mem_cons.1 ((h x).1 List.mem_cons_self) with e | e
        · exact e
        · rcases List.mem_cons.1 ((h y).2 List.mem_cons_self) with e' | e'
          · exact e'.symm
          · exact absurd (hm.1 x e) (asym _ _ (hl.1 y e'))
      subst hxy
      congr 1
      refine ih ys hl.2 hm.2 (fun z => ?_)
      constructor
      · intro hz
        rcases List.mem_cons.1 ((h z).1 (List.mem_cons_of_mem _ hz)) with e | e
        · subst e; exact absurd (hl.1 z hz) (irr z)
        · exact e
      · intro hz
        rcases List.mem_cons.1 ((h z).2 (List.mem_cons_of_mem _ hz)) with e | e
        · subst e; exact absurd (hm.1 z hz) (irr z)
        · exact e
def putB : List ByteArray → ByteArray → List ByteArray
  | [], n => [n]
  | x :: xs, n => if Op.bytesLess x.toList n.toList = true then x :: putB xs n else if x.toList = n.toList then x :: xs else n :: x :: xs
theorem putB_len (l : List ByteArray) (n : ByteArray) : (putB l n).length ≤ l.length + 1 := by
  induction l with
  | nil => simp [putB]
  | cons x xs ih => simp only [putB]; repeat' split
                    all_goals simp only [List.length_cons]; omega
theorem putB_mem (l : List ByteArray) (n x : ByteArray) : x ∈ putB l n ↔ x = n ∨ x ∈ l := by
  induction l with
  | nil => simp [putB]
  | cons y ys ih =>
    simp only [putB]
    split
    · simp only [List.mem_cons, ih]; constructor <;> (rintro (h | h | h) <;> simp [h])
    · split
      · rename_i h; have := toList_inj h; subst this; simp
      · simp
theorem putB_sorted (l : List ByteArray) (n : ByteArray) (h : l.Pairwise ltB) : (putB l n).Pairwise ltB := by
  induction l with
  | nil => simp [putB]
  | cons y ys ih =>
    simp only [putB]
    rw [List.pairwise_cons] at h
    split
    · rename_i hy
      rw [List.pairwise_cons]
      refine ⟨fun z hz => ?_, ih h.2⟩
      rcases (putB_mem ys n z).1 hz with rfl | hz
      · exact hy
      · exact h.1 z hz
    · split
      · exact List.pairwise_cons.2 h
      · rename_i h1 h2
        have hny : ltB n y := ltB_tri y n h1 h2
        rw [List.pairwise_cons]
        refine ⟨fun z hz => ?_, List.pairwise_cons.2 h⟩
        rcases List.mem_cons.1 hz with rfl | hz
        · exact hny
        · exact ltB_trans hny (h.1 z hz)
theorem putB_l0 (l : List ByteArray) (n : ByteArray) (hl : l.length ≤ 4000000) (d : Nat) : ∀ (i k : Nat), i + d = l.length → d < k → spec_l5Put.l0 k l n (i : Int) = some (l.take i ++ putB (l.drop i) n) := by
  induction d with
  | zero =>
    intro i k hi hk
    obtain ⟨k, rfl⟩ : ∃ m, k = m + 1 := ⟨k - 1, by omega⟩
    simp only [spec_l5Put.l0, Option.bind_some]
    rw [if_neg (by omega), if_pos (by omega), if_pos (by omega), Int.toNat_natCast, List.take_of_length_le (by omega), List.drop_eq_nil_of_le (by omega)]
    rw [if_pos (by simp; omega), if_pos (by simp; omega), if_pos (by simp; omega)]
    simp [putB]
  | succ d ih =>
    intro i k hi hk
    obtain ⟨k, rfl⟩ : ∃ m, k = m + 1 := ⟨k - 1, by omega⟩
    have hlt : i < l.length := by omega
    simp only [spec_l5Put.l0, Option.bind_some]
    rw [if_pos (by omega), if_pos (by omega), rdOf_nat l i hlt, List.drop_eq_getElem_cons hlt]
    simp only [putB]
    by_cases h1 : Op.bytesLess l[i].toList n.toList = true
    · rw [if_pos h1, if_pos h1, w64 (x := (i : Int) + 1) (by omega) (by omega), show (i : Int) + 1 = ((i + 1 : Nat) : Int) by omega, ih (i + 1) k (by omega) (by omega), List.take_succ_eq_append_getElem hlt, List.append_assoc, List.singleton_append]
    · rw [if_neg h1, if_neg h1]
      by_cases h2 : l[i].toList = n.toList
      · rw [if_pos h2, if_pos h2]
        congr 1
        rw [← List.drop_eq_getElem_cons hlt, List.take_append_drop]
      · rw [if_neg h2, if_neg h2, if_pos (by omega), Int.toNat_natCast]
        rw [if_pos (by simp; omega), if_pos (by simp; omega), if_pos (by simp; omega)]
        rw [← List.drop_eq_getElem_cons hlt]
        simp
theorem putB_ (l : List ByteArray) (n : ByteArray) (hl : l.length ≤ 4000000) (k : Nat) (hk : l.length < k) : spec_l5Put.f k l n = some (putB l n) := by
  unfold spec_l5Put.f
  have h := putB_l0 l n hl l.length 0 k (by omega) hk
  rw [List.take_zero, List.drop_zero, List.nil_append] at h
  exact h
def putsB (l : List ByteArray) (ds : List ByteArray) : List ByteArray := ds.foldl putB l
theorem putsB_len (ds : List ByteArray) : ∀ l : List ByteArray, (putsB l ds).length ≤ l.length + ds.length := by
  induction ds with
  | nil => intro l; simp [putsB]
  | cons x xs ih => intro l; have h1 := putB_len l x; have h2 := ih (putB l x); simp only [putsB, List.foldl_cons, List.length_cons] at h2 ⊢; omega
theorem putsB_mem (ds : List ByteArray) (x : ByteArray) : ∀ l : List ByteArray, x ∈ putsB l ds ↔ x ∈ l ∨ x ∈ ds := by
  induction ds with
  | nil => intro l; simp [putsB]
  | cons y ys ih =>
    intro l
    have h := ih (putB l y)
    simp only [putsB, List.foldl_cons] at h ⊢
    rw [h, putB_mem, List.mem_cons]
    constructor
    · rintro ((h | h) | h) <;> simp [h]
    · rintro (h | h | h) <;> simp [h]
theorem putsB_sorted (ds : List ByteArray) : ∀ l : List ByteArray, l.Pairwise ltB → (putsB l ds).Pairwise ltB := by
  induction ds with
  | nil => intro l h; simpa [putsB] using h
  | cons y ys ih => intro l h; exact ih (putB l y) (putB_sorted l y h)
theorem putsB_app (l ds es : List ByteArray) : putsB l (ds ++ es) = putsB (putsB l ds) es := by simp [putsB, List.foldl_append]
/-! The library's sort and compaction: the same list. -/
theorem bl_lt : ∀ (x y : List UInt8), Op.bytesLess x y = decide (x < y)
  | [], [] => by simp [Op.bytesLess]
  | _ :: _, [] => by simp [Op.bytesLess]
  | [], _ :: _ => by simp [Op.bytesLess]
  | a :: x, b :: y => by
    rw [Op.bytesLess, bl_lt x y]
    simp only [List.cons_lt_cons_iff]
    by_cases h1 : a < b <;> by_cases h2 : a = b <;> by_cases h3 : x < y <;> simp [h1, h2, h3]
theorem le_iff (x y : List UInt8) : decide (x ≤ y) = !(Op.bytesLess y x) := by
  rw [bl_lt]
  apply Bool.eq_iff_iff.2
  rw [decide_eq_true_iff, Bool.not_eq_true', decide_eq_false_iff_not, List.not_lt]
def leB (x y : List UInt8) : Bool := !(Op.bytesLess y x)
theorem leB_trans (a b c : List UInt8) (h1 : leB a b = true) (h2 : leB b c = true) : leB a c = true := by
  unfold leB at *
  cases e : Op.bytesLess c a
  · rfl
  · exfalso
    have t := Own.bless_total a b
    have h1' : Op.bytesLess b a = false := by simpa using h1
    have h2' : Op.bytesLess c b = false := by simpa using h2
    rw [h1'] at t
    simp only [Bool.not_false, Bool.or_eq_true, beq_iff_eq] at t
    rcases t with t | rfl
    · have := bl_trans c a b e t; rw [h2'] at this; cases this
    · rw [e] at h2'; cases h2'
theorem leB_total (a b : List UInt8) : (leB a b || leB b a) = true := by
  unfold leB
  have t := Own.bless_total a b
  cases e1 : Op.bytesLess b a
  · simp
  · cases e2 : Op.bytesLess a b
    · simp
    · exfalso; have := bl_trans a b a e2 e1
      have t2 := Own.bless_total a a
      rw [this] at t2; simp at t2
theorem upTo_props (d : Array (List UInt8)) (hs : ∀ i j, i < j → j < d.size → leB d[i]! d[j]! = true) (m : Nat) (hm : m ≤ d.size) :
    (Lib.compactUpTo d m).Pairwise (fun x y => Op.bytesLess x y = true) ∧ (∀ x, x ∈ Lib.compactUpTo d m ↔ ∃ j, j < m ∧ d[j]! = x) := by
  induction m with
  | zero => exact ⟨by simp [Lib.compactUpTo], fun x => by simp [Lib.compactUpTo]⟩
  | succ m ih =>
    obtain ⟨h1, h2⟩ := ih (by omega)
    rw [Lib.compactUpTo_succ]
    by_cases hk : Lib.keeps d m = true
    · rw [if_pos hk]
      refine ⟨?_, fun x => ?_⟩
      · rw [List.pairwise_append]
        refine ⟨h1, by simp, fun x hx y hy => ?_⟩
        obtain ⟨j, hj, rfl⟩ := (h2 x).1 hx
        have hy' : y = d[m]! := by simpa using hy
        subst hy'
        have hm0 : m ≠ 0 := by omega
        have hne : d[m]! ≠ d[m - 1]! := by
          unfold Lib.keeps at hk
          have := of_decide_eq_true hk
          rcases this with h | h
          · exact absurd h hm0
          · exact h
        have l1 : leB d[j]! d[m - 1]! = true := by
          by_cases e : j = m - 1
          · subst e; have := leB_total d[m - 1]! d[m - 1]!; simpa using this
          · exact hs j (m - 1) (by omega) (by omega)
        have l2 : leB d[m - 1]! d[m]! = true := hs (m - 1) m (by omega) (by omega)
        have t := Own.bless_total d[j]! d[m]!
        have l3 := leB_trans _ _ _ l1 l2
        have l3' : Op.bytesLess d[m]! d[j]! = false := by unfold leB at l3; simpa using l3
        rw [l3'] at t
        simp only [Bool.not_false, Bool.or_eq_true, beq_iff_eq] at t
        rcases t with t | t
        · exact t
        · exfalso
          rw [t] at l1
          have t2 := Own.bless_total d[m]! d[m - 1]!
          have a1 : Op.bytesLess d[m - 1]! d[m]! = false := by unfold leB at l1; simpa using l1
          have a2 : Op.bytesLess d[m]! d[m - 1]! = false := by unfold leB at l2; simpa using l2
          rw [a1, a2] at t2
          simp only [Bool.not_false, Bool.false_or, beq_iff_eq] at t2
          exact hne t2
      · rw [List.mem_append, h2]
        constructor
        · rintro (⟨j, hj, e⟩ | h)
          · exact ⟨j, by omega, e⟩
          · exact ⟨m, by omega, (List.mem_singleton.1 h).symm⟩
        · rintro ⟨j, hj, e⟩
          by_cases ej : j = m
          · subst ej; exact .inr (by simp [e])
          · exact .inl ⟨j, by omega, e⟩
    · rw [if_neg hk, List.append_nil]
      refine ⟨h1, fun x => ?_⟩
      rw [h2]
      constructor
      · rintro ⟨j, hj, e⟩; exact ⟨j, by omega, e⟩
      · rintro ⟨j, hj, e⟩
        by_cases ej : j = m
        · subst ej
          have hk' : ¬ (j = 0 ∨ d[j]! ≠ d[j - 1]!) := by unfold Lib.keeps at hk; simpa using hk
          have hj0 : j ≠ 0 := fun h => hk' (.inl h)
          have : d[j]! = d[j - 1]! := Classical.byContradiction fun h => hk' (.inr h)
          exact ⟨j - 1, by omega, by rw [← this]; exact e⟩
        · exact ⟨j, by omega, e⟩
theorem sortedL_props (l : List ByteArray) : (Own.ofBytes (Own.sortedL l)).Pairwise ltB ∧ ∀ x, x ∈ Own.ofBytes (Own.sortedL l) ↔ x ∈ l := by
  unfold Own.sortedL Own.ofBytes Own.bytesOf
  have hle : (fun x y : List UInt8 => decide (x ≤ y)) = leB := by funext x y; exact le_iff x y
  rw [hle]
  generalize hz : (l.map fun x => x.data.toList).mergeSort leB = zs
  have hsort : zs.Pairwise (fun x y => leB x y = true) := by rw [← hz]; exact List.pairwise_mergeSort leB_trans leB_total _
  have hmem : ∀ y, y ∈ zs ↔ ∃ x ∈ l, x.data.toList = y := by intro y; rw [← hz, List.mem_mergeSort]; simp
  have hidx : ∀ i j, i < j → j < zs.toArray.size → leB zs.toArray[i]! zs.toArray[j]! = true := by
    intro i j hij hj
    have hj' : j < zs.length := by simpa using hj
    have h := List.pairwise_iff_getElem.1 hsort i j (by omega) hj' hij
    simpa [getElem!_pos, hj', show i < zs.length by omega] using h
  obtain ⟨h1, h2⟩ := upTo_props zs.toArray hidx zs.length (by simp)
  refine ⟨?_, fun x => ?_⟩
  · rw [List.pairwise_map]
    refine List.Pairwise.imp ?_ h1
    intro a b h
    unfold ltB
    rw [ByteArray.toList_eq, ByteArray.toList_eq]
    exact h
  · rw [List.mem_map]
    constructor
    · rintro ⟨y, hy, rfl⟩
      obtain ⟨j, hj, e⟩ := (h2 y).1 hy
      have : y ∈ zs := by
        rw [← e]
        have : zs.toArray[j]! = zs[j] := by simp [getElem!_pos, hj]
        rw [this]; exact List.getElem_mem hj
      obtain ⟨x, hx, ex⟩ := (hmem y).1 this
      rw [← ex]; exact hx
    · intro hx
      refine ⟨x.data.toList, (h2 _).2 ?_, rfl⟩
      have : x.data.toList ∈ zs := (hmem _).2 ⟨x, hx, rfl⟩
      obtain ⟨j, hj, e⟩ := List.mem_iff_getElem.1 this
      exact ⟨j, hj, by simp [getElem!_pos, hj, e]⟩
theorem sorted_puts (l : List ByteArray) : Own.ofBytes (Own.sortedL l) = putsB [] l := by
  obtain ⟨h1, h2⟩ := sortedL_props l
  refine strict_uniq ltB_irr (fun a b h => ltB_asym h) _ _ h1 (putsB_sorted l [] .nil) (fun x => ?_)
  rw [h2, putsB_mem]; simp
theorem sorted_ (l : List ByteArray) (hl : l.length ≤ 4000000) : impl_sorted.f l = some (putsB [] l) := by
  unfold impl_sorted.f Own.sortedF
  rw [if_pos (by omega), sorted_puts]

mutual
def nsC : S29 → List ByteArray
  | ⟨a, b, _, l⟩ => (if a = 2 then [b] else []) ++ nsL l
def nsL : List S29 → List ByteArray
  | [] => []
  | x :: xs => nsC x ++ nsL xs
end
theorem nsC_eq (c : S29) : nsC c = (if c.f0 = 2 then [c.f1] else []) ++ nsL c.f3 := by cases c; rfl
theorem nsL_len (l : List S29) (h : ∀ x ∈ l, (nsC x).length ≤ nC x) : (nsL l).length ≤ nL l := by
  induction l with
  | nil => simp [nsL]
  | cons y ys ih =>
    have h1 := h y List.mem_cons_self
    have h2 := ih (fun x hx => h x (List.mem_cons_of_mem _ hx))
    simp only [nL, nsL, List.length_append]; omega
theorem nsC_len (c : S29) : (nsC c).length ≤ nC c := by
  refine indC (P := fun c => (nsC c).length ≤ nC c) ?_ c
  intro c ih
  have := nsL_len c.f3 ih
  rw [nsC_eq, nC_eq, List.length_append]
  split <;> simp <;> omega
theorem addNL_ (l : List S29) (hl : l.length ≤ 1048576) (h : ∀ x ∈ l, ∀ k acc, wC x + 5 ≤ k → acc.length + nC x ≤ 4000000 → impl_addNames.f k x.f0 x.f1 x.f2 x.f3 acc = some (acc ++ nsC x)) (d : Nat) :
    ∀ (i k : Nat) (acc : List ByteArray), i + d = l.length → wL (l.drop i) + 5 ≤ k → acc.length + nL (l.drop i) ≤ 4000000 → impl_addNames.l0 k acc l (l.length : Int) (i : Int) = some (acc ++ nsL (l.drop i)) := by
  induction d with
  | zero =>
    intro i k acc hi hk hn
    obtain ⟨k, rfl⟩ : ∃ m, k = m + 1 := ⟨k - 1, by omega⟩
    simp only [impl_addNames.l0]
    rw [if_neg (by omega), List.drop_eq_nil_of_le (by omega)]
    simp [nsL]
  | succ d ih =>
    intro i k acc hi hk hn
    have hlt : i < l.length := by omega
    obtain ⟨k, rfl⟩ : ∃ m, k = m + 1 := ⟨k - 1, by omega⟩
    rw [dropC_ l i hlt] at hk hn ⊢
    simp only [wL] at hk
    simp only [nL] at hn
    have e_ : nsL (l[i] :: l.drop (i + 1)) = nsC l[i] ++ nsL (l.drop (i + 1)) := rfl
    have hd := nsC_len l[i]
    rw [e_]
    simp only [impl_addNames.l0]
    rw [if_pos (by omega), if_pos (by omega), if_pos (by omega), rdC_ l i hlt, h l[i] (List.getElem_mem hlt) k acc (by omega) (by omega), Option.bind_some]
    rw [w64 (x := (i : Int) + 1) (by omega) (by omega), show (i : Int) + 1 = ((i + 1 : Nat) : Int) by omega, ih (i + 1) k _ (by omega) (by omega) (by simp only [List.length_append]; omega)]
    simp
theorem addNames_ (c : S29) : tC c ≤ 1048576 → ∀ (k : Nat) (acc : List ByteArray), wC c + 5 ≤ k → acc.length + nC c ≤ 4000000 → impl_addNames.f k c.f0 c.f1 c.f2 c.f3 acc = some (acc ++ nsC c) := by
  refine indC (P := fun c => tC c ≤ 1048576 → ∀ (k : Nat) (acc : List ByteArray), wC c + 5 ≤ k → acc.length + nC c ≤ 4000000 → impl_addNames.f k c.f0 c.f1 c.f2 c.f3 acc = some (acc ++ nsC c)) ?_ c
  intro c ih ht k acc hk hn
  rw [wC_eq] at hk
  rw [tC_eq] at ht
  rw [nC_eq] at hn
  rw [nsC_eq]
  obtain ⟨k, rfl⟩ : ∃ m, k = m + 2 := ⟨k - 2, by omega⟩
  have hS := fun acc' (h' : acc'.length + nL c.f3 ≤ 4000000) => addNL_ c.f3 (by omega) (fun x hx => ih x hx (by have := tL_mem hx; omega)) c.f3.length 0 k acc' (by omega) (by simp only [List.drop_zero]; omega) (by simp only [List.drop_zero]; omega)
  simp only [List.drop_zero] at hS
  simp only [impl_addNames.f]
  by_cases h3 : c.f0 = 2
  · rw [if_pos h3, if_pos (by omega), if_pos h3]
    simp only [impl_addNames.j0]
    have := hS (acc ++ [c.f1]) (by simp; omega)
    have h2 : impl_addNames.l0 k (acc ++ [c.f1]) c.f3 (c.f3.length : Int) 0 = _ := this
    rw [h2]; simp
  · rw [if_neg h3, if_neg h3]
    simp only [impl_addNames.j0]
    have h2 : impl_addNames.l0 k acc c.f3 (c.f3.length : Int) 0 = _ := hS acc (by omega)
    rw [h2]; simp
theorem namesL_ (l : List S29) (hl : l.length ≤ 1048576) (a : Int) (b : ByteArray) (c : Int) (h : ∀ x ∈ l, ∀ k acc, wC x + 4000100 ≤ k → acc.length + nC x ≤ 4000000 → spec_l5Names.f k acc x.f0 x.f1 x.f2 x.f3 = some (putsB acc (nsC x))) (d : Nat) :
    ∀ (i k : Nat) (acc : List ByteArray), i + d = l.length → wL (l.drop i) + 4000100 ≤ k → acc.length + nL (l.drop i) ≤ 4000000 → spec_l5Names.l0 k acc (i : Int) a b c l = some (putsB acc (nsL (l.drop i))) := by
  induction d with
  | zero =>
    intro i k acc hi hk hn
    obtain ⟨k, rfl⟩ : ∃ m, k = m + 1 := ⟨k - 1, by omega⟩
    simp only [spec_l5Names.l0]
    rw [if_neg (by omega), List.drop_eq_nil_of_le (by omega)]
    simp [nsL, putsB]
  | succ d ih =>
    intro i k acc hi hk hn
    have hlt : i < l.length := by omega
    obtain ⟨k, rfl⟩ : ∃ m, k = m + 1 := ⟨k - 1, by omega⟩
    rw [dropC_ l i hlt] at hk hn ⊢
    simp only [wL] at hk
    simp only [nL] at hn
    have e_ : nsL (l[i] :: l.drop (i + 1)) = nsC l[i] ++ nsL (l.drop (i + 1)) := rfl
    have hd := nsC_len l[i]
    have hp := putsB_len (nsC l[i]) acc
    rw [e_, putsB_app]
    simp only [spec_l5Names.l0]
    rw [if_pos (by omega), if_pos (by omega), rdC_ l i hlt, h l[i] (List.getElem_mem hlt) k acc (by omega) (by omega), Option.bind_some]
    rw [w64 (x := (i : Int) + 1) (by omega) (by omega), show (i : Int) + 1 = ((i + 1 : Nat) : Int) by omega, ih (i + 1) k _ (by omega) (by omega) (by omega)]
theorem l5Names_ (c : S29) : forms c = true → tC c ≤ 1048576 → ∀ (k : Nat) (acc : List ByteArray), wC c + 4000100 ≤ k → acc.length + nC c ≤ 4000000 → spec_l5Names.f k acc c.f0 c.f1 c.f2 c.f3 = some (putsB acc (nsC c)) := by
  refine indC (P := fun c => forms c = true → tC c ≤ 1048576 → ∀ (k : Nat) (acc : List ByteArray), wC c + 4000100 ≤ k → acc.length + nC c ≤ 4000000 → spec_l5Names.f k acc c.f0 c.f1 c.f2 c.f3 = some (putsB acc (nsC c))) ?_ c
  intro c ih hf ht k acc hk hn
  rw [wC_eq] at hk
  rw [tC_eq] at ht
  rw [nC_eq] at hn
  rw [forms_eq, Bool.and_eq_true] at hf
  rw [nsC_eq]
  obtain ⟨k, rfl⟩ : ∃ m, k = m + 1 := ⟨k - 1, by omega⟩
  simp only [spec_l5Names.f]
  by_cases h3 : c.f0 = 2
  · have hnil : c.f3 = [] := by
      rcases formB_cases hf.1 with ⟨h, e, _⟩ | ⟨h, e, _⟩ | ⟨h, e, _⟩ | ⟨h, _⟩ | ⟨h, _⟩ | ⟨h, _⟩ <;> first | exact e | omega
    rw [if_pos h3, putB_ acc c.f1 (by omega) k (by omega), Option.bind_some, if_pos h3, hnil]
    simp [nsL, putsB]
  · have hfl : ∀ x ∈ c.f3, forms x = true := by
      have := hf.2
      generalize c.f3 = l at this ⊢
      induction l with
      | nil => intro x hx; cases hx
      | cons y ys ih2 =>
        simp only [formsL, Bool.and_eq_true] at this
        intro x hx
        cases hx with
        | head => exact this.1
        | tail _ hx => exact ih2 this.2 x hx
    have hS := namesL_ c.f3 (by omega) c.f0 c.f1 c.f2 (fun x hx => ih x hx (hfl x hx) (by have := tL_mem hx; omega)) c.f3.length 0 k acc (by omega) (by simp only [List.drop_zero]; omega) (by simp only [List.drop_zero]; omega)
    rw [List.drop_zero] at hS
    have h2 : spec_l5Names.l0 k acc 0 c.f0 c.f1 c.f2 c.f3 = _ := hS
    rw [if_neg h3, if_neg h3, h2]; simp

/-! What both compute. -/
abbrev bitIs (m i : Int) : Prop := Go.bits .and .i64 (shr .i64 m i) 1 = 1
def subR (l : List ByteArray) (m : Int) : Nat → Nat → List ByteArray
  | _, 0 => []
  | i, d + 1 => (if bitIs m (i : Int) then [l.getD i ByteArray.empty] else []) ++ subR l m (i + 1) d
theorem subR_len (l : List ByteArray) (m : Int) (d : Nat) : ∀ i, (subR l m i d).length ≤ d := by
  induction d with
  | zero => intro i; simp [subR]
  | succ d ih => intro i; have := ih (i + 1); simp only [subR, List.length_append]; split <;> simp <;> omega
def sub (l : List ByteArray) (m : Int) : List ByteArray := subR l m 0 l.length
def allD (a b : S29) (fs : List ByteArray) (ds : List Int) : Bool := ds.all fun d => !(ev a fs d) || ev b fs d
def allM (a b : S29) (l : List ByteArray) (ds : List Int) : Nat → Nat → Bool
  | _, 0 => true
  | m, d + 1 => allD a b (sub l (m : Int)) ds && allM a b l ds (m + 1) d
theorem allD_mem {a b : S29} {fs : List ByteArray} {ds es : List Int} (h : ∀ x, x ∈ ds ↔ x ∈ es) : allD a b fs ds = allD a b fs es := by
  unfold allD
  apply Bool.eq_iff_iff.2
  rw [List.all_eq_true, List.all_eq_true]
  exact ⟨fun H x hx => H x ((h x).2 hx), fun H x hx => H x ((h x).1 hx)⟩
theorem allM_mem {a b : S29} {l : List ByteArray} {ds es : List Int} (h : ∀ x, x ∈ ds ↔ x ∈ es) (d : Nat) : ∀ m, allM a b l ds m d = allM a b l es m d := by
  induction d with
  | zero => intro m; rfl
  | succ d ih => intro m; simp only [allM]; rw [allD_mem h, ih]
theorem subS_ (l : List ByteArray) (m : Int) (hl : l.length ≤ 1000) (d : Nat) : ∀ (i k : Nat) (acc : List ByteArray), i + d = l.length → d < k → acc.length ≤ i → spec_l5Subset.l0 k l m acc (i : Int) = some (acc ++ subR l m i d) := by
  induction d with
  | zero =>
    intro i k acc hi hk ha
    obtain ⟨k, rfl⟩ : ∃ m, k = m + 1 := ⟨k - 1, by omega⟩
    simp only [spec_l5Subset.l0, subR, List.append_nil]; rw [if_neg (by omega)]
  | succ d ih =>
    intro i k acc hi hk ha
    obtain ⟨k, rfl⟩ : ∃ m, k = m + 1 := ⟨k - 1, by omega⟩
    have hw : IntKind.u64.wrap (i : Int) = (i : Int) := by
      unfold IntKind.wrap; simp [IntKind.signed, IntKind.bits]; omega
    simp only [spec_l5Subset.l0, subR]
    rw [if_pos (by omega), hw, if_pos (by omega), w64 (x := (i : Int) + 1) (by omega) (by omega), show (i : Int) + 1 = ((i + 1 : Nat) : Int) by omega]
    by_cases hb : bitIs m (i : Int)
    · rw [if_pos hb, if_pos hb, if_pos (by omega), if_pos (by omega), ih (i + 1) k _ (by omega) (by omega) (by simp; omega)]
      have : rdOf ByteArray.empty l (i : Int) = l.getD i ByteArray.empty := by unfold rdOf; rw [Int.toNat_natCast]
      rw [this, List.append_assoc]
    · rw [if_neg hb, if_neg hb, ih (i + 1) k _ (by omega) (by omega) (by omega)]; rfl
theorem l1S_ (a b : S29) (l : List ByteArray) (ds : List Int) (m : Int) (fs : List ByteArray) (hfs : fs.length ≤ 1000) (hds : ds.length ≤ 4000000) (ha : forms a = true) (hb : forms b = true) (K : Nat) (T : Bool)
    (hK : wC a + wC b + 1200 ≤ K) (hT : ∀ k, K ≤ k → spec_l5Implies.l0 k l ds (wrap64 (m + 1)) a.f0 a.f1 a.f2 a.f3 b.f0 b.f1 b.f2 b.f3 = some T) (d : Nat) :
    ∀ (i k : Nat), i + d = ds.length → d + K + 1 ≤ k → spec_l5Implies.l1 k l ds m fs (i : Int) a.f0 a.f1 a.f2 a.f3 b.f0 b.f1 b.f2 b.f3 = some (allD a b fs (ds.drop i) && T) := by
  induction d with
  | zero =>
    intro i k hi hk
    obtain ⟨k, rfl⟩ : ∃ m, k = m + 1 := ⟨k - 1, by omega⟩
    simp only [spec_l5Implies.l1]
    rw [if_neg (by omega), hT k (by omega), List.drop_eq_nil_of_le (by omega)]; rfl
  | succ d ih =>
    intro i k hi hk
    obtain ⟨k, rfl⟩ : ∃ m, k = m + 1 := ⟨k - 1, by omega⟩
    have hlt : i < ds.length := by omega
    simp only [spec_l5Implies.l1]
    rw [if_pos (by omega), if_pos (by omega), rdI_ ds i hlt, (ev_ a fs ds[i] (by omega) ha k (by omega)).1, (ev_ b fs ds[i] (by omega) hb k (by omega)).1, Option.bind_some, Option.bind_some, w64 (x := (i : Int) + 1) (by omega) (by omega), show (i : Int) + 1 = ((i + 1 : Nat) : Int) by omega, ih (i + 1) k (by omega) (by omega), List.drop_eq_getElem_cons hlt]
    have e : allD a b fs (ds[i] :: ds.drop (i + 1)) = ((!(ev a fs ds[i]) || ev b fs ds[i]) && allD a b fs (ds.drop (i + 1))) := by unfold allD; rw [List.all_cons]
    rw [e]
    cases ev a fs ds[i] <;> cases ev b fs ds[i] <;> simp
theorem shl_ (n : Nat) (h : n ≤ 10) : shl .i64 1 (n : Int) = ((2 ^ n : Nat) : Int) := by
  have : n = 0 ∨ n = 1 ∨ n = 2 ∨ n = 3 ∨ n = 4 ∨ n = 5 ∨ n = 6 ∨ n = 7 ∨ n = 8 ∨ n = 9 ∨ n = 10 := by omega
  rcases this with rfl | rfl | rfl | rfl | rfl | rfl | rfl | rfl | rfl | rfl | rfl <;> decide
theorem l0S_ (a b : S29) (l : List ByteArray) (ds : List Int) (hl : l.length ≤ 10) (hds : ds.length ≤ 4000000) (ha : forms a = true) (hb : forms b = true) (d : Nat) :
    ∀ (m k : Nat), m + d = 2 ^ l.length → d * (ds.length + 20) + wC a + wC b + 1300 ≤ k → spec_l5Implies.l0 k l ds (m : Int) a.f0 a.f1 a.f2 a.f3 b.f0 b.f1 b.f2 b.f3 = some (allM a b l ds m d) := by
  have hw : IntKind.u64.wrap (l.length : Int) = (l.length : Int) := by
    unfold IntKind.wrap; simp [IntKind.signed, IntKind.bits]; omega
  have hp : 2 ^ l.length ≤ 1024 := Nat.le_trans (Nat.pow_le_pow_right (by omega) hl) (by decide)
  induction d with
  | zero =>
    intro m k hi hk
    obtain ⟨k, rfl⟩ : ∃ m, k = m + 1 := ⟨k - 1, by omega⟩
    simp only [spec_l5Implies.l0, hw, shl_ l.length hl]
    rw [if_pos (by omega), if_neg (by omega)]; rfl
  | succ d ih =>
    intro m k hi hk
    rw [Nat.add_mul, Nat.one_mul] at hk
    obtain ⟨k, rfl⟩ : ∃ m, k = m + 1 := ⟨k - 1, by omega⟩
    simp only [spec_l5Implies.l0, hw, shl_ l.length hl]
    have hS := subS_ l (m : Int) (by omega) l.length 0 k [] (by omega) (by omega) (by simp)
    have hS' : spec_l5Subset.f k l (m : Int) = some (sub l (m : Int)) := by unfold spec_l5Subset.f sub; exact hS
    have hsl := subR_len l (m : Int) l.length 0
    rw [if_pos (by omega), if_pos (by omega), hS', Option.bind_some]
    obtain ⟨C, hC⟩ : ∃ C, C = d * (ds.length + 20) + wC a + wC b + 1300 := ⟨_, rfl⟩
    have h1 := l1S_ a b l ds (m : Int) (sub l (m : Int)) (by unfold sub; omega) hds ha hb C (allM a b l ds (m + 1) d) (by omega)
      (fun k' hk' => by rw [w64 (x := (m : Int) + 1) (by omega) (by omega), show (m : Int) + 1 = ((m + 1 : Nat) : Int) by omega]; exact ih (m + 1) k' (by omega) (by omega)) ds.length 0 k (by omega) (by omega)
    rw [List.drop_zero] at h1
    have h1' : spec_l5Implies.l1 k l ds (m : Int) (sub l (m : Int)) 0 a.f0 a.f1 a.f2 a.f3 b.f0 b.f1 b.f2 b.f3 = _ := h1
    rw [h1']; rfl
theorem l2I_ (a b : S29) (l : List ByteArray) (ds : List Int) (N m : Int) (fs : List ByteArray) (hfs : fs.length ≤ 1000) (hds : ds.length ≤ 4000000) (ha : forms a = true) (hb : forms b = true) (K : Nat) (T : Bool)
    (hK : wC a + wC b + 1200 ≤ K) (hT : ∀ k, K ≤ k → impl_ImpliesCondition.l0 k l ds N (wrap64 (m + 1)) a.f0 a.f1 a.f2 a.f3 b.f0 b.f1 b.f2 b.f3 = some (T, true)) (d : Nat) :
    ∀ (i k : Nat), i + d = ds.length → d + K + 1 ≤ k → impl_ImpliesCondition.l2 k l ds fs N m ds (ds.length : Int) (i : Int) a.f0 a.f1 a.f2 a.f3 b.f0 b.f1 b.f2 b.f3 = some (allD a b fs (ds.drop i) && T, true) := by
  induction d with
  | zero =>
    intro i k hi hk
    obtain ⟨k, rfl⟩ : ∃ m, k = m + 1 := ⟨k - 1, by omega⟩
    simp only [impl_ImpliesCondition.l2]
    rw [if_neg (by omega), hT k (by omega), List.drop_eq_nil_of_le (by omega)]; rfl
  | succ d ih =>
    intro i k hi hk
    obtain ⟨k, rfl⟩ : ∃ m, k = m + 1 := ⟨k - 1, by omega⟩
    have hlt : i < ds.length := by omega
    simp only [impl_ImpliesCondition.l2]
    rw [if_pos (by omega), if_pos (by omega), if_pos (by omega), rdI_ ds i hlt, (ev_ a fs ds[i] (by omega) ha k (by omega)).2, (ev_ b fs ds[i] (by omega) hb k (by omega)).2, Option.bind_some, Option.bind_some, w64 (x := (i : Int) + 1) (by omega) (by omega), show (i : Int) + 1 = ((i + 1 : Nat) : Int) by omega, ih (i + 1) k (by omega) (by omega), List.drop_eq_getElem_cons hlt]
    have e : allD a b fs (ds[i] :: ds.drop (i + 1)) = ((!(ev a fs ds[i]) || ev b fs ds[i]) && allD a b fs (ds.drop (i + 1))) := by unfold allD; rw [List.all_cons]
    rw [e]
    cases ev a fs ds[i] <;> cases ev b fs ds[i] <;> simp
theorem l1I_ (a b : S29) (l : List ByteArray) (ds : List Int) (N m : Int) (hl : l.length ≤ 10) (T : Bool) (K : Nat) (hT : ∀ k fs, fs = sub l m → K ≤ k → impl_ImpliesCondition.l2 k l ds fs N m ds (ds.length : Int) 0 a.f0 a.f1 a.f2 a.f3 b.f0 b.f1 b.f2 b.f3 = some (T, true)) (d : Nat) :
    ∀ (i k : Nat) (acc : List ByteArray), i + d = l.length → d + K + 1 ≤ k → acc.length ≤ i → acc ++ subR l m i d = sub l m → impl_ImpliesCondition.l1 k l ds m acc N m l (l.length : Int) (i : Int) a.f0 a.f1 a.f2 a.f3 b.f0 b.f1 b.f2 b.f3 = some (T, true) := by
  induction d with
  | zero =>
    intro i k acc hi hk ha he
    obtain ⟨k, rfl⟩ : ∃ m, k = m + 1 := ⟨k - 1, by omega⟩
    simp only [impl_ImpliesCondition.l1]; rw [if_neg (by omega)]
    simp only [subR, List.append_nil] at he
    exact hT k acc he (by omega)
  | succ d ih =>
    intro i k acc hi hk ha he
    obtain ⟨k, rfl⟩ : ∃ m, k = m + 1 := ⟨k - 1, by omega⟩
    simp only [subR] at he
    simp only [impl_ImpliesCondition.l1]
    rw [if_pos (by omega), if_pos (by omega), if_pos (by omega), w64 (x := (i : Int) + 1) (by omega) (by omega), show (i : Int) + 1 = ((i + 1 : Nat) : Int) by omega]
    have hr : rdOf ByteArray.empty l (i : Int) = l.getD i ByteArray.empty := by unfold rdOf; rw [Int.toNat_natCast]
    by_cases hb : bitIs m (i : Int)
    · rw [if_pos hb] at he
      rw [if_pos hb, if_pos (by omega), hr]
      exact ih (i + 1) k _ (by omega) (by omega) (by simp; omega) (by rw [List.append_assoc]; exact he)
    · rw [if_neg hb] at he
      rw [if_neg hb]
      exact ih (i + 1) k _ (by omega) (by omega) (by omega) (by simpa using he)
theorem l0I_ (a b : S29) (l : List ByteArray) (ds : List Int) (hl : l.length ≤ 10) (hds : ds.length ≤ 4000000) (ha : forms a = true) (hb : forms b = true) (d : Nat) :
    ∀ (m k : Nat), m + d = 2 ^ l.length → d * (ds.length + 40) + wC a + wC b + 1300 ≤ k → impl_ImpliesCondition.l0 k l ds (shl .i64 1 (l.length : Int)) (m : Int) a.f0 a.f1 a.f2 a.f3 b.f0 b.f1 b.f2 b.f3 = some (allM a b l ds m d, true) := by
  have hp : 2 ^ l.length ≤ 1024 := Nat.le_trans (Nat.pow_le_pow_right (by omega) hl) (by decide)
  induction d with
  | zero =>
    intro m k hi hk
    obtain ⟨k, rfl⟩ : ∃ m, k = m + 1 := ⟨k - 1, by omega⟩
    simp only [impl_ImpliesCondition.l0, shl_ l.length hl]
    rw [if_neg (by omega)]; rfl
  | succ d ih =>
    intro m k hi hk
    rw [Nat.add_mul, Nat.one_mul] at hk
    obtain ⟨k, rfl⟩ : ∃ m, k = m + 1 := ⟨k - 1, by omega⟩
    have hsl := subR_len l (m : Int) l.length 0
    obtain ⟨C, hC⟩ : ∃ C, C = d * (ds.length + 40) + wC a + wC b + 1300 := ⟨_, rfl⟩
    simp only [impl_ImpliesCondition.l0]
    rw [if_pos (by rw [shl_ l.length hl]; omega)]
    refine (l1I_ a b l ds _ (m : Int) hl (allD a b (sub l (m : Int)) ds && allM a b l ds (m + 1) d) (ds.length + C + 1) ?_ l.length 0 k [] (by omega) (by omega) (by simp) (by simp [sub]))
    rintro k' fs rfl hk'
    have h2 := l2I_ a b l ds (shl .i64 1 (l.length : Int)) (m : Int) (sub l (m : Int)) (by unfold sub; omega) hds ha hb C (allM a b l ds (m + 1) d) (by omega)
      (fun k' hk' => by rw [w64 (x := (m : Int) + 1) (by omega) (by omega), show (m : Int) + 1 = ((m + 1 : Nat) : Int) by omega]; exact ih (m + 1) k' (by omega) (by omega)) ds.length 0 k' (by omega) (by omega)
    rw [List.drop_zero] at h2
    exact h2
theorem both_ (a b : S29) (ta : tC a ≤ 1048576) (tb : tC b ≤ 1048576) : ∃ (K : Nat) (r : Bool × Bool), ∀ k, K ≤ k → spec_ImpliesCondition.f k a.f0 a.f1 a.f2 a.f3 b.f0 b.f1 b.f2 b.f3 = some r ∧ impl_ImpliesCondition.f k a.f0 a.f1 a.f2 a.f3 b.f0 b.f1 b.f2 b.f3 = some r := by
  have hJ : ∀ k x y z u x' y' z' u', 1 ≤ k → impl_ImpliesCondition.j0 k true x y z u x' y' z' u' = some (false, false) := by
    intro k x y z u x' y' z' u' hk
    obtain ⟨k, rfl⟩ : ∃ m, k = m + 1 := ⟨k - 1, by omega⟩
    simp [impl_ImpliesCondition.j0]
  cases ga : good a with
  | false =>
    refine ⟨wC a + 100, (false, false), fun k hk => ?_⟩
    unfold spec_ImpliesCondition.f impl_ImpliesCondition.f
    rw [good_ a ta k (by omega), valid_ a ta k (by omega), ga]
    simp [hJ k _ _ _ _ _ _ _ _ (by omega)]
  | true =>
    cases gb : good b with
    | false =>
      refine ⟨wC a + wC b + 100, (false, false), fun k hk => ?_⟩
      unfold spec_ImpliesCondition.f impl_ImpliesCondition.f
      rw [good_ a ta k (by omega), valid_ a ta k (by omega), ga, good_ b tb k (by omega), valid_ b tb k (by omega), gb]
      simp [hJ k _ _ _ _ _ _ _ _ (by omega)]
    | true =>
      have fa : forms a = true := by unfold good at ga; simp at ga; exact ga.1
      have fb : forms b = true := by unfold good at gb; simp at gb; exact gb.1
      have na := nC_le a
      have nb := nC_le b
      have la := nsC_len a
      have lb := nsC_len b
      have pa := putsB_len (nsC a) []
      have pb := putsB_len (nsC b) (putsB [] (nsC a))
      have ea := dsC_len a
      have eb := dsC_len b
      have qa := puts_len (dsC a) []
      have qb := puts_len (dsC b) (puts [] (dsC a))
      have qc := put_len (puts (puts [] (dsC a)) (dsC b)) 0
      simp only [List.length_nil, Nat.zero_add] at pa qa
      generalize hN : putsB (putsB [] (nsC a)) (nsC b) = N at pb
      generalize hD : put (puts (puts [] (dsC a)) (dsC b)) 0 = D at qc
      generalize hE : ([0] : List Int) ++ dsC a ++ dsC b = E
      have hEl : E.length ≤ 4000000 := by rw [← hE]; simp; omega
      have hmem : ∀ x, x ∈ D ↔ x ∈ E := by
        intro x; rw [← hD, ← hE, put_mem, puts_mem, puts_mem]; simp
      obtain ⟨K, hK⟩ : ∃ K, K = 2 ^ N.length * (D.length + 20) + 2 ^ N.length * (E.length + 40) + wC a + wC b + 9000000 := ⟨_, rfl⟩
      refine ⟨K + 5, if N.length > 10 then (false, false) else (allM a b N D 0 (2 ^ N.length), true), fun k hk => ?_⟩
      have n1 : spec_l5Names.f k [] a.f0 a.f1 a.f2 a.f3 = some (putsB [] (nsC a)) := l5Names_ a fa ta k [] (by omega) (by simp; omega)
      have n2 : spec_l5Names.f k (putsB [] (nsC a)) b.f0 b.f1 b.f2 b.f3 = some N := by rw [l5Names_ b fb tb k _ (by omega) (by omega), hN]
      have d1 : spec_l5Days.f k [] a.f0 a.f1 a.f2 a.f3 = some (puts [] (dsC a)) := l5Days_ a fa ta k [] (by omega) (by simp; omega)
      have d2 : spec_l5Days.f k (puts [] (dsC a)) b.f0 b.f1 b.f2 b.f3 = some (puts (puts [] (dsC a)) (dsC b)) := l5Days_ b fb tb k _ (by omega) (by omega)
      have d3 : spec_l1Put.f k (puts (puts [] (dsC a)) (dsC b)) 0 = some D := by rw [put_ _ _ (by omega) k (by omega), hD]
      constructor
      · unfold spec_ImpliesCondition.f
        rw [good_ a ta k (by omega), good_ b tb k (by omega), ga, gb]
        simp only [Option.bind_some, if_true, n1, n2]
        by_cases h10 : (N.length : Int) > 10
        · rw [if_pos h10, if_pos (by omega)]
        · rw [if_neg h10, if_neg (by omega)]
          unfold spec_l5Implies.f
          simp only [n1, n2, d1, d2, d3, Option.bind_some]
          have h0 := l0S_ a b N D (by omega) (by omega) fa fb (2 ^ N.length) 0 k (by omega) (by omega)
          have h0' : spec_l5Implies.l0 k N D 0 a.f0 a.f1 a.f2 a.f3 b.f0 b.f1 b.f2 b.f3 = _ := h0
          rw [h0', Option.bind_some]
      · unfold impl_ImpliesCondition.f
        rw [valid_ a ta k (by omega), valid_ b tb k (by omega), ga, gb]
        obtain ⟨j, rfl⟩ : ∃ j, k = j + 1 := ⟨k - 1, by omega⟩
        simp only [Option.bind_some, if_true, Bool.not_true, impl_ImpliesCondition.j0, Bool.false_eq_true, if_false]
        have m1 : impl_addNames.f j a.f0 a.f1 a.f2 a.f3 [] = some (nsC a) := by rw [addNames_ a ta j [] (by omega) (by simp; omega)]; rfl
        have m2 : impl_addNames.f j b.f0 b.f1 b.f2 b.f3 (nsC a) = some (nsC a ++ nsC b) := addNames_ b tb j _ (by omega) (by omega)
        have m3 : impl_sorted.f (nsC a ++ nsC b) = some N := by rw [sorted_ _ (by simp; omega), putsB_app, hN]
        have e1 : impl_addDays.f j a.f0 a.f1 a.f2 a.f3 [0] = some ([0] ++ dsC a) := addDays_ a ta j _ (by omega) (by simp; omega)
        have e2 : impl_addDays.f j b.f0 b.f1 b.f2 b.f3 ([0] ++ dsC a) = some E := by rw [addDays_ b tb j _ (by omega) (by simp; omega), hE]
        simp only [m1, m2, m3, e1, e2, Option.bind_some]
        by_cases h10 : (N.length : Int) > 10
        · rw [if_pos h10, if_pos (by omega)]
        · rw [if_neg h10, if_neg (by omega)]
          have h0 := l0I_ a b N E (by omega) hEl fa fb (2 ^ N.length) 0 j (by omega) (by omega)
          have h0' : impl_ImpliesCondition.l0 j N E (shl .i64 1 (N.length : Int)) 0 a.f0 a.f1 a.f2 a.f3 b.f0 b.f1 b.f2 b.f3 = _ := h0
          rw [h0', allM_mem hmem]
theorem FnExactImpliesCondition (a b : S24) (ha : ok24 a) (hb : ok24 b) : ∃ k, laws_FnExactImpliesCondition.f k a.f0 a.f1 a.f2 a.f3 b.f0 b.f1 b.f2 b.f3 = some true := by
  by_cases ta : (1048576 : Int) < tC (cv a)
  · refine ⟨wC (cv a) + 100, ?_⟩
    unfold laws_FnExactImpliesCondition.f
    rw [sz_ a ha _ 1048576 (by omega) (by omega) (by omega), Option.bind_some, if_pos ta, if_pos (by omega)]
  by_cases tb : (1048576 : Int) - tC (cv a) < tC (cv b)
  · refine ⟨wC (cv a) + wC (cv b) + 100, ?_⟩
    unfold laws_FnExactImpliesCondition.f
    rw [sz_ a ha _ 1048576 (by omega) (by omega) (by omega), Option.bind_some, if_neg ta, if_neg (by omega), sz_ b hb _ _ (by omega) (by omega) (by omega), Option.bind_some, if_pos tb, if_pos (by omega)]
  have ta' : tC (cv a) ≤ 1048576 := by omega
  have tb' : tC (cv b) ≤ 1048576 := by omega
  obtain ⟨K, r, hr⟩ := both_ (cv a) (cv b) ta' tb'
  obtain ⟨k, hk⟩ : ∃ k, k = K + wC (cv a) + wC (cv b) + 100 := ⟨_, rfl⟩
  refine ⟨k, ?_⟩
  obtain ⟨e1, e2⟩ := hr k (by omega)
  have hJ : laws_FnExactImpliesCondition.j0 k false a.f0 a.f1 a.f2 a.f3 b.f0 b.f1 b.f2 b.f3 (cv a).f0 (cv a).f1 (cv a).f2 (cv a).f3 (cv b).f0 (cv b).f1 (cv b).f2 (cv b).f3 = some true := by
    obtain ⟨m, hm'⟩ : ∃ m, k = m + 1 := ⟨k - 1, by omega⟩
    rw [hm']
    simp only [laws_FnExactImpliesCondition.j0, Bool.false_eq_true, if_false, to_ a ta' m (by omega), to_ b tb' m (by omega), eq_ (cv a) ta' m (by omega), eq_ (cv b) tb' m (by omega), Option.bind_some, if_true]
  unfold laws_FnExactImpliesCondition.f
  rw [sz_ a ha _ 1048576 (by omega) (by omega) (by omega), Option.bind_some, if_neg ta, if_neg (by omega), sz_ b hb _ _ (by omega) (by omega) (by omega), Option.bind_some, if_neg tb, if_neg (by omega)]
  simp only [to_ a ta' k (by omega), to_ b tb' k (by omega), e1, e2, Option.bind_some]
  obtain ⟨r1, r2⟩ := r
  simp [hJ]

end Go.Proofs.YtkncfklmgpaehaaDoor.Pure
