/- The program's SimplifyCondition and the reference's return the same for every condition, the condition stays as it was, and the result shares no memory; no condition. -/
import Derived.Test.YtnpenfficbdlmaaDoorQFnExactSimplifyConditionx90
namespace Go.Proofs.YtnpenfficbdlmaaDoor.Pure
open Go.RowKit Go.Proofs.YtnpenfficbdlmaaDoor.QFnExactSimplifyCondition Go.Proofs.YtnpenfficbdlmaaDoorW.PrintWords Go.Proofs.YtnpenfficbdlmaaDoorW.PrintLast Go.Proofs.YtnpenfficbdlmaaDoorW.PrintMore
set_option linter.unusedVariables false
set_option linter.unusedSimpArgs false

inductive ok24 : S24 → Prop
  | mk (x : S24) (h0 : (Lit.int .i64 x.f0).wf = true) (h1 : x.f1.size ≤ maxLen) (h2 : (Lit.int .i64 x.f2).wf = true) (h3 : x.f3.length ≤ maxLen) (h4 : ∀ y ∈ x.f3, ok24 y) : ok24 x

theorem w64 {x : Int} (h : -9223372036854775808 ≤ x) (h' : x ≤ 9223372036854775807) : wrap64 x = x := by unfold wrap64; omega
theorem tdv {x : Int} (n : Int) (h : 0 ≤ x) : Int.tdiv x n = x / n := Int.tdiv_eq_ediv_of_nonneg h
theorem tmd {x : Int} (n : Int) (h : 0 ≤ x) : Int.tmod x n = x % n := Int.tmod_eq_emod_of_nonneg h
theorem wfb {a : Int} (h : (Lit.int .i64 a).wf = true) : -9223372036854775808 ≤ a ∧ a ≤ 9223372036854775807 := by
  simp [Lit.wf, IntKind.min, IntKind.max, IntKind.signed, IntKind.bits] at h
  omega
theorem within_ {x a b : Int} : (if x ≥ a then some (decide (x ≤ b)) else some false) = some (decide (a ≤ x ∧ x ≤ b)) := by
  by_cases h : x ≥ a
  · rw [if_pos h]; congr 1; simp; omega
  · rw [if_neg h]; congr 1; simp; omega

theorem toList_inj {a b : ByteArray} (h : a.toList = b.toList) : a = b := by
  rw [ByteArray.toList_eq, ByteArray.toList_eq] at h
  exact Go.WideShapes.bytes_inj h
theorem szD (s : ByteArray) : s.data.toList.length = s.size := by simp
theorem rdOf_nat (l : List ByteArray) (i : Nat) (h : i < l.length) : rdOf ByteArray.empty l (i : Int) = l[i] := by
  unfold rdOf; rw [Int.toNat_natCast, List.getD_eq_getElem?_getD, List.getElem?_eq_getElem h]; rfl

def words9 : List ByteArray := [⟨#[116, 114, 117, 101]⟩, ⟨#[102, 114, 111, 109]⟩, ⟨#[110, 111, 116]⟩, ⟨#[97, 110, 100]⟩, ⟨#[111, 114]⟩, ⟨#[98, 111, 116, 104]⟩, ⟨#[101, 105, 116, 104, 101, 114]⟩, ⟨#[105, 116]⟩, ⟨#[105, 110]⟩]
theorem split9 : strings_Split.f ⟨#[116, 114, 117, 101, 32, 102, 114, 111, 109, 32, 110, 111, 116, 32, 97, 110, 100, 32, 111, 114, 32, 98, 111, 116, 104, 32, 101, 105, 116, 104, 101, 114, 32, 105, 116, 32, 105, 110]⟩ ⟨#[32]⟩ = some words9 := by kernel_rfl
theorem sign_ (c : Int) : spec_l5Sign.f c = some (decide ((97 ≤ c ∧ c ≤ 122) ∨ (48 ≤ c ∧ c ≤ 57))) := by
  unfold spec_l5Sign.f
  repeat' split
  all_goals first | (congr 1; apply decide_eq_decide.2; omega) | (congr 1; symm; exact decide_eq_true (by omega)) | (congr 1; symm; exact decide_eq_false (by omega))
theorem impl_step (c : Int) (N : Option Bool) : (if c < 97 then (if c < 48 then some false else (if c > 57 then some false else N)) else (if c > 122 then (if c < 48 then some false else (if c > 57 then some false else N)) else N)) = if (97 ≤ c ∧ c ≤ 122) ∨ (48 ≤ c ∧ c ≤ 57) then N else some false := by
  repeat' split
  all_goals first | rfl | (exfalso; omega)
theorem index_l0 (l : List ByteArray) (hl : l.length ≤ 1048576) (s : ByteArray) (d : Nat) : ∀ (i k : Nat), i + d = l.length → d < k → ∃ r : Int, slices_Index_string_string.l0 k l s (l.length : Int) (i : Int) = some r ∧ (0 ≤ r ↔ s ∈ l.drop i) := by
  induction d with
  | zero =>
    intro i k hi hk
    obtain ⟨k, rfl⟩ : ∃ m, k = m + 1 := ⟨k - 1, by omega⟩
    refine ⟨-1, ?_, ?_⟩
    · simp only [slices_Index_string_string.l0]; rw [if_neg (by omega)]
    · rw [List.drop_eq_nil_of_le (by omega)]; simp
  | succ d ih =>
    intro i k hi hk
    obtain ⟨k, rfl⟩ : ∃ m, k = m + 1 := ⟨k - 1, by omega⟩
    have hlt : i < l.length := by omega
    simp only [slices_Index_string_string.l0]
    rw [if_pos (by omega), if_pos (by omega), if_pos (by omega), rdOf_nat l i hlt, List.drop_eq_getElem_cons hlt]
    by_cases h : s.toList = l[i].toList
    · rw [if_pos h]
      refine ⟨i, rfl, ?_⟩
      have := toList_inj h
      exact ⟨fun _ => by rw [this]; exact List.mem_cons_self, fun _ => by omega⟩
    · rw [if_neg h, w64 (x := (i : Int) + 1) (by omega) (by omega), show (i : Int) + 1 = ((i + 1 : Nat) : Int) by omega]
      obtain ⟨r, h1, h2⟩ := ih (i + 1) k (by omega) (by omega)
      refine ⟨r, h1, ?_⟩
      rw [h2, List.mem_cons]
      constructor
      · exact Or.inr
      · rintro (e | e)
        · exact absurd (by rw [← e]) h
        · exact e
theorem contains9 (s : ByteArray) (k : Nat) (hk : 10 ≤ k) : ∃ b, slices_Contains_string_string.f k words9 s = some b ∧ (b = true ↔ s ∈ words9) := by
  obtain ⟨r, h1, h2⟩ := index_l0 words9 (by decide) s 9 0 k rfl (by omega)
  refine ⟨decide (r ≥ 0), ?_, ?_⟩
  · unfold slices_Contains_string_string.f slices_Index_string_string.f
    have h1' : slices_Index_string_string.l0 k words9 s (words9.length : Int) 0 = some r := h1
    rw [h1', Option.bind_some]
  · rw [decide_eq_true_iff, ge_iff_le, h2, List.drop_zero]
theorem toList_iff (s : ByteArray) (l : List UInt8) : s.toList = l ↔ s = ⟨l.toArray⟩ := by
  constructor
  · intro h; apply toList_inj; rw [h, ByteArray.toList_eq]
  · rintro rfl; rw [ByteArray.toList_eq]
theorem not_or9 {a b c d e f g h i : Prop} (n : (a ∨ b ∨ c ∨ d ∨ e ∨ f ∨ g ∨ h ∨ i) → False) : ¬a ∧ ¬b ∧ ¬c ∧ ¬d ∧ ¬e ∧ ¬f ∧ ¬g ∧ ¬h ∧ ¬i := by
  refine ⟨?_, ?_, ?_, ?_, ?_, ?_, ?_, ?_, ?_⟩ <;> intro x <;> exact n (by simp [x])
theorem name_l0 (s : ByteArray) (hs : s.size ≤ 1048576) (d : Nat) : ∀ (i k : Nat), i + d = s.size → d + 11 < k → ∃ b, spec_l5Name.l0 k s (i : Int) = some b ∧ impl_IsValidName.l0 k s (s.size : Int) (i : Int) = some b := by
  induction d with
  | zero =>
    intro i k hi hk
    obtain ⟨k, rfl⟩ : ∃ m, k = m + 1 := ⟨k - 1, by omega⟩
    obtain ⟨b, hb, hm⟩ := contains9 s k (by omega)
    refine ⟨!b, ?_, ?_⟩
    · simp only [spec_l5Name.l0]
      rw [if_neg (by omega)]
      simp only [toList_iff]
      unfold words9 at hm
      simp only [List.mem_cons, List.mem_nil_iff, or_false] at hm
      cases b with
      | true =>
        have := hm.1 rfl
        rcases this with h | h | h | h | h | h | h | h | h <;> simp [h]
      | false =>
        have hn := fun h => Bool.false_ne_true (hm.2 h)
        obtain ⟨n1, n2, n3, n4, n5, n6, n7, n8, n9⟩ : _ ∧ _ ∧ _ ∧ _ ∧ _ ∧ _ ∧ _ ∧ _ ∧ _ := not_or9 hn
        rw [if_neg n1, if_neg n2, if_neg n3, if_neg n4, if_neg n5, if_neg n6, if_neg n7, if_neg n8, if_neg n9]
        rfl
    · simp only [impl_IsValidName.l0]
      rw [if_neg (by omega), split9, Option.bind_some, hb, Option.bind_some]
  | succ d ih =>
    intro i k hi hk
    obtain ⟨k, rfl⟩ : ∃ m, k = m + 1 := ⟨k - 1, by omega⟩
    obtain ⟨b, h1, h2⟩ := ih (i + 1) k (by omega) (by omega)
    simp only [spec_l5Name.l0, impl_IsValidName.l0]
    rw [if_pos (by omega), if_pos (by omega), if_pos (by omega), if_pos (by omega), if_pos (by omega), impl_step, sign_, Option.bind_some, w64 (x := (i : Int) + 1) (by omega) (by omega), show (i : Int) + 1 = ((i + 1 : Nat) : Int) by omega, h1, h2]
    by_cases hc : (97 ≤ bt s (i : Int) ∧ bt s (i : Int) ≤ 122) ∨ (48 ≤ bt s (i : Int) ∧ bt s (i : Int) ≤ 57)
    · exact ⟨b, by simp [hc], by simp [hc]⟩
    · exact ⟨false, by simp [hc], by simp [hc]⟩
theorem names_ (s : ByteArray) : ∃ b, spec_l5Name.f 30 s = some b ∧ impl_IsValidName.f 30 s = some b := by
  unfold spec_l5Name.f impl_IsValidName.f spec_l1In.f impl_within.f
  by_cases h1 : (s.size : Int) ≥ 1
  · by_cases h8 : (s.size : Int) ≤ 8
    · obtain ⟨b, e1, e2⟩ := name_l0 s (by omega) s.size 0 29 (by omega) (by omega)
      have e1' : spec_l5Name.l0 29 s 0 = some b := e1
      have e2' : impl_IsValidName.l0 29 s (s.size : Int) 0 = some b := e2
      have h0 : 0 < (s.size : Int) := by omega
      have h0' : 0 < s.size := by omega
      by_cases c1 : bt s 0 < 97
      · simp [h1, h8, h0, h0', c1, spec_l5Name.j0, impl_IsValidName.j0]
      · by_cases c2 : bt s 0 > 122
        · simp [h1, h8, h0, h0', c1, c2, spec_l5Name.j0, impl_IsValidName.j0]
        · refine ⟨b, ?_, ?_⟩ <;> simp [h1, h8, h0, h0', c1, c2, spec_l5Name.j0, impl_IsValidName.j0, e1', e2']
    · simp [h1, h8, spec_l5Name.j0, impl_IsValidName.j0]
  · simp [h1, spec_l5Name.j0, impl_IsValidName.j0]
def nameB (s : ByteArray) : Bool := (spec_l5Name.f 30 s).getD false
theorem nameS_ (s : ByteArray) {k : Nat} (hk : 30 ≤ k) : spec_l5Name.f k s = some (nameB s) := by
  obtain ⟨b, e1, _⟩ := names_ s
  have : nameB s = b := by unfold nameB; rw [e1]; rfl
  rw [this]; exact at_rounds (fun k => spec_l5Name.mono s k) hk e1
theorem nameI_ (s : ByteArray) {k : Nat} (hk : 30 ≤ k) : impl_IsValidName.f k s = some (nameB s) := by
  obtain ⟨b, e1, e2⟩ := names_ s
  have : nameB s = b := by unfold nameB; rw [e1]; rfl
  rw [this]; exact at_rounds (fun k => impl_IsValidName.mono s k) hk e2
theorem nameB_nil (s : ByteArray) (h : s.toList = []) : nameB s = false := by
  have : s.size = 0 := by
    have h2 : s.toList.length = 0 := by rw [h]; rfl
    rw [ByteArray.toList_eq] at h2; simpa using h2
  unfold nameB spec_l5Name.f spec_l1In.f
  simp [this, spec_l5Name.j0]

theorem indL {P : S24 → Prop} (h : ∀ c : S24, (∀ x ∈ c.f3, P x) → P c) (c : S24) : P c :=
  S24.rec (motive_1 := P) (motive_2 := fun l => ∀ x ∈ l, P x) (fun a b c l ih => h ⟨a, b, c, l⟩ ih) (fun x hx => by cases hx) (fun x xs hx hxs y hy => by cases hy with | head => exact hx | tail _ h => exact hxs y h) c
theorem indC {P : S28 → Prop} (h : ∀ c : S28, (∀ x ∈ c.f3, P x) → P c) (c : S28) : P c :=
  S28.rec (motive_1 := P) (motive_2 := fun l => ∀ x ∈ l, P x) (fun a b c l ih => h ⟨a, b, c, l⟩ ih) (fun x hx => by cases hx) (fun x xs hx hxs y hy => by cases hy with | head => exact hx | tail _ h => exact hxs y h) c
mutual
def cv : S24 → S28
  | ⟨a, b, c, l⟩ => ⟨a, b, c, cvL l⟩
def cvL : List S24 → List S28
  | [] => []
  | x :: xs => cv x :: cvL xs
end
mutual
def wC : S28 → Nat
  | ⟨_, _, _, l⟩ => wL l + 8
def wL : List S28 → Nat
  | [] => 0
  | x :: xs => wC x + wL xs + 1
end
mutual
def tC : S28 → Nat
  | ⟨_, b, _, l⟩ => b.size + l.length + tL l
def tL : List S28 → Nat
  | [] => 0
  | x :: xs => tC x + tL xs
end
mutual
def nC : S28 → Nat
  | ⟨_, _, _, l⟩ => nL l + 1
def nL : List S28 → Nat
  | [] => 0
  | x :: xs => nC x + nL xs
end
theorem cvL_map (l : List S24) : cvL l = l.map cv := by
  induction l with
  | nil => rfl
  | cons x xs ih => simp [cvL, ih]
theorem cv_f0 (c : S24) : (cv c).f0 = c.f0 := by cases c; rfl
theorem cv_f1 (c : S24) : (cv c).f1 = c.f1 := by cases c; rfl
theorem cv_f2 (c : S24) : (cv c).f2 = c.f2 := by cases c; rfl
theorem cv_f3 (c : S24) : (cv c).f3 = c.f3.map cv := by cases c; simp [cv, cvL_map]
theorem wC_eq (c : S28) : wC c = wL c.f3 + 8 := by cases c; rfl
theorem tC_eq (c : S28) : tC c = c.f1.size + c.f3.length + tL c.f3 := by cases c; rfl
theorem nC_eq (c : S28) : nC c = nL c.f3 + 1 := by cases c; rfl
theorem tL_mem {l : List S28} {x : S28} (h : x ∈ l) : tC x ≤ tL l := by
  induction l with
  | nil => cases h
  | cons y ys ih =>
    simp only [tL]
    cases h with
    | head => omega
    | tail _ h => have := ih h; omega
theorem nL_le (l : List S28) (h : ∀ x ∈ l, nC x ≤ tC x + 1) : nL l ≤ tL l + l.length := by
  induction l with
  | nil => simp [nL]
  | cons y ys ih =>
    have h1 := h y List.mem_cons_self
    have h2 := ih (fun x hx => h x (List.mem_cons_of_mem _ hx))
    simp only [nL, tL, List.length_cons]; omega
theorem nC_le (c : S28) : nC c ≤ tC c + 1 := by
  refine indC (P := fun c => nC c ≤ tC c + 1) ?_ c
  intro c ih
  have := nL_le c.f3 ih
  rw [nC_eq, tC_eq]; omega
theorem nL_sum (l : List S28) : nL l ≤ tL l + l.length := nL_le l (fun x _ => nC_le x)
theorem rdL_ (l : List S24) (i : Nat) (h : i < l.length) : rd_T24 l (i : Int) = l[i] := by
  unfold rd_T24; rw [Int.toNat_natCast, List.getD_eq_getElem?_getD, List.getElem?_eq_getElem h]; rfl
theorem rdC_ (l : List S28) (i : Nat) (h : i < l.length) : rd_T28 l (i : Int) = l[i] := by
  unfold rd_T28; rw [Int.toNat_natCast, List.getD_eq_getElem?_getD, List.getElem?_eq_getElem h]; rfl
theorem dropL_ (l : List S24) (i : Nat) (h : i < l.length) : (l.drop i).map cv = cv l[i] :: (l.drop (i + 1)).map cv := by
  rw [List.drop_eq_getElem_cons h, List.map_cons]
theorem dropC_ (l : List S28) (i : Nat) (h : i < l.length) : l.drop i = l[i] :: l.drop (i + 1) := List.drop_eq_getElem_cons h
theorem szL_ (l : List S24) (hl : l.length ≤ 1048576) (h : ∀ x ∈ l, ∀ k left, wC (cv x) + 5 ≤ k → 0 ≤ left → left ≤ 1048576 → laws_szCondition.f k x.f0 x.f1 x.f2 x.f3 left = some (if left < tC (cv x) then -1 else left - tC (cv x))) (d : Nat) :
    ∀ (i k : Nat) (left : Int), i + d = l.length → wL ((l.drop i).map cv) + 5 ≤ k → 0 ≤ left → left ≤ 1048576 → laws_szConditionS.l0 k l left (i : Int) = some (if left < tL ((l.drop i).map cv) then -1 else left - tL ((l.drop i).map cv)) := by
  induction d with
  | zero =>
    intro i k left hi hk h0 h1
    obtain ⟨k, rfl⟩ : ∃ m, k = m + 1 := ⟨k - 1, by omega⟩
    simp only [laws_szConditionS.l0]
    rw [if_neg (by omega), List.drop_eq_nil_of_le (by omega)]
    have e_ : tL (List.map cv ([] : List S24)) = 0 := rfl
    rw [e_]
    rw [if_neg (by omega)]; congr 1; omega
  | succ d ih =>
    intro i k left hi hk h0 h1
    have hlt : i < l.length := by omega
    obtain ⟨k, rfl⟩ : ∃ m, k = m + 1 := ⟨k - 1, by omega⟩
    rw [dropL_ l i hlt] at hk ⊢
    simp only [wL] at hk
    have e_ : tL (cv l[i] :: (l.drop (i + 1)).map cv) = tC (cv l[i]) + tL ((l.drop (i + 1)).map cv) := rfl
    rw [e_]
    simp only [laws_szConditionS.l0]
    rw [if_pos (by omega), if_pos (by omega), rdL_ l i hlt, h l[i] (List.getElem_mem hlt) k left (by omega) h0 h1, Option.bind_some]
    by_cases hc : left < tC (cv l[i])
    · rw [if_pos hc, if_pos (by omega), if_pos (by omega)]
    · rw [if_neg hc, if_neg (by omega), w64 (x := (i : Int) + 1) (by omega) (by omega), show (i : Int) + 1 = ((i + 1 : Nat) : Int) by omega, ih (i + 1) k _ (by omega) (by omega) (by omega) (by omega)]
      congr 1
      by_cases h2 : left - (tC (cv l[i]) : Int) < tL ((l.drop (i + 1)).map cv)
      · rw [if_pos h2, if_pos (by omega)]
      · rw [if_neg h2, if_neg (by omega)]; omega
theorem sz_ (c : S24) : ok24 c → ∀ (k : Nat) (left : Int), wC (cv c) + 5 ≤ k → 0 ≤ left → left ≤ 1048576 → laws_szCondition.f k c.f0 c.f1 c.f2 c.f3 left = some (if left < tC (cv c) then -1 else left - tC (cv c)) := by
  refine indL (P := fun c => ok24 c → ∀ (k : Nat) (left : Int), wC (cv c) + 5 ≤ k → 0 ≤ left → left ≤ 1048576 → laws_szCondition.f k c.f0 c.f1 c.f2 c.f3 left = some (if left < tC (cv c) then -1 else left - tC (cv c))) ?_ c
  rintro c ih ⟨_, _, h1, _, h3, h4⟩ k left hk h0 hle
  rw [wC_eq, cv_f3] at hk
  rw [tC_eq, cv_f1, cv_f3, List.length_map]
  obtain ⟨k, rfl⟩ : ∃ m, k = m + 3 := ⟨k - 3, by omega⟩
  have hm : maxLen = 9223372036854775807 := rfl
  simp only [laws_szCondition.f, laws_szConditionS.f]
  rw [w64 (x := left - (c.f1.size : Int)) (by omega) (by omega)]
  by_cases hc : left - (c.f1.size : Int) < 0
  · rw [if_pos hc, if_pos (by omega)]
  rw [if_neg hc, w64 (x := left - (c.f1.size : Int) - (c.f3.length : Int)) (by omega) (by omega)]
  by_cases hd : left - (c.f1.size : Int) - (c.f3.length : Int) < 0
  · rw [if_pos hd, Option.bind_some, if_pos (by omega), if_pos (by omega)]
  rw [if_neg hd]
  have hS := szL_ c.f3 (by omega) (fun x hx => ih x hx (h4 x hx)) c.f3.length 0 (k + 1) (left - (c.f1.size : Int) - (c.f3.length : Int)) (by omega) (by simp only [List.drop_zero]; omega) (by omega) (by omega)
  simp only [List.drop_zero] at hS
  have hS' : laws_szConditionS.l0 (k + 1) c.f3 (left - (c.f1.size : Int) - (c.f3.length : Int)) 0 = _ := hS
  rw [hS', Option.bind_some]
  by_cases he : left - (c.f1.size : Int) - (c.f3.length : Int) < (tL (c.f3.map cv) : Int)
  · rw [if_pos he, if_pos (by omega), if_pos (by omega)]
  · rw [if_neg he, if_neg (by omega), if_neg (by omega)]; congr 1; omega
theorem set_grow {α : Type} (a : List α) (d : Nat) (z x : α) (i : Nat) (h : a.length = i) : (a ++ List.replicate (d + 1) z).set i x = (a ++ [x]) ++ List.replicate d z := by
  subst h
  rw [List.set_append_right _ _ (Nat.le_refl _), Nat.sub_self, List.replicate_succ, List.set_cons_zero, List.append_assoc, List.singleton_append]
theorem mkC_ (c : S28) : (⟨c.f0, c.f1, c.f2, c.f3⟩ : S28) = c := by cases c; rfl
theorem toL_ (l : List S24) (hl : l.length ≤ 1048576) (h : ∀ x ∈ l, ∀ k, wC (cv x) + 5 ≤ k → laws_toCondition.f k x.f0 x.f1 x.f2 x.f3 = some ((cv x).f0, (cv x).f1, (cv x).f2, (cv x).f3)) (d : Nat) :
    ∀ (i k : Nat), i + d = l.length → wL ((l.drop i).map cv) + 5 ≤ k → laws_toConditionS.l0 k l ((l.take i).map cv ++ List.replicate d z28) (i : Int) = some (l.map cv) := by
  induction d with
  | zero =>
    intro i k hi hk
    obtain ⟨k, rfl⟩ : ∃ m, k = m + 1 := ⟨k - 1, by omega⟩
    simp only [laws_toConditionS.l0]
    rw [if_neg (by omega), List.take_of_length_le (by omega)]
    simp
  | succ d ih =>
    intro i k hi hk
    have hlt : i < l.length := by omega
    obtain ⟨k, rfl⟩ : ∃ m, k = m + 1 := ⟨k - 1, by omega⟩
    rw [dropL_ l i hlt] at hk
    simp only [wL] at hk
    simp only [laws_toConditionS.l0]
    rw [if_pos (by omega), if_pos (by omega), rdL_ l i hlt, h l[i] (List.getElem_mem hlt) k (by omega), Option.bind_some]
    rw [if_pos (by simp; omega), w64 (x := (i : Int) + 1) (by omega) (by omega), show (i : Int) + 1 = ((i + 1 : Nat) : Int) by omega, Int.toNat_natCast, set_grow _ _ _ _ _ (by simp; omega)]
    have := ih (i + 1) k (by omega) (by omega)
    rw [List.take_succ_eq_append_getElem hlt, List.map_append, List.map_cons, List.map_nil] at this
    rw [← this]
    dsimp only
    rw [mkC_]
theorem to_ (c : S24) : tC (cv c) ≤ 1048576 → ∀ (k : Nat), wC (cv c) + 5 ≤ k → laws_toCondition.f k c.f0 c.f1 c.f2 c.f3 = some ((cv c).f0, (cv c).f1, (cv c).f2, (cv c).f3) := by
  refine indL (P := fun c => tC (cv c) ≤ 1048576 → ∀ (k : Nat), wC (cv c) + 5 ≤ k → laws_toCondition.f k c.f0 c.f1 c.f2 c.f3 = some ((cv c).f0, (cv c).f1, (cv c).f2, (cv c).f3)) ?_ c
  intro c ih ht k hk
  rw [wC_eq, cv_f3] at hk
  rw [tC_eq, cv_f3, List.length_map] at ht
  obtain ⟨k, rfl⟩ : ∃ m, k = m + 3 := ⟨k - 3, by omega⟩
  rw [cv_f0, cv_f1, cv_f2, cv_f3]
  simp only [laws_toCondition.f, laws_toConditionS.f]
  rw [if_pos (by omega), if_pos (by omega)]
  have hS := toL_ c.f3 (by omega) (fun x hx => ih x hx (by have := tL_mem (List.mem_map_of_mem (f := cv) hx); omega)) c.f3.length 0 (k + 1) (by omega) (by simp only [List.drop_zero]; omega)
  simp only [List.take_zero, List.map_nil, List.nil_append] at hS
  have hS' : laws_toConditionS.l0 (k + 1) c.f3 (List.replicate c.f3.length z28) 0 = _ := hS
  rw [Int.toNat_natCast, hS', Option.bind_some]
theorem eqL_ (l : List S28) (hl : l.length ≤ 1048576) (h : ∀ x ∈ l, ∀ k, wC x + 5 ≤ k → laws_eqCondition.f k x.f0 x.f1 x.f2 x.f3 x.f0 x.f1 x.f2 x.f3 = some true) (d : Nat) :
    ∀ (i k : Nat), i + d = l.length → wL (l.drop i) + 5 ≤ k → laws_eqConditionS.l0 k l l (i : Int) = some true := by
  induction d with
  | zero =>
    intro i k hi hk
    obtain ⟨k, rfl⟩ : ∃ m, k = m + 1 := ⟨k - 1, by omega⟩
    simp only [laws_eqConditionS.l0]
    rw [if_neg (by omega)]
  | succ d ih =>
    intro i k hi hk
    have hlt : i < l.length := by omega
    obtain ⟨k, rfl⟩ : ∃ m, k = m + 1 := ⟨k - 1, by omega⟩
    rw [dropC_ l i hlt] at hk
    simp only [wL] at hk
    simp only [laws_eqConditionS.l0]
    rw [if_pos (by omega), if_pos (by omega), if_pos (by omega), rdC_ l i hlt, h l[i] (List.getElem_mem hlt) k (by omega), Option.bind_some, if_pos rfl]
    rw [w64 (x := (i : Int) + 1) (by omega) (by omega), show (i : Int) + 1 = ((i + 1 : Nat) : Int) by omega]
    exact ih (i + 1) k (by omega) (by omega)
theorem eq_ (c : S28) : tC c ≤ 1048576 → ∀ (k : Nat), wC c + 5 ≤ k → laws_eqCondition.f k c.f0 c.f1 c.f2 c.f3 c.f0 c.f1 c.f2 c.f3 = some true := by
  refine indC (P := fun c => tC c ≤ 1048576 → ∀ (k : Nat), wC c + 5 ≤ k → laws_eqCondition.f k c.f0 c.f1 c.f2 c.f3 c.f0 c.f1 c.f2 c.f3 = some true) ?_ c
  intro c ih ht k hk
  rw [wC_eq] at hk
  rw [tC_eq] at ht
  obtain ⟨k, rfl⟩ : ∃ m, k = m + 3 := ⟨k - 3, by omega⟩
  have hS := eqL_ c.f3 (by omega) (fun x hx => ih x hx (by have := tL_mem hx; omega)) c.f3.length 0 (k + 1) (by omega) (by simp only [List.drop_zero]; omega)
  have hS' : laws_eqConditionS.l0 (k + 1) c.f3 c.f3 0 = some true := hS
  simp only [laws_eqCondition.f, laws_eqConditionS.f, if_true, hS', Option.bind_some]

def formB (a : Int) (b : ByteArray) (c : Int) (n : Nat) : Bool :=
  if a = 1 then decide (n = 0 ∧ b.toList = [] ∧ c = 0) else if a = 2 then decide (n = 0 ∧ nameB b = true ∧ c = 0) else if a = 3 then decide (n = 0 ∧ b.toList = [] ∧ 0 ≤ c ∧ c ≤ 36524)
  else if a = 4 then decide (n = 1 ∧ b.toList = [] ∧ c = 0) else if a = 5 then decide (n = 2 ∧ b.toList = [] ∧ c = 0) else if a = 6 then decide (n = 2 ∧ b.toList = [] ∧ c = 0) else false
mutual
def forms : S28 → Bool
  | ⟨a, b, c, l⟩ => formB a b c l.length && formsL l
def formsL : List S28 → Bool
  | [] => true
  | x :: xs => forms x && formsL xs
end
def good (c : S28) : Bool := forms c && decide (nC c ≤ 15)
theorem forms_eq (c : S28) : forms c = (formB c.f0 c.f1 c.f2 c.f3.length && formsL c.f3) := by cases c; rfl
theorem l1In_ (x a b : Int) : spec_l1In.f x a b = some (decide (a ≤ x ∧ x ≤ b)) := within_
theorem withinI_ (x a b : Int) : impl_within.f x a b = some (decide (a ≤ x ∧ x ≤ b)) := within_
theorem isDay_ (x : Int) : impl_isDay.f x = some (decide (0 ≤ x ∧ x ≤ 36524)) := by unfold impl_isDay.f; rw [withinI_, Option.bind_some]
theorem l3Good_ (x : Int) : spec_l3Good.f x = some (decide (0 ≤ x ∧ x ≤ 36524)) := by unfold spec_l3Good.f; rw [l1In_, Option.bind_some]
theorem form_ (a : Int) (b : ByteArray) (c : Int) (l : List S28) (k : Nat) (hk : 30 ≤ k) : spec_l5Form.f k a b c l = some (formB a b c l.length) := by
  unfold spec_l5Form.f formB
  rw [nameS_ b hk, l3Good_]
  simp only [Option.bind_some]
  have e0 : ((l.length : Int) = 0) = (l.length = 0) := by apply propext; omega
  have e1 : ((l.length : Int) = 1) = (l.length = 1) := by apply propext; omega
  have e2 : ((l.length : Int) = 2) = (l.length = 2) := by apply propext; omega
  simp only [e0, e1, e2]
  repeat' split
  all_goals simp_all
  all_goals first | (apply Bool.eq_iff_iff.2; simp) | skip
theorem formsS_ (l : List S28) (hl : l.length ≤ 1048576) (a : Int) (b : ByteArray) (c : Int) (h : ∀ x ∈ l, ∀ k, wC x + 60 ≤ k → spec_l5Forms.f k x.f0 x.f1 x.f2 x.f3 = some (forms x)) (d : Nat) :
    ∀ (i k : Nat), i + d = l.length → wL (l.drop i) + 60 ≤ k → spec_l5Forms.l0 k (i : Int) a b c l = some (formsL (l.drop i)) := by
  induction d with
  | zero =>
    intro i k hi hk
    obtain ⟨k, rfl⟩ : ∃ m, k = m + 1 := ⟨k - 1, by omega⟩
    simp only [spec_l5Forms.l0]
    rw [if_neg (by omega), List.drop_eq_nil_of_le (by omega)]; rfl
  | succ d ih =>
    intro i k hi hk
    have hlt : i < l.length := by omega
    obtain ⟨k, rfl⟩ : ∃ m, k = m + 1 := ⟨k - 1, by omega⟩
    rw [dropC_ l i hlt] at hk ⊢
    simp only [wL] at hk
    simp only [spec_l5Forms.l0, formsL]
    rw [if_pos (by omega), if_pos (by omega), rdC_ l i hlt, h l[i] (List.getElem_mem hlt) k (by omega), Option.bind_some]
    rw [w64 (x := (i : Int) + 1) (by omega) (by omega), show (i : Int) + 1 = ((i + 1 : Nat) : Int) by omega, ih (i + 1) k (by omega) (by omega)]
    cases forms l[i] <;> simp
theorem forms_ (c : S28) : tC c ≤ 1048576 → ∀ (k : Nat), wC c + 60 ≤ k → spec_l5Forms.f k c.f0 c.f1 c.f2 c.f3 = some (forms c) := by
  refine indC (P := fun c => tC c ≤ 1048576 → ∀ (k : Nat), wC c + 60 ≤ k → spec_l5Forms.f k c.f0 c.f1 c.f2 c.f3 = some (forms c)) ?_ c
  intro c ih ht k hk
  rw [wC_eq] at hk
  rw [tC_eq] at ht
  obtain ⟨k, rfl⟩ : ∃ m, k = m + 1 := ⟨k - 1, by omega⟩
  have hS := formsS_ c.f3 (by omega) c.f0 c.f1 c.f2 (fun x hx => ih x hx (by have := tL_mem hx; omega)) c.f3.length 0 k (by omega) (by simp only [List.drop_zero]; omega)
  rw [List.drop_zero] at hS
  have hS' : spec_l5Forms.l0 k 0 c.f0 c.f1 c.f2 c.f3 = _ := hS
  simp only [spec_l5Forms.f]
  rw [form_ _ _ _ _ k (by omega), Option.bind_some, hS', forms_eq]
  cases formB c.f0 c.f1 c.f2 c.f3.length <;> simp
theorem sizeS_ (l : List S28) (hl : l.length ≤ 1048576) (hn : tL l ≤ 1048576) (a : Int) (b : ByteArray) (c : Int) (h : ∀ x ∈ l, ∀ k, wC x + 60 ≤ k → spec_l5Size.f k x.f0 x.f1 x.f2 x.f3 = some (nC x : Int)) (d : Nat) :
    ∀ (i k : Nat) (s : Int), i + d = l.length → wL (l.drop i) + 60 ≤ k → 0 ≤ s → s + nL (l.drop i) ≤ 4000000 → spec_l5Size.l0 k s (i : Int) a b c l = some (s + nL (l.drop i)) := by
  induction d with
  | zero =>
    intro i k s hi hk h0 hs
    obtain ⟨k, rfl⟩ : ∃ m, k = m + 1 := ⟨k - 1, by omega⟩
    simp only [spec_l5Size.l0]
    rw [if_neg (by omega), List.drop_eq_nil_of_le (by omega)]
    simp [nL]
  | succ d ih =>
    intro i k s hi hk h0 hs
    have hlt : i < l.length := by omega
    obtain ⟨k, rfl⟩ : ∃ m, k = m + 1 := ⟨k - 1, by omega⟩
    rw [dropC_ l i hlt] at hk hs ⊢
    simp only [wL] at hk
    have e_ : nL (l[i] :: l.drop (i + 1)) = nC l[i] + nL (l.drop (i + 1)) := rfl
    rw [e_] at hs ⊢
    simp only [spec_l5Size.l0]
    rw [if_pos (by omega), if_pos (by omega), rdC_ l i hlt, h l[i] (List.getElem_mem hlt) k (by omega), Option.bind_some]
    rw [w64 (x := (i : Int) + 1) (by omega) (by omega), w64 (x := s + (nC l[i] : Int)) (by omega) (by omega), show (i : Int) + 1 = ((i + 1 : Nat) : Int) by omega, ih (i + 1) k _ (by omega) (by omega) (by omega) (by omega)]
    congr 1; omega
theorem size_ (c : S28) : tC c ≤ 1048576 → ∀ (k : Nat), wC c + 60 ≤ k → spec_l5Size.f k c.f0 c.f1 c.f2 c.f3 = some (nC c : Int) := by
  refine indC (P := fun c => tC c ≤ 1048576 → ∀ (k : Nat), wC c + 60 ≤ k → spec_l5Size.f k c.f0 c.f1 c.f2 c.f3 = some (nC c : Int)) ?_ c
  intro c ih ht k hk
  rw [wC_eq] at hk
  rw [tC_eq] at ht
  have hn := nL_sum c.f3
  obtain ⟨k, rfl⟩ : ∃ m, k = m + 1 := ⟨k - 1, by omega⟩
  have hS := sizeS_ c.f3 (by omega) (by omega) c.f0 c.f1 c.f2 (fun x hx => ih x hx (by have := tL_mem hx; omega)) c.f3.length 0 k 1 (by omega) (by simp only [List.drop_zero]; omega) (by omega) (by simp only [List.drop_zero]; omega)
  rw [List.drop_zero] at hS
  have hS' : spec_l5Size.l0 k 1 0 c.f0 c.f1 c.f2 c.f3 = _ := hS
  simp only [spec_l5Size.f]
  rw [hS', nC_eq]; congr 1; omega
theorem good_ (c : S28) (ht : tC c ≤ 1048576) (k : Nat) (hk : wC c + 60 ≤ k) : spec_l5Good.f k c.f0 c.f1 c.f2 c.f3 = some (good c) := by
  unfold spec_l5Good.f good
  rw [forms_ c ht k hk, Option.bind_some, size_ c ht k hk, Option.bind_some]
  have e : decide ((nC c : Int) ≤ 15) = decide (nC c ≤ 15) := by apply decide_eq_decide.2; omega
  rw [e]
  cases forms c <;> simp
theorem formB_op {a : Int} {b : ByteArray} {c : Int} {n : Nat} (h : formB a b c n = true) : 1 ≤ a ∧ a ≤ 6 := by
  unfold formB at h
  repeat' split at h
  all_goals first | omega | cases h
/-- The program's test of one node, as its second half asks it. -/
theorem countJ_ (a : Int) (b : ByteArray) (c : Int) (l : List S28) (so : Int) (k : Nat) (hk : 40 ≤ k) (bad : Bool) (n : Nat) (hn : n = l.length) (h1 : 1 ≤ a) (h6 : a ≤ 6)
    (hbad : bad = ((n : Int) != (rd [(-1), 0, 0, 0, 1, 2, 2] a))) : impl_countCondition.j0 (k + 2) so bad a b c l = if formB a b c n = true then impl_countCondition.l0 k so l (l.length : Int) 0 else some (-1) := by
  have hnil := nameB_nil b
  subst hn
  simp only [impl_countCondition.j0, nameI_ b (show 30 ≤ k + 1 by omega), isDay_, Option.bind_some, impl_countCondition.j1]
  have hcases : a = 1 ∨ a = 2 ∨ a = 3 ∨ a = 4 ∨ a = 5 ∨ a = 6 := by omega
  unfold formB
  rcases hcases with rfl | rfl | rfl | rfl | rfl | rfl
  all_goals
    simp [rd] at hbad
    subst hbad
    by_cases e : b.toList = []
    all_goals by_cases ec : c = 0
    all_goals by_cases ed : 0 ≤ c
    all_goals by_cases eg : c ≤ 36524
    all_goals by_cases en : nameB b = true
    all_goals by_cases e0 : l.length = 0
    all_goals by_cases e1 : l.length = 1
    all_goals by_cases e2 : l.length = 2
    all_goals first | omega | skip
    all_goals first | (simp_all; done) | (simp_all; omega) | skip

theorem countL_ (l : List S28) (hl : l.length ≤ 1048576) (h : ∀ x ∈ l, ∀ k so, wC x + 60 ≤ k → 0 ≤ so → so ≤ 15 → impl_countCondition.f k x.f0 x.f1 x.f2 x.f3 so = some (if forms x = true ∧ so + nC x ≤ 15 then so + nC x else -1)) (d : Nat) :
    ∀ (i k : Nat) (so : Int), i + d = l.length → wL (l.drop i) + 60 ≤ k → 0 ≤ so → so ≤ 15 → impl_countCondition.l0 k so l (l.length : Int) (i : Int) = some (if formsL (l.drop i) = true ∧ so + nL (l.drop i) ≤ 15 then so + nL (l.drop i) else -1) := by
  induction d with
  | zero =>
    intro i k so hi hk h0 h1
    obtain ⟨k, rfl⟩ : ∃ m, k = m + 1 := ⟨k - 1, by omega⟩
    simp only [impl_countCondition.l0]
    rw [if_neg (by omega), List.drop_eq_nil_of_le (by omega)]
    have e_ : nL ([] : List S28) = 0 := rfl
    have f_ : formsL ([] : List S28) = true := rfl
    rw [e_, f_, if_pos ⟨rfl, by omega⟩]; congr 1; omega
  | succ d ih =>
    intro i k so hi hk h0 h1
    have hlt : i < l.length := by omega
    obtain ⟨k, rfl⟩ : ∃ m, k = m + 1 := ⟨k - 1, by omega⟩
    rw [dropC_ l i hlt] at hk ⊢
    simp only [wL] at hk
    have e_ : nL (l[i] :: l.drop (i + 1)) = nC l[i] + nL (l.drop (i + 1)) := rfl
    have f_ : formsL (l[i] :: l.drop (i + 1)) = (forms l[i] && formsL (l.drop (i + 1))) := rfl
    rw [e_, f_]
    simp only [impl_countCondition.l0]
    rw [if_pos (by omega), if_pos (by omega), if_pos (by omega), rdC_ l i hlt, h l[i] (List.getElem_mem hlt) k so (by omega) h0 h1, Option.bind_some]
    have hp : 0 < nC l[i] := by rw [nC_eq]; omega
    by_cases hc : forms l[i] = true ∧ so + (nC l[i] : Int) ≤ 15
    · rw [if_pos hc, if_neg (by omega), w64 (x := (i : Int) + 1) (by omega) (by omega), show (i : Int) + 1 = ((i + 1 : Nat) : Int) by omega, ih (i + 1) k _ (by omega) (by omega) (by omega) (by omega)]
      rw [hc.1, Bool.true_and]
      congr 1
      by_cases h2 : formsL (l.drop (i + 1)) = true ∧ so + (nC l[i] : Int) + (nL (l.drop (i + 1)) : Int) ≤ 15
      · rw [if_pos h2, if_pos ⟨h2.1, by omega⟩]; omega
      · rw [if_neg h2, if_neg (fun h3 => h2 ⟨h3.1, by omega⟩)]
    · rw [if_neg hc, if_pos (by omega), if_neg (fun h3 => hc ⟨by simp at h3; exact h3.1.1, by omega⟩)]
theorem count_ (c : S28) : tC c ≤ 1048576 → ∀ (k : Nat) (so : Int), wC c + 60 ≤ k → 0 ≤ so → so ≤ 15 → impl_countCondition.f k c.f0 c.f1 c.f2 c.f3 so = some (if forms c = true ∧ so + nC c ≤ 15 then so + nC c else -1) := by
  refine indC (P := fun c => tC c ≤ 1048576 → ∀ (k : Nat) (so : Int), wC c + 60 ≤ k → 0 ≤ so → so ≤ 15 → impl_countCondition.f k c.f0 c.f1 c.f2 c.f3 so = some (if forms c = true ∧ so + nC c ≤ 15 then so + nC c else -1)) ?_ c
  intro c ih ht k so hk h0 h1
  rw [wC_eq] at hk
  rw [tC_eq] at ht
  rw [forms_eq, nC_eq]
  obtain ⟨k, rfl⟩ : ∃ m, k = m + 4 := ⟨k - 4, by omega⟩
  simp only [impl_countCondition.f, Option.bind_some]
  rw [w64 (x := so + 1) (by omega) (by omega)]
  by_cases hs : so + 1 > 15
  · rw [if_pos hs, if_neg (by omega)]
    simp [impl_countCondition.j0]
  rw [if_neg hs, withinI_, Option.bind_some]
  by_cases hop : decide (1 ≤ c.f0 ∧ c.f0 ≤ 6) = true
  · have ho := of_decide_eq_true hop
    rw [if_pos hop, if_pos (by omega), if_pos (by simp; omega)]
    rw [countJ_ c.f0 c.f1 c.f2 c.f3 (so + 1) (k + 1) (by omega) _ c.f3.length rfl ho.1 ho.2 rfl]
    by_cases hf : formB c.f0 c.f1 c.f2 c.f3.length = true
    · rw [if_pos hf, hf, Bool.true_and]
      have hL := countL_ c.f3 (by omega) (fun x hx => ih x hx (by have := tL_mem hx; omega)) c.f3.length 0 (k + 1) (so + 1) (by omega) (by simp only [List.drop_zero]; omega) (by omega) (by omega)
      rw [List.drop_zero] at hL
      have hL' : impl_countCondition.l0 (k + 1) (so + 1) c.f3 (c.f3.length : Int) 0 = _ := hL
      rw [hL']
      congr 1
      by_cases h2 : formsL c.f3 = true ∧ so + 1 + (nL c.f3 : Int) ≤ 15
      · rw [if_pos h2, if_pos ⟨h2.1, by omega⟩]; omega
      · rw [if_neg h2, if_neg (fun h3 => h2 ⟨h3.1, by omega⟩)]
    · rw [if_neg hf, if_neg (fun h3 => hf (by simp at h3; exact h3.1.1))]
  · rw [if_neg hop, if_neg (fun h3 => hop (decide_eq_true (formB_op (by simp at h3; exact h3.1.1))))]
    simp [impl_countCondition.j0]
theorem valid_ (c : S28) (ht : tC c ≤ 1048576) (k : Nat) (hk : wC c + 60 ≤ k) : impl_IsValidCondition.f k c.f0 c.f1 c.f2 c.f3 = some (good c) := by
  unfold impl_IsValidCondition.f good
  rw [count_ c ht k 0 hk (by omega) (by omega), Option.bind_some]
  have hp : 0 < nC c := by rw [nC_eq]; omega
  by_cases h : forms c = true ∧ 0 + (nC c : Int) ≤ 15
  · rw [if_pos h, h.1, Bool.true_and]; congr 1; apply decide_eq_decide.2; omega
  · rw [if_neg h]
    congr 1
    cases hf : forms c
    · simp
    · simp only [Bool.true_and]
      apply decide_eq_decide.2
      constructor
      · omega
      · intro h2; exact absurd ⟨hf, by omega⟩ h

theorem one_ {α : Type} {l : List α} (h : l.length = 1) : ∃ a, l = [a] := by
  match l, h with
  | [a], _ => exact ⟨a, rfl⟩
theorem two2_ {α : Type} {l : List α} (h : l.length = 2) : ∃ a b, l = [a, b] := by
  match l, h with
  | [a, b], _ => exact ⟨a, b, rfl⟩
/-- What a valid node's form says. -/
theorem formB_cases {a : Int} {b : ByteArray} {c : Int} {l : List S28} (h : formB a b c l.length = true) :
    (a = 1 ∧ l = [] ∧ b.toList = [] ∧ c = 0) ∨ (a = 2 ∧ l = [] ∧ nameB b = true ∧ c = 0) ∨ (a = 3 ∧ l = [] ∧ b.toList = [] ∧ 0 ≤ c ∧ c ≤ 36524) ∨ (a = 4 ∧ b.toList = [] ∧ c = 0 ∧ ∃ p, l = [p]) ∨ (a = 5 ∧ b.toList = [] ∧ c = 0 ∧ ∃ p q, l = [p, q]) ∨ (a = 6 ∧ b.toList = [] ∧ c = 0 ∧ ∃ p q, l = [p, q]) := by
  unfold formB at h
  repeat' split at h
  all_goals first | cases h | skip
  all_goals (have h := of_decide_eq_true h)
  · exact .inl ⟨‹_›, List.length_eq_zero_iff.1 h.1, h.2⟩
  · exact .inr (.inl ⟨‹_›, List.length_eq_zero_iff.1 h.1, h.2⟩)
  · exact .inr (.inr (.inl ⟨‹_›, List.length_eq_zero_iff.1 h.1, h.2⟩))
  · exact .inr (.inr (.inr (.inl ⟨‹_›, h.2.1, h.2.2, one_ h.1⟩)))
  · exact .inr (.inr (.inr (.inr (.inl ⟨‹_›, h.2.1, h.2.2, two2_ h.1⟩))))
  · exact .inr (.inr (.inr (.inr (.inr ⟨‹_›, h.2.1, h.2.2, two2_ h.1⟩))))
theorem rd0_ (p : S28) (l : List S28) : rd_T28 (p :: l) 0 = p := rfl
theorem rd1_ (p q : S28) (l : List S28) : rd_T28 (p :: q :: l) 1 = q := rfl

theorem szL_nL (c : S28) : Own.szT c = nC c := by
  refine indC (P := fun c => Own.szT c = nC c) ?_ c
  intro c h
  rw [Own.szT_eq, nC_eq]
  congr 1
  generalize c.f3 = l at h
  induction l with
  | nil => rfl
  | cons x l ih =>
    simp only [Own.szL, nL]
    rw [h x (by simp), ih (fun y hy => h y (by simp [hy]))]
theorem szL_tC (c : S28) (h : tC c ≤ 1048576) : Own.szL c.f3 ≤ 100000000 := by
  have h1 := szL_nL c
  have h2 := nC_le c
  rw [Own.szT_eq] at h1
  omega
theorem etaC (x : S28) : (⟨x.f0, x.f1, x.f2, x.f3⟩ : S28) = x := by cases x; rfl
theorem nilE_ : (⟨#[]⟩ : ByteArray).toList = [] := (toList_iff _ _).2 rfl
theorem nil_ {b : ByteArray} (h : b.toList = []) : b = ⟨#[]⟩ := (toList_iff b []).1 h
mutual
def sameB : S28 → S28 → Bool
  | ⟨a, b, c, l⟩, y => decide (a = y.f0) && (decide (b.toList = y.f1.toList) && (decide (c = y.f2) && sameLB l y.f3))
def sameLB : List S28 → List S28 → Bool
  | [], ys => ys.isEmpty
  | x :: xs, ys => match ys with
    | [] => false
    | y :: ys => sameB x y && sameLB xs ys
end
theorem sameB_eq (x y : S28) : sameB x y = (decide (x.f0 = y.f0) && (decide (x.f1.toList = y.f1.toList) && (decide (x.f2 = y.f2) && sameLB x.f3 y.f3))) := by cases x; rfl
theorem sameLB_len : ∀ (xs ys : List S28), xs.length ≠ ys.length → sameLB xs ys = false
  | [], [], h => absurd rfl h
  | [], y :: ys, h => rfl
  | x :: xs, [], h => rfl
  | x :: xs, y :: ys, h => by
    show (sameB x y && sameLB xs ys) = false
    rw [sameLB_len xs ys (fun e => h (by simp [e])), Bool.and_false]
theorem sameS_ (xs ys : List S28) (hl : xs.length = ys.length) (hm : xs.length ≤ 1048576) (a : Int) (b : ByteArray) (c : Int) (a' : Int) (b' : ByteArray) (c' : Int) (h : ∀ x ∈ xs, ∀ y k, wC x + 5 ≤ k → spec_l5Same.f k x.f0 x.f1 x.f2 x.f3 y.f0 y.f1 y.f2 y.f3 = some (sameB x y)) (d : Nat) :
    ∀ (i k : Nat), i + d = xs.length → wL (xs.drop i) + 5 ≤ k → spec_l5Same.l0 k (i : Int) a b c xs a' b' c' ys = some (sameLB (xs.drop i) (ys.drop i)) := by
  induction d with
  | zero =>
    intro i k hi hk
    obtain ⟨k, rfl⟩ : ∃ m, k = m + 1 := ⟨k - 1, by omega⟩
    simp only [spec_l5Same.l0]
    rw [if_neg (by omega), List.drop_eq_nil_of_le (by omega), List.drop_eq_nil_of_le (by omega)]; rfl
  | succ d ih =>
    intro i k hi hk
    have hlt : i < xs.length := by omega
    have hlt' : i < ys.length := by omega
    obtain ⟨k, rfl⟩ : ∃ m, k = m + 1 := ⟨k - 1, by omega⟩
    rw [dropC_ xs i hlt] at hk
    simp only [wL] at hk
    rw [dropC_ xs i hlt, dropC_ ys i hlt']
    simp only [spec_l5Same.l0]
    rw [if_pos (by omega), if_pos (by omega), if_pos (by omega), rdC_ xs i hlt, rdC_ ys i hlt', h xs[i] (List.getElem_mem hlt) _ k (by omega), Option.bind_some]
    rw [w64 (x := (i : Int) + 1) (by omega) (by omega), show (i : Int) + 1 = ((i + 1 : Nat) : Int) by omega, ih (i + 1) k (by omega) (by omega)]
    show _ = some (sameB xs[i] ys[i] && sameLB _ _)
    cases sameB xs[i] ys[i] <;> simp
theorem same_ (x : S28) : tC x ≤ 1048576 → ∀ (y : S28) (k : Nat), wC x + 5 ≤ k → spec_l5Same.f k x.f0 x.f1 x.f2 x.f3 y.f0 y.f1 y.f2 y.f3 = some (sameB x y) := by
  refine indC (P := fun x => tC x ≤ 1048576 → ∀ (y : S28) (k : Nat), wC x + 5 ≤ k → spec_l5Same.f k x.f0 x.f1 x.f2 x.f3 y.f0 y.f1 y.f2 y.f3 = some (sameB x y)) ?_ x
  intro x ih ht y k hk
  rw [wC_eq] at hk
  rw [tC_eq] at ht
  obtain ⟨k, rfl⟩ : ∃ m, k = m + 2 := ⟨k - 2, by omega⟩
  rw [sameB_eq]
  simp only [spec_l5Same.f, spec_l5Same.j0]
  by_cases h0 : x.f0 = y.f0
  · by_cases h1 : x.f1.toList = y.f1.toList
    · by_cases h2 : x.f2 = y.f2
      · by_cases h3 : x.f3.length = y.f3.length
        · have hS := sameS_ x.f3 y.f3 h3 (by omega) x.f0 x.f1 x.f2 y.f0 y.f1 y.f2 (fun z hz => ih z hz (by have := tL_mem hz; omega)) x.f3.length 0 k (by omega) (by simp only [List.drop_zero]; omega)
          simp only [List.drop_zero] at hS
          have hS' : spec_l5Same.l0 k 0 x.f0 x.f1 x.f2 x.f3 y.f0 y.f1 y.f2 y.f3 = _ := hS
          have e : ((x.f3.length : Int) != (y.f3.length : Int)) = false := by simp [h3]
          simp [h0, h1, h2, e] at hS' ⊢
          exact hS'
        · have e : ((x.f3.length : Int) != (y.f3.length : Int)) = true := by simp; omega
          simp [h0, h1, h2, e, sameLB_len _ _ h3]
      · simp [h0, h1, h2]
    · simp [h0, h1]
  · simp [h0]
theorem sameIS_ (xs ys : List S28) (hl : xs.length = ys.length) (hm : xs.length ≤ 1048576) (h : ∀ x ∈ xs, ∀ y k, wC x + 5 ≤ k → impl_sameCondition.f k x.f0 x.f1 x.f2 x.f3 y.f0 y.f1 y.f2 y.f3 = some (sameB x y)) (d : Nat) :
    ∀ (i k : Nat), i + d = xs.length → wL (xs.drop i) + 5 ≤ k → impl_Condition.l0 k ys xs (xs.length : Int) (i : Int) = some (sameLB (xs.drop i) (ys.drop i)) := by
  induction d with
  | zero =>
    intro i k hi hk
    obtain ⟨k, rfl⟩ : ∃ m, k = m + 1 := ⟨k - 1, by omega⟩
    simp only [impl_Condition.l0]
    rw [if_neg (by omega), List.drop_eq_nil_of_le (by omega), List.drop_eq_nil_of_le (by omega)]; rfl
  | succ d ih =>
    intro i k hi hk
    have hlt : i < xs.length := by omega
    have hlt' : i < ys.length := by omega
    obtain ⟨k, rfl⟩ : ∃ m, k = m + 1 := ⟨k - 1, by omega⟩
    rw [dropC_ xs i hlt] at hk
    simp only [wL] at hk
    rw [dropC_ xs i hlt, dropC_ ys i hlt']
    simp only [impl_Condition.l0]
    rw [if_pos (by omega), if_pos (by omega), if_pos (by omega), if_pos (by omega), rdC_ xs i hlt, rdC_ ys i hlt', h xs[i] (List.getElem_mem hlt) _ k (by omega), Option.bind_some]
    rw [w64 (x := (i : Int) + 1) (by omega) (by omega), show (i : Int) + 1 = ((i + 1 : Nat) : Int) by omega, ih (i + 1) k (by omega) (by omega)]
    show _ = some (sameB xs[i] ys[i] && sameLB _ _)
    cases sameB xs[i] ys[i] <;> simp
theorem sameI_ (x : S28) : tC x ≤ 1048576 → ∀ (y : S28) (k : Nat), wC x + 5 ≤ k → impl_sameCondition.f k x.f0 x.f1 x.f2 x.f3 y.f0 y.f1 y.f2 y.f3 = some (sameB x y) := by
  refine indC (P := fun x => tC x ≤ 1048576 → ∀ (y : S28) (k : Nat), wC x + 5 ≤ k → impl_sameCondition.f k x.f0 x.f1 x.f2 x.f3 y.f0 y.f1 y.f2 y.f3 = some (sameB x y)) ?_ x
  intro x ih ht y k hk
  rw [wC_eq] at hk
  rw [tC_eq] at ht
  obtain ⟨k, rfl⟩ : ∃ m, k = m + 2 := ⟨k - 2, by omega⟩
  rw [sameB_eq]
  simp only [impl_sameCondition.f, impl_Condition.f]
  by_cases h0 : x.f0 = y.f0
  · by_cases h1 : x.f1.toList = y.f1.toList
    · by_cases h2 : x.f2 = y.f2
      · by_cases h3 : x.f3.length = y.f3.length
        · have hS := sameIS_ x.f3 y.f3 h3 (by omega) (fun z hz => ih z hz (by have := tL_mem hz; omega)) x.f3.length 0 k (by omega) (by simp only [List.drop_zero]; omega)
          simp only [List.drop_zero] at hS
          have hS' : impl_Condition.l0 k y.f3 x.f3 (x.f3.length : Int) 0 = _ := hS
          rw [if_pos h0, if_pos h1, if_pos h2, if_pos (by omega), hS']
          simp [h0, h1, h2]
        · rw [if_pos h0, if_pos h1, if_pos h2, if_neg (by omega), sameLB_len _ _ h3]
          simp
      · simp [h0, h1, h2]
    · simp [h0, h1]
  · simp [h0]
def neverB (x : S28) : Bool := if x.f0 = 4 then (rd_T28 x.f3 0).f0 == 1 else false
theorem never_ (x : S28) (hf : forms x = true) : spec_l5Never.f x.f0 x.f1 x.f2 x.f3 = some (neverB x) := by
  rw [forms_eq, Bool.and_eq_true] at hf
  have hl : x.f0 = 4 → 0 < x.f3.length := by
    intro h4
    rcases formB_cases hf.1 with h | h | h | h | h | h
    all_goals first | omega | skip
    obtain ⟨p, hp⟩ := h.2.2.2
    rw [hp]; simp
  unfold spec_l5Never.f neverB
  by_cases h4 : x.f0 = 4
  · have := hl h4
    rw [if_pos h4, if_pos h4, if_pos (by omega)]
  · rw [if_neg h4, if_neg h4]
theorem neverI_ (x : S28) (hf : forms x = true) : impl_isNever.f x.f0 x.f1 x.f2 x.f3 = some (neverB x) := never_ x hf
def pairS (op : Int) (x y : S28) : S28 :=
  if x.f0 = 1 then (if op = 5 then y else x) else if y.f0 = 1 then (if op = 5 then x else y) else if neverB x = true then (if op = 5 then x else y) else if neverB y = true then (if op = 5 then y else x) else if sameB x y = true then x else ⟨op, ⟨#[]⟩, 0, [x, y]⟩
theorem pair_ (op : Int) (hop : op = 5 ∨ op = 6) (x y : S28) (hx : forms x = true) (hy : forms y = true) (ht : tC x ≤ 1048576) (k : Nat) (hk : wC x + 20 ≤ k) :
    spec_l5Pair.f k op x.f0 x.f1 x.f2 x.f3 y.f0 y.f1 y.f2 y.f3 = some ((pairS op x y).f0, (pairS op x y).f1, (pairS op x y).f2, (pairS op x y).f3) := by
  obtain ⟨k, rfl⟩ : ∃ m, k = m + 5 := ⟨k - 5, by omega⟩
  have hs := same_ x ht y k (by omega)
  have hxe : (⟨x.f0, x.f1, x.f2, x.f3⟩ : S28) = x := by cases x; rfl
  have hye : (⟨y.f0, y.f1, y.f2, y.f3⟩ : S28) = y := by cases y; rfl
  unfold spec_l5Pair.f pairS
  simp only [spec_l5Pair.j0, spec_l5Pair.j1, spec_l5Pair.j2, spec_l5Pair.j3, spec_l5Pair.j4, never_ x hx, never_ y hy, hs, Option.bind_some, hxe, hye]
  rcases hop with rfl | rfl
  all_goals
    by_cases h1 : x.f0 = 1
    all_goals by_cases h2 : y.f0 = 1
    all_goals by_cases h3 : neverB x = true
    all_goals by_cases h4 : neverB y = true
    all_goals by_cases h5 : sameB x y = true
    all_goals simp [h1, h2, h3, h4, h5]
theorem simpP_ (op : Int) (hop : op = 5 ∨ op = 6) (x y : S28) (hx : forms x = true) (hy : forms y = true) (ht : tC x ≤ 1048576) (k : Nat) (hk : wC x + 20 ≤ k) :
    Own.simpR k op ⟨#[]⟩ 0 [x, y] = some (pairS op x y) := by
  have hs := sameI_ x ht y k (by omega)
  have e0 : rd_T28 [x, y] 0 = x := rfl
  have e1 : rd_T28 [x, y] 1 = y := rfl
  unfold Own.simpR pairS
  rw [if_neg (by omega), if_neg (by omega), if_pos hop, if_pos (show ([x, y] : List S28).length = 2 from rfl), e0, e1]
  simp only [Own.neverO, Own.sameO, neverI_ x hx, neverI_ y hy, hs, Option.bind_some]
  repeat' split
  all_goals first | rfl | simp_all
def fin (a : Int) (b : ByteArray) (c : Int) (l : List S28) : S28 :=
  if a = 3 then (if c = 0 then ⟨1, ⟨#[]⟩, 0, []⟩ else ⟨a, b, c, l⟩) else if a = 4 then (if (rd_T28 l 0).f0 = 4 then rd_T28 (rd_T28 l 0).f3 0 else ⟨a, b, c, l⟩) else if a = 5 ∨ a = 6 then pairS a (rd_T28 l 0) (rd_T28 l 1) else ⟨a, b, c, l⟩
mutual
def sm : S28 → S28
  | ⟨a, b, c, l⟩ => fin a b c (smL l)
def smL : List S28 → List S28
  | [] => []
  | x :: xs => sm x :: smL xs
end
theorem sm_eq (c : S28) : sm c = fin c.f0 c.f1 c.f2 (smL c.f3) := by cases c; rfl
theorem mapO_sm (f : S28 → Option S28) : ∀ (l : List S28), (∀ x ∈ l, f x = some (sm x)) → Own.mapO f l = some (smL l)
  | [], _ => rfl
  | x :: l, h => by
    simp only [Own.mapO, smL, h x (by simp), mapO_sm f l (fun y hy => h y (by simp [hy])), Option.bind_some]
theorem pair_forms (op : Int) (hop : op = 5 ∨ op = 6) (x y : S28) (hx : forms x = true) (hy : forms y = true) : forms (pairS op x y) = true := by
  have hw : forms (⟨op, ⟨#[]⟩, 0, [x, y]⟩ : S28) = true := by
    rw [forms_eq]
    simp only [formsL, hx, hy]
    rcases hop with rfl | rfl <;> simp [formB, nilE_]
  unfold pairS
  repeat' split
  all_goals assumption
theorem pair_size (op : Int) (x y : S28) : tC (pairS op x y) ≤ 2 + tC x + tC y ∧ wC (pairS op x y) ≤ 10 + wC x + wC y := by
  unfold pairS
  repeat' split
  all_goals first | (constructor <;> omega) | skip
  rw [tC_eq, wC_eq]
  simp only [tL, wL, List.length_cons, List.length_nil]
  have : (⟨#[]⟩ : ByteArray).size = 0 := rfl
  constructor <;> omega
theorem own_ (op : Int) (nm : ByteArray) (day : Int) (k : Nat) (hk : 2 ≤ k) : spec_l5Own.f k op nm day [] = some (op, nm, day, []) := by
  obtain ⟨k, rfl⟩ : ∃ m, k = m + 2 := ⟨k - 2, by omega⟩
  simp only [spec_l5Own.f, spec_l5Own.l0]
  rw [if_neg (by simp)]
theorem sm_all (c : S28) : forms c = true → tC c ≤ 1048576 → (∀ k, wC c + 60 ≤ k → spec_l5Simple.f k c.f0 c.f1 c.f2 c.f3 = some (sm c)) ∧ (∀ k, wC c + 60 ≤ k → Own.impl_simp.f k c = some (sm c)) ∧ forms (sm c) = true ∧ tC (sm c) ≤ tC c ∧ wC (sm c) ≤ wC c := by
  refine indC (P := fun c => forms c = true → tC c ≤ 1048576 → (∀ k, wC c + 60 ≤ k → spec_l5Simple.f k c.f0 c.f1 c.f2 c.f3 = some (sm c)) ∧ (∀ k, wC c + 60 ≤ k → Own.impl_simp.f k c = some (sm c)) ∧ forms (sm c) = true ∧ tC (sm c) ≤ tC c ∧ wC (sm c) ≤ wC c) ?_ c
  intro c ih hf ht
  have hf0 := hf
  rw [forms_eq, Bool.and_eq_true] at hf
  obtain ⟨hb, hl⟩ := hf
  have hce : (⟨c.f0, c.f1, c.f2, c.f3⟩ : S28) = c := by cases c; rfl
  have hleaf : c.f3 = [] → (c.f0 = 1 ∨ c.f0 = 2 ∨ (c.f0 = 3 ∧ c.f2 ≠ 0)) → (∀ k, wC c + 60 ≤ k → spec_l5Simple.f k c.f0 c.f1 c.f2 c.f3 = some (sm c)) ∧ (∀ k, wC c + 60 ≤ k → Own.impl_simp.f k c = some (sm c)) ∧ forms (sm c) = true ∧ tC (sm c) ≤ tC c ∧ wC (sm c) ≤ wC c := by
    intro h3 ho
    have hs : sm c = c := by
      rw [sm_eq, h3]
      simp only [smL]
      rw [← hce, h3]
      unfold fin
      rcases ho with h | h | ⟨h, hn⟩
      all_goals simp_all
    rw [hs]
    refine ⟨fun k hk => ?_, fun k hk => ?_, hf0, Nat.le_refl _, Nat.le_refl _⟩
    · obtain ⟨k, rfl⟩ : ∃ m, k = m + 1 := ⟨k - 1, by omega⟩
      simp only [spec_l5Simple.f]
      rw [h3]
      have hw := own_ c.f0 c.f1 c.f2 k (by omega)
      have hce' : (⟨c.f0, c.f1, c.f2, []⟩ : S28) = c := by rw [← h3]; exact hce
      rcases ho with h | h | ⟨h, hn⟩
      · rw [if_neg (by omega), if_neg (by omega), if_neg (by omega), hw]; simp [hce']
      · rw [if_neg (by omega), if_neg (by omega), if_neg (by omega), hw]; simp [hce']
      · rw [if_pos h, if_neg hn, hw]; simp [hce']
    · obtain ⟨k, rfl⟩ : ∃ m, k = m + 1 := ⟨k - 1, by omega⟩
      simp only [Own.impl_simp.f]
      rw [h3]
      simp only [Own.mapO, Option.bind_some]
      have hce' : (⟨c.f0, c.f1, c.f2, []⟩ : S28) = c := by rw [← h3]; exact hce
      unfold Own.simpR
      rcases ho with h | h | ⟨h, hn⟩
      · rw [if_neg (by omega), if_neg (by omega), if_neg (by omega), hce']
      · rw [if_neg (by omega), if_neg (by omega), if_neg (by omega), hce']
      · rw [if_pos h, if_neg hn, hce']
  rcases formB_cases hb with h | h | h | h | h | h
  · exact hleaf h.2.1 (.inl h.1)
  · exact hleaf h.2.1 (.inr (.inl h.1))
  · by_cases h0 : c.f2 = 0
    · have hs : sm c = ⟨1, ⟨#[]⟩, 0, []⟩ := by
        rw [sm_eq]
        unfold fin
        rw [if_pos h.1, if_pos h0]
      rw [hs]
      refine ⟨fun k hk => ?_, fun k hk => ?_, by rw [forms_eq]; simp [formB, formsL, nilE_], by rw [tC_eq]; simp only [tL, List.length_nil]; have : (⟨#[]⟩ : ByteArray).size = 0 := rfl; omega, by rw [wC_eq, wC_eq]; simp [wL]⟩
      · obtain ⟨k, rfl⟩ : ∃ m, k = m + 1 := ⟨k - 1, by omega⟩
        simp only [spec_l5Simple.f]
        rw [if_pos h.1, if_pos h0]
      · obtain ⟨k, rfl⟩ : ∃ m, k = m + 1 := ⟨k - 1, by omega⟩
        simp only [Own.impl_simp.f]
        rw [h.2.1]
        simp only [Own.mapO, Option.bind_some]
        unfold Own.simpR
        rw [if_pos h.1, if_pos h0]
    · exact hleaf h.2.1 (.inr (.inr ⟨h.1, h0⟩))
  · obtain ⟨h4, hn, hd, p, hp⟩ := h
    have hn' := nil_ hn
    rw [hp] at hl
    simp only [formsL, Bool.and_true] at hl
    have htp : tC p ≤ tC c := by rw [tC_eq c, hp]; simp only [tL]; omega
    have hwp : wC p + 9 ≤ wC c := by rw [wC_eq c, hp]; simp only [wL]; omega
    have htc : tC c = 1 + tC p := by rw [tC_eq c, hp, hn']; simp only [tL, List.length_cons, List.length_nil]; have : (⟨#[]⟩ : ByteArray).size = 0 := rfl; omega
    obtain ⟨ip1, ip2, ip3, ip4, ip5⟩ := ih p (by rw [hp]; simp) hl (by omega)
    have hs : sm c = if (sm p).f0 = 4 then rd_T28 (sm p).f3 0 else ⟨4, ⟨#[]⟩, 0, [sm p]⟩ := by
      rw [sm_eq, hp, h4, hn', hd]
      simp only [smL]
      unfold fin
      rw [if_neg (by omega), if_pos rfl, rd0_]
    have hrd : (sm p).f0 = 4 → ∃ q, (sm p).f3 = [q] ∧ forms q = true := by
      intro h
      rw [forms_eq, Bool.and_eq_true] at ip3
      rcases formB_cases ip3.1 with g | g | g | g | g | g
      all_goals first | omega | skip
      obtain ⟨_, _, _, q, hq⟩ := g
      refine ⟨q, hq, ?_⟩
      have := ip3.2
      rw [hq] at this
      simpa [formsL] using this
    refine ⟨fun k hk => ?_, fun k hk => ?_, ?_, ?_⟩
    · obtain ⟨k, rfl⟩ : ∃ m, k = m + 1 := ⟨k - 1, by omega⟩
      simp only [spec_l5Simple.f]
      rw [if_neg (by omega), if_pos h4, hp, if_pos (by simp), rd0_, ip1 k (by omega), Option.bind_some, hs]
      by_cases hq : (sm p).f0 = 4
      · obtain ⟨q, hq3, _⟩ := hrd hq
        rw [if_pos hq, if_pos hq, if_pos (by rw [hq3]; simp)]
      · rw [if_neg hq, if_neg hq]
    · obtain ⟨k, rfl⟩ : ∃ m, k = m + 1 := ⟨k - 1, by omega⟩
      simp only [Own.impl_simp.f]
      rw [mapO_sm _ c.f3 (fun x hx => by rw [hp] at hx; obtain rfl := List.mem_singleton.1 hx; exact ip2 k (by omega)), Option.bind_some, hp, hs, h4, hn', hd]
      simp only [smL]
      unfold Own.simpR
      rw [if_neg (by omega), if_pos rfl, if_pos (by simp), rd0_]
      by_cases hq : (sm p).f0 = 4
      · obtain ⟨q, hq3, _⟩ := hrd hq
        rw [if_pos hq, if_pos hq, if_pos (by rw [hq3]; simp)]
      · rw [if_neg hq, if_neg hq]
    · rw [hs]
      by_cases hq : (sm p).f0 = 4
      · obtain ⟨q, hq3, hqf⟩ := hrd hq
        rw [if_pos hq, hq3, rd0_]; exact hqf
      · rw [if_neg hq, forms_eq]
        simp [formsL, ip3, formB, nilE_]
    · rw [hs]
      by_cases hq : (sm p).f0 = 4
      · obtain ⟨q, hq3, hqf⟩ := hrd hq
        rw [if_pos hq, hq3, rd0_]
        rw [tC_eq (sm p), hq3] at ip4
        rw [wC_eq (sm p), hq3] at ip5
        simp only [tL, wL] at ip4 ip5
        constructor <;> omega
      · rw [if_neg hq, tC_eq (⟨4, ⟨#[]⟩, 0, [sm p]⟩ : S28), wC_eq (⟨4, ⟨#[]⟩, 0, [sm p]⟩ : S28), wC_eq c, hp]
        simp only [tL, wL, List.length_cons, List.length_nil]
        have : (⟨#[]⟩ : ByteArray).size = 0 := rfl
        constructor <;> omega
  all_goals
    obtain ⟨h5, hn, hd, p, q, hpq⟩ := h
    have hop : c.f0 = 5 ∨ c.f0 = 6 := by omega
    have hn' := nil_ hn
    rw [hpq] at hl
    simp only [formsL, Bool.and_true, Bool.and_eq_true] at hl
    have htc : tC c = 2 + tC p + tC q := by rw [tC_eq c, hpq, hn']; simp only [tL, List.length_cons, List.length_nil]; have : (⟨#[]⟩ : ByteArray).size = 0 := rfl; omega
    have hwc : wC c = 10 + wC p + wC q := by rw [wC_eq c, hpq]; simp only [wL]; omega
    obtain ⟨ip1, ip2, ip3, ip4, ip5⟩ := ih p (by rw [hpq]; simp) hl.1 (by omega)
    obtain ⟨iq1, iq2, iq3, iq4, iq5⟩ := ih q (by rw [hpq]; simp) hl.2 (by omega)
    have hs : sm c = pairS c.f0 (sm p) (sm q) := by
      rw [sm_eq, hpq]
      simp only [smL]
      unfold fin
      rw [if_neg (by omega), if_neg (by omega), if_pos hop, rd0_, rd1_]
    have hz := pair_size c.f0 (sm p) (sm q)
    refine ⟨fun k hk => ?_, fun k hk => ?_, by rw [hs]; exact pair_forms _ hop _ _ ip3 iq3, by rw [hs]; omega, by rw [hs]; omega⟩
    · obtain ⟨k, rfl⟩ : ∃ m, k = m + 1 := ⟨k - 1, by omega⟩
      simp only [spec_l5Simple.f]
      rw [if_neg (by omega), if_neg (by omega), if_pos hop, hpq, if_pos (by simp), rd0_, rd1_, ip1 k (by omega), iq1 k (by omega)]
      simp only [Option.bind_some]
      rw [pair_ _ hop _ _ ip3 iq3 (by omega) k (by omega), hs, Option.bind_some]
      exact congrArg some (etaC _)
    · obtain ⟨k, rfl⟩ : ∃ m, k = m + 1 := ⟨k - 1, by omega⟩
      simp only [Own.impl_simp.f]
      rw [mapO_sm _ c.f3 (fun x hx => by rw [hpq] at hx; rcases List.mem_cons.1 hx with rfl | hx; exact ip2 k (by omega); obtain rfl := List.mem_singleton.1 hx; exact iq2 k (by omega)), Option.bind_some, hpq, hs, hn', hd]
      simp only [smL]
      exact simpP_ _ hop _ _ ip3 iq3 (by omega) k (by omega)
theorem FnExactSimplifyCondition (c : S24) (hc : ok24 c) : ∃ k, laws_FnExactSimplifyCondition.f k c.f0 c.f1 c.f2 c.f3 = some true := by
  obtain ⟨K, hK⟩ : ∃ K, K = wC (cv c) + 400 := ⟨_, rfl⟩
  refine ⟨K, ?_⟩
  unfold laws_FnExactSimplifyCondition.f
  rw [sz_ c hc _ 1048576 (by omega) (by omega) (by omega), Option.bind_some]
  by_cases ht : (1048576 : Int) < tC (cv c)
  · rw [if_pos ht, if_pos (by omega)]
  rw [if_neg ht, if_neg (by omega)]
  have ht' : tC (cv c) ≤ 1048576 := by omega
  have hz := szL_tC (cv c) ht'
  obtain ⟨r, b, hr1, hr2, e1, e2⟩ : ∃ r b, tC r ≤ 1048576 ∧ wC r ≤ wC (cv c) ∧ spec_Simp.f K (cv c).f0 (cv c).f1 (cv c).f2 (cv c).f3 = some (r, b) ∧ Own.impl_Simp.f K (cv c).f0 (cv c).f1 (cv c).f2 (cv c).f3 = some (r, b) := by
    unfold spec_Simp.f Own.impl_Simp.f
    simp only [good_ (cv c) ht' K (by omega), valid_ (cv c) ht' K (by omega), Option.bind_some]
    cases hg : good (cv c) with
    | false => exact ⟨⟨0, ⟨#[]⟩, 0, []⟩, false, by rw [tC_eq]; simp only [tL, List.length_nil]; have : (⟨#[]⟩ : ByteArray).size = 0 := rfl; omega, by rw [wC_eq, wC_eq]; simp [wL], by simp, by simp⟩
    | true =>
      have hf : forms (cv c) = true := by unfold good at hg; simp at hg; exact hg.1
      obtain ⟨a1, a2, a3, a4, a5⟩ := sm_all (cv c) hf ht'
      have hce : (⟨(cv c).f0, (cv c).f1, (cv c).f2, (cv c).f3⟩ : S28) = cv c := by cases cv c; rfl
      refine ⟨sm (cv c), true, by omega, a5, ?_, ?_⟩
      · simp [a1 K (by omega)]
      · simp [hce, a2 K (by omega)]
  have hzr := szL_tC r hr1
  simp only [to_ c ht' K (by omega), e1, e2, eq_ r hr1 K (by omega), eq_ (cv c) ht' K (by omega), Option.bind_some]
  rw [if_pos ⟨trivial, trivial, trivial, hz, hzr⟩]

end Go.Proofs.YtnpenfficbdlmaaDoor.Pure
