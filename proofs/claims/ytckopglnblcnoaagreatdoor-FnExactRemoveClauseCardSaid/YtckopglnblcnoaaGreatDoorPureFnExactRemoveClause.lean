/- The program's RemoveClause and the reference's return the same for every contract and name, the contract stays as it was, and the result shares no memory; no condition. -/
import Derived.Test.YtckopglnblcnoaaGreatDoorQFnExactRemoveClausex90
namespace Go.Proofs.YtckopglnblcnoaaGreatDoor.Pure
open Go.RowKit Go.Proofs.YtckopglnblcnoaaGreatDoor.QFnExactRemoveClause Go.Proofs.YtckopglnblcnoaaGreatDoorW.PrintWords Go.Proofs.YtckopglnblcnoaaGreatDoorW.PrintLast
set_option linter.unusedVariables false
set_option linter.unusedSimpArgs false
inductive ok58 : S58 → Prop
 | mk (x : S58) (h0 : (Lit.int .i64 x.f0).wf = true) (h1 : x.f1.size ≤ maxLen) (h2 : (Lit.int .i64 x.f2).wf = true) (h3 : x.f3.length ≤ maxLen) (h4 : ∀ y ∈ x.f3, ok58 y) : ok58 x
inductive ok60 : S60 → Prop
 | mk (x : S60) (h0 : x.f0.size ≤ maxLen) (h1 : (Lit.int .i64 x.f1).wf = true) (h2 : (Lit.int .i64 x.f2).wf = true) (h3 : x.f3.size ≤ maxLen) (h4 : (Lit.int .i64 x.f4).wf = true) (h5 : (Lit.int .i64 x.f5).wf = true) (h6 : ok58 x.f6) (h7 : (Lit.int .i64 x.f7).wf = true) (h8 : x.f8.size ≤ maxLen) : ok60 x
theorem w64 {x : Int} (h : -9223372036854775808 ≤ x) (h' : x ≤ 9223372036854775807) : wrap64 x = x := by unfold wrap64; omega
theorem within_ {x a b : Int} : (if x ≥ a then some (decide (x ≤ b)) else some false) = some (decide (a ≤ x ∧ x ≤ b)) := by
 by_cases h : x ≥ a
 · rw [if_pos h]; congr 1; simp; omega
 · rw [if_neg h]; congr 1; simp; omega
theorem toList_inj {a b : ByteArray} (h : a.toList = b.toList) : a = b := by
 rw [ByteArray.toList_eq, ByteArray.toList_eq] at h
 exact Go.WideShapes.bytes_inj h
theorem rdOf_nat (l : List ByteArray) (i : Nat) (h : i < l.length) : rdOf ByteArray.empty l (i : Int) = l[i] := by
 unfold rdOf; rw [Int.toNat_natCast, List.getD_eq_getElem?_getD, List.getElem?_eq_getElem h]; rfl
theorem eqS_l0 (l : List ByteArray) (hl : l.length ≤ 1048577) (d : Nat) : ∀ (i k : Nat), i + d = l.length → d < k → laws_eqStringS.l0 k l l (i : Int) = some true := by
 induction d with
 | zero =>
  intro i k hi hk
  obtain ⟨k, rfl⟩ : ∃ m, k = m + 1 := ⟨k - 1, by omega⟩
  simp only [laws_eqStringS.l0]; rw [if_neg (by omega)]
 | succ d ih =>
  intro i k hi hk
  obtain ⟨k, rfl⟩ : ∃ m, k = m + 1 := ⟨k - 1, by omega⟩
  simp only [laws_eqStringS.l0]
  rw [if_pos (by omega), if_pos (by omega), if_pos (by omega), if_pos trivial, w64 (x := (i : Int) + 1) (by omega) (by omega), show (i : Int) + 1 = ((i + 1 : Nat) : Int) by omega]
  exact ih (i + 1) k (by omega) (by omega)
theorem eqS_ (l : List ByteArray) (hl : l.length ≤ 1048577) (k : Nat) (hk : l.length < k) : laws_eqStringS.f k l l = some true := by
 unfold laws_eqStringS.f
 rw [if_pos rfl]
 exact eqS_l0 l hl l.length 0 k (by omega) hk
theorem copyS_l0 (l : List ByteArray) (hl : l.length ≤ 1048577) (d : Nat) : ∀ (i k : Nat) (y : List ByteArray), i + d = l.length → d < k → y.length = l.length → (∀ j, j < i → y[j]? = l[j]?) → laws_toStringS.l0 k l y (i : Int) = some l := by
 induction d with
 | zero =>
  intro i k y hi hk hy hj
  obtain ⟨k, rfl⟩ : ∃ m, k = m + 1 := ⟨k - 1, by omega⟩
  simp only [laws_toStringS.l0]; rw [if_neg (by omega)]
  congr 1
  apply List.ext_getElem?
  intro j
  by_cases h : j < i
  · exact hj j h
  · rw [List.getElem?_eq_none (by omega), List.getElem?_eq_none (by omega)]
 | succ d ih =>
  intro i k y hi hk hy hj
  obtain ⟨k, rfl⟩ : ∃ m, k = m + 1 := ⟨k - 1, by omega⟩
  simp only [laws_toStringS.l0]
  rw [if_pos (by omega), if_pos (by omega), if_pos (by omega), rdOf_nat l i (by omega), Int.toNat_natCast, w64 (x := (i : Int) + 1) (by omega) (by omega), show (i : Int) + 1 = ((i + 1 : Nat) : Int) by omega]
  refine ih (i + 1) k _ (by omega) (by omega) (by simpa using hy) (fun j hj' => ?_)
  by_cases h : j = i
  · subst h; rw [List.getElem?_set_self (by omega), List.getElem?_eq_getElem (by omega)]
  · rw [List.getElem?_set_ne (by omega)]; exact hj j (by omega)
theorem copyS_ (l : List ByteArray) (hl : l.length ≤ 1048577) (k : Nat) (hk : l.length < k) : laws_toStringS.f k l = some l := by
 unfold laws_toStringS.f
 rw [if_pos (by omega), if_pos (by omega)]
 exact copyS_l0 l hl l.length 0 k _ (by omega) hk (by simp) (fun j hj => by omega)
def tot (l : List ByteArray) : Nat := (l.map (·.size)).sum
theorem tot_cons (p : ByteArray) (l : List ByteArray) : tot (p :: l) = p.size + tot l := by simp [tot]
def words9 : List ByteArray := [⟨#[116, 114, 117, 101]⟩, ⟨#[102, 114, 111, 109]⟩, ⟨#[110, 111, 116]⟩, ⟨#[97, 110, 100]⟩, ⟨#[111, 114]⟩, ⟨#[98, 111, 116, 104]⟩, ⟨#[101, 105, 116, 104, 101, 114]⟩, ⟨#[105, 116]⟩, ⟨#[105, 110]⟩]
theorem split9 : strings_Split.f ⟨#[116, 114, 117, 101, 32, 102, 114, 111, 109, 32, 110, 111, 116, 32, 97, 110, 100, 32, 111, 114, 32, 98, 111, 116, 104, 32, 101, 105, 116, 104, 101, 114, 32, 105, 116, 32, 105, 110]⟩ ⟨#[32]⟩ = some words9 := by kernel_rfl
theorem sign_ (c : Int) : spec_l5Sign.f c = some (decide ((97 ≤ c ∧ c ≤ 122) ∨ (48 ≤ c ∧ c ≤ 57))) := by
 unfold spec_l5Sign.f
 repeat' split
 all_goals first | (congr 1; apply decide_eq_decide.2; omega) | (congr 1; symm; exact decide_eq_true (by omega)) | (congr 1; symm; exact decide_eq_false (by omega))
theorem impl_step (c : Int) (N : Option Bool) : (if c < 97 then (if c < 48 then some false else (if c > 57 then some false else N)) else (if c > 122 then (if c < 48 then some false else (if c > 57 then some false else N)) else N)) = if (97 ≤ c ∧ c ≤ 122) ∨ (48 ≤ c ∧ c ≤ 57) then N else some false := by
 repeat' split
 all_goals first | rfl | (exfalso; omega)
theorem index_l0 (l : List ByteArray) (hl : l.length ≤ 1048576) (s : ByteArray) (d : Nat) : ∀ (i k : Nat), i + d = l.length → d < k → ∃ r : Int, slices_Index_string_string.l0 k l s (l.length : Int) (i : Int) = some r ∧ (0 ≤ r ↔ s ∈ l.drop i) := by
 induction d with
 | zero =>
  intro i k hi hk
  obtain ⟨k, rfl⟩ : ∃ m, k = m + 1 := ⟨k - 1, by omega⟩
  refine ⟨-1, ?_, ?_⟩
  · simp only [slices_Index_string_string.l0]; rw [if_neg (by omega)]
  · rw [List.drop_eq_nil_of_le (by omega)]; simp
 | succ d ih =>
  intro i k hi hk
  obtain ⟨k, rfl⟩ : ∃ m, k = m + 1 := ⟨k - 1, by omega⟩
  have hlt : i < l.length := by omega
  simp only [slices_Index_string_string.l0]
  rw [if_pos (by omega), if_pos (by omega), if_pos (by omega), rdOf_nat l i hlt, List.drop_eq_getElem_cons hlt]
  by_cases h : s.toList = l[i].toList
  · rw [if_pos h]
    refine ⟨i, rfl, ?_⟩
    have := toList_inj h
    exact ⟨fun _ => by rw [this]; exact List.mem_cons_self, fun _ => by omega⟩
  · rw [if_neg h, w64 (x := (i : Int) + 1) (by omega) (by omega), show (i : Int) + 1 = ((i + 1 : Nat) : Int) by omega]
    obtain ⟨r, h1, h2⟩ := ih (i + 1) k (by omega) (by omega)
    refine ⟨r, h1, ?_⟩
    rw [h2, List.mem_cons]
    constructor
    · exact Or.inr
    · rintro (e | e)
      · exact absurd (by rw [← e]) h
      · exact e
theorem contains9 (s : ByteArray) (k : Nat) (hk : 10 ≤ k) : ∃ b, slices_Contains_string_string.f k words9 s = some b ∧ (b = true ↔ s ∈ words9) := by
 obtain ⟨r, h1, h2⟩ := index_l0 words9 (by decide) s 9 0 k rfl (by omega)
 refine ⟨decide (r ≥ 0), ?_, ?_⟩
 · unfold slices_Contains_string_string.f slices_Index_string_string.f
   have h1' : slices_Index_string_string.l0 k words9 s (words9.length : Int) 0 = some r := h1
   rw [h1', Option.bind_some]
 · rw [decide_eq_true_iff, ge_iff_le, h2, List.drop_zero]
theorem toList_iff (s : ByteArray) (l : List UInt8) : s.toList = l ↔ s = ⟨l.toArray⟩ := by
 constructor
 · intro h; apply toList_inj; rw [h, ByteArray.toList_eq]
 · rintro rfl; rw [ByteArray.toList_eq]
theorem not_or9 {a b c d e f g h i : Prop} (n : (a ∨ b ∨ c ∨ d ∨ e ∨ f ∨ g ∨ h ∨ i) → False) : ¬a ∧ ¬b ∧ ¬c ∧ ¬d ∧ ¬e ∧ ¬f ∧ ¬g ∧ ¬h ∧ ¬i := by
 refine ⟨?_, ?_, ?_, ?_, ?_, ?_, ?_, ?_, ?_⟩ <;> intro x <;> exact n (by simp [x])
theorem name_l0 (s : ByteArray) (hs : s.size ≤ 1048576) (d : Nat) : ∀ (i k : Nat), i + d = s.size → d + 11 < k → ∃ b, spec_l5Name.l0 k s (i : Int) = some b ∧ impl_IsValidName.l0 k s (s.size : Int) (i : Int) = some b := by
 induction d with
 | zero =>
  intro i k hi hk
  obtain ⟨k, rfl⟩ : ∃ m, k = m + 1 := ⟨k - 1, by omega⟩
  obtain ⟨b, hb, hm⟩ := contains9 s k (by omega)
  refine ⟨!b, ?_, ?_⟩
  · simp only [spec_l5Name.l0]
    rw [if_neg (by omega)]
    simp only [toList_iff]
    unfold words9 at hm
    simp only [List.mem_cons, List.mem_nil_iff, or_false] at hm
    cases b with
    | true =>
     have := hm.1 rfl
     rcases this with h | h | h | h | h | h | h | h | h <;> simp [h]
    | false =>
     have hn := fun h => Bool.false_ne_true (hm.2 h)
     obtain ⟨n1, n2, n3, n4, n5, n6, n7, n8, n9⟩ : _ ∧ _ ∧ _ ∧ _ ∧ _ ∧ _ ∧ _ ∧ _ ∧ _ := not_or9 hn
     rw [if_neg n1, if_neg n2, if_neg n3, if_neg n4, if_neg n5, if_neg n6, if_neg n7, if_neg n8, if_neg n9]
     rfl
  · simp only [impl_IsValidName.l0]
    rw [if_neg (by omega), split9, Option.bind_some, hb, Option.bind_some]
 | succ d ih =>
  intro i k hi hk
  obtain ⟨k, rfl⟩ : ∃ m, k = m + 1 := ⟨k - 1, by omega⟩
  obtain ⟨b, h1, h2⟩ := ih (i + 1) k (by omega) (by omega)
  simp only [spec_l5Name.l0, impl_IsValidName.l0]
  rw [if_pos (by omega), if_pos (by omega), if_pos (by omega), if_pos (by omega), if_pos (by omega), impl_step, sign_, Option.bind_some, w64 (x := (i : Int) + 1) (by omega) (by omega), show (i : Int) + 1 = ((i + 1 : Nat) : Int) by omega, h1, h2]
  by_cases hc : (97 ≤ bt s (i : Int) ∧ bt s (i : Int) ≤ 122) ∨ (48 ≤ bt s (i : Int) ∧ bt s (i : Int) ≤ 57)
  · exact ⟨b, by simp [hc], by simp [hc]⟩
  · exact ⟨false, by simp [hc], by simp [hc]⟩
theorem names_ (s : ByteArray) : ∃ b, spec_l5Name.f 30 s = some b ∧ impl_IsValidName.f 30 s = some b := by
 unfold spec_l5Name.f impl_IsValidName.f spec_l1In.f impl_within.f
 by_cases h1 : (s.size : Int) ≥ 1
 · by_cases h8 : (s.size : Int) ≤ 8
   · obtain ⟨b, e1, e2⟩ := name_l0 s (by omega) s.size 0 29 (by omega) (by omega)
     have e1' : spec_l5Name.l0 29 s 0 = some b := e1
     have e2' : impl_IsValidName.l0 29 s (s.size : Int) 0 = some b := e2
     have h0 : 0 < (s.size : Int) := by omega
     have h0' : 0 < s.size := by omega
     by_cases c1 : bt s 0 < 97
     · simp [h1, h8, h0, h0', c1, spec_l5Name.j0, impl_IsValidName.j0]
     · by_cases c2 : bt s 0 > 122
       · simp [h1, h8, h0, h0', c1, c2, spec_l5Name.j0, impl_IsValidName.j0]
       · refine ⟨b, ?_, ?_⟩ <;> simp [h1, h8, h0, h0', c1, c2, spec_l5Name.j0, impl_IsValidName.j0, e1', e2']
   · simp [h1, h8, spec_l5Name.j0, impl_IsValidName.j0]
 · simp [h1, spec_l5Name.j0, impl_IsValidName.j0]
def nameB (s : ByteArray) : Bool := (spec_l5Name.f 30 s).getD false
theorem nameS_ (s : ByteArray) {k : Nat} (hk : 30 ≤ k) : spec_l5Name.f k s = some (nameB s) := by
 obtain ⟨b, e1, _⟩ := names_ s
 have : nameB s = b := by unfold nameB; rw [e1]; rfl
 rw [this]; exact at_rounds (fun k => spec_l5Name.mono s k) hk e1
theorem nameI_ (s : ByteArray) {k : Nat} (hk : 30 ≤ k) : impl_IsValidName.f k s = some (nameB s) := by
 obtain ⟨b, e1, e2⟩ := names_ s
 have : nameB s = b := by unfold nameB; rw [e1]; rfl
 rw [this]; exact at_rounds (fun k => impl_IsValidName.mono s k) hk e2
theorem nameB_nil (s : ByteArray) (h : s.toList = []) : nameB s = false := by
 have : s.size = 0 := by
  have h2 : s.toList.length = 0 := by rw [h]; rfl
  rw [ByteArray.toList_eq] at h2; simpa using h2
 unfold nameB spec_l5Name.f spec_l1In.f
 simp [this, spec_l5Name.j0]
theorem indL {P : S58 → Prop} (h : ∀ c : S58, (∀ x ∈ c.f3, P x) → P c) (c : S58) : P c :=
 S58.rec (motive_1 := P) (motive_2 := fun l => ∀ x ∈ l, P x) (fun a b c l ih => h ⟨a, b, c, l⟩ ih) (fun x hx => by cases hx) (fun x xs hx hxs y hy => by cases hy with | head => exact hx | tail _ h => exact hxs y h) c
theorem indC {P : S49 → Prop} (h : ∀ c : S49, (∀ x ∈ c.f3, P x) → P c) (c : S49) : P c :=
 S49.rec (motive_1 := P) (motive_2 := fun l => ∀ x ∈ l, P x) (fun a b c l ih => h ⟨a, b, c, l⟩ ih) (fun x hx => by cases hx) (fun x xs hx hxs y hy => by cases hy with | head => exact hx | tail _ h => exact hxs y h) c
mutual
def cv : S58 → S49
 | ⟨a, b, c, l⟩ => ⟨a, b, c, cvL l⟩
def cvL : List S58 → List S49
 | [] => []
 | x :: xs => cv x :: cvL xs
end
mutual
def wC : S49 → Nat
 | ⟨_, _, _, l⟩ => wL l + 8
def wL : List S49 → Nat
 | [] => 0
 | x :: xs => wC x + wL xs + 1
end
mutual
def tC : S49 → Nat
 | ⟨_, b, _, l⟩ => b.size + l.length + tL l
def tL : List S49 → Nat
 | [] => 0
 | x :: xs => tC x + tL xs
end
mutual
def nC : S49 → Nat
 | ⟨_, _, _, l⟩ => nL l + 1
def nL : List S49 → Nat
 | [] => 0
 | x :: xs => nC x + nL xs
end
theorem cvL_map (l : List S58) : cvL l = l.map cv := by
 induction l with
 | nil => rfl
 | cons x xs ih => simp [cvL, ih]
theorem cv_f0 (c : S58) : (cv c).f0 = c.f0 := by cases c; rfl
theorem cv_f1 (c : S58) : (cv c).f1 = c.f1 := by cases c; rfl
theorem cv_f2 (c : S58) : (cv c).f2 = c.f2 := by cases c; rfl
theorem cv_f3 (c : S58) : (cv c).f3 = c.f3.map cv := by cases c; simp [cv, cvL_map]
theorem wC_eq (c : S49) : wC c = wL c.f3 + 8 := by cases c; rfl
theorem tC_eq (c : S49) : tC c = c.f1.size + c.f3.length + tL c.f3 := by cases c; rfl
theorem nC_eq (c : S49) : nC c = nL c.f3 + 1 := by cases c; rfl
theorem tL_mem {l : List S49} {x : S49} (h : x ∈ l) : tC x ≤ tL l := by
 induction l with
 | nil => cases h
 | cons y ys ih =>
  simp only [tL]
  cases h with
  | head => omega
  | tail _ h => have := ih h; omega
theorem nL_le (l : List S49) (h : ∀ x ∈ l, nC x ≤ tC x + 1) : nL l ≤ tL l + l.length := by
 induction l with
 | nil => simp [nL]
 | cons y ys ih =>
  have h1 := h y List.mem_cons_self
  have h2 := ih (fun x hx => h x (List.mem_cons_of_mem _ hx))
  simp only [nL, tL, List.length_cons]; omega
theorem nC_le (c : S49) : nC c ≤ tC c + 1 := by
 refine indC (P := fun c => nC c ≤ tC c + 1) ?_ c
 intro c ih
 have := nL_le c.f3 ih
 rw [nC_eq, tC_eq]; omega
theorem nL_sum (l : List S49) : nL l ≤ tL l + l.length := nL_le l (fun x _ => nC_le x)
theorem rdL_ (l : List S58) (i : Nat) (h : i < l.length) : rd_T58 l (i : Int) = l[i] := by
 unfold rd_T58; rw [Int.toNat_natCast, List.getD_eq_getElem?_getD, List.getElem?_eq_getElem h]; rfl
theorem rdC_ (l : List S49) (i : Nat) (h : i < l.length) : rd_T49 l (i : Int) = l[i] := by
 unfold rd_T49; rw [Int.toNat_natCast, List.getD_eq_getElem?_getD, List.getElem?_eq_getElem h]; rfl
theorem dropL_ (l : List S58) (i : Nat) (h : i < l.length) : (l.drop i).map cv = cv l[i] :: (l.drop (i + 1)).map cv := by
 rw [List.drop_eq_getElem_cons h, List.map_cons]
theorem dropC_ (l : List S49) (i : Nat) (h : i < l.length) : l.drop i = l[i] :: l.drop (i + 1) := List.drop_eq_getElem_cons h
theorem szL_ (l : List S58) (hl : l.length ≤ 1048576) (h : ∀ x ∈ l, ∀ k left, wC (cv x) + 5 ≤ k → 0 ≤ left → left ≤ 1048576 → laws_szCondition.f k x.f0 x.f1 x.f2 x.f3 left = some (if left < tC (cv x) then -1 else left - tC (cv x))) (d : Nat) :
 ∀ (i k : Nat) (left : Int), i + d = l.length → wL ((l.drop i).map cv) + 5 ≤ k → 0 ≤ left → left ≤ 1048576 → laws_szConditionS.l0 k l left (i : Int) = some (if left < tL ((l.drop i).map cv) then -1 else left - tL ((l.drop i).map cv)) := by
 induction d with
 | zero =>
  intro i k left hi hk h0 h1
  obtain ⟨k, rfl⟩ : ∃ m, k = m + 1 := ⟨k - 1, by omega⟩
  simp only [laws_szConditionS.l0]
  rw [if_neg (by omega), List.drop_eq_nil_of_le (by omega)]
  have e_ : tL (List.map cv ([] : List S58)) = 0 := rfl
  rw [e_]
  rw [if_neg (by omega)]; congr 1; omega
 | succ d ih =>
  intro i k left hi hk h0 h1
  have hlt : i < l.length := by omega
  obtain ⟨k, rfl⟩ : ∃ m, k = m + 1 := ⟨k - 1, by omega⟩
  rw [dropL_ l i hlt] at hk ⊢
  simp only [wL] at hk
  have e_ : tL (cv l[i] :: (l.drop (i + 1)).map cv) = tC (cv l[i]) + tL ((l.drop (i + 1)).map cv) := rfl
  rw [e_]
  simp only [laws_szConditionS.l0]
  rw [if_pos (by omega), if_pos (by omega), rdL_ l i hlt, h l[i] (List.getElem_mem hlt) k left (by omega) h0 h1, Option.bind_some]
  by_cases hc : left < tC (cv l[i])
  · rw [if_pos hc, if_pos (by omega), if_pos (by omega)]
  · rw [if_neg hc, if_neg (by omega), w64 (x := (i : Int) + 1) (by omega) (by omega), show (i : Int) + 1 = ((i + 1 : Nat) : Int) by omega, ih (i + 1) k _ (by omega) (by omega) (by omega) (by omega)]
    congr 1
    by_cases h2 : left - (tC (cv l[i]) : Int) < tL ((l.drop (i + 1)).map cv)
    · rw [if_pos h2, if_pos (by omega)]
    · rw [if_neg h2, if_neg (by omega)]; omega
theorem sz_ (c : S58) : ok58 c → ∀ (k : Nat) (left : Int), wC (cv c) + 5 ≤ k → 0 ≤ left → left ≤ 1048576 → laws_szCondition.f k c.f0 c.f1 c.f2 c.f3 left = some (if left < tC (cv c) then -1 else left - tC (cv c)) := by
 refine indL (P := fun c => ok58 c → ∀ (k : Nat) (left : Int), wC (cv c) + 5 ≤ k → 0 ≤ left → left ≤ 1048576 → laws_szCondition.f k c.f0 c.f1 c.f2 c.f3 left = some (if left < tC (cv c) then -1 else left - tC (cv c))) ?_ c
 rintro c ih ⟨_, _, h1, _, h3, h4⟩ k left hk h0 hle
 rw [wC_eq, cv_f3] at hk
 rw [tC_eq, cv_f1, cv_f3, List.length_map]
 obtain ⟨k, rfl⟩ : ∃ m, k = m + 3 := ⟨k - 3, by omega⟩
 have hm : maxLen = 9223372036854775807 := rfl
 simp only [laws_szCondition.f, laws_szConditionS.f]
 rw [w64 (x := left - (c.f1.size : Int)) (by omega) (by omega)]
 by_cases hc : left - (c.f1.size : Int) < 0
 · rw [if_pos hc, if_pos (by omega)]
 rw [if_neg hc, w64 (x := left - (c.f1.size : Int) - (c.f3.length : Int)) (by omega) (by omega)]
 by_cases hd : left - (c.f1.size : Int) - (c.f3.length : Int) < 0
 · rw [if_pos hd, Option.bind_some, if_pos (by omega), if_pos (by omega)]
 rw [if_neg hd]
 have hS := szL_ c.f3 (by omega) (fun x hx => ih x hx (h4 x hx)) c.f3.length 0 (k + 1) (left - (c.f1.size : Int) - (c.f3.length : Int)) (by omega) (by simp only [List.drop_zero]; omega) (by omega) (by omega)
 simp only [List.drop_zero] at hS
 have hS' : laws_szConditionS.l0 (k + 1) c.f3 (left - (c.f1.size : Int) - (c.f3.length : Int)) 0 = _ := hS
 rw [hS', Option.bind_some]
 by_cases he : left - (c.f1.size : Int) - (c.f3.length : Int) < (tL (c.f3.map cv) : Int)
 · rw [if_pos he, if_pos (by omega), if_pos (by omega)]
 · rw [if_neg he, if_neg (by omega), if_neg (by omega)]; congr 1; omega
theorem set_grow {α : Type} (a : List α) (d : Nat) (z x : α) (i : Nat) (h : a.length = i) : (a ++ List.replicate (d + 1) z).set i x = (a ++ [x]) ++ List.replicate d z := by
 subst h
 rw [List.set_append_right _ _ (Nat.le_refl _), Nat.sub_self, List.replicate_succ, List.set_cons_zero, List.append_assoc, List.singleton_append]
theorem mkC_ (c : S49) : (⟨c.f0, c.f1, c.f2, c.f3⟩ : S49) = c := by cases c; rfl
theorem toL_ (l : List S58) (hl : l.length ≤ 1048576) (h : ∀ x ∈ l, ∀ k, wC (cv x) + 5 ≤ k → laws_toCondition.f k x.f0 x.f1 x.f2 x.f3 = some ((cv x).f0, (cv x).f1, (cv x).f2, (cv x).f3)) (d : Nat) :
 ∀ (i k : Nat), i + d = l.length → wL ((l.drop i).map cv) + 5 ≤ k → laws_toConditionS.l0 k l ((l.take i).map cv ++ List.replicate d z49) (i : Int) = some (l.map cv) := by
 induction d with
 | zero =>
  intro i k hi hk
  obtain ⟨k, rfl⟩ : ∃ m, k = m + 1 := ⟨k - 1, by omega⟩
  simp only [laws_toConditionS.l0]
  rw [if_neg (by omega), List.take_of_length_le (by omega)]
  simp
 | succ d ih =>
  intro i k hi hk
  have hlt : i < l.length := by omega
  obtain ⟨k, rfl⟩ : ∃ m, k = m + 1 := ⟨k - 1, by omega⟩
  rw [dropL_ l i hlt] at hk
  simp only [wL] at hk
  simp only [laws_toConditionS.l0]
  rw [if_pos (by omega), if_pos (by omega), rdL_ l i hlt, h l[i] (List.getElem_mem hlt) k (by omega), Option.bind_some]
  rw [if_pos (by simp; omega), w64 (x := (i : Int) + 1) (by omega) (by omega), show (i : Int) + 1 = ((i + 1 : Nat) : Int) by omega, Int.toNat_natCast, set_grow _ _ _ _ _ (by simp; omega)]
  have := ih (i + 1) k (by omega) (by omega)
  rw [List.take_succ_eq_append_getElem hlt, List.map_append, List.map_cons, List.map_nil] at this
  rw [← this]
  dsimp only
  rw [mkC_]
theorem to_ (c : S58) : tC (cv c) ≤ 1048576 → ∀ (k : Nat), wC (cv c) + 5 ≤ k → laws_toCondition.f k c.f0 c.f1 c.f2 c.f3 = some ((cv c).f0, (cv c).f1, (cv c).f2, (cv c).f3) := by
 refine indL (P := fun c => tC (cv c) ≤ 1048576 → ∀ (k : Nat), wC (cv c) + 5 ≤ k → laws_toCondition.f k c.f0 c.f1 c.f2 c.f3 = some ((cv c).f0, (cv c).f1, (cv c).f2, (cv c).f3)) ?_ c
 intro c ih ht k hk
 rw [wC_eq, cv_f3] at hk
 rw [tC_eq, cv_f3, List.length_map] at ht
 obtain ⟨k, rfl⟩ : ∃ m, k = m + 3 := ⟨k - 3, by omega⟩
 rw [cv_f0, cv_f1, cv_f2, cv_f3]
 simp only [laws_toCondition.f, laws_toConditionS.f]
 rw [if_pos (by omega), if_pos (by omega)]
 have hS := toL_ c.f3 (by omega) (fun x hx => ih x hx (by have := tL_mem (List.mem_map_of_mem (f := cv) hx); omega)) c.f3.length 0 (k + 1) (by omega) (by simp only [List.drop_zero]; omega)
 simp only [List.take_zero, List.map_nil, List.nil_append] at hS
 have hS' : laws_toConditionS.l0 (k + 1) c.f3 (List.replicate c.f3.length z49) 0 = _ := hS
 rw [Int.toNat_natCast, hS', Option.bind_some]
theorem eqL_ (l : List S49) (hl : l.length ≤ 1048576) (h : ∀ x ∈ l, ∀ k, wC x + 5 ≤ k → laws_eqCondition.f k x.f0 x.f1 x.f2 x.f3 x.f0 x.f1 x.f2 x.f3 = some true) (d : Nat) :
 ∀ (i k : Nat), i + d = l.length → wL (l.drop i) + 5 ≤ k → laws_eqConditionS.l0 k l l (i : Int) = some true := by
 induction d with
 | zero =>
  intro i k hi hk
  obtain ⟨k, rfl⟩ : ∃ m, k = m + 1 := ⟨k - 1, by omega⟩
  simp only [laws_eqConditionS.l0]
  rw [if_neg (by omega)]
 | succ d ih =>
  intro i k hi hk
  have hlt : i < l.length := by omega
  obtain ⟨k, rfl⟩ : ∃ m, k = m + 1 := ⟨k - 1, by omega⟩
  rw [dropC_ l i hlt] at hk
  simp only [wL] at hk
  simp only [laws_eqConditionS.l0]
  rw [if_pos (by omega), if_pos (by omega), if_pos (by omega), rdC_ l i hlt, h l[i] (List.getElem_mem hlt) k (by omega), Option.bind_some, if_pos rfl]
  rw [w64 (x := (i : Int) + 1) (by omega) (by omega), show (i : Int) + 1 = ((i + 1 : Nat) : Int) by omega]
  exact ih (i + 1) k (by omega) (by omega)
theorem eq_ (c : S49) : tC c ≤ 1048576 → ∀ (k : Nat), wC c + 5 ≤ k → laws_eqCondition.f k c.f0 c.f1 c.f2 c.f3 c.f0 c.f1 c.f2 c.f3 = some true := by
 refine indC (P := fun c => tC c ≤ 1048576 → ∀ (k : Nat), wC c + 5 ≤ k → laws_eqCondition.f k c.f0 c.f1 c.f2 c.f3 c.f0 c.f1 c.f2 c.f3 = some true) ?_ c
 intro c ih ht k hk
 rw [wC_eq] at hk
 rw [tC_eq] at ht
 obtain ⟨k, rfl⟩ : ∃ m, k = m + 3 := ⟨k - 3, by omega⟩
 have hS := eqL_ c.f3 (by omega) (fun x hx => ih x hx (by have := tL_mem hx; omega)) c.f3.length 0 (k + 1) (by omega) (by simp only [List.drop_zero]; omega)
 have hS' : laws_eqConditionS.l0 (k + 1) c.f3 c.f3 0 = some true := hS
 simp only [laws_eqCondition.f, laws_eqConditionS.f, if_true, hS', Option.bind_some]
def formB (a : Int) (b : ByteArray) (c : Int) (n : Nat) : Bool :=
 if a = 1 then decide (n = 0 ∧ b.toList = [] ∧ c = 0) else if a = 2 then decide (n = 0 ∧ nameB b = true ∧ c = 0) else if a = 3 then decide (n = 0 ∧ b.toList = [] ∧ 0 ≤ c ∧ c ≤ 36524)
 else if a = 4 then decide (n = 1 ∧ b.toList = [] ∧ c = 0) else if a = 5 then decide (n = 2 ∧ b.toList = [] ∧ c = 0) else if a = 6 then decide (n = 2 ∧ b.toList = [] ∧ c = 0) else false
mutual
def forms : S49 → Bool
 | ⟨a, b, c, l⟩ => formB a b c l.length && formsL l
def formsL : List S49 → Bool
 | [] => true
 | x :: xs => forms x && formsL xs
end
def good (c : S49) : Bool := forms c && decide (nC c ≤ 15)
theorem forms_eq (c : S49) : forms c = (formB c.f0 c.f1 c.f2 c.f3.length && formsL c.f3) := by cases c; rfl
theorem l1In_ (x a b : Int) : spec_l1In.f x a b = some (decide (a ≤ x ∧ x ≤ b)) := within_
theorem withinI_ (x a b : Int) : impl_within.f x a b = some (decide (a ≤ x ∧ x ≤ b)) := within_
theorem isDay_ (x : Int) : impl_isDay.f x = some (decide (0 ≤ x ∧ x ≤ 36524)) := by unfold impl_isDay.f; rw [withinI_, Option.bind_some]
theorem l3Good_ (x : Int) : spec_l3Good.f x = some (decide (0 ≤ x ∧ x ≤ 36524)) := by unfold spec_l3Good.f; rw [l1In_, Option.bind_some]
theorem form_ (a : Int) (b : ByteArray) (c : Int) (l : List S49) (k : Nat) (hk : 30 ≤ k) : spec_l5Form.f k a b c l = some (formB a b c l.length) := by
 unfold spec_l5Form.f formB
 rw [nameS_ b hk, l3Good_]
 simp only [Option.bind_some]
 have e0 : ((l.length : Int) = 0) = (l.length = 0) := by apply propext; omega
 have e1 : ((l.length : Int) = 1) = (l.length = 1) := by apply propext; omega
 have e2 : ((l.length : Int) = 2) = (l.length = 2) := by apply propext; omega
 simp only [e0, e1, e2]
 repeat' split
 all_goals simp_all
 all_goals first | (apply Bool.eq_iff_iff.2; simp) | skip
theorem formsS_ (l : List S49) (hl : l.length ≤ 1048576) (a : Int) (b : ByteArray) (c : Int) (h : ∀ x ∈ l, ∀ k, wC x + 60 ≤ k → spec_l5Forms.f k x.f0 x.f1 x.f2 x.f3 = some (forms x)) (d : Nat) :
 ∀ (i k : Nat), i + d = l.length → wL (l.drop i) + 60 ≤ k → spec_l5Forms.l0 k (i : Int) a b c l = some (formsL (l.drop i)) := by
 induction d with
 | zero =>
  intro i k hi hk
  obtain ⟨k, rfl⟩ : ∃ m, k = m + 1 := ⟨k - 1, by omega⟩
  simp only [spec_l5Forms.l0]
  rw [if_neg (by omega), List.drop_eq_nil_of_le (by omega)]; rfl
 | succ d ih =>
  intro i k hi hk
  have hlt : i < l.length := by omega
  obtain ⟨k, rfl⟩ : ∃ m, k = m + 1 := ⟨k - 1, by omega⟩
  rw [dropC_ l i hlt] at hk ⊢
  simp only [wL] at hk
  simp only [spec_l5Forms.l0, formsL]
  rw [if_pos (by omega), if_pos (by omega), rdC_ l i hlt, h l[i] (List.getElem_mem hlt) k (by omega), Option.bind_some]
  rw [w64 (x := (i : Int) + 1) (by omega) (by omega), show (i : Int) + 1 = ((i + 1 : Nat) : Int) by omega, ih (i + 1) k (by omega) (by omega)]
  cases forms l[i] <;> simp
theorem forms_ (c : S49) : tC c ≤ 1048576 → ∀ (k : Nat), wC c + 60 ≤ k → spec_l5Forms.f k c.f0 c.f1 c.f2 c.f3 = some (forms c) := by
 refine indC (P := fun c => tC c ≤ 1048576 → ∀ (k : Nat), wC c + 60 ≤ k → spec_l5Forms.f k c.f0 c.f1 c.f2 c.f3 = some (forms c)) ?_ c
 intro c ih ht k hk
 rw [wC_eq] at hk
 rw [tC_eq] at ht
 obtain ⟨k, rfl⟩ : ∃ m, k = m + 1 := ⟨k - 1, by omega⟩
 have hS := formsS_ c.f3 (by omega) c.f0 c.f1 c.f2 (fun x hx => ih x hx (by have := tL_mem hx; omega)) c.f3.length 0 k (by omega) (by simp only [List.drop_zero]; omega)
 rw [List.drop_zero] at hS
 have hS' : spec_l5Forms.l0 k 0 c.f0 c.f1 c.f2 c.f3 = _ := hS
 simp only [spec_l5Forms.f]
 rw [form_ _ _ _ _ k (by omega), Option.bind_some, hS', forms_eq]
 cases formB c.f0 c.f1 c.f2 c.f3.length <;> simp
theorem sizeS_ (l : List S49) (hl : l.length ≤ 1048576) (hn : tL l ≤ 1048576) (a : Int) (b : ByteArray) (c : Int) (h : ∀ x ∈ l, ∀ k, wC x + 60 ≤ k → spec_l5Size.f k x.f0 x.f1 x.f2 x.f3 = some (nC x : Int)) (d : Nat) :
 ∀ (i k : Nat) (s : Int), i + d = l.length → wL (l.drop i) + 60 ≤ k → 0 ≤ s → s + nL (l.drop i) ≤ 4000000 → spec_l5Size.l0 k s (i : Int) a b c l = some (s + nL (l.drop i)) := by
 induction d with
 | zero =>
  intro i k s hi hk h0 hs
  obtain ⟨k, rfl⟩ : ∃ m, k = m + 1 := ⟨k - 1, by omega⟩
  simp only [spec_l5Size.l0]
  rw [if_neg (by omega), List.drop_eq_nil_of_le (by omega)]
  simp [nL]
 | succ d ih =>
  intro i k s hi hk h0 hs
  have hlt : i < l.length := by omega
  obtain ⟨k, rfl⟩ : ∃ m, k = m + 1 := ⟨k - 1, by omega⟩
  rw [dropC_ l i hlt] at hk hs ⊢
  simp only [wL] at hk
  have e_ : nL (l[i] :: l.drop (i + 1)) = nC l[i] + nL (l.drop (i + 1)) := rfl
  rw [e_] at hs ⊢
  simp only [spec_l5Size.l0]
  rw [if_pos (by omega), if_pos (by omega), rdC_ l i hlt, h l[i] (List.getElem_mem hlt) k (by omega), Option.bind_some]
  rw [w64 (x := (i : Int) + 1) (by omega) (by omega), w64 (x := s + (nC l[i] : Int)) (by omega) (by omega), show (i : Int) + 1 = ((i + 1 : Nat) : Int) by omega, ih (i + 1) k _ (by omega) (by omega) (by omega) (by omega)]
  congr 1; omega
theorem size_ (c : S49) : tC c ≤ 1048576 → ∀ (k : Nat), wC c + 60 ≤ k → spec_l5Size.f k c.f0 c.f1 c.f2 c.f3 = some (nC c : Int) := by
 refine indC (P := fun c => tC c ≤ 1048576 → ∀ (k : Nat), wC c + 60 ≤ k → spec_l5Size.f k c.f0 c.f1 c.f2 c.f3 = some (nC c : Int)) ?_ c
 intro c ih ht k hk
 rw [wC_eq] at hk
 rw [tC_eq] at ht
 have hn := nL_sum c.f3
 obtain ⟨k, rfl⟩ : ∃ m, k = m + 1 := ⟨k - 1, by omega⟩
 have hS := sizeS_ c.f3 (by omega) (by omega) c.f0 c.f1 c.f2 (fun x hx => ih x hx (by have := tL_mem hx; omega)) c.f3.length 0 k 1 (by omega) (by simp only [List.drop_zero]; omega) (by omega) (by simp only [List.drop_zero]; omega)
 rw [List.drop_zero] at hS
 have hS' : spec_l5Size.l0 k 1 0 c.f0 c.f1 c.f2 c.f3 = _ := hS
 simp only [spec_l5Size.f]
 rw [hS', nC_eq]; congr 1; omega
theorem good_ (c : S49) (ht : tC c ≤ 1048576) (k : Nat) (hk : wC c + 60 ≤ k) : spec_l5Good.f k c.f0 c.f1 c.f2 c.f3 = some (good c) := by
 unfold spec_l5Good.f good
 rw [forms_ c ht k hk, Option.bind_some, size_ c ht k hk, Option.bind_some]
 have e : decide ((nC c : Int) ≤ 15) = decide (nC c ≤ 15) := by apply decide_eq_decide.2; omega
 rw [e]
 cases forms c <;> simp
theorem formB_op {a : Int} {b : ByteArray} {c : Int} {n : Nat} (h : formB a b c n = true) : 1 ≤ a ∧ a ≤ 6 := by
 unfold formB at h
 repeat' split at h
 all_goals first | omega | cases h
/-- The program's test of one node, as its second half asks it. -/
theorem countJ_ (a : Int) (b : ByteArray) (c : Int) (l : List S49) (so : Int) (k : Nat) (hk : 40 ≤ k) (bad : Bool) (n : Nat) (hn : n = l.length) (h1 : 1 ≤ a) (h6 : a ≤ 6)
 (hbad : bad = ((n : Int) != (rd [(-1), 0, 0, 0, 1, 2, 2] a))) : impl_countCondition.j0 (k + 2) so bad a b c l = if formB a b c n = true then impl_countCondition.l0 k so l (l.length : Int) 0 else some (-1) := by
 have hnil := nameB_nil b
 subst hn
 simp only [impl_countCondition.j0, nameI_ b (show 30 ≤ k + 1 by omega), isDay_, Option.bind_some, impl_countCondition.j1]
 have hcases : a = 1 ∨ a = 2 ∨ a = 3 ∨ a = 4 ∨ a = 5 ∨ a = 6 := by omega
 unfold formB
 rcases hcases with rfl | rfl | rfl | rfl | rfl | rfl
 all_goals
  simp [rd] at hbad
  subst hbad
  by_cases e : b.toList = []
  all_goals by_cases ec : c = 0
  all_goals by_cases ed : 0 ≤ c
  all_goals by_cases eg : c ≤ 36524
  all_goals by_cases en : nameB b = true
  all_goals by_cases e0 : l.length = 0
  all_goals by_cases e1 : l.length = 1
  all_goals by_cases e2 : l.length = 2
  all_goals first | omega | skip
  all_goals first | (simp_all; done) | (simp_all; omega) | skip
theorem countL_ (l : List S49) (hl : l.length ≤ 1048576) (h : ∀ x ∈ l, ∀ k so, wC x + 60 ≤ k → 0 ≤ so → so ≤ 15 → impl_countCondition.f k x.f0 x.f1 x.f2 x.f3 so = some (if forms x = true ∧ so + nC x ≤ 15 then so + nC x else -1)) (d : Nat) :
 ∀ (i k : Nat) (so : Int), i + d = l.length → wL (l.drop i) + 60 ≤ k → 0 ≤ so → so ≤ 15 → impl_countCondition.l0 k so l (l.length : Int) (i : Int) = some (if formsL (l.drop i) = true ∧ so + nL (l.drop i) ≤ 15 then so + nL (l.drop i) else -1) := by
 induction d with
 | zero =>
  intro i k so hi hk h0 h1
  obtain ⟨k, rfl⟩ : ∃ m, k = m + 1 := ⟨k - 1, by omega⟩
  simp only [impl_countCondition.l0]
  rw [if_neg (by omega), List.drop_eq_nil_of_le (by omega)]
  have e_ : nL ([] : List S49) = 0 := rfl
  have f_ : formsL ([] : List S49) = true := rfl
  rw [e_, f_, if_pos ⟨rfl, by omega⟩]; congr 1; omega
 | succ d ih =>
  intro i k so hi hk h0 h1
  have hlt : i < l.length := by omega
  obtain ⟨k, rfl⟩ : ∃ m, k = m + 1 := ⟨k - 1, by omega⟩
  rw [dropC_ l i hlt] at hk ⊢
  simp only [wL] at hk
  have e_ : nL (l[i] :: l.drop (i + 1)) = nC l[i] + nL (l.drop (i + 1)) := rfl
  have f_ : formsL (l[i] :: l.drop (i + 1)) = (forms l[i] && formsL (l.drop (i + 1))) := rfl
  rw [e_, f_]
  simp only [impl_countCondition.l0]
  rw [if_pos (by omega), if_pos (by omega), if_pos (by omega), rdC_ l i hlt, h l[i] (List.getElem_mem hlt) k so (by omega) h0 h1, Option.bind_some]
  have hp : 0 < nC l[i] := by rw [nC_eq]; omega
  by_cases hc : forms l[i] = true ∧ so + (nC l[i] : Int) ≤ 15
  · rw [if_pos hc, if_neg (by omega), w64 (x := (i : Int) + 1) (by omega) (by omega), show (i : Int) + 1 = ((i + 1 : Nat) : Int) by omega, ih (i + 1) k _ (by omega) (by omega) (by omega) (by omega)]
    rw [hc.1, Bool.true_and]
    congr 1
    by_cases h2 : formsL (l.drop (i + 1)) = true ∧ so + (nC l[i] : Int) + (nL (l.drop (i + 1)) : Int) ≤ 15
    · rw [if_pos h2, if_pos ⟨h2.1, by omega⟩]; omega
    · rw [if_neg h2, if_neg (fun h3 => h2 ⟨h3.1, by omega⟩)]
  · rw [if_neg hc, if_pos (by omega), if_neg (fun h3 => hc ⟨by simp at h3; exact h3.1.1, by omega⟩)]
theorem count_ (c : S49) : tC c ≤ 1048576 → ∀ (k : Nat) (so : Int), wC c + 60 ≤ k → 0 ≤ so → so ≤ 15 → impl_countCondition.f k c.f0 c.f1 c.f2 c.f3 so = some (if forms c = true ∧ so + nC c ≤ 15 then so + nC c else -1) := by
 refine indC (P := fun c => tC c ≤ 1048576 → ∀ (k : Nat) (so : Int), wC c + 60 ≤ k → 0 ≤ so → so ≤ 15 → impl_countCondition.f k c.f0 c.f1 c.f2 c.f3 so = some (if forms c = true ∧ so + nC c ≤ 15 then so + nC c else -1)) ?_ c
 intro c ih ht k so hk h0 h1
 rw [wC_eq] at hk
 rw [tC_eq] at ht
 rw [forms_eq, nC_eq]
 obtain ⟨k, rfl⟩ : ∃ m, k = m + 4 := ⟨k - 4, by omega⟩
 simp only [impl_countCondition.f, Option.bind_some]
 rw [w64 (x := so + 1) (by omega) (by omega)]
 by_cases hs : so + 1 > 15
 · rw [if_pos hs, if_neg (by omega)]
   simp [impl_countCondition.j0]
 rw [if_neg hs, withinI_, Option.bind_some]
 by_cases hop : decide (1 ≤ c.f0 ∧ c.f0 ≤ 6) = true
 · have ho := of_decide_eq_true hop
   rw [if_pos hop, if_pos (by omega), if_pos (by simp; omega)]
   rw [countJ_ c.f0 c.f1 c.f2 c.f3 (so + 1) (k + 1) (by omega) _ c.f3.length rfl ho.1 ho.2 rfl]
   by_cases hf : formB c.f0 c.f1 c.f2 c.f3.length = true
   · rw [if_pos hf, hf, Bool.true_and]
     have hL := countL_ c.f3 (by omega) (fun x hx => ih x hx (by have := tL_mem hx; omega)) c.f3.length 0 (k + 1) (so + 1) (by omega) (by simp only [List.drop_zero]; omega) (by omega) (by omega)
     rw [List.drop_zero] at hL
     have hL' : impl_countCondition.l0 (k + 1) (so + 1) c.f3 (c.f3.length : Int) 0 = _ := hL
     rw [hL']
     congr 1
     by_cases h2 : formsL c.f3 = true ∧ so + 1 + (nL c.f3 : Int) ≤ 15
     · rw [if_pos h2, if_pos ⟨h2.1, by omega⟩]; omega
     · rw [if_neg h2, if_neg (fun h3 => h2 ⟨h3.1, by omega⟩)]
   · rw [if_neg hf, if_neg (fun h3 => hf (by simp at h3; exact h3.1.1))]
 · rw [if_neg hop, if_neg (fun h3 => hop (decide_eq_true (formB_op (by simp at h3; exact h3.1.1))))]
   simp [impl_countCondition.j0]
theorem valid_ (c : S49) (ht : tC c ≤ 1048576) (k : Nat) (hk : wC c + 60 ≤ k) : impl_IsValidCondition.f k c.f0 c.f1 c.f2 c.f3 = some (good c) := by
 unfold impl_IsValidCondition.f good
 rw [count_ c ht k 0 hk (by omega) (by omega), Option.bind_some]
 have hp : 0 < nC c := by rw [nC_eq]; omega
 by_cases h : forms c = true ∧ 0 + (nC c : Int) ≤ 15
 · rw [if_pos h, h.1, Bool.true_and]; congr 1; apply decide_eq_decide.2; omega
 · rw [if_neg h]
   congr 1
   cases hf : forms c
   · simp
   · simp only [Bool.true_and]
     apply decide_eq_decide.2
     constructor
     · omega
     · intro h2; exact absurd ⟨hf, by omega⟩ h
theorem one_ {α : Type} {l : List α} (h : l.length = 1) : ∃ a, l = [a] := by
 match l, h with
 | [a], _ => exact ⟨a, rfl⟩
theorem two2_ {α : Type} {l : List α} (h : l.length = 2) : ∃ a b, l = [a, b] := by
 match l, h with
 | [a, b], _ => exact ⟨a, b, rfl⟩
/-- What a valid node's form says. -/
theorem formB_cases {a : Int} {b : ByteArray} {c : Int} {l : List S49} (h : formB a b c l.length = true) :
 (a = 1 ∧ l = [] ∧ b.toList = [] ∧ c = 0) ∨ (a = 2 ∧ l = [] ∧ nameB b = true ∧ c = 0) ∨ (a = 3 ∧ l = [] ∧ b.toList = [] ∧ 0 ≤ c ∧ c ≤ 36524) ∨ (a = 4 ∧ b.toList = [] ∧ c = 0 ∧ ∃ p, l = [p]) ∨ (a = 5 ∧ b.toList = [] ∧ c = 0 ∧ ∃ p q, l = [p, q]) ∨ (a = 6 ∧ b.toList = [] ∧ c = 0 ∧ ∃ p q, l = [p, q]) := by
 unfold formB at h
 repeat' split at h
 all_goals first | cases h | skip
 all_goals (have h := of_decide_eq_true h)
 · exact .inl ⟨‹_›, List.length_eq_zero_iff.1 h.1, h.2⟩
 · exact .inr (.inl ⟨‹_›, List.length_eq_zero_iff.1 h.1, h.2⟩)
 · exact .inr (.inr (.inl ⟨‹_›, List.length_eq_zero_iff.1 h.1, h.2⟩))
 · exact .inr (.inr (.inr (.inl ⟨‹_›, h.2.1, h.2.2, one_ h.1⟩)))
 · exact .inr (.inr (.inr (.inr (.inl ⟨‹_›, h.2.1, h.2.2, two2_ h.1⟩))))
 · exact .inr (.inr (.inr (.inr (.inr ⟨‹_›, h.2.1, h.2.2, two2_ h.1⟩))))
def ltB (a b : ByteArray) : Prop := Op.bytesLess a.toList b.toList = true
theorem ltB_irr (a : ByteArray) : ¬ ltB a a := by
 unfold ltB
 have h := Own.bless_total a.toList a.toList
 cases e : Op.bytesLess a.toList a.toList
 · simp
 · rw [e] at h; simp at h
theorem bl_trans (a : List UInt8) : ∀ b c : List UInt8, Op.bytesLess a b = true → Op.bytesLess b c = true → Op.bytesLess a c = true := by
 induction a with
 | nil => intro b c h1 h2; cases c with
  | nil => cases b <;> simp [Op.bytesLess] at h2
  | cons z zs => simp [Op.bytesLess]
 | cons x xs ih => intro b c h1 h2; cases b with
  | nil => simp [Op.bytesLess] at h1
  | cons y ys => cases c with
   | nil => simp [Op.bytesLess] at h2
   | cons z zs =>
    simp only [Op.bytesLess, Bool.or_eq_true, decide_eq_true_eq, Bool.and_eq_true, beq_iff_eq] at h1 h2 ⊢
    rcases h1 with h1 | ⟨rfl, h1⟩
    · rcases h2 with h2 | ⟨rfl, h2⟩
      · exact .inl (UInt8.lt_trans h1 h2)
      · exact .inl h1
    · rcases h2 with h2 | ⟨rfl, h2⟩
      · exact .inl h2
      · exact .inr ⟨rfl, ih _ _ h1 h2⟩
theorem ltB_trans {a b c : ByteArray} (h1 : ltB a b) (h2 : ltB b c) : ltB a c := bl_trans _ _ _ h1 h2
theorem ltB_asym {a b : ByteArray} (h1 : ltB a b) : ¬ ltB b a := fun h2 => ltB_irr a (ltB_trans h1 h2)
theorem ltB_tri (a b : ByteArray) (h : ¬ ltB a b) (hn : a.toList ≠ b.toList) : ltB b a := by
 unfold ltB at h ⊢
 have ht := Own.bless_total a.toList b.toList
 have h1 : Op.bytesLess a.toList b.toList = false := by simpa using h
 have h2 : (a.toList == b.toList) = false := by simpa using hn
 rw [h1, h2] at ht
 simpa using ht.symm
theorem strict_uniq {α : Type} {lt : α → α → Prop} (irr : ∀ a, ¬ lt a a) (asym : ∀ a b, lt a b → ¬ lt b a) (l : List α) : ∀ m : List α, l.Pairwise lt → m.Pairwise lt → (∀ x, x ∈ l ↔ x ∈ m) → l = m := by
 induction l with
 | nil => intro m _ _ h; cases m with
  | nil => rfl
  | cons y ys => exact absurd ((h y).2 List.mem_cons_self) (by simp)
 | cons x xs ih => intro m hl hm h; cases m with
  | nil => exact absurd ((h x).1 List.mem_cons_self) (by simp)
  | cons y ys =>
   rw [List.pairwise_cons] at hl hm
   have hxy : x = y := by
    rcases List.mem_cons.1 ((h x).1 List.mem_cons_self) with e | e
    · exact e
    · rcases List.mem_cons.1 ((h y).2 List.mem_cons_self) with e' | e'
      · exact e'.symm
      · exact absurd (hm.1 x e) (asym _ _ (hl.1 y e'))
   subst hxy
   congr 1
   refine ih ys hl.2 hm.2 (fun z => ?_)
   constructor
   · intro hz
     rcases List.mem_cons.1 ((h z).1 (List.mem_cons_of_mem _ hz)) with e | e
     · subst e; exact absurd (hl.1 z hz) (irr z)
     · exact e
   · intro hz
     rcases List.mem_cons.1 ((h z).2 (List.mem_cons_of_mem _ hz)) with e | e
     · subst e; exact absurd (hm.1 z hz) (irr z)
     · exact e
def putB : List ByteArray → ByteArray → List ByteArray
 | [], n => [n]
 | x :: xs, n => if Op.bytesLess x.toList n.toList = true then x :: putB xs n else if x.toList = n.toList then x :: xs else n :: x :: xs
theorem putB_len (l : List ByteArray) (n : ByteArray) : (putB l n).length ≤ l.length + 1 := by
 induction l with
 | nil => simp [putB]
 | cons x xs ih =>
  simp only [putB]; repeat' split
  all_goals simp only [List.length_cons]; omega
theorem putB_mem (l : List ByteArray) (n x : ByteArray) : x ∈ putB l n ↔ x = n ∨ x ∈ l := by
 induction l with
 | nil => simp [putB]
 | cons y ys ih =>
  simp only [putB]
  split
  · simp only [List.mem_cons, ih]; constructor <;> (rintro (h | h | h) <;> simp [h])
  · split
    · rename_i h; have := toList_inj h; subst this; simp
    · simp
theorem putB_sorted (l : List ByteArray) (n : ByteArray) (h : l.Pairwise ltB) : (putB l n).Pairwise ltB := by
 induction l with
 | nil => simp [putB]
 | cons y ys ih =>
  simp only [putB]
  rw [List.pairwise_cons] at h
  split
  · rename_i hy
    rw [List.pairwise_cons]
    refine ⟨fun z hz => ?_, ih h.2⟩
    rcases (putB_mem ys n z).1 hz with rfl | hz
    · exact hy
    · exact h.1 z hz
  · split
    · exact List.pairwise_cons.2 h
    · rename_i h1 h2
      have hny : ltB n y := ltB_tri y n h1 h2
      rw [List.pairwise_cons]
      refine ⟨fun z hz => ?_, List.pairwise_cons.2 h⟩
      rcases List.mem_cons.1 hz with rfl | hz
      · exact hny
      · exact ltB_trans hny (h.1 z hz)
theorem putB_l0 (l : List ByteArray) (n : ByteArray) (hl : l.length ≤ 4000000) (d : Nat) : ∀ (i k : Nat), i + d = l.length → d < k → spec_l5Put.l0 k l n (i : Int) = some (l.take i ++ putB (l.drop i) n) := by
 induction d with
 | zero =>
  intro i k hi hk
  obtain ⟨k, rfl⟩ : ∃ m, k = m + 1 := ⟨k - 1, by omega⟩
  simp only [spec_l5Put.l0, Option.bind_some]
  rw [if_neg (by omega), if_pos (by omega), if_pos (by omega), Int.toNat_natCast, List.take_of_length_le (by omega), List.drop_eq_nil_of_le (by omega)]
  rw [if_pos (by simp; omega), if_pos (by simp; omega), if_pos (by simp; omega)]
  simp [putB]
 | succ d ih =>
  intro i k hi hk
  obtain ⟨k, rfl⟩ : ∃ m, k = m + 1 := ⟨k - 1, by omega⟩
  have hlt : i < l.length := by omega
  simp only [spec_l5Put.l0, Option.bind_some]
  rw [if_pos (by omega), if_pos (by omega), rdOf_nat l i hlt, List.drop_eq_getElem_cons hlt]
  simp only [putB]
  by_cases h1 : Op.bytesLess l[i].toList n.toList = true
  · rw [if_pos h1, if_pos h1, w64 (x := (i : Int) + 1) (by omega) (by omega), show (i : Int) + 1 = ((i + 1 : Nat) : Int) by omega, ih (i + 1) k (by omega) (by omega), List.take_succ_eq_append_getElem hlt, List.append_assoc, List.singleton_append]
  · rw [if_neg h1, if_neg h1]
    by_cases h2 : l[i].toList = n.toList
    · rw [if_pos h2, if_pos h2]
      congr 1
      rw [← List.drop_eq_getElem_cons hlt, List.take_append_drop]
    · rw [if_neg h2, if_neg h2, if_pos (by omega), Int.toNat_natCast]
      rw [if_pos (by simp; omega), if_pos (by simp; omega), if_pos (by simp; omega)]
      rw [← List.drop_eq_getElem_cons hlt]
      simp
theorem putB_ (l : List ByteArray) (n : ByteArray) (hl : l.length ≤ 4000000) (k : Nat) (hk : l.length < k) : spec_l5Put.f k l n = some (putB l n) := by
 unfold spec_l5Put.f
 have h := putB_l0 l n hl l.length 0 k (by omega) hk
 rw [List.take_zero, List.drop_zero, List.nil_append] at h
 exact h
def putsB (l : List ByteArray) (ds : List ByteArray) : List ByteArray := ds.foldl putB l
theorem putsB_len (ds : List ByteArray) : ∀ l : List ByteArray, (putsB l ds).length ≤ l.length + ds.length := by
 induction ds with
 | nil => intro l; simp [putsB]
 | cons x xs ih => intro l; have h1 := putB_len l x; have h2 := ih (putB l x); simp only [putsB, List.foldl_cons, List.length_cons] at h2 ⊢; omega
theorem putsB_mem (ds : List ByteArray) (x : ByteArray) : ∀ l : List ByteArray, x ∈ putsB l ds ↔ x ∈ l ∨ x ∈ ds := by
 induction ds with
 | nil => intro l; simp [putsB]
 | cons y ys ih =>
  intro l
  have h := ih (putB l y)
  simp only [putsB, List.foldl_cons] at h ⊢
  rw [h, putB_mem, List.mem_cons]
  constructor
  · rintro ((h | h) | h) <;> simp [h]
  · rintro (h | h | h) <;> simp [h]
theorem putsB_sorted (ds : List ByteArray) : ∀ l : List ByteArray, l.Pairwise ltB → (putsB l ds).Pairwise ltB := by
 induction ds with
 | nil => intro l h; simpa [putsB] using h
 | cons y ys ih => intro l h; exact ih (putB l y) (putB_sorted l y h)
theorem putsB_app (l ds es : List ByteArray) : putsB l (ds ++ es) = putsB (putsB l ds) es := by simp [putsB, List.foldl_append]
/-! The library's sort and compaction: the same list. -/
theorem bl_lt : ∀ (x y : List UInt8), Op.bytesLess x y = decide (x < y)
 | [], [] => by simp [Op.bytesLess]
 | _ :: _, [] => by simp [Op.bytesLess]
 | [], _ :: _ => by simp [Op.bytesLess]
 | a :: x, b :: y => by
  rw [Op.bytesLess, bl_lt x y]
  simp only [List.cons_lt_cons_iff]
  by_cases h1 : a < b <;> by_cases h2 : a = b <;> by_cases h3 : x < y <;> simp [h1, h2, h3]
theorem le_iff (x y : List UInt8) : decide (x ≤ y) = !(Op.bytesLess y x) := by
 rw [bl_lt]
 apply Bool.eq_iff_iff.2
 rw [decide_eq_true_iff, Bool.not_eq_true', decide_eq_false_iff_not, List.not_lt]
def leB (x y : List UInt8) : Bool := !(Op.bytesLess y x)
theorem leB_trans (a b c : List UInt8) (h1 : leB a b = true) (h2 : leB b c = true) : leB a c = true := by
 unfold leB at *
 cases e : Op.bytesLess c a
 · rfl
 · exfalso
   have t := Own.bless_total a b
   have h1' : Op.bytesLess b a = false := by simpa using h1
   have h2' : Op.bytesLess c b = false := by simpa using h2
   rw [h1'] at t
   simp only [Bool.not_false, Bool.or_eq_true, beq_iff_eq] at t
   rcases t with t | rfl
   · have := bl_trans c a b e t; rw [h2'] at this; cases this
   · rw [e] at h2'; cases h2'
theorem leB_total (a b : List UInt8) : (leB a b || leB b a) = true := by
 unfold leB
 have t := Own.bless_total a b
 cases e1 : Op.bytesLess b a
 · simp
 · cases e2 : Op.bytesLess a b
   · simp
   · exfalso; have := bl_trans a b a e2 e1
     have t2 := Own.bless_total a a
     rw [this] at t2; simp at t2
theorem upTo_props (d : Array (List UInt8)) (hs : ∀ i j, i < j → j < d.size → leB d[i]! d[j]! = true) (m : Nat) (hm : m ≤ d.size) :
 (Lib.compactUpTo d m).Pairwise (fun x y => Op.bytesLess x y = true) ∧ (∀ x, x ∈ Lib.compactUpTo d m ↔ ∃ j, j < m ∧ d[j]! = x) := by
 induction m with
 | zero => exact ⟨by simp [Lib.compactUpTo], fun x => by simp [Lib.compactUpTo]⟩
 | succ m ih =>
  obtain ⟨h1, h2⟩ := ih (by omega)
  rw [Lib.compactUpTo_succ]
  by_cases hk : Lib.keeps d m = true
  · rw [if_pos hk]
    refine ⟨?_, fun x => ?_⟩
    · rw [List.pairwise_append]
      refine ⟨h1, by simp, fun x hx y hy => ?_⟩
      obtain ⟨j, hj, rfl⟩ := (h2 x).1 hx
      have hy' : y = d[m]! := by simpa using hy
      subst hy'
      have hm0 : m ≠ 0 := by omega
      have hne : d[m]! ≠ d[m - 1]! := by
       unfold Lib.keeps at hk
       have := of_decide_eq_true hk
       rcases this with h | h
       · exact absurd h hm0
       · exact h
      have l1 : leB d[j]! d[m - 1]! = true := by
       by_cases e : j = m - 1
       · subst e; have := leB_total d[m - 1]! d[m - 1]!; simpa using this
       · exact hs j (m - 1) (by omega) (by omega)
      have l2 : leB d[m - 1]! d[m]! = true := hs (m - 1) m (by omega) (by omega)
      have t := Own.bless_total d[j]! d[m]!
      have l3 := leB_trans _ _ _ l1 l2
      have l3' : Op.bytesLess d[m]! d[j]! = false := by unfold leB at l3; simpa using l3
      rw [l3'] at t
      simp only [Bool.not_false, Bool.or_eq_true, beq_iff_eq] at t
      rcases t with t | t
      · exact t
      · exfalso
        rw [t] at l1
        have t2 := Own.bless_total d[m]! d[m - 1]!
        have a1 : Op.bytesLess d[m - 1]! d[m]! = false := by unfold leB at l1; simpa using l1
        have a2 : Op.bytesLess d[m]! d[m - 1]! = false := by unfold leB at l2; simpa using l2
        rw [a1, a2] at t2
        simp only [Bool.not_false, Bool.false_or, beq_iff_eq] at t2
        exact hne t2
    · rw [List.mem_append, h2]
      constructor
      · rintro (⟨j, hj, e⟩ | h)
        · exact ⟨j, by omega, e⟩
        · exact ⟨m, by omega, (List.mem_singleton.1 h).symm⟩
      · rintro ⟨j, hj, e⟩
        by_cases ej : j = m
        · subst ej; exact .inr (by simp [e])
        · exact .inl ⟨j, by omega, e⟩
  · rw [if_neg hk, List.append_nil]
    refine ⟨h1, fun x => ?_⟩
    rw [h2]
    constructor
    · rintro ⟨j, hj, e⟩; exact ⟨j, by omega, e⟩
    · rintro ⟨j, hj, e⟩
      by_cases ej : j = m
      · subst ej
        have hk' : ¬ (j = 0 ∨ d[j]! ≠ d[j - 1]!) := by unfold Lib.keeps at hk; simpa using hk
        have hj0 : j ≠ 0 := fun h => hk' (.inl h)
        have : d[j]! = d[j - 1]! := Classical.byContradiction fun h => hk' (.inr h)
        exact ⟨j - 1, by omega, by rw [← this]; exact e⟩
      · exact ⟨j, by omega, e⟩
theorem sortedL_props (l : List ByteArray) : (Own.ofBytes (Own.sortedL l)).Pairwise ltB ∧ ∀ x, x ∈ Own.ofBytes (Own.sortedL l) ↔ x ∈ l := by
 unfold Own.sortedL Own.ofBytes Own.bytesOf
 have hle : (fun x y : List UInt8 => decide (x ≤ y)) = leB := by funext x y; exact le_iff x y
 rw [hle]
 generalize hz : (l.map fun x => x.data.toList).mergeSort leB = zs
 have hsort : zs.Pairwise (fun x y => leB x y = true) := by rw [← hz]; exact List.pairwise_mergeSort leB_trans leB_total _
 have hmem : ∀ y, y ∈ zs ↔ ∃ x ∈ l, x.data.toList = y := by intro y; rw [← hz, List.mem_mergeSort]; simp
 have hidx : ∀ i j, i < j → j < zs.toArray.size → leB zs.toArray[i]! zs.toArray[j]! = true := by
  intro i j hij hj
  have hj' : j < zs.length := by simpa using hj
  have h := List.pairwise_iff_getElem.1 hsort i j (by omega) hj' hij
  simpa [getElem!_pos, hj', show i < zs.length by omega] using h
 obtain ⟨h1, h2⟩ := upTo_props zs.toArray hidx zs.length (by simp)
 refine ⟨?_, fun x => ?_⟩
 · rw [List.pairwise_map]
   refine List.Pairwise.imp ?_ h1
   intro a b h
   unfold ltB
   rw [ByteArray.toList_eq, ByteArray.toList_eq]
   exact h
 · rw [List.mem_map]
   constructor
   · rintro ⟨y, hy, rfl⟩
     obtain ⟨j, hj, e⟩ := (h2 y).1 hy
     have : y ∈ zs := by
      rw [← e]
      have : zs.toArray[j]! = zs[j] := by simp [getElem!_pos, hj]
      rw [this]; exact List.getElem_mem hj
     obtain ⟨x, hx, ex⟩ := (hmem y).1 this
     rw [← ex]; exact hx
   · intro hx
     refine ⟨x.data.toList, (h2 _).2 ?_, rfl⟩
     have : x.data.toList ∈ zs := (hmem _).2 ⟨x, hx, rfl⟩
     obtain ⟨j, hj, e⟩ := List.mem_iff_getElem.1 this
     exact ⟨j, hj, by simp [getElem!_pos, hj, e]⟩
theorem sorted_puts (l : List ByteArray) : Own.ofBytes (Own.sortedL l) = putsB [] l := by
 obtain ⟨h1, h2⟩ := sortedL_props l
 refine strict_uniq ltB_irr (fun a b h => ltB_asym h) _ _ h1 (putsB_sorted l [] .nil) (fun x => ?_)
 rw [h2, putsB_mem]; simp
theorem sorted_ (l : List ByteArray) (hl : l.length ≤ 4000000) : impl_sorted.f l = some (putsB [] l) := by
 unfold impl_sorted.f Own.sortedF
 rw [if_pos (by omega), sorted_puts]
mutual
def nsC : S49 → List ByteArray
 | ⟨a, b, _, l⟩ => (if a = 2 then [b] else []) ++ nsL l
def nsL : List S49 → List ByteArray
 | [] => []
 | x :: xs => nsC x ++ nsL xs
end
theorem nsC_eq (c : S49) : nsC c = (if c.f0 = 2 then [c.f1] else []) ++ nsL c.f3 := by cases c; rfl
theorem nsL_len (l : List S49) (h : ∀ x ∈ l, (nsC x).length ≤ nC x) : (nsL l).length ≤ nL l := by
 induction l with
 | nil => simp [nsL]
 | cons y ys ih =>
  have h1 := h y List.mem_cons_self
  have h2 := ih (fun x hx => h x (List.mem_cons_of_mem _ hx))
  simp only [nL, nsL, List.length_append]; omega
theorem nsC_len (c : S49) : (nsC c).length ≤ nC c := by
 refine indC (P := fun c => (nsC c).length ≤ nC c) ?_ c
 intro c ih
 have := nsL_len c.f3 ih
 rw [nsC_eq, nC_eq, List.length_append]
 split <;> simp <;> omega
theorem addNL_ (l : List S49) (hl : l.length ≤ 1048576) (h : ∀ x ∈ l, ∀ k acc, wC x + 5 ≤ k → acc.length + nC x ≤ 4000000 → impl_addNames.f k x.f0 x.f1 x.f2 x.f3 acc = some (acc ++ nsC x)) (d : Nat) :
 ∀ (i k : Nat) (acc : List ByteArray), i + d = l.length → wL (l.drop i) + 5 ≤ k → acc.length + nL (l.drop i) ≤ 4000000 → impl_addNames.l0 k acc l (l.length : Int) (i : Int) = some (acc ++ nsL (l.drop i)) := by
 induction d with
 | zero =>
  intro i k acc hi hk hn
  obtain ⟨k, rfl⟩ : ∃ m, k = m + 1 := ⟨k - 1, by omega⟩
  simp only [impl_addNames.l0]
  rw [if_neg (by omega), List.drop_eq_nil_of_le (by omega)]
  simp [nsL]
 | succ d ih =>
  intro i k acc hi hk hn
  have hlt : i < l.length := by omega
  obtain ⟨k, rfl⟩ : ∃ m, k = m + 1 := ⟨k - 1, by omega⟩
  rw [dropC_ l i hlt] at hk hn ⊢
  simp only [wL] at hk
  simp only [nL] at hn
  have e_ : nsL (l[i] :: l.drop (i + 1)) = nsC l[i] ++ nsL (l.drop (i + 1)) := rfl
  have hd := nsC_len l[i]
  rw [e_]
  simp only [impl_addNames.l0]
  rw [if_pos (by omega), if_pos (by omega), if_pos (by omega), rdC_ l i hlt, h l[i] (List.getElem_mem hlt) k acc (by omega) (by omega), Option.bind_some]
  rw [w64 (x := (i : Int) + 1) (by omega) (by omega), show (i : Int) + 1 = ((i + 1 : Nat) : Int) by omega, ih (i + 1) k _ (by omega) (by omega) (by simp only [List.length_append]; omega)]
  simp
theorem addNames_ (c : S49) : tC c ≤ 1048576 → ∀ (k : Nat) (acc : List ByteArray), wC c + 5 ≤ k → acc.length + nC c ≤ 4000000 → impl_addNames.f k c.f0 c.f1 c.f2 c.f3 acc = some (acc ++ nsC c) := by
 refine indC (P := fun c => tC c ≤ 1048576 → ∀ (k : Nat) (acc : List ByteArray), wC c + 5 ≤ k → acc.length + nC c ≤ 4000000 → impl_addNames.f k c.f0 c.f1 c.f2 c.f3 acc = some (acc ++ nsC c)) ?_ c
 intro c ih ht k acc hk hn
 rw [wC_eq] at hk
 rw [tC_eq] at ht
 rw [nC_eq] at hn
 rw [nsC_eq]
 obtain ⟨k, rfl⟩ : ∃ m, k = m + 2 := ⟨k - 2, by omega⟩
 have hS := fun acc' (h' : acc'.length + nL c.f3 ≤ 4000000) => addNL_ c.f3 (by omega) (fun x hx => ih x hx (by have := tL_mem hx; omega)) c.f3.length 0 k acc' (by omega) (by simp only [List.drop_zero]; omega) (by simp only [List.drop_zero]; omega)
 simp only [List.drop_zero] at hS
 simp only [impl_addNames.f]
 by_cases h3 : c.f0 = 2
 · rw [if_pos h3, if_pos (by omega), if_pos h3]
   simp only [impl_addNames.j0]
   have := hS (acc ++ [c.f1]) (by simp; omega)
   have h2 : impl_addNames.l0 k (acc ++ [c.f1]) c.f3 (c.f3.length : Int) 0 = _ := this
   rw [h2]; simp
 · rw [if_neg h3, if_neg h3]
   simp only [impl_addNames.j0]
   have h2 : impl_addNames.l0 k acc c.f3 (c.f3.length : Int) 0 = _ := hS acc (by omega)
   rw [h2]; simp
theorem namesL_ (l : List S49) (hl : l.length ≤ 1048576) (a : Int) (b : ByteArray) (c : Int) (h : ∀ x ∈ l, ∀ k acc, wC x + 4000100 ≤ k → acc.length + nC x ≤ 4000000 → spec_l5Names.f k acc x.f0 x.f1 x.f2 x.f3 = some (putsB acc (nsC x))) (d : Nat) :
 ∀ (i k : Nat) (acc : List ByteArray), i + d = l.length → wL (l.drop i) + 4000100 ≤ k → acc.length + nL (l.drop i) ≤ 4000000 → spec_l5Names.l0 k acc (i : Int) a b c l = some (putsB acc (nsL (l.drop i))) := by
 induction d with
 | zero =>
  intro i k acc hi hk hn
  obtain ⟨k, rfl⟩ : ∃ m, k = m + 1 := ⟨k - 1, by omega⟩
  simp only [spec_l5Names.l0]
  rw [if_neg (by omega), List.drop_eq_nil_of_le (by omega)]
  simp [nsL, putsB]
 | succ d ih =>
  intro i k acc hi hk hn
  have hlt : i < l.length := by omega
  obtain ⟨k, rfl⟩ : ∃ m, k = m + 1 := ⟨k - 1, by omega⟩
  rw [dropC_ l i hlt] at hk hn ⊢
  simp only [wL] at hk
  simp only [nL] at hn
  have e_ : nsL (l[i] :: l.drop (i + 1)) = nsC l[i] ++ nsL (l.drop (i + 1)) := rfl
  have hd := nsC_len l[i]
  have hp := putsB_len (nsC l[i]) acc
  rw [e_, putsB_app]
  simp only [spec_l5Names.l0]
  rw [if_pos (by omega), if_pos (by omega), rdC_ l i hlt, h l[i] (List.getElem_mem hlt) k acc (by omega) (by omega), Option.bind_some]
  rw [w64 (x := (i : Int) + 1) (by omega) (by omega), show (i : Int) + 1 = ((i + 1 : Nat) : Int) by omega, ih (i + 1) k _ (by omega) (by omega) (by omega)]
theorem l5Names_ (c : S49) : forms c = true → tC c ≤ 1048576 → ∀ (k : Nat) (acc : List ByteArray), wC c + 4000100 ≤ k → acc.length + nC c ≤ 4000000 → spec_l5Names.f k acc c.f0 c.f1 c.f2 c.f3 = some (putsB acc (nsC c)) := by
 refine indC (P := fun c => forms c = true → tC c ≤ 1048576 → ∀ (k : Nat) (acc : List ByteArray), wC c + 4000100 ≤ k → acc.length + nC c ≤ 4000000 → spec_l5Names.f k acc c.f0 c.f1 c.f2 c.f3 = some (putsB acc (nsC c))) ?_ c
 intro c ih hf ht k acc hk hn
 rw [wC_eq] at hk
 rw [tC_eq] at ht
 rw [nC_eq] at hn
 rw [forms_eq, Bool.and_eq_true] at hf
 rw [nsC_eq]
 obtain ⟨k, rfl⟩ : ∃ m, k = m + 1 := ⟨k - 1, by omega⟩
 simp only [spec_l5Names.f]
 by_cases h3 : c.f0 = 2
 · have hnil : c.f3 = [] := by
    rcases formB_cases hf.1 with ⟨h, e, _⟩ | ⟨h, e, _⟩ | ⟨h, e, _⟩ | ⟨h, _⟩ | ⟨h, _⟩ | ⟨h, _⟩ <;> first | exact e | omega
   rw [if_pos h3, putB_ acc c.f1 (by omega) k (by omega), Option.bind_some, if_pos h3, hnil]
   simp [nsL, putsB]
 · have hfl : ∀ x ∈ c.f3, forms x = true := by
    have := hf.2
    generalize c.f3 = l at this ⊢
    induction l with
    | nil => intro x hx; cases hx
    | cons y ys ih2 =>
     simp only [formsL, Bool.and_eq_true] at this
     intro x hx
     cases hx with
     | head => exact this.1
     | tail _ hx => exact ih2 this.2 x hx
   have hS := namesL_ c.f3 (by omega) c.f0 c.f1 c.f2 (fun x hx => ih x hx (hfl x hx) (by have := tL_mem hx; omega)) c.f3.length 0 k acc (by omega) (by simp only [List.drop_zero]; omega) (by simp only [List.drop_zero]; omega)
   rw [List.drop_zero] at hS
   have h2 : spec_l5Names.l0 k acc 0 c.f0 c.f1 c.f2 c.f3 = _ := hS
   rw [if_neg h3, if_neg h3, h2]; simp
def cvK (x : S60) : S51 := ⟨x.f0, x.f1, x.f2, x.f3, x.f4, x.f5, cv x.f6, x.f7, x.f8⟩
def tK (x : S51) : Nat := x.f0.size + x.f3.size + tC x.f6 + x.f8.size
def tKL : List S51 → Nat
 | [] => 0
 | x :: xs => tK x + tKL xs
def wKL : List S51 → Nat
 | [] => 0
 | x :: xs => wC x.f6 + wKL xs + 1
theorem tKL_mem {l : List S51} {x : S51} (h : x ∈ l) : tK x ≤ tKL l := by
 induction l with
 | nil => cases h
 | cons y ys ih =>
  simp only [tKL]
  cases h with
  | head => omega
  | tail _ h => have := ih h; omega
theorem wKL_mem {l : List S51} {x : S51} (h : x ∈ l) : wC x.f6 ≤ wKL l := by
 induction l with
 | nil => cases h
 | cons y ys ih =>
  simp only [wKL]
  cases h with
  | head => omega
  | tail _ h => have := ih h; omega
theorem rdKL_ (l : List S60) (i : Nat) (h : i < l.length) : rd_T60 l (i : Int) = l[i] := by
 unfold rd_T60; rw [Int.toNat_natCast, List.getD_eq_getElem?_getD, List.getElem?_eq_getElem h]; rfl
theorem rdKC_ (l : List S51) (i : Nat) (h : i < l.length) : rd_T51 l (i : Int) = l[i] := by
 unfold rd_T51; rw [Int.toNat_natCast, List.getD_eq_getElem?_getD, List.getElem?_eq_getElem h]; rfl
theorem dropK_ (l : List S60) (i : Nat) (h : i < l.length) : (l.drop i).map cvK = cvK l[i] :: (l.drop (i + 1)).map cvK := by
 rw [List.drop_eq_getElem_cons h, List.map_cons]
theorem szClause_ (x : S60) (hx : ok60 x) (k : Nat) (left : Int) (hk : wC (cv x.f6) + 5 ≤ k) (h0 : 0 ≤ left) (h1 : left ≤ 1048576) :
 laws_szClause.f k x.f0 x.f1 x.f2 x.f3 x.f4 x.f5 x.f6.f0 x.f6.f1 x.f6.f2 x.f6.f3 x.f7 x.f8 left = some (if left < tK (cvK x) then -1 else left - tK (cvK x)) := by
 obtain ⟨s0, _, _, s3, _, _, hc, _, s8⟩ := hx
 have hm : maxLen = 9223372036854775807 := rfl
 have e : tK (cvK x) = x.f0.size + x.f3.size + tC (cv x.f6) + x.f8.size := rfl
 rw [e]
 unfold laws_szClause.f
 rw [w64 (x := left - (x.f0.size : Int)) (by omega) (by omega)]
 by_cases c0 : left - (x.f0.size : Int) < 0
 · rw [if_pos c0, if_pos (by omega)]
 rw [if_neg c0, w64 (x := left - (x.f0.size : Int) - (x.f3.size : Int)) (by omega) (by omega)]
 by_cases c1 : left - (x.f0.size : Int) - (x.f3.size : Int) < 0
 · rw [if_pos c1, if_pos (by omega)]
 rw [if_neg c1, sz_ x.f6 hc k _ hk (by omega) (by omega), Option.bind_some]
 by_cases c2 : left - (x.f0.size : Int) - (x.f3.size : Int) < (tC (cv x.f6) : Int)
 · rw [if_pos c2, if_pos (by omega), if_pos (by omega)]
 rw [if_neg c2, if_neg (by omega), w64 (x := left - (x.f0.size : Int) - (x.f3.size : Int) - (tC (cv x.f6) : Int) - (x.f8.size : Int)) (by omega) (by omega)]
 by_cases c3 : left - (x.f0.size : Int) - (x.f3.size : Int) - (tC (cv x.f6) : Int) - (x.f8.size : Int) < 0
 · rw [if_pos c3, if_pos (by omega)]
 · rw [if_neg c3, if_neg (by omega)]; congr 1; omega
theorem szClauses_ (l : List S60) (hl : l.length ≤ 1048576) (hx : ∀ x ∈ l, ok60 x) (d : Nat) :
 ∀ (i k : Nat) (left : Int), i + d = l.length → wKL ((l.drop i).map cvK) + 5 ≤ k → 0 ≤ left → left ≤ 1048576 → laws_szClauseS.l0 k l left (i : Int) = some (if left < tKL ((l.drop i).map cvK) then -1 else left - tKL ((l.drop i).map cvK)) := by
 induction d with
 | zero =>
  intro i k left hi hk h0 h1
  obtain ⟨k, rfl⟩ : ∃ m, k = m + 1 := ⟨k - 1, by omega⟩
  simp only [laws_szClauseS.l0]
  rw [if_neg (by omega), List.drop_eq_nil_of_le (by omega)]
  have e_ : tKL (List.map cvK ([] : List S60)) = 0 := rfl
  rw [e_, if_neg (by omega)]; congr 1; omega
 | succ d ih =>
  intro i k left hi hk h0 h1
  have hlt : i < l.length := by omega
  obtain ⟨k, rfl⟩ : ∃ m, k = m + 1 := ⟨k - 1, by omega⟩
  rw [dropK_ l i hlt] at hk ⊢
  simp only [wKL] at hk
  have e_ : tKL (cvK l[i] :: (l.drop (i + 1)).map cvK) = tK (cvK l[i]) + tKL ((l.drop (i + 1)).map cvK) := rfl
  have w_ : (cvK l[i]).f6 = cv l[i].f6 := rfl
  rw [w_] at hk
  rw [e_]
  simp only [laws_szClauseS.l0]
  rw [if_pos (by omega), if_pos (by omega), rdKL_ l i hlt, szClause_ l[i] (hx _ (List.getElem_mem hlt)) k left (by omega) h0 h1, Option.bind_some]
  by_cases hc : left < tK (cvK l[i])
  · rw [if_pos hc, if_pos (by omega), if_pos (by omega)]
  · rw [if_neg hc, if_neg (by omega), w64 (x := (i : Int) + 1) (by omega) (by omega), show (i : Int) + 1 = ((i + 1 : Nat) : Int) by omega, ih (i + 1) k _ (by omega) (by omega) (by omega) (by omega)]
    congr 1
    by_cases h2 : left - (tK (cvK l[i]) : Int) < tKL ((l.drop (i + 1)).map cvK)
    · rw [if_pos h2, if_pos (by omega)]
    · rw [if_neg h2, if_neg (by omega)]; omega
theorem szStr_l0 (l : List ByteArray) (hm : ∀ p ∈ l, p.size ≤ 9223372036854775807) (hl : l.length ≤ 1048577) (d : Nat) : ∀ (i k : Nat) (x : Int), i + d = l.length → d < k → 0 ≤ x → x ≤ 1048576 → ∃ r, laws_szStringS.l0 k l x (i : Int) = some r ∧ (r < 0 ∨ (0 ≤ r ∧ r ≤ x ∧ (tot (l.drop i) : Int) ≤ x)) := by
 induction d with
 | zero =>
  intro i k x hi hk h0 h1
  obtain ⟨k, rfl⟩ : ∃ m, k = m + 1 := ⟨k - 1, by omega⟩
  refine ⟨x, ?_, Or.inr ⟨h0, Int.le_refl _, ?_⟩⟩
  · simp only [laws_szStringS.l0]; rw [if_neg (by omega)]
  · rw [List.drop_eq_nil_of_le (by omega)]; simp [tot]; omega
 | succ d ih =>
  intro i k x hi hk h0 h1
  obtain ⟨k, rfl⟩ : ∃ m, k = m + 1 := ⟨k - 1, by omega⟩
  have hlt : i < l.length := by omega
  have hs := hm l[i] (List.getElem_mem hlt)
  simp only [laws_szStringS.l0]
  rw [if_pos (by omega), if_pos (by omega), rdOf_nat l i hlt, w64 (x := x - ((l[i]).size : Int)) (by omega) (by omega)]
  by_cases hn : x - ((l[i]).size : Int) < 0
  · rw [if_pos hn]; exact ⟨-1, rfl, Or.inl (by omega)⟩
  · rw [if_neg hn, w64 (x := (i : Int) + 1) (by omega) (by omega), show (i : Int) + 1 = ((i + 1 : Nat) : Int) by omega]
    obtain ⟨r, h2, h3⟩ := ih (i + 1) k (x - ((l[i]).size : Int)) (by omega) (by omega) (by omega) (by omega)
    refine ⟨r, h2, ?_⟩
    rcases h3 with h3 | ⟨h3, h4, h5⟩
    · exact Or.inl h3
    · refine Or.inr ⟨h3, by omega, ?_⟩
      rw [List.drop_eq_getElem_cons hlt, tot_cons]; omega
/-- What the law's own bound lets in. -/
def small (l : List ByteArray) (m : List S60) : Prop := l.length ≤ 1048576 ∧ tot l ≤ 1048576 ∧ m.length ≤ 1048576 ∧ tKL (m.map cvK) ≤ 1048576
theorem szContract_ (l : List ByteArray) (m : List S60) (hl : l.length ≤ maxLen) (hs : ∀ p ∈ l, p.size ≤ maxLen) (hm : m.length ≤ maxLen) (hx : ∀ x ∈ m, ok60 x) (k : Nat) (left : Int) (hk : l.length + wKL (m.map cvK) + 10 ≤ k) (h0 : 0 ≤ left) (h1 : left ≤ 1048576) :
 ∃ r, laws_szContract.f k l m left = some r ∧ (r < 0 ∨ (0 ≤ r ∧ r + (m.length + tKL (m.map cvK) : Nat) ≤ left ∧ small l m)) := by
 have hmx : maxLen = 9223372036854775807 := rfl
 unfold laws_szContract.f laws_szStringS.f laws_szClauseS.f
 rw [w64 (x := left - (l.length : Int)) (by omega) (by omega)]
 by_cases c0 : left - (l.length : Int) < 0
 · rw [if_pos c0, Option.bind_some, if_pos (by omega)]; exact ⟨-1, rfl, .inl (by omega)⟩
 rw [if_neg c0]
 obtain ⟨r, e1, e2⟩ := szStr_l0 l (fun p hp => by have := hs p hp; omega) (by omega) l.length 0 k (left - (l.length : Int)) (by omega) (by omega) (by omega) (by omega)
 have e1' : laws_szStringS.l0 k l (left - (l.length : Int)) 0 = some r := e1
 rw [e1', Option.bind_some]
 rcases e2 with e2 | ⟨e2, e3, e4⟩
 · rw [if_pos e2]; exact ⟨-1, rfl, .inl (by omega)⟩
 rw [if_neg (by omega), w64 (x := r - (m.length : Int)) (by omega) (by omega)]
 by_cases c1 : r - (m.length : Int) < 0
 · rw [if_pos c1, Option.bind_some, if_pos (by omega)]; exact ⟨-1, rfl, .inl (by omega)⟩
 rw [if_neg c1]
 have hS := szClauses_ m (by omega) hx m.length 0 k (r - (m.length : Int)) (by omega) (by simp only [List.drop_zero]; omega) (by omega) (by omega)
 rw [List.drop_zero] at hS e4
 have hS' : laws_szClauseS.l0 k m (r - (m.length : Int)) 0 = _ := hS
 rw [hS', Option.bind_some]
 by_cases c2 : r - (m.length : Int) < (tKL (m.map cvK) : Int)
 · rw [if_pos c2, if_pos (by omega)]; exact ⟨-1, rfl, .inl (by omega)⟩
 · rw [if_neg c2, if_neg (by omega)]
   refine ⟨_, rfl, .inr ⟨by omega, by omega, ?_⟩⟩
   unfold small
   exact ⟨by omega, by omega, by omega, by omega⟩
theorem mkK_ (x : S51) : (⟨x.f0, x.f1, x.f2, x.f3, x.f4, x.f5, ⟨x.f6.f0, x.f6.f1, x.f6.f2, x.f6.f3⟩, x.f7, x.f8⟩ : S51) = x := by
 obtain ⟨_, _, _, _, _, _, c, _, _⟩ := x
 cases c; rfl
theorem toClause_ (x : S60) (ht : tC (cv x.f6) ≤ 1048576) (k : Nat) (hk : wC (cv x.f6) + 5 ≤ k) :
 laws_toClause.f k x.f0 x.f1 x.f2 x.f3 x.f4 x.f5 x.f6.f0 x.f6.f1 x.f6.f2 x.f6.f3 x.f7 x.f8 = some ((cvK x).f0, (cvK x).f1, (cvK x).f2, (cvK x).f3, (cvK x).f4, (cvK x).f5, (cvK x).f6.f0, (cvK x).f6.f1, (cvK x).f6.f2, (cvK x).f6.f3, (cvK x).f7, (cvK x).f8) := by
 unfold laws_toClause.f
 rw [to_ x.f6 ht k hk, Option.bind_some]; rfl
theorem toClauses_ (l : List S60) (hl : l.length ≤ 1048576) (ht : tKL (l.map cvK) ≤ 1048576) (d : Nat) :
 ∀ (i k : Nat), i + d = l.length → wKL ((l.drop i).map cvK) + 5 ≤ k → laws_toClauseS.l0 k l ((l.take i).map cvK ++ List.replicate d z51) (i : Int) = some (l.map cvK) := by
 induction d with
 | zero =>
  intro i k hi hk
  obtain ⟨k, rfl⟩ : ∃ m, k = m + 1 := ⟨k - 1, by omega⟩
  simp only [laws_toClauseS.l0]
  rw [if_neg (by omega), List.take_of_length_le (by omega)]
  simp
 | succ d ih =>
  intro i k hi hk
  have hlt : i < l.length := by omega
  obtain ⟨k, rfl⟩ : ∃ m, k = m + 1 := ⟨k - 1, by omega⟩
  rw [dropK_ l i hlt] at hk
  simp only [wKL] at hk
  have w_ : (cvK l[i]).f6 = cv l[i].f6 := rfl
  rw [w_] at hk
  have htc : tC (cv l[i].f6) ≤ 1048576 := by
   have h1 := tKL_mem (List.mem_map_of_mem (f := cvK) (List.getElem_mem hlt))
   have h2 : tC (cv l[i].f6) ≤ tK (cvK l[i]) := by unfold tK; rw [w_]; omega
   omega
  simp only [laws_toClauseS.l0]
  rw [if_pos (by omega), if_pos (by omega), rdKL_ l i hlt, toClause_ l[i] htc k (by omega), Option.bind_some]
  rw [if_pos (by simp; omega), w64 (x := (i : Int) + 1) (by omega) (by omega), show (i : Int) + 1 = ((i + 1 : Nat) : Int) by omega, Int.toNat_natCast, set_grow _ _ _ _ _ (by simp; omega)]
  have := ih (i + 1) k (by omega) (by omega)
  rw [List.take_succ_eq_append_getElem hlt, List.map_append, List.map_cons, List.map_nil] at this
  rw [← this]
  dsimp only
  rw [mkK_]
theorem toContract_ (l : List ByteArray) (m : List S60) (h : small l m) (k : Nat) (hk : l.length + wKL (m.map cvK) + 10 ≤ k) : laws_toContract.f k l m = some (l, m.map cvK) := by
 obtain ⟨h1, h2, h3, h4⟩ := h
 unfold laws_toContract.f laws_toClauseS.f
 rw [copyS_ l (by omega) k (by omega), Option.bind_some, if_pos (by omega), if_pos (by omega)]
 have hS := toClauses_ m h3 h4 m.length 0 k (by omega) (by simp only [List.drop_zero]; omega)
 simp only [List.take_zero, List.map_nil, List.nil_append] at hS
 have hS' : laws_toClauseS.l0 k m (List.replicate m.length z51) 0 = _ := hS
 rw [Int.toNat_natCast, hS', Option.bind_some]
theorem eqClauses_ (l : List S51) (hl : l.length ≤ 1048576) (ht : tKL l ≤ 1048576) (d : Nat) :
 ∀ (i k : Nat), i + d = l.length → wKL (l.drop i) + 5 ≤ k → laws_eqClauseS.l0 k l l (i : Int) = some true := by
 induction d with
 | zero =>
  intro i k hi hk
  obtain ⟨k, rfl⟩ : ∃ m, k = m + 1 := ⟨k - 1, by omega⟩
  simp only [laws_eqClauseS.l0]
  rw [if_neg (by omega)]
 | succ d ih =>
  intro i k hi hk
  have hlt : i < l.length := by omega
  obtain ⟨k, rfl⟩ : ∃ m, k = m + 1 := ⟨k - 1, by omega⟩
  rw [List.drop_eq_getElem_cons hlt] at hk
  simp only [wKL] at hk
  have htc : tC l[i].f6 ≤ 1048576 := by
   have h1 := tKL_mem (List.getElem_mem hlt)
   have h2 : tC l[i].f6 ≤ tK l[i] := by unfold tK; omega
   omega
  simp only [laws_eqClauseS.l0]
  rw [if_pos (by omega), if_pos (by omega), if_pos (by omega), rdKC_ l i hlt]
  unfold laws_eqClause.f
  simp only [if_true, eq_ l[i].f6 htc k (by omega), Option.bind_some]
  rw [w64 (x := (i : Int) + 1) (by omega) (by omega), show (i : Int) + 1 = ((i + 1 : Nat) : Int) by omega]
  exact ih (i + 1) k (by omega) (by omega)
theorem eqContract_ (l : List ByteArray) (m : List S51) (h1 : l.length ≤ 1048576) (h3 : m.length ≤ 1048576) (h4 : tKL m ≤ 1048576) (k : Nat) (hk : l.length + wKL m + 10 ≤ k) : laws_eqContract.f k l m l m = some true := by
 unfold laws_eqContract.f laws_eqClauseS.f
 have hS := eqClauses_ m h3 h4 m.length 0 k (by omega) (by simp only [List.drop_zero]; omega)
 have hS' : laws_eqClauseS.l0 k m m 0 = some true := hS
 simp only [eqS_ l (by omega) k (by omega), Option.bind_some, if_true, hS']
def findK : List S51 → ByteArray → Nat → Int
 | [], _, _ => -1
 | x :: xs, s, i => if x.f0.toList = s.toList then (i : Int) else findK xs s (i + 1)
theorem findK_cons (x : S51) (xs : List S51) (s : ByteArray) (i : Nat) : findK (x :: xs) s i = if x.f0.toList = s.toList then (i : Int) else findK xs s (i + 1) := rfl
theorem findK_rng (l : List S51) (s : ByteArray) : ∀ i, findK l s i = -1 ∨ ((i : Int) ≤ findK l s i ∧ findK l s i < (i : Int) + (l.length : Int)) := by
 induction l with
 | nil => intro i; exact Or.inl rfl
 | cons x xs ih =>
  intro i
  rw [findK_cons]
  split
  · right; simp only [List.length_cons]; omega
  · rcases ih (i + 1) with h | h
    · exact Or.inl h
    · right; simp only [List.length_cons]; omega
theorem findS_l0 (p : List ByteArray) (l : List S51) (hl : l.length ≤ 1048576) (s : ByteArray) (d : Nat) : ∀ (i k : Nat), i + d = l.length → d < k → spec_l6Find.l0 k s (i : Int) p l = some (findK (l.drop i) s i) := by
 induction d with
 | zero =>
  intro i k hi hk
  obtain ⟨k, rfl⟩ : ∃ m, k = m + 1 := ⟨k - 1, by omega⟩
  simp only [spec_l6Find.l0]
  rw [if_neg (by omega), List.drop_eq_nil_of_le (by omega)]; rfl
 | succ d ih =>
  intro i k hi hk
  have hlt : i < l.length := by omega
  obtain ⟨k, rfl⟩ : ∃ m, k = m + 1 := ⟨k - 1, by omega⟩
  simp only [spec_l6Find.l0]
  rw [if_pos (by omega), if_pos (by omega), rdKC_ l i hlt, List.drop_eq_getElem_cons hlt, findK_cons]
  split
  · rfl
  · rw [w64 (x := (i : Int) + 1) (by omega) (by omega), show (i : Int) + 1 = ((i + 1 : Nat) : Int) by omega, ih (i + 1) k (by omega) (by omega)]
theorem findI_l0 (p : List ByteArray) (l : List S51) (hl : l.length ≤ 1048576) (s : ByteArray) (d : Nat) : ∀ (i k : Nat), i + d = l.length → d < k → impl_clauseIndex.l0 k s (i : Int) p l = some (findK (l.drop i) s i) := by
 induction d with
 | zero =>
  intro i k hi hk
  obtain ⟨k, rfl⟩ : ∃ m, k = m + 1 := ⟨k - 1, by omega⟩
  simp only [impl_clauseIndex.l0]
  rw [if_neg (by omega), List.drop_eq_nil_of_le (by omega)]; rfl
 | succ d ih =>
  intro i k hi hk
  have hlt : i < l.length := by omega
  obtain ⟨k, rfl⟩ : ∃ m, k = m + 1 := ⟨k - 1, by omega⟩
  simp only [impl_clauseIndex.l0]
  rw [if_pos (by omega), if_pos (by omega), rdKC_ l i hlt, List.drop_eq_getElem_cons hlt, findK_cons]
  split
  · rfl
  · rw [w64 (x := (i : Int) + 1) (by omega) (by omega), show (i : Int) + 1 = ((i + 1 : Nat) : Int) by omega, ih (i + 1) k (by omega) (by omega)]
theorem findS_ (p : List ByteArray) (l : List S51) (hl : l.length ≤ 1048576) (s : ByteArray) (k : Nat) (hk : l.length < k) : spec_l6Find.f k p l s = some (findK l s 0) := by
 have h := findS_l0 p l hl s l.length 0 k (by omega) hk
 rw [List.drop_zero] at h
 exact h
theorem findI_ (p : List ByteArray) (l : List S51) (hl : l.length ≤ 1048576) (s : ByteArray) (k : Nat) (hk : l.length < k) : impl_clauseIndex.f k p l s = some (findK l s 0) := by
 have h := findI_l0 p l hl s l.length 0 k (by omega) hk
 rw [List.drop_zero] at h
 exact h
theorem has_l0 (l : List ByteArray) (hl : l.length ≤ 1048576) (s : ByteArray) (d : Nat) : ∀ (i k : Nat), i + d = l.length → d < k → ∃ b, spec_l5Has.l0 k l s (i : Int) = some b ∧ (b = true ↔ s ∈ l.drop i) := by
 induction d with
 | zero =>
  intro i k hi hk
  obtain ⟨k, rfl⟩ : ∃ m, k = m + 1 := ⟨k - 1, by omega⟩
  refine ⟨false, ?_, ?_⟩
  · simp only [spec_l5Has.l0]; rw [if_neg (by omega)]
  · rw [List.drop_eq_nil_of_le (by omega)]; simp
 | succ d ih =>
  intro i k hi hk
  obtain ⟨k, rfl⟩ : ∃ m, k = m + 1 := ⟨k - 1, by omega⟩
  have hlt : i < l.length := by omega
  simp only [spec_l5Has.l0]
  rw [if_pos (by omega), if_pos (by omega), rdOf_nat l i hlt, List.drop_eq_getElem_cons hlt]
  by_cases h : l[i].toList = s.toList
  · rw [if_pos h]
    refine ⟨true, rfl, ?_⟩
    have := toList_inj h
    exact ⟨fun _ => by rw [← this]; exact List.mem_cons_self, fun _ => rfl⟩
  · rw [if_neg h, w64 (x := (i : Int) + 1) (by omega) (by omega), show (i : Int) + 1 = ((i + 1 : Nat) : Int) by omega]
    obtain ⟨b, h1, h2⟩ := ih (i + 1) k (by omega) (by omega)
    refine ⟨b, h1, ?_⟩
    rw [h2, List.mem_cons]
    constructor
    · exact Or.inr
    · rintro (e | e)
      · exact absurd (by rw [← e]) h
      · exact e
theorem hasBoth_ (l : List ByteArray) (hl : l.length ≤ 1048576) (s : ByteArray) (k : Nat) (hk : l.length < k) : ∃ b, spec_l5Has.f k l s = some b ∧ slices_Contains_string_string.f k l s = some b := by
 obtain ⟨b, h1, h2⟩ := has_l0 l hl s l.length 0 k (by omega) hk
 obtain ⟨r, e1, e2⟩ := index_l0 l hl s l.length 0 k (by omega) hk
 refine ⟨b, h1, ?_⟩
 unfold slices_Contains_string_string.f slices_Index_string_string.f
 have h1' : slices_Index_string_string.l0 k l s (l.length : Int) 0 = some r := e1
 rw [h1', Option.bind_some]
 congr 1
 apply Bool.eq_iff_iff.2
 rw [decide_eq_true_iff, ge_iff_le, e2, h2]
theorem parties_l0 (p : List ByteArray) (hp : p.length ≤ 1048576) (l : List S51) (d : Nat) : ∀ (i k : Nat), i + d = p.length → p.length + d + 40 ≤ k → ∃ b, spec_l6Parties.l0 k (i : Int) p l = some b ∧ impl_areParties.l0 k p p (p.length : Int) (i : Int) = some b := by
 induction d with
 | zero =>
  intro i k hi hk
  obtain ⟨k, rfl⟩ : ∃ m, k = m + 1 := ⟨k - 1, by omega⟩
  simp only [spec_l6Parties.l0, impl_areParties.l0]
  rw [if_neg (by omega), if_neg (by omega), l1In_, withinI_]
  exact ⟨_, rfl, rfl⟩
 | succ d ih =>
  intro i k hi hk
  obtain ⟨k, rfl⟩ : ∃ m, k = m + 1 := ⟨k - 1, by omega⟩
  have hlt : i < p.length := by omega
  simp only [spec_l6Parties.l0, impl_areParties.l0]
  rw [if_pos (by omega), if_pos (by omega), if_pos (by omega), if_pos (by omega), if_pos (by omega), if_pos (by omega), if_pos (by omega), rdOf_nat p i hlt, nameS_ _ (by omega), nameI_ _ (by omega)]
  simp only [Option.bind_some]
  cases hn : nameB p[i] with
  | false => exact ⟨false, by simp, by simp⟩
  | true =>
   rw [if_pos rfl, if_pos rfl, Int.toNat_natCast]
   obtain ⟨b, h1, h2⟩ := hasBoth_ (p.take i) (by rw [List.length_take]; omega) p[i] k (by rw [List.length_take]; omega)
   rw [h1, h2]
   simp only [Option.bind_some]
   cases b with
   | true => exact ⟨false, by simp, by simp⟩
   | false =>
    rw [if_neg (by decide), if_neg (by decide), w64 (x := (i : Int) + 1) (by omega) (by omega), show (i : Int) + 1 = ((i + 1 : Nat) : Int) by omega]
    exact ih (i + 1) k (by omega) (by omega)
theorem parties_ (p : List ByteArray) (hp : p.length ≤ 1048576) (l : List S51) (k : Nat) (hk : 2 * p.length + 40 ≤ k) : ∃ b, spec_l6Parties.f k p l = some b ∧ impl_areParties.f k p = some b := by
 exact parties_l0 p hp l p.length 0 k (by omega) (by omega)
/-! One clause. -/
def tailB (l : List S51) (i : Int) (x : S51) : Bool :=
 if x.f8.toList = [] then true else decide (0 ≤ findK l x.f8 0) && (decide (findK l x.f8 0 ≠ i) && (decide ((rd_T51 l (findK l x.f8 0)).f1 = 1) && decide (x.f1 ≠ 3)))
def amtB (x : S51) : Bool := decide (0 ≤ x.f5 ∧ x.f5 ≤ 1000000) && (decide (0 ≤ x.f7 ∧ x.f7 ≤ 400) && (decide (x.f1 = 1) || (decide (x.f5 = 0) && decide (x.f7 = 0))))
def partyB (n : Int) (x : S51) : Bool := decide (0 ≤ x.f2 ∧ x.f2 ≤ n) && (decide (0 ≤ x.f4 ∧ x.f4 ≤ n) && (decide (x.f2 ≠ x.f4) && good x.f6))
def clauseB (n : Int) (l : List S51) (i : Int) (x : S51) : Bool := nameB x.f0 && (nameB x.f3 && (decide (1 ≤ x.f1 ∧ x.f1 ≤ 4) && (partyB n x && (amtB x && tailB l i x))))
theorem find_lt (l : List S51) (s : ByteArray) : findK l s 0 < (l.length : Int) := by
 rcases findK_rng l s 0 with h | h <;> omega
theorem j1S_ (p : List ByteArray) (l : List S51) (hl : l.length ≤ 1048576) (i : Int) (x : S51) (b : Bool) (k : Nat) (hk : l.length < k) :
 spec_l6Clause.j1 (k + 1) i b p l x.f0 x.f1 x.f2 x.f3 x.f4 x.f5 x.f6.f0 x.f6.f1 x.f6.f2 x.f6.f3 x.f7 x.f8 = some (!b && tailB l i x) := by
 simp only [spec_l6Clause.j1]
 unfold tailB
 cases b with
 | true => simp
 | false =>
  rw [if_neg (by decide)]
  by_cases h0 : x.f8.toList = []
  · rw [if_pos h0, if_pos h0]; rfl
  rw [if_neg h0, if_neg h0, findS_ p l hl x.f8 k hk, Option.bind_some]
  have hlt := find_lt l x.f8
  by_cases h1 : findK l x.f8 0 ≥ 0
  · rw [if_pos h1]
    by_cases h2 : findK l x.f8 0 = i
    · rw [if_pos h2]; simp [h2]
    · rw [if_neg h2, if_pos (by omega), if_pos hlt]
      by_cases h3 : (rd_T51 l (findK l x.f8 0)).f1 = 1
      · rw [if_pos h3]
        by_cases h4 : x.f1 = 3 <;> simp [h1, h2, h3, h4]
        all_goals omega
      · rw [if_neg h3]; simp [h3]
  · rw [if_neg h1]; simp [show ¬ (0 ≤ findK l x.f8 0) by omega]
theorem j2I_ (p : List ByteArray) (l : List S51) (hl : l.length ≤ 1048576) (i : Int) (x : S51) (b : Bool) (k : Nat) (hk : l.length < k) :
 impl_isClause.j2 (k + 1) i b p l x.f0 x.f1 x.f2 x.f3 x.f4 x.f5 x.f6.f0 x.f6.f1 x.f6.f2 x.f6.f3 x.f7 x.f8 = some (!b && tailB l i x) := by
 simp only [impl_isClause.j2]
 unfold tailB
 cases b with
 | true => simp
 | false =>
  rw [if_neg (by decide)]
  by_cases h0 : x.f8.toList = []
  · rw [if_pos h0, if_pos h0]; rfl
  rw [if_neg h0, if_neg h0, findI_ p l hl x.f8 k hk, Option.bind_some]
  have hlt := find_lt l x.f8
  by_cases h4 : x.f1 = 3
  · rw [if_pos h4]; simp [h4]
  rw [if_neg h4]
  by_cases h1 : findK l x.f8 0 ≥ 0
  · rw [if_pos h1]
    by_cases h2 : findK l x.f8 0 = i
    · rw [if_pos h2]; simp [h2]
    · rw [if_neg h2, if_pos (by omega), if_pos hlt]
      by_cases h3 : (rd_T51 l (findK l x.f8 0)).f1 = 1 <;> simp [h2, h3, h4]
      all_goals omega
  · rw [if_neg h1]; simp [show ¬ (0 ≤ findK l x.f8 0) by omega]
theorem j0S_ (p : List ByteArray) (l : List S51) (hl : l.length ≤ 1048576) (i : Int) (x : S51) (b : Bool) (k : Nat) (hk : l.length < k) :
 spec_l6Clause.j0 (k + 2) i b p l x.f0 x.f1 x.f2 x.f3 x.f4 x.f5 x.f6.f0 x.f6.f1 x.f6.f2 x.f6.f3 x.f7 x.f8 = some (!b && (amtB x && tailB l i x)) := by
 rw [show k + 2 = (k + 1) + 1 from rfl]
 simp only [spec_l6Clause.j0, j1S_ p l hl i x _ k hk, l1In_, Option.bind_some]
 unfold amtB
 generalize tailB l i x = T
 cases b with
 | true => simp
 | false =>
  rw [if_neg (by decide)]
  by_cases h1 : 0 ≤ x.f5 ∧ x.f5 ≤ 1000000 <;> by_cases h2 : 0 ≤ x.f7 ∧ x.f7 ≤ 400 <;> by_cases h3 : x.f1 = 1 <;> by_cases h4 : x.f5 = 0 <;> by_cases h5 : x.f7 = 0 <;> simp [h1, h2, h3, h4, h5] <;> omega
theorem j1I_ (p : List ByteArray) (l : List S51) (hl : l.length ≤ 1048576) (i : Int) (x : S51) (b : Bool) (k : Nat) (hk : l.length < k) :
 impl_isClause.j1 (k + 2) i b p l x.f0 x.f1 x.f2 x.f3 x.f4 x.f5 x.f6.f0 x.f6.f1 x.f6.f2 x.f6.f3 x.f7 x.f8 = some (!b && (amtB x && tailB l i x)) := by
 rw [show k + 2 = (k + 1) + 1 from rfl]
 simp only [impl_isClause.j1, j2I_ p l hl i x _ k hk, withinI_, Option.bind_some]
 unfold amtB
 generalize tailB l i x = T
 cases b with
 | true => simp
 | false =>
  rw [if_neg (by decide)]
  by_cases h1 : 0 ≤ x.f5 ∧ x.f5 ≤ 1000000 <;> by_cases h2 : 0 ≤ x.f7 ∧ x.f7 ≤ 400 <;> by_cases h3 : x.f1 = 1 <;> by_cases h4 : x.f5 = 0 <;> by_cases h5 : x.f7 = 0 <;> simp [h1, h2, h3, h4, h5] <;> omega
theorem clauseS_ (p : List ByteArray) (hp : p.length ≤ 1048576) (l : List S51) (hl : l.length ≤ 1048576) (i : Nat) (hlt : i < l.length) (ht : tC l[i].f6 ≤ 1048576) (k : Nat) (hk : l.length + wC l[i].f6 + 100 ≤ k) :
 spec_l6Clause.f k p l (i : Int) = some (clauseB ((p.length : Int) - 1) l (i : Int) l[i]) := by
 obtain ⟨k, rfl⟩ : ∃ m, k = m + 2 := ⟨k - 2, by omega⟩
 unfold spec_l6Clause.f
 rw [if_pos (by omega), if_pos (by omega), rdKC_ l i hlt]
 generalize l[i] = x at *
 rw [w64 (x := (p.length : Int) - 1) (by omega) (by omega)]
 simp only [nameS_ x.f0 (show 30 ≤ k + 2 by omega), nameS_ x.f3 (show 30 ≤ k + 2 by omega), l1In_, good_ x.f6 ht (k + 2) (by omega), j0S_ p l hl i x _ k (by omega), Option.bind_some]
 unfold clauseB partyB
 generalize (amtB x && tailB l i x) = T
 cases nameB x.f0
 · simp
 cases nameB x.f3
 · simp
 by_cases h1 : 1 ≤ x.f1 ∧ x.f1 ≤ 4
 case neg => simp [h1]
 by_cases h2 : 0 ≤ x.f2 ∧ x.f2 ≤ (p.length : Int) - 1
 case neg => simp [h1, h2]
 by_cases h3 : 0 ≤ x.f4 ∧ x.f4 ≤ (p.length : Int) - 1
 case neg => simp [h1, h2, h3]
 rw [decide_eq_true h1, decide_eq_true h2, decide_eq_true h3]
 by_cases h4 : x.f2 = x.f4
 · simp [h4]
 · cases good x.f6 <;> simp [h4]
theorem clauseI_ (p : List ByteArray) (hp : p.length ≤ 1048576) (l : List S51) (hl : l.length ≤ 1048576) (i : Nat) (hlt : i < l.length) (ht : tC l[i].f6 ≤ 1048576) (k : Nat) (hk : l.length + wC l[i].f6 + 100 ≤ k) :
 impl_isClause.f k p l (i : Int) = some (decide (findK l l[i].f0 0 = (i : Int)) && clauseB ((p.length : Int) - 1) l (i : Int) l[i]) := by
 obtain ⟨k, rfl⟩ : ∃ m, k = m + 3 := ⟨k - 3, by omega⟩
 unfold impl_isClause.f
 rw [if_pos (by omega), if_pos (by omega), rdKC_ l i hlt]
 generalize l[i] = x at *
 rw [w64 (x := (p.length : Int) - 1) (by omega) (by omega)]
 have hj : ∀ b, impl_isClause.j0 (k + 3) (i : Int) ((p.length : Int) - 1) b p l x.f0 x.f1 x.f2 x.f3 x.f4 x.f5 x.f6.f0 x.f6.f1 x.f6.f2 x.f6.f3 x.f7 x.f8 = some (!b && (partyB ((p.length : Int) - 1) x && (amtB x && tailB l i x))) := by
  intro b
  rw [show k + 3 = (k + 2) + 1 from rfl]
  simp only [impl_isClause.j0, withinI_, valid_ x.f6 ht (k + 2) (by omega), j1I_ p l hl i x _ k (by omega), Option.bind_some]
  unfold partyB
  generalize (amtB x && tailB l i x) = T
  cases b with
  | true => simp
  | false =>
   rw [if_neg (by decide)]
   by_cases h2 : 0 ≤ x.f2 ∧ x.f2 ≤ (p.length : Int) - 1
   case neg => simp [h2]
   by_cases h3 : 0 ≤ x.f4 ∧ x.f4 ≤ (p.length : Int) - 1
   case neg => simp [h2, h3]
   rw [decide_eq_true h2, decide_eq_true h3]
   by_cases h4 : x.f2 = x.f4
   · simp [h4]
   · cases good x.f6 <;> simp [h4]
 simp only [nameI_ x.f0 (show 30 ≤ k + 3 by omega), nameI_ x.f3 (show 30 ≤ k + 3 by omega), withinI_, findI_ p l hl x.f0 (k + 3) (by omega), hj, Option.bind_some]
 unfold clauseB
 generalize (partyB ((p.length : Int) - 1) x && (amtB x && tailB l i x)) = T
 cases nameB x.f0
 · simp
 by_cases h0 : findK l x.f0 0 = (i : Int)
 case neg => simp [h0]
 cases nameB x.f3
 · simp [h0]
 by_cases h1 : 1 ≤ x.f1 ∧ x.f1 ≤ 4 <;> simp [h0, h1]
theorem clauseB_forms {n : Int} {l : List S51} {i : Int} {x : S51} (h : clauseB n l i x = true) : forms x.f6 = true := by
 unfold clauseB partyB good at h
 simp only [Bool.and_eq_true] at h
 exact h.2.2.2.1.2.2.2.1
/-! The names of a contract. -/
def nsK : List S51 → List ByteArray
 | [] => []
 | x :: xs => x.f3 :: (nsC x.f6 ++ nsK xs)
theorem nsK_cons (x : S51) (xs : List S51) : nsK (x :: xs) = x.f3 :: (nsC x.f6 ++ nsK xs) := rfl
theorem nsK_len (l : List S51) : (nsK l).length ≤ tKL l + 2 * l.length := by
 induction l with
 | nil => simp [nsK]
 | cons x xs ih =>
  have h1 := nsC_len x.f6
  have h2 := nC_le x.f6
  have h3 : tC x.f6 ≤ tK x := by unfold tK; omega
  have e : tKL (x :: xs) = tK x + tKL xs := rfl
  rw [nsK_cons, e]
  simp only [List.length_cons, List.length_append]; omega
theorem tKL_drop (l : List S51) (i : Nat) : tKL (l.drop i) ≤ tKL l := by
 induction l generalizing i with
 | nil => simp
 | cons x xs ih =>
  cases i with
  | zero => simp
  | succ i => rw [List.drop_succ_cons]; have := ih i; have e : tKL (x :: xs) = tK x + tKL xs := rfl; omega
theorem factN_l0 (l : List S51) (hl : l.length ≤ 1048576) (ht : tKL l ≤ 1048576) (d : Nat) : ∀ (i k : Nat) (acc : List ByteArray), i + d = l.length → d + wKL l + 50 ≤ k → acc.length + (nsK (l.drop i)).length ≤ 2900000 → impl_factNames.l0 k acc l (l.length : Int) (i : Int) = some (putsB [] (acc ++ nsK (l.drop i))) := by
 induction d with
 | zero =>
  intro i k acc hi hk hn
  obtain ⟨k, rfl⟩ : ∃ m, k = m + 1 := ⟨k - 1, by omega⟩
  simp only [impl_factNames.l0]
  rw [if_neg (by omega), List.drop_eq_nil_of_le (by omega)]
  rw [sorted_ acc (by omega)]; simp [nsK]
 | succ d ih =>
  intro i k acc hi hk hn
  have hlt : i < l.length := by omega
  obtain ⟨k, rfl⟩ : ∃ m, k = m + 1 := ⟨k - 1, by omega⟩
  have hm := List.getElem_mem hlt
  have hw := wKL_mem hm
  have htc : tC l[i].f6 ≤ 1048576 := by
   have h1 := tKL_mem hm
   have h2 : tC l[i].f6 ≤ tK l[i] := by unfold tK; omega
   omega
  rw [List.drop_eq_getElem_cons hlt, nsK_cons] at hn ⊢
  simp only [List.length_cons, List.length_append] at hn
  simp only [impl_factNames.l0]
  have hnc : (nsC l[i].f6).length ≤ nC l[i].f6 := nsC_len _
  have hcc := nC_le l[i].f6
  rw [if_pos (by omega), if_pos (by omega), if_pos (by omega), if_pos (by omega), rdKC_ l i hlt]
  rw [addNames_ l[i].f6 htc k (acc ++ [l[i].f3]) (by omega) (by
   simp only [List.length_append, List.length_cons, List.length_nil]
   have := tKL_drop l i
   omega), Option.bind_some]
  rw [w64 (x := (i : Int) + 1) (by omega) (by omega), show (i : Int) + 1 = ((i + 1 : Nat) : Int) by omega, ih (i + 1) k _ (by omega) (by omega) (by simp only [List.length_append, List.length_cons, List.length_nil]; omega)]
  simp
theorem names6_l0 (p : List ByteArray) (l : List S51) (hl : l.length ≤ 1048576) (ht : tKL l ≤ 1048576) (hf : ∀ x ∈ l, forms x.f6 = true) (d : Nat) : ∀ (i k : Nat) (acc : List ByteArray), i + d = l.length → d + wKL l + 4000200 ≤ k → acc.length + (nsK (l.drop i)).length ≤ 2900000 → spec_l6Names.l0 k acc (i : Int) p l = some (putsB acc (nsK (l.drop i))) := by
 induction d with
 | zero =>
  intro i k acc hi hk hn
  obtain ⟨k, rfl⟩ : ∃ m, k = m + 1 := ⟨k - 1, by omega⟩
  simp only [spec_l6Names.l0]
  rw [if_neg (by omega), List.drop_eq_nil_of_le (by omega)]
  simp [nsK, putsB]
 | succ d ih =>
  intro i k acc hi hk hn
  have hlt : i < l.length := by omega
  obtain ⟨k, rfl⟩ : ∃ m, k = m + 1 := ⟨k - 1, by omega⟩
  have hm := List.getElem_mem hlt
  have hw := wKL_mem hm
  have htc : tC l[i].f6 ≤ 1048576 := by
   have h1 := tKL_mem hm
   have h2 : tC l[i].f6 ≤ tK l[i] := by unfold tK; omega
   omega
  rw [List.drop_eq_getElem_cons hlt, nsK_cons] at hn ⊢
  simp only [List.length_cons, List.length_append] at hn
  simp only [spec_l6Names.l0]
  have hcc := nC_le l[i].f6
  have hpl := putB_len acc l[i].f3
  have hpp := putsB_len (nsC l[i].f6) (putB acc l[i].f3)
  rw [if_pos (by omega), if_pos (by omega), rdKC_ l i hlt, putB_ acc _ (by omega) k (by omega), Option.bind_some]
  rw [l5Names_ l[i].f6 (hf _ hm) htc k _ (by omega) (by omega), Option.bind_some]
  rw [w64 (x := (i : Int) + 1) (by omega) (by omega), show (i : Int) + 1 = ((i + 1 : Nat) : Int) by omega, ih (i + 1) k _ (by omega) (by omega) (by omega)]
  rw [show l[i].f3 :: (nsC l[i].f6 ++ nsK (l.drop (i + 1))) = [l[i].f3] ++ (nsC l[i].f6 ++ nsK (l.drop (i + 1))) from rfl, putsB_app, putsB_app]
  rfl
/-! Contracts that are valid. -/
theorem goodX_l0 (p : List ByteArray) (hp : p.length ≤ 1048576) (l : List S51) (hl : l.length ≤ 12) (ht : tKL l ≤ 1048576) (d : Nat) : ∀ (i k : Nat), i + d = l.length → d + wKL l + 4000300 ≤ k → (∀ (j : Nat) (h : j < l.length), j < i → findK l l[j].f0 0 = (j : Int) ∧ clauseB ((p.length : Int) - 1) l (j : Int) l[j] = true) →
 ∃ b, spec_l6Good.l0 k (i : Int) p l = some b ∧ impl_IsValidContract.l0 k (l.length : Int) (i : Int) p l = some b ∧ (b = true → (putsB [] (nsK l)).length ≤ 16 ∧ ∀ (j : Nat) (h : j < l.length), findK l l[j].f0 0 = (j : Int) ∧ clauseB ((p.length : Int) - 1) l (j : Int) l[j] = true) := by
 induction d with
 | zero =>
  intro i k hi hk hf
  obtain ⟨k, rfl⟩ : ∃ m, k = m + 1 := ⟨k - 1, by omega⟩
  have hfa : ∀ x ∈ l, forms x.f6 = true := by
   intro x hx
   obtain ⟨j, hj, rfl⟩ := List.mem_iff_getElem.1 hx
   exact clauseB_forms (hf j hj (by omega)).2
  have hns := nsK_len l
  have h1 : spec_l6Names.f k p l = some (putsB [] (nsK l)) := by
   have h := names6_l0 p l (by omega) ht hfa l.length 0 k [] (by omega) (by omega) (by rw [List.drop_zero]; simp only [List.length_nil]; omega)
   rw [List.drop_zero] at h
   exact h
  have h2 : impl_factNames.f k p l = some (putsB [] (nsK l)) := by
   have h := factN_l0 l (by omega) ht l.length 0 k [] (by omega) (by omega) (by rw [List.drop_zero]; simp only [List.length_nil]; omega)
   rw [List.drop_zero, List.nil_append] at h
   exact h
  simp only [spec_l6Good.l0, impl_IsValidContract.l0]
  rw [if_neg (by omega), if_neg (by omega), h1, h2]
  exact ⟨_, rfl, rfl, fun h => ⟨by have h5 := of_decide_eq_true h; omega, fun j hj => hf j hj (by omega)⟩⟩
 | succ d ih =>
  intro i k hi hk hf
  have hlt : i < l.length := by omega
  obtain ⟨k, rfl⟩ : ∃ m, k = m + 1 := ⟨k - 1, by omega⟩
  have hm := List.getElem_mem hlt
  have hw := wKL_mem hm
  have htc : tC l[i].f6 ≤ 1048576 := by
   have h1 := tKL_mem hm
   have h2 : tC l[i].f6 ≤ tK l[i] := by unfold tK; omega
   omega
  simp only [spec_l6Good.l0, impl_IsValidContract.l0]
  rw [if_pos (by omega), if_pos (by omega), if_pos (by omega), rdKC_ l i hlt, findS_ p l (by omega) _ k (by omega), clauseS_ p hp l (by omega) i hlt htc k (by omega), clauseI_ p hp l (by omega) i hlt htc k (by omega)]
  simp only [Option.bind_some]
  by_cases h0 : findK l l[i].f0 0 = (i : Int)
  case neg => exact ⟨false, by simp [h0], by simp [h0], fun h => by cases h⟩
  rw [if_pos h0, decide_eq_true h0, Bool.true_and]
  cases hc : clauseB ((p.length : Int) - 1) l (i : Int) l[i] with
  | false => exact ⟨false, by simp, by simp, fun h => by cases h⟩
  | true =>
   rw [if_pos rfl, if_pos rfl, w64 (x := (i : Int) + 1) (by omega) (by omega), show (i : Int) + 1 = ((i + 1 : Nat) : Int) by omega]
   refine ih (i + 1) k (by omega) (by omega) (fun j hj hji => ?_)
   by_cases e : j = i
   · subst e; exact ⟨h0, hc⟩
   · exact hf j hj (by omega)
theorem goodX_ (p : List ByteArray) (hp : p.length ≤ 1048576) (l : List S51) (hl : l.length ≤ 1048576) (ht : tKL l ≤ 1048576) (k : Nat) (hk : 2 * p.length + wKL l + 4000400 ≤ k) :
 ∃ b, spec_l6Good.f k p l = some b ∧ impl_IsValidContract.f k p l = some b ∧ (b = true → 1 ≤ l.length ∧ l.length ≤ 12 ∧ (putsB [] (nsK l)).length ≤ 16 ∧ ∀ (j : Nat) (h : j < l.length), findK l l[j].f0 0 = (j : Int) ∧ clauseB ((p.length : Int) - 1) l (j : Int) l[j] = true) := by
 unfold spec_l6Good.f impl_IsValidContract.f
 obtain ⟨b, h1, h2⟩ := parties_ p hp l k (by omega)
 rw [l1In_, withinI_, h1, h2]
 simp only [Option.bind_some]
 obtain ⟨k, rfl⟩ : ∃ m, k = m + 1 := ⟨k - 1, by omega⟩
 simp only [spec_l6Good.j0, impl_IsValidContract.j0]
 by_cases h3 : 1 ≤ (l.length : Int) ∧ (l.length : Int) ≤ 12
 case neg => exact ⟨false, by simp [h3], by cases b <;> simp [h3], fun h => by cases h⟩
 obtain ⟨r, e1, e2, e3⟩ := goodX_l0 p hp l (by omega) ht l.length 0 k (by omega) (by omega) (fun j _ h => absurd h (by omega))
 have e1' : spec_l6Good.l0 k 0 p l = some r := e1
 have e2' : impl_IsValidContract.l0 k (l.length : Int) 0 p l = some r := e2
 rw [e1', e2', decide_eq_true h3]
 cases b with
 | false => exact ⟨false, by simp, by simp, fun h => by cases h⟩
 | true => exact ⟨r, by simp, by simp, fun h => ⟨by omega, by omega, (e3 h).1, (e3 h).2⟩⟩
theorem szT_nC (c : S49) : Own.szT c = nC c := by
 refine indC (P := fun c => Own.szT c = nC c) ?_ c
 intro c h
 rw [Own.szT_eq, nC_eq]
 congr 1
 generalize c.f3 = l at h
 induction l with
 | nil => rfl
 | cons x l ih =>
  simp only [Own.szL, nL]
  rw [h x (by simp), ih (fun y hy => h y (by simp [hy]))]
theorem szK_le (l : List S51) : Own.szK l ≤ tKL l + l.length := by
 induction l with
 | nil => simp [Own.szK]
 | cons x l ih =>
  have h1 := szT_nC x.f6
  have h2 := nC_le x.f6
  rw [Own.szT_eq] at h1
  simp only [Own.szK, tKL, List.length_cons, tK]
  omega
theorem depS_l0 (p : List ByteArray) (l : List S51) (hl : l.length ≤ 12) (i : Nat) (hi : i < l.length) (d : Nat) : ∀ (j k : Nat), j + d = l.length → d < k → spec_l6Dependent.l0 k (i : Int) (j : Int) p l = some (decide (0 ≤ firstK (fun x => x.f8.toList == (rd_T51 l (i : Int)).f0.toList) (l.drop j) j)) := by
 induction d with
 | zero =>
  intro j k hj hk
  obtain ⟨k, rfl⟩ : ∃ m, k = m + 1 := ⟨k - 1, by omega⟩
  simp only [spec_l6Dependent.l0]
  rw [if_neg (by omega), List.drop_eq_nil_of_le (by omega)]; rfl
 | succ d ih =>
  intro j k hj hk
  obtain ⟨k, rfl⟩ : ∃ m, k = m + 1 := ⟨k - 1, by omega⟩
  have hlt : j < l.length := by omega
  simp only [spec_l6Dependent.l0]
  rw [if_pos (by omega), if_pos (by omega), if_pos (by omega), if_pos (by omega), firstK_at _ l j hlt]
  by_cases hc : (rd_T51 l (j : Int)).f8.toList = (rd_T51 l (i : Int)).f0.toList
  · rw [if_pos hc, if_pos (by simpa using hc), decide_eq_true (by omega)]
  · rw [if_neg hc, if_neg (by simpa using hc), w64 (x := (j : Int) + 1) (by omega) (by omega), show (j : Int) + 1 = ((j + 1 : Nat) : Int) by omega]
    exact ih (j + 1) k (by omega) (by omega)
theorem depS_ (p : List ByteArray) (l : List S51) (hl : l.length ≤ 12) (i : Nat) (hi : i < l.length) (k : Nat) (hk : l.length < k) : spec_l6Dependent.f k p l (i : Int) = some (depK l (i : Int)) := by
 have h := depS_l0 p l hl i hi l.length 0 k (by omega) hk
 rw [List.drop_zero] at h
 exact h
theorem etaC (x : S49) : (⟨x.f0, x.f1, x.f2, x.f3⟩ : S49) = x := by cases x; rfl
theorem own_l0 (op : Int) (nm : ByteArray) (day : Int) (l : List S49) (hl : l.length ≤ 1048576) (h : ∀ x ∈ l, ∀ k, wC x + 5 ≤ k → spec_l5Own.f k x.f0 x.f1 x.f2 x.f3 = some (x.f0, x.f1, x.f2, x.f3)) (d : Nat) :
 ∀ (i k : Nat), i + d = l.length → wL (l.drop i) + 5 ≤ k → spec_l5Own.l0 k (i : Int) op nm day l op nm day (l.take i) = some (op, nm, day, l) := by
 induction d with
 | zero =>
  intro i k hi hk
  obtain ⟨k, rfl⟩ : ∃ m, k = m + 1 := ⟨k - 1, by omega⟩
  simp only [spec_l5Own.l0]
  rw [if_neg (by omega), List.take_of_length_le (by omega)]
 | succ d ih =>
  intro i k hi hk
  have hlt : i < l.length := by omega
  obtain ⟨k, rfl⟩ : ∃ m, k = m + 1 := ⟨k - 1, by omega⟩
  rw [dropC_ l i hlt] at hk
  simp only [wL] at hk
  simp only [spec_l5Own.l0]
  rw [if_pos (by omega), if_pos (by omega), rdC_ l i hlt, h l[i] (List.getElem_mem hlt) k (by omega), Option.bind_some, if_pos (by rw [List.length_take]; omega), w64 (x := (i : Int) + 1) (by omega) (by omega), show (i : Int) + 1 = ((i + 1 : Nat) : Int) by omega]
  dsimp only
  rw [etaC]
  have e := ih (i + 1) k (by omega) (by omega)
  rw [List.take_succ_eq_append_getElem hlt] at e
  exact e
theorem own_ (x : S49) : tC x ≤ 1048576 → ∀ k, wC x + 5 ≤ k → spec_l5Own.f k x.f0 x.f1 x.f2 x.f3 = some (x.f0, x.f1, x.f2, x.f3) := by
 refine indC (P := fun x => tC x ≤ 1048576 → ∀ k, wC x + 5 ≤ k → spec_l5Own.f k x.f0 x.f1 x.f2 x.f3 = some (x.f0, x.f1, x.f2, x.f3)) ?_ x
 intro x ih ht k hk
 rw [wC_eq] at hk
 rw [tC_eq] at ht
 obtain ⟨k, rfl⟩ : ∃ m, k = m + 1 := ⟨k - 1, by omega⟩
 simp only [spec_l5Own.f]
 have e := own_l0 x.f0 x.f1 x.f2 x.f3 (by omega) (fun y hy => ih y hy (by have := tL_mem hy; omega)) x.f3.length 0 k (by omega) (by simp only [List.drop_zero]; omega)
 exact e
theorem ownK_l0 (p q : List ByteArray) (l : List S51) (hl : l.length ≤ 1048576) (ht : tKL l ≤ 1048576) (d : Nat) :
 ∀ (i k : Nat), i + d = l.length → wKL (l.drop i) + 6 ≤ k → spec_l6Own.l0 k (i : Int) p l q (l.take i) = some (q, l) := by
 induction d with
 | zero =>
  intro i k hi hk
  obtain ⟨k, rfl⟩ : ∃ m, k = m + 1 := ⟨k - 1, by omega⟩
  simp only [spec_l6Own.l0]
  rw [if_neg (by omega), List.take_of_length_le (by omega)]
 | succ d ih =>
  intro i k hi hk
  have hlt : i < l.length := by omega
  obtain ⟨k, rfl⟩ : ∃ m, k = m + 1 := ⟨k - 1, by omega⟩
  rw [List.drop_eq_getElem_cons hlt] at hk
  simp only [wKL] at hk
  have htc : tC l[i].f6 ≤ 1048576 := by
   have h1 := tKL_mem (List.getElem_mem hlt)
   have h2 : tC l[i].f6 ≤ tK l[i] := by unfold tK; omega
   omega
  simp only [spec_l6Own.l0]
  rw [if_pos (by omega), if_pos (by omega), rdKC_ l i hlt, own_ l[i].f6 htc k (by omega), Option.bind_some, if_pos (by rw [List.length_take]; omega), w64 (x := (i : Int) + 1) (by omega) (by omega), show (i : Int) + 1 = ((i + 1 : Nat) : Int) by omega, mkK_]
  have e := ih (i + 1) k (by omega) (by omega)
  rw [List.take_succ_eq_append_getElem hlt] at e
  exact e
theorem ownKf_ (p : List ByteArray) (hp : p.length ≤ 1048576) (l : List S51) (hl : l.length ≤ 1048576) (ht : tKL l ≤ 1048576) (k : Nat) (hk : wKL l + 6 ≤ k) : spec_l6Own.f k p l = some (p, l) := by
 unfold spec_l6Own.f
 rw [Option.bind_some, List.nil_append, if_pos (by simp only [List.length_nil]; omega)]
 exact ownK_l0 p p l hl ht l.length 0 k (by omega) (by simp only [List.drop_zero]; omega)
theorem szR_le (l : List S51) : Own.szR l ≤ 11 * l.length + 3 * tKL l + 3 * l.length := by
 induction l with
 | nil => simp [Own.szR]
 | cons x l ih =>
  have h1 := szT_nC x.f6
  have h2 := nC_le x.f6
  rw [Own.szT_eq] at h1
  simp only [Own.szR, tKL, List.length_cons, tK]
  omega
theorem tKL_erase (l : List S51) : ∀ i, tKL (l.eraseIdx i) ≤ tKL l := by
 induction l with
 | nil => intro i; simp
 | cons x l ih => intro i; cases i with
  | zero => simp only [List.eraseIdx_cons_zero, tKL]; omega
  | succ i => have := ih i; simp only [List.eraseIdx_cons_succ, tKL]; omega
theorem wKL_erase (l : List S51) : ∀ i, wKL (l.eraseIdx i) ≤ wKL l := by
 induction l with
 | nil => intro i; simp
 | cons x l ih => intro i; cases i with
  | zero => simp only [List.eraseIdx_cons_zero, wKL]; omega
  | succ i => have := ih i; simp only [List.eraseIdx_cons_succ, wKL]; omega
theorem erase_len (l : List S51) (i : Nat) : (l.eraseIdx i).length ≤ l.length := by
 rw [List.length_eraseIdx]; split <;> omega
/-- Both return the same. -/
theorem rem_both (p : List ByteArray) (hp : p.length ≤ 1048576) (l : List S51) (hl : l.length ≤ 1048576) (ht : tKL l ≤ 1048576) (s : ByteArray) (k : Nat) (hk : 2 * p.length + l.length + wKL l + 4000500 ≤ k) :
 ∃ g0 g1 b, (g0 = [] ∨ g0 = p) ∧ (g1 = [] ∨ (∃ i, g1 = l.eraseIdx i)) ∧ spec_RemoveClause.f k p l s = some (g0, g1, b) ∧ Own.impl_Rem.f k p l s = some ((g0, g1), b) := by
 obtain ⟨b, h1, h2, h3⟩ := goodX_ p hp l hl ht k (by omega)
 unfold spec_RemoveClause.f Own.impl_Rem.f impl_ClauseNumber.f
 rw [findS_ p l hl s k (by omega), findI_ p l hl s k (by omega)]
 simp only [Option.bind_some, h1, h2]
 cases b with
 | false => exact ⟨[], [], false, .inl rfl, .inl rfl, by rw [if_neg Bool.false_ne_true], by rw [if_neg Bool.false_ne_true]; rfl⟩
 | true =>
  obtain ⟨n1, n2, n3, _⟩ := h3 rfl
  rw [if_pos rfl, if_pos rfl]
  rcases findK_rng l s 0 with hf | hf
  · rw [hf]
    exact ⟨[], [], false, .inl rfl, .inl rfl, by rw [if_pos (by decide)], by rw [if_pos (by decide)]; rfl⟩
  obtain ⟨i, hi⟩ : ∃ i : Nat, findK l s 0 = (i : Int) := ⟨(findK l s 0).toNat, by omega⟩
  rw [hi] at hf ⊢
  have hin : i < l.length := by omega
  have hn0 : ¬ ((i : Int) < 0) := by omega
  simp only [if_neg hn0, Option.bind_some, if_true]
  by_cases h4 : (l.length : Int) = 1
  · exact ⟨[], [], false, .inl rfl, .inl rfl, by rw [if_pos h4], by rw [if_pos h4]⟩
  rw [if_neg h4, if_neg h4, if_pos ⟨by omega, by omega⟩, depS_ p l n2 i hin k (by omega)]
  simp only [Option.bind_some]
  cases hd : depK l (i : Int) with
  | true => exact ⟨[], [], false, .inl rfl, .inl rfl, by rw [if_pos rfl], by rw [if_pos rfl]⟩
  | false =>
   refine ⟨p, l.eraseIdx i, true, .inr rfl, .inr ⟨i, rfl⟩, ?_, by rw [if_neg Bool.false_ne_true, Int.toNat_natCast]⟩
   rw [if_neg Bool.false_ne_true, ownKf_ p hp l hl ht k (by omega)]
   simp only [Option.bind_some, List.nil_append, Int.toNat_natCast]
   have hw : wrap64 ((i : Int) + 1) = ((i + 1 : Nat) : Int) := by rw [w64 (by omega) (by omega)]; omega
   rw [hw, if_pos (by omega), if_pos (by omega), if_pos (by simp only [List.length_nil, List.length_take]; omega), if_pos (by omega), if_pos (by omega), Int.toNat_natCast, if_pos (by rw [List.length_take, List.length_drop]; omega), List.eraseIdx_eq_take_drop_succ]
theorem FnExactRemoveClause (a0 : List ByteArray) (a1 : List S60) (s : ByteArray) (x1 : a0.length ≤ maxLen) (x2 : ∀ p ∈ a0, p.size ≤ maxLen) (x3 : a1.length ≤ maxLen) (x4 : ∀ x ∈ a1, ok60 x) (x5 : s.size ≤ maxLen) : ∃ k, laws_FnExactRemoveClause.f k a0 a1 s = some true := by
 obtain ⟨K, hK⟩ : ∃ K, K = 2 * a0.length + a1.length + wKL (a1.map cvK) + 6000500 := ⟨_, rfl⟩
 refine ⟨K, ?_⟩
 unfold laws_FnExactRemoveClause.f
 by_cases hs : (s.size : Int) > 1048576
 · rw [if_pos hs]
 rw [if_neg hs]
 obtain ⟨r, e1, c1⟩ := szContract_ a0 a1 x1 x2 x3 x4 K 1048576 (by omega) (by omega) (by omega)
 rw [e1, Option.bind_some]
 rcases c1 with c1 | ⟨c1, c2, sa⟩
 · rw [if_pos c1]
 rw [if_neg (by omega)]
 obtain ⟨p1, p2, p3, p4⟩ := sa
 have hle : (a1.map cvK).length = a1.length := List.length_map ..
 have hlm : (a1.map cvK).length ≤ 1048576 := by omega
 obtain ⟨g0, g1, b, hg0, hg1, s1, s2⟩ := rem_both a0 p1 (a1.map cvK) hlm p4 s K (by omega)
 have hz := szK_le (a1.map cvK)
 have hr := szR_le (a1.map cvK)
 have hr2 := szR_le g1
 have hq : g0.length ≤ a0.length := by rcases hg0 with h | h <;> rw [h] <;> simp
 have hgl : g1.length ≤ (a1.map cvK).length ∧ tKL g1 ≤ tKL (a1.map cvK) ∧ wKL g1 ≤ wKL (a1.map cvK) := by
  rcases hg1 with rfl | ⟨i, rfl⟩
  · exact ⟨by simp, by simp [tKL], by simp [wKL]⟩
  · exact ⟨erase_len _ _, tKL_erase _ _, wKL_erase _ _⟩
 rw [toContract_ a0 a1 ⟨p1, p2, p3, p4⟩ K (by omega), Option.bind_some]
 dsimp only
 rw [s1, Option.bind_some, s2, Option.bind_some, eqContract_ g0 g1 (by omega) (by omega) (by omega) K (by omega), Option.bind_some, eqContract_ a0 (a1.map cvK) p1 hlm p4 K (by omega), Option.bind_some]
 dsimp only
 rw [if_pos ⟨rfl, rfl, rfl, by omega, by omega, by omega, by omega, by omega⟩]
end Go.Proofs.YtckopglnblcnoaaGreatDoor.Pure
