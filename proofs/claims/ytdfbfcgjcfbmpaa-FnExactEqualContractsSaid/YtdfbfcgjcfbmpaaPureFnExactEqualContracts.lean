/- The program's EqualContracts and the reference's return the same for every two contracts; no condition. -/
import Derived.Test.YtdfbfcgjcfbmpaaQFnExactEqualContractsx10
namespace Go.Proofs.Ytdfbfcgjcfbmpaa.Pure
open Go.RowKit Go.Proofs.Ytdfbfcgjcfbmpaa.QFnExactEqualContracts Go.Proofs.YtdfbfcgjcfbmpaaW.PrintWords Go.Proofs.YtdfbfcgjcfbmpaaW.PrintLast Go.Proofs.YtdfbfcgjcfbmpaaW.PrintMore
set_option linter.unusedVariables false
set_option linter.unusedSimpArgs false

inductive ok49 : S49 → Prop
  | mk (x : S49) (h0 : (Lit.int .i64 x.f0).wf = true) (h1 : x.f1.size ≤ maxLen) (h2 : (Lit.int .i64 x.f2).wf = true) (h3 : x.f3.length ≤ maxLen) (h4 : ∀ y ∈ x.f3, ok49 y) : ok49 x

inductive ok51 : S51 → Prop
  | mk (x : S51) (h0 : x.f0.size ≤ maxLen) (h1 : (Lit.int .i64 x.f1).wf = true) (h2 : (Lit.int .i64 x.f2).wf = true) (h3 : x.f3.size ≤ maxLen) (h4 : (Lit.int .i64 x.f4).wf = true) (h5 : (Lit.int .i64 x.f5).wf = true) (h6 : ok49 x.f6) (h7 : (Lit.int .i64 x.f7).wf = true) (h8 : x.f8.size ≤ maxLen) : ok51 x

theorem w64 {x : Int} (h : -9223372036854775808 ≤ x) (h' : x ≤ 9223372036854775807) : wrap64 x = x := by unfold wrap64; omega
theorem tdv {x : Int} (n : Int) (h : 0 ≤ x) : Int.tdiv x n = x / n := Int.tdiv_eq_ediv_of_nonneg h
theorem tmd {x : Int} (n : Int) (h : 0 ≤ x) : Int.tmod x n = x % n := Int.tmod_eq_emod_of_nonneg h
theorem wfb {a : Int} (h : (Lit.int .i64 a).wf = true) : -9223372036854775808 ≤ a ∧ a ≤ 9223372036854775807 := by
  simp [Lit.wf, IntKind.min, IntKind.max, IntKind.signed, IntKind.bits] at h
  omega
theorem within_ {x a b : Int} : (if x ≥ a then some (decide (x ≤ b)) else some false) = some (decide (a ≤ x ∧ x ≤ b)) := by
  by_cases h : x ≥ a
  · rw [if_pos h]; congr 1; simp; omega
  · rw [if_neg h]; congr 1; simp; omega

theorem toList_inj {a b : ByteArray} (h : a.toList = b.toList) : a = b := by
  rw [ByteArray.toList_eq, ByteArray.toList_eq] at h
  exact Go.WideShapes.bytes_inj h
theorem szD (s : ByteArray) : s.data.toList.length = s.size := by simp
theorem rdOf_nat (l : List ByteArray) (i : Nat) (h : i < l.length) : rdOf ByteArray.empty l (i : Int) = l[i] := by
  unfold rdOf; rw [Int.toNat_natCast, List.getD_eq_getElem?_getD, List.getElem?_eq_getElem h]; rfl

theorem eqS_l0 (l : List ByteArray) (hl : l.length ≤ 1048577) (d : Nat) : ∀ (i k : Nat), i + d = l.length → d < k → laws_eqStringS.l0 k l l (i : Int) = some true := by
  induction d with
  | zero =>
    intro i k hi hk
    obtain ⟨k, rfl⟩ : ∃ m, k = m + 1 := ⟨k - 1, by omega⟩
    simp only [laws_eqStringS.l0]; rw [if_neg (by omega)]
  | succ d ih =>
    intro i k hi hk
    obtain ⟨k, rfl⟩ : ∃ m, k = m + 1 := ⟨k - 1, by omega⟩
    simp only [laws_eqStringS.l0]
    rw [if_pos (by omega), if_pos (by omega), if_pos (by omega), if_pos trivial, w64 (x := (i : Int) + 1) (by omega) (by omega), show (i : Int) + 1 = ((i + 1 : Nat) : Int) by omega]
    exact ih (i + 1) k (by omega) (by omega)
theorem eqS_ (l : List ByteArray) (hl : l.length ≤ 1048577) (k : Nat) (hk : l.length < k) : laws_eqStringS.f k l l = some true := by
  unfold laws_eqStringS.f
  rw [if_pos rfl]
  exact eqS_l0 l hl l.length 0 k (by omega) hk

theorem copyS_l0 (l : List ByteArray) (hl : l.length ≤ 1048577) (d : Nat) : ∀ (i k : Nat) (y : List ByteArray), i + d = l.length → d < k → y.length = l.length → (∀ j, j < i → y[j]? = l[j]?) → laws_toStringS.l0 k l y (i : Int) = some l := by
  induction d with
  | zero =>
    intro i k y hi hk hy hj
    obtain ⟨k, rfl⟩ : ∃ m, k = m + 1 := ⟨k - 1, by omega⟩
    simp only [laws_toStringS.l0]; rw [if_neg (by omega)]
    congr 1
    apply List.ext_getElem?
    intro j
    by_cases h : j < i
    · exact hj j h
    · rw [List.getElem?_eq_none (by omega), List.getElem?_eq_none (by omega)]
  | succ d ih =>
    intro i k y hi hk hy hj
    obtain ⟨k, rfl⟩ : ∃ m, k = m + 1 := ⟨k - 1, by omega⟩
    simp only [laws_toStringS.l0]
    rw [if_pos (by omega), if_pos (by omega), if_pos (by omega), rdOf_nat l i (by omega), Int.toNat_natCast, w64 (x := (i : Int) + 1) (by omega) (by omega), show (i : Int) + 1 = ((i + 1 : Nat) : Int) by omega]
    refine ih (i + 1) k _ (by omega) (by omega) (by simpa using hy) (fun j hj' => ?_)
    by_cases h : j = i
    · subst h; rw [List.getElem?_set_self (by omega), List.getElem?_eq_getElem (by omega)]
    · rw [List.getElem?_set_ne (by omega)]; exact hj j (by omega)
theorem copyS_ (l : List ByteArray) (hl : l.length ≤ 1048577) (k : Nat) (hk : l.length < k) : laws_toStringS.f k l = some l := by
  unfold laws_toStringS.f
  rw [if_pos (by omega), if_pos (by omega)]
  exact copyS_l0 l hl l.length 0 k _ (by omega) hk (by simp) (fun j hj => by omega)
def tot (l : List ByteArray) : Nat := (l.map (·.size)).sum
theorem tot_cons (p : ByteArray) (l : List ByteArray) : tot (p :: l) = p.size + tot l := by simp [tot]
theorem szS_l0 (l : List ByteArray) (hm : ∀ p ∈ l, p.size ≤ 9223372036854775807) (hl : l.length ≤ 1048577) (d : Nat) : ∀ (i k : Nat) (x : Int), i + d = l.length → d < k → 0 ≤ x → x ≤ 1048576 → ∃ r, laws_szStringS.l0 k l x (i : Int) = some r ∧ (r < 0 ∨ (tot (l.drop i) : Int) ≤ x) := by
  induction d with
  | zero =>
    intro i k x hi hk h0 h1
    obtain ⟨k, rfl⟩ : ∃ m, k = m + 1 := ⟨k - 1, by omega⟩
    refine ⟨x, ?_, Or.inr ?_⟩
    · simp only [laws_szStringS.l0]; rw [if_neg (by omega)]
    · rw [List.drop_eq_nil_of_le (by omega)]; simp [tot]; omega
  | succ d ih =>
    intro i k x hi hk h0 h1
    obtain ⟨k, rfl⟩ : ∃ m, k = m + 1 := ⟨k - 1, by omega⟩
    have hlt : i < l.length := by omega
    have hs := hm l[i] (List.getElem_mem hlt)
    simp only [laws_szStringS.l0]
    rw [if_pos (by omega), if_pos (by omega), rdOf_nat l i hlt, w64 (x := x - ((l[i]).size : Int)) (by omega) (by omega)]
    by_cases hn : x - ((l[i]).size : Int) < 0
    · rw [if_pos hn]; exact ⟨-1, rfl, Or.inl (by omega)⟩
    · rw [if_neg hn, w64 (x := (i : Int) + 1) (by omega) (by omega), show (i : Int) + 1 = ((i + 1 : Nat) : Int) by omega]
      obtain ⟨r, h2, h3⟩ := ih (i + 1) k (x - ((l[i]).size : Int)) (by omega) (by omega) (by omega) (by omega)
      refine ⟨r, h2, ?_⟩
      rcases h3 with h3 | h3
      · exact Or.inl h3
      · refine Or.inr ?_
        rw [List.drop_eq_getElem_cons hlt]
        rw [tot_cons]; omega
theorem szS_ (l : List ByteArray) (hm : ∀ p ∈ l, p.size ≤ 9223372036854775807) (hl : l.length ≤ 9223372036854775807) (k : Nat) (hk : 1048578 ≤ k) : ∃ r, laws_szStringS.f k l 1048576 = some r ∧ (r < 0 ∨ (l.length ≤ 1048576 ∧ tot l ≤ 1048576)) := by
  unfold laws_szStringS.f
  rw [w64 (x := 1048576 - (l.length : Int)) (by omega) (by omega)]
  by_cases h : 1048576 - (l.length : Int) < 0
  · rw [if_pos h]; exact ⟨-1, rfl, Or.inl (by omega)⟩
  · rw [if_neg h]
    obtain ⟨r, h2, h3⟩ := szS_l0 l hm (by omega) l.length 0 k (1048576 - (l.length : Int)) (by omega) (by omega) (by omega) (by omega)
    refine ⟨r, h2, ?_⟩
    rcases h3 with h3 | h3
    · exact Or.inl h3
    · rw [List.drop_zero] at h3; exact Or.inr ⟨by omega, by omega⟩

theorem indL {P : S49 → Prop} (h : ∀ c : S49, (∀ x ∈ c.f3, P x) → P c) (c : S49) : P c :=
  S49.rec (motive_1 := P) (motive_2 := fun l => ∀ x ∈ l, P x) (fun a b c l ih => h ⟨a, b, c, l⟩ ih) (fun x hx => by cases hx) (fun x xs hx hxs y hy => by cases hy with | head => exact hx | tail _ h => exact hxs y h) c
theorem indC {P : S38 → Prop} (h : ∀ c : S38, (∀ x ∈ c.f3, P x) → P c) (c : S38) : P c :=
  S38.rec (motive_1 := P) (motive_2 := fun l => ∀ x ∈ l, P x) (fun a b c l ih => h ⟨a, b, c, l⟩ ih) (fun x hx => by cases hx) (fun x xs hx hxs y hy => by cases hy with | head => exact hx | tail _ h => exact hxs y h) c
mutual
def cv : S49 → S38
  | ⟨a, b, c, l⟩ => ⟨a, b, c, cvL l⟩
def cvL : List S49 → List S38
  | [] => []
  | x :: xs => cv x :: cvL xs
end
mutual
def wC : S38 → Nat
  | ⟨_, _, _, l⟩ => wL l + 8
def wL : List S38 → Nat
  | [] => 0
  | x :: xs => wC x + wL xs + 1
end
mutual
def tC : S38 → Nat
  | ⟨_, b, _, l⟩ => b.size + l.length + tL l
def tL : List S38 → Nat
  | [] => 0
  | x :: xs => tC x + tL xs
end
mutual
def nC : S38 → Nat
  | ⟨_, _, _, l⟩ => nL l + 1
def nL : List S38 → Nat
  | [] => 0
  | x :: xs => nC x + nL xs
end
theorem cvL_map (l : List S49) : cvL l = l.map cv := by
  induction l with
  | nil => rfl
  | cons x xs ih => simp [cvL, ih]
theorem cv_f0 (c : S49) : (cv c).f0 = c.f0 := by cases c; rfl
theorem cv_f1 (c : S49) : (cv c).f1 = c.f1 := by cases c; rfl
theorem cv_f2 (c : S49) : (cv c).f2 = c.f2 := by cases c; rfl
theorem cv_f3 (c : S49) : (cv c).f3 = c.f3.map cv := by cases c; simp [cv, cvL_map]
theorem wC_eq (c : S38) : wC c = wL c.f3 + 8 := by cases c; rfl
theorem tC_eq (c : S38) : tC c = c.f1.size + c.f3.length + tL c.f3 := by cases c; rfl
theorem nC_eq (c : S38) : nC c = nL c.f3 + 1 := by cases c; rfl
theorem tL_mem {l : List S38} {x : S38} (h : x ∈ l) : tC x ≤ tL l := by
  induction l with
  | nil => cases h
  | cons y ys ih =>
    simp only [tL]
    cases h with
    | head => omega
    | tail _ h => have := ih h; omega
theorem nL_le (l : List S38) (h : ∀ x ∈ l, nC x ≤ tC x + 1) : nL l ≤ tL l + l.length := by
  induction l with
  | nil => simp [nL]
  | cons y ys ih =>
    have h1 := h y List.mem_cons_self
    have h2 := ih (fun x hx => h x (List.mem_cons_of_mem _ hx))
    simp only [nL, tL, List.length_cons]; omega
theorem nC_le (c : S38) : nC c ≤ tC c + 1 := by
  refine indC (P := fun c => nC c ≤ tC c + 1) ?_ c
  intro c ih
  have := nL_le c.f3 ih
  rw [nC_eq, tC_eq]; omega
theorem nL_sum (l : List S38) : nL l ≤ tL l + l.length := nL_le l (fun x _ => nC_le x)
theorem rdL_ (l : List S49) (i : Nat) (h : i < l.length) : rd_T49 l (i : Int) = l[i] := by
  unfold rd_T49; rw [Int.toNat_natCast, List.getD_eq_getElem?_getD, List.getElem?_eq_getElem h]; rfl
theorem rdC_ (l : List S38) (i : Nat) (h : i < l.length) : rd_T38 l (i : Int) = l[i] := by
  unfold rd_T38; rw [Int.toNat_natCast, List.getD_eq_getElem?_getD, List.getElem?_eq_getElem h]; rfl
theorem dropL_ (l : List S49) (i : Nat) (h : i < l.length) : (l.drop i).map cv = cv l[i] :: (l.drop (i + 1)).map cv := by
  rw [List.drop_eq_getElem_cons h, List.map_cons]
theorem dropC_ (l : List S38) (i : Nat) (h : i < l.length) : l.drop i = l[i] :: l.drop (i + 1) := List.drop_eq_getElem_cons h
theorem szL_ (l : List S49) (hl : l.length ≤ 1048576) (h : ∀ x ∈ l, ∀ k left, wC (cv x) + 5 ≤ k → 0 ≤ left → left ≤ 1048576 → laws_szCondition.f k x.f0 x.f1 x.f2 x.f3 left = some (if left < tC (cv x) then -1 else left - tC (cv x))) (d : Nat) :
    ∀ (i k : Nat) (left : Int), i + d = l.length → wL ((l.drop i).map cv) + 5 ≤ k → 0 ≤ left → left ≤ 1048576 → laws_szConditionS.l0 k l left (i : Int) = some (if left < tL ((l.drop i).map cv) then -1 else left - tL ((l.drop i).map cv)) := by
  induction d with
  | zero =>
    intro i k left hi hk h0 h1
    obtain ⟨k, rfl⟩ : ∃ m, k = m + 1 := ⟨k - 1, by omega⟩
    simp only [laws_szConditionS.l0]
    rw [if_neg (by omega), List.drop_eq_nil_of_le (by omega)]
    have e_ : tL (List.map cv ([] : List S49)) = 0 := rfl
    rw [e_]
    rw [if_neg (by omega)]; congr 1; omega
  | succ d ih =>
    intro i k left hi hk h0 h1
    have hlt : i < l.length := by omega
    obtain ⟨k, rfl⟩ : ∃ m, k = m + 1 := ⟨k - 1, by omega⟩
    rw [dropL_ l i hlt] at hk ⊢
    simp only [wL] at hk
    have e_ : tL (cv l[i] :: (l.drop (i + 1)).map cv) = tC (cv l[i]) + tL ((l.drop (i + 1)).map cv) := rfl
    rw [e_]
    simp only [laws_szConditionS.l0]
    rw [if_pos (by omega), if_pos (by omega), rdL_ l i hlt, h l[i] (List.getElem_mem hlt) k left (by omega) h0 h1, Option.bind_some]
    by_cases hc : left < tC (cv l[i])
    · rw [if_pos hc, if_pos (by omega), if_pos (by omega)]
    · rw [if_neg hc, if_neg (by omega), w64 (x := (i : Int) + 1) (by omega) (by omega), show (i : Int) + 1 = ((i + 1 : Nat) : Int) by omega, ih (i + 1) k _ (by omega) (by omega) (by omega) (by omega)]
      congr 1
      by_cases h2 : left - (tC (cv l[i]) : Int) < tL ((l.drop (i + 1)).map cv)
      · rw [if_pos h2, if_pos (by omega)]
      · rw [if_neg h2, if_neg (by omega)]; omega
theorem sz_ (c : S49) : ok49 c → ∀ (k : Nat) (left : Int), wC (cv c) + 5 ≤ k → 0 ≤ left → left ≤ 1048576 → laws_szCondition.f k c.f0 c.f1 c.f2 c.f3 left = some (if left < tC (cv c) then -1 else left - tC (cv c)) := by
  refine indL (P := fun c => ok49 c → ∀ (k : Nat) (left : Int), wC (cv c) + 5 ≤ k → 0 ≤ left → left ≤ 1048576 → laws_szCondition.f k c.f0 c.f1 c.f2 c.f3 left = some (if left < tC (cv c) then -1 else left - tC (cv c))) ?_ c
  rintro c ih ⟨_, _, h1, _, h3, h4⟩ k left hk h0 hle
  rw [wC_eq, cv_f3] at hk
  rw [tC_eq, cv_f1, cv_f3, List.length_map]
  obtain ⟨k, rfl⟩ : ∃ m, k = m + 3 := ⟨k - 3, by omega⟩
  have hm : maxLen = 9223372036854775807 := rfl
  simp only [laws_szCondition.f, laws_szConditionS.f]
  rw [w64 (x := left - (c.f1.size : Int)) (by omega) (by omega)]
  by_cases hc : left - (c.f1.size : Int) < 0
  · rw [if_pos hc, if_pos (by omega)]
  rw [if_neg hc, w64 (x := left - (c.f1.size : Int) - (c.f3.length : Int)) (by omega) (by omega)]
  by_cases hd : left - (c.f1.size : Int) - (c.f3.length : Int) < 0
  · rw [if_pos hd, Option.bind_some, if_pos (by omega), if_pos (by omega)]
  rw [if_neg hd]
  have hS := szL_ c.f3 (by omega) (fun x hx => ih x hx (h4 x hx)) c.f3.length 0 (k + 1) (left - (c.f1.size : Int) - (c.f3.length : Int)) (by omega) (by simp only [List.drop_zero]; omega) (by omega) (by omega)
  simp only [List.drop_zero] at hS
  have hS' : laws_szConditionS.l0 (k + 1) c.f3 (left - (c.f1.size : Int) - (c.f3.length : Int)) 0 = _ := hS
  rw [hS', Option.bind_some]
  by_cases he : left - (c.f1.size : Int) - (c.f3.length : Int) < (tL (c.f3.map cv) : Int)
  · rw [if_pos he, if_pos (by omega), if_pos (by omega)]
  · rw [if_neg he, if_neg (by omega), if_neg (by omega)]; congr 1; omega
theorem set_grow {α : Type} (a : List α) (d : Nat) (z x : α) (i : Nat) (h : a.length = i) : (a ++ List.replicate (d + 1) z).set i x = (a ++ [x]) ++ List.replicate d z := by
  subst h
  rw [List.set_append_right _ _ (Nat.le_refl _), Nat.sub_self, List.replicate_succ, List.set_cons_zero, List.append_assoc, List.singleton_append]
theorem mkC_ (c : S38) : (⟨c.f0, c.f1, c.f2, c.f3⟩ : S38) = c := by cases c; rfl
theorem toL_ (l : List S49) (hl : l.length ≤ 1048576) (h : ∀ x ∈ l, ∀ k, wC (cv x) + 5 ≤ k → laws_toCondition.f k x.f0 x.f1 x.f2 x.f3 = some ((cv x).f0, (cv x).f1, (cv x).f2, (cv x).f3)) (d : Nat) :
    ∀ (i k : Nat), i + d = l.length → wL ((l.drop i).map cv) + 5 ≤ k → laws_toConditionS.l0 k l ((l.take i).map cv ++ List.replicate d z38) (i : Int) = some (l.map cv) := by
  induction d with
  | zero =>
    intro i k hi hk
    obtain ⟨k, rfl⟩ : ∃ m, k = m + 1 := ⟨k - 1, by omega⟩
    simp only [laws_toConditionS.l0]
    rw [if_neg (by omega), List.take_of_length_le (by omega)]
    simp
  | succ d ih =>
    intro i k hi hk
    have hlt : i < l.length := by omega
    obtain ⟨k, rfl⟩ : ∃ m, k = m + 1 := ⟨k - 1, by omega⟩
    rw [dropL_ l i hlt] at hk
    simp only [wL] at hk
    simp only [laws_toConditionS.l0]
    rw [if_pos (by omega), if_pos (by omega), rdL_ l i hlt, h l[i] (List.getElem_mem hlt) k (by omega), Option.bind_some]
    rw [if_pos (by simp; omega), w64 (x := (i : Int) + 1) (by omega) (by omega), show (i : Int) + 1 = ((i + 1 : Nat) : Int) by omega, Int.toNat_natCast, set_grow _ _ _ _ _ (by simp; omega)]
    have := ih (i + 1) k (by omega) (by omega)
    rw [List.take_succ_eq_append_getElem hlt, List.map_append, List.map_cons, List.map_nil] at this
    rw [← this]
    dsimp only
    rw [mkC_]
theorem to_ (c : S49) : tC (cv c) ≤ 1048576 → ∀ (k : Nat), wC (cv c) + 5 ≤ k → laws_toCondition.f k c.f0 c.f1 c.f2 c.f3 = some ((cv c).f0, (cv c).f1, (cv c).f2, (cv c).f3) := by
  refine indL (P := fun c => tC (cv c) ≤ 1048576 → ∀ (k : Nat), wC (cv c) + 5 ≤ k → laws_toCondition.f k c.f0 c.f1 c.f2 c.f3 = some ((cv c).f0, (cv c).f1, (cv c).f2, (cv c).f3)) ?_ c
  intro c ih ht k hk
  rw [wC_eq, cv_f3] at hk
  rw [tC_eq, cv_f3, List.length_map] at ht
  obtain ⟨k, rfl⟩ : ∃ m, k = m + 3 := ⟨k - 3, by omega⟩
  rw [cv_f0, cv_f1, cv_f2, cv_f3]
  simp only [laws_toCondition.f, laws_toConditionS.f]
  rw [if_pos (by omega), if_pos (by omega)]
  have hS := toL_ c.f3 (by omega) (fun x hx => ih x hx (by have := tL_mem (List.mem_map_of_mem (f := cv) hx); omega)) c.f3.length 0 (k + 1) (by omega) (by simp only [List.drop_zero]; omega)
  simp only [List.take_zero, List.map_nil, List.nil_append] at hS
  have hS' : laws_toConditionS.l0 (k + 1) c.f3 (List.replicate c.f3.length z38) 0 = _ := hS
  rw [Int.toNat_natCast, hS', Option.bind_some]
theorem eqL_ (l : List S38) (hl : l.length ≤ 1048576) (h : ∀ x ∈ l, ∀ k, wC x + 5 ≤ k → laws_eqCondition.f k x.f0 x.f1 x.f2 x.f3 x.f0 x.f1 x.f2 x.f3 = some true) (d : Nat) :
    ∀ (i k : Nat), i + d = l.length → wL (l.drop i) + 5 ≤ k → laws_eqConditionS.l0 k l l (i : Int) = some true := by
  induction d with
  | zero =>
    intro i k hi hk
    obtain ⟨k, rfl⟩ : ∃ m, k = m + 1 := ⟨k - 1, by omega⟩
    simp only [laws_eqConditionS.l0]
    rw [if_neg (by omega)]
  | succ d ih =>
    intro i k hi hk
    have hlt : i < l.length := by omega
    obtain ⟨k, rfl⟩ : ∃ m, k = m + 1 := ⟨k - 1, by omega⟩
    rw [dropC_ l i hlt] at hk
    simp only [wL] at hk
    simp only [laws_eqConditionS.l0]
    rw [if_pos (by omega), if_pos (by omega), if_pos (by omega), rdC_ l i hlt, h l[i] (List.getElem_mem hlt) k (by omega), Option.bind_some, if_pos rfl]
    rw [w64 (x := (i : Int) + 1) (by omega) (by omega), show (i : Int) + 1 = ((i + 1 : Nat) : Int) by omega]
    exact ih (i + 1) k (by omega) (by omega)
theorem eq_ (c : S38) : tC c ≤ 1048576 → ∀ (k : Nat), wC c + 5 ≤ k → laws_eqCondition.f k c.f0 c.f1 c.f2 c.f3 c.f0 c.f1 c.f2 c.f3 = some true := by
  refine indC (P := fun c => tC c ≤ 1048576 → ∀ (k : Nat), wC c + 5 ≤ k → laws_eqCondition.f k c.f0 c.f1 c.f2 c.f3 c.f0 c.f1 c.f2 c.f3 = some true) ?_ c
  intro c ih ht k hk
  rw [wC_eq] at hk
  rw [tC_eq] at ht
  obtain ⟨k, rfl⟩ : ∃ m, k = m + 3 := ⟨k - 3, by omega⟩
  have hS := eqL_ c.f3 (by omega) (fun x hx => ih x hx (by have := tL_mem hx; omega)) c.f3.length 0 (k + 1) (by omega) (by simp only [List.drop_zero]; omega)
  have hS' : laws_eqConditionS.l0 (k + 1) c.f3 c.f3 0 = some true := hS
  simp only [laws_eqCondition.f, laws_eqConditionS.f, if_true, hS', Option.bind_some]

abbrev KL := S51
abbrev KC := S40
def cvK (x : S51) : S40 := ⟨x.f0, x.f1, x.f2, x.f3, x.f4, x.f5, cv x.f6, x.f7, x.f8⟩
def tK (x : S40) : Nat := x.f0.size + x.f3.size + tC x.f6 + x.f8.size
def tKL : List S40 → Nat
  | [] => 0
  | x :: xs => tK x + tKL xs
def wKL : List S40 → Nat
  | [] => 0
  | x :: xs => wC x.f6 + wKL xs + 1
theorem tKL_mem {l : List S40} {x : S40} (h : x ∈ l) : tK x ≤ tKL l := by
  induction l with
  | nil => cases h
  | cons y ys ih =>
    simp only [tKL]
    cases h with
    | head => omega
    | tail _ h => have := ih h; omega
theorem wKL_mem {l : List S40} {x : S40} (h : x ∈ l) : wC x.f6 ≤ wKL l := by
  induction l with
  | nil => cases h
  | cons y ys ih =>
    simp only [wKL]
    cases h with
    | head => omega
    | tail _ h => have := ih h; omega
theorem rdKL_ (l : List S51) (i : Nat) (h : i < l.length) : rd_T51 l (i : Int) = l[i] := by
  unfold rd_T51; rw [Int.toNat_natCast, List.getD_eq_getElem?_getD, List.getElem?_eq_getElem h]; rfl
theorem rdKC_ (l : List S40) (i : Nat) (h : i < l.length) : rd_T40 l (i : Int) = l[i] := by
  unfold rd_T40; rw [Int.toNat_natCast, List.getD_eq_getElem?_getD, List.getElem?_eq_getElem h]; rfl
theorem dropK_ (l : List S51) (i : Nat) (h : i < l.length) : (l.drop i).map cvK = cvK l[i] :: (l.drop (i + 1)).map cvK := by
  rw [List.drop_eq_getElem_cons h, List.map_cons]
theorem szClause_ (x : S51) (hx : ok51 x) (k : Nat) (left : Int) (hk : wC (cv x.f6) + 5 ≤ k) (h0 : 0 ≤ left) (h1 : left ≤ 1048576) :
    laws_szClause.f k x.f0 x.f1 x.f2 x.f3 x.f4 x.f5 x.f6.f0 x.f6.f1 x.f6.f2 x.f6.f3 x.f7 x.f8 left = some (if left < tK (cvK x) then -1 else left - tK (cvK x)) := by
  obtain ⟨s0, _, _, s3, _, _, hc, _, s8⟩ := hx
  have hm : maxLen = 9223372036854775807 := rfl
  have e : tK (cvK x) = x.f0.size + x.f3.size + tC (cv x.f6) + x.f8.size := rfl
  rw [e]
  unfold laws_szClause.f
  rw [w64 (x := left - (x.f0.size : Int)) (by omega) (by omega)]
  by_cases c0 : left - (x.f0.size : Int) < 0
  · rw [if_pos c0, if_pos (by omega)]
  rw [if_neg c0, w64 (x := left - (x.f0.size : Int) - (x.f3.size : Int)) (by omega) (by omega)]
  by_cases c1 : left - (x.f0.size : Int) - (x.f3.size : Int) < 0
  · rw [if_pos c1, if_pos (by omega)]
  rw [if_neg c1, sz_ x.f6 hc k _ hk (by omega) (by omega), Option.bind_some]
  by_cases c2 : left - (x.f0.size : Int) - (x.f3.size : Int) < (tC (cv x.f6) : Int)
  · rw [if_pos c2, if_pos (by omega), if_pos (by omega)]
  rw [if_neg c2, if_neg (by omega), w64 (x := left - (x.f0.size : Int) - (x.f3.size : Int) - (tC (cv x.f6) : Int) - (x.f8.size : Int)) (by omega) (by omega)]
  by_cases c3 : left - (x.f0.size : Int) - (x.f3.size : Int) - (tC (cv x.f6) : Int) - (x.f8.size : Int) < 0
  · rw [if_pos c3, if_pos (by omega)]
  · rw [if_neg c3, if_neg (by omega)]; congr 1; omega
theorem szClauses_ (l : List S51) (hl : l.length ≤ 1048576) (hx : ∀ x ∈ l, ok51 x) (d : Nat) :
    ∀ (i k : Nat) (left : Int), i + d = l.length → wKL ((l.drop i).map cvK) + 5 ≤ k → 0 ≤ left → left ≤ 1048576 → laws_szClauseS.l0 k l left (i : Int) = some (if left < tKL ((l.drop i).map cvK) then -1 else left - tKL ((l.drop i).map cvK)) := by
  induction d with
  | zero =>
    intro i k left hi hk h0 h1
    obtain ⟨k, rfl⟩ : ∃ m, k = m + 1 := ⟨k - 1, by omega⟩
    simp only [laws_szClauseS.l0]
    rw [if_neg (by omega), List.drop_eq_nil_of_le (by omega)]
    have e_ : tKL (List.map cvK ([] : List S51)) = 0 := rfl
    rw [e_, if_neg (by omega)]; congr 1; omega
  | succ d ih =>
    intro i k left hi hk h0 h1
    have hlt : i < l.length := by omega
    obtain ⟨k, rfl⟩ : ∃ m, k = m + 1 := ⟨k - 1, by omega⟩
    rw [dropK_ l i hlt] at hk ⊢
    simp only [wKL] at hk
    have e_ : tKL (cvK l[i] :: (l.drop (i + 1)).map cvK) = tK (cvK l[i]) + tKL ((l.drop (i + 1)).map cvK) := rfl
    have w_ : (cvK l[i]).f6 = cv l[i].f6 := rfl
    rw [w_] at hk
    rw [e_]
    simp only [laws_szClauseS.l0]
    rw [if_pos (by omega), if_pos (by omega), rdKL_ l i hlt, szClause_ l[i] (hx _ (List.getElem_mem hlt)) k left (by omega) h0 h1, Option.bind_some]
    by_cases hc : left < tK (cvK l[i])
    · rw [if_pos hc, if_pos (by omega), if_pos (by omega)]
    · rw [if_neg hc, if_neg (by omega), w64 (x := (i : Int) + 1) (by omega) (by omega), show (i : Int) + 1 = ((i + 1 : Nat) : Int) by omega, ih (i + 1) k _ (by omega) (by omega) (by omega) (by omega)]
      congr 1
      by_cases h2 : left - (tK (cvK l[i]) : Int) < tKL ((l.drop (i + 1)).map cvK)
      · rw [if_pos h2, if_pos (by omega)]
      · rw [if_neg h2, if_neg (by omega)]; omega
theorem szStr_l0 (l : List ByteArray) (hm : ∀ p ∈ l, p.size ≤ 9223372036854775807) (hl : l.length ≤ 1048577) (d : Nat) : ∀ (i k : Nat) (x : Int), i + d = l.length → d < k → 0 ≤ x → x ≤ 1048576 → ∃ r, laws_szStringS.l0 k l x (i : Int) = some r ∧ (r < 0 ∨ (0 ≤ r ∧ r ≤ x ∧ (tot (l.drop i) : Int) ≤ x)) := by
  induction d with
  | zero =>
    intro i k x hi hk h0 h1
    obtain ⟨k, rfl⟩ : ∃ m, k = m + 1 := ⟨k - 1, by omega⟩
    refine ⟨x, ?_, Or.inr ⟨h0, Int.le_refl _, ?_⟩⟩
    · simp only [laws_szStringS.l0]; rw [if_neg (by omega)]
    · rw [List.drop_eq_nil_of_le (by omega)]; simp [tot]; omega
  | succ d ih =>
    intro i k x hi hk h0 h1
    obtain ⟨k, rfl⟩ : ∃ m, k = m + 1 := ⟨k - 1, by omega⟩
    have hlt : i < l.length := by omega
    have hs := hm l[i] (List.getElem_mem hlt)
    simp only [laws_szStringS.l0]
    rw [if_pos (by omega), if_pos (by omega), rdOf_nat l i hlt, w64 (x := x - ((l[i]).size : Int)) (by omega) (by omega)]
    by_cases hn : x - ((l[i]).size : Int) < 0
    · rw [if_pos hn]; exact ⟨-1, rfl, Or.inl (by omega)⟩
    · rw [if_neg hn, w64 (x := (i : Int) + 1) (by omega) (by omega), show (i : Int) + 1 = ((i + 1 : Nat) : Int) by omega]
      obtain ⟨r, h2, h3⟩ := ih (i + 1) k (x - ((l[i]).size : Int)) (by omega) (by omega) (by omega) (by omega)
      refine ⟨r, h2, ?_⟩
      rcases h3 with h3 | ⟨h3, h4, h5⟩
      · exact Or.inl h3
      · refine Or.inr ⟨h3, by omega, ?_⟩
        rw [List.drop_eq_getElem_cons hlt, tot_cons]; omega
/-- What the law's own bound lets in. -/
def small (l : List ByteArray) (m : List S51) : Prop := l.length ≤ 1048576 ∧ tot l ≤ 1048576 ∧ m.length ≤ 1048576 ∧ tKL (m.map cvK) ≤ 1048576
theorem szContract_ (l : List ByteArray) (m : List S51) (hl : l.length ≤ maxLen) (hs : ∀ p ∈ l, p.size ≤ maxLen) (hm : m.length ≤ maxLen) (hx : ∀ x ∈ m, ok51 x) (k : Nat) (left : Int) (hk : l.length + wKL (m.map cvK) + 10 ≤ k) (h0 : 0 ≤ left) (h1 : left ≤ 1048576) :
    ∃ r, laws_szContract.f k l m left = some r ∧ (r < 0 ∨ (0 ≤ r ∧ r ≤ left ∧ small l m)) := by
  have hmx : maxLen = 9223372036854775807 := rfl
  unfold laws_szContract.f laws_szStringS.f laws_szClauseS.f
  rw [w64 (x := left - (l.length : Int)) (by omega) (by omega)]
  by_cases c0 : left - (l.length : Int) < 0
  · rw [if_pos c0, Option.bind_some, if_pos (by omega)]; exact ⟨-1, rfl, .inl (by omega)⟩
  rw [if_neg c0]
  obtain ⟨r, e1, e2⟩ := szStr_l0 l (fun p hp => by have := hs p hp; omega) (by omega) l.length 0 k (left - (l.length : Int)) (by omega) (by omega) (by omega) (by omega)
  have e1' : laws_szStringS.l0 k l (left - (l.length : Int)) 0 = some r := e1
  rw [e1', Option.bind_some]
  rcases e2 with e2 | ⟨e2, e3, e4⟩
  · rw [if_pos e2]; exact ⟨-1, rfl, .inl (by omega)⟩
  rw [if_neg (by omega), w64 (x := r - (m.length : Int)) (by omega) (by omega)]
  by_cases c1 : r - (m.length : Int) < 0
  · rw [if_pos c1, Option.bind_some, if_pos (by omega)]; exact ⟨-1, rfl, .inl (by omega)⟩
  rw [if_neg c1]
  have hS := szClauses_ m (by omega) hx m.length 0 k (r - (m.length : Int)) (by omega) (by simp only [List.drop_zero]; omega) (by omega) (by omega)
  rw [List.drop_zero] at hS e4
  have hS' : laws_szClauseS.l0 k m (r - (m.length : Int)) 0 = _ := hS
  rw [hS', Option.bind_some]
  by_cases c2 : r - (m.length : Int) < (tKL (m.map cvK) : Int)
  · rw [if_pos c2, if_pos (by omega)]; exact ⟨-1, rfl, .inl (by omega)⟩
  · rw [if_neg c2, if_neg (by omega)]
    refine ⟨_, rfl, .inr ⟨by omega, by omega, ?_⟩⟩
    unfold small
    exact ⟨by omega, by omega, by omega, by omega⟩
theorem mkK_ (x : S40) : (⟨x.f0, x.f1, x.f2, x.f3, x.f4, x.f5, ⟨x.f6.f0, x.f6.f1, x.f6.f2, x.f6.f3⟩, x.f7, x.f8⟩ : S40) = x := by
  obtain ⟨_, _, _, _, _, _, c, _, _⟩ := x
  cases c; rfl
theorem toClause_ (x : S51) (ht : tC (cv x.f6) ≤ 1048576) (k : Nat) (hk : wC (cv x.f6) + 5 ≤ k) :
    laws_toClause.f k x.f0 x.f1 x.f2 x.f3 x.f4 x.f5 x.f6.f0 x.f6.f1 x.f6.f2 x.f6.f3 x.f7 x.f8 = some ((cvK x).f0, (cvK x).f1, (cvK x).f2, (cvK x).f3, (cvK x).f4, (cvK x).f5, (cvK x).f6.f0, (cvK x).f6.f1, (cvK x).f6.f2, (cvK x).f6.f3, (cvK x).f7, (cvK x).f8) := by
  unfold laws_toClause.f
  rw [to_ x.f6 ht k hk, Option.bind_some]; rfl
theorem toClauses_ (l : List S51) (hl : l.length ≤ 1048576) (ht : tKL (l.map cvK) ≤ 1048576) (d : Nat) :
    ∀ (i k : Nat), i + d = l.length → wKL ((l.drop i).map cvK) + 5 ≤ k → laws_toClauseS.l0 k l ((l.take i).map cvK ++ List.replicate d z40) (i : Int) = some (l.map cvK) := by
  induction d with
  | zero =>
    intro i k hi hk
    obtain ⟨k, rfl⟩ : ∃ m, k = m + 1 := ⟨k - 1, by omega⟩
    simp only [laws_toClauseS.l0]
    rw [if_neg (by omega), List.take_of_length_le (by omega)]
    simp
  | succ d ih =>
    intro i k hi hk
    have hlt : i < l.length := by omega
    obtain ⟨k, rfl⟩ : ∃ m, k = m + 1 := ⟨k - 1, by omega⟩
    rw [dropK_ l i hlt] at hk
    simp only [wKL] at hk
    have w_ : (cvK l[i]).f6 = cv l[i].f6 := rfl
    rw [w_] at hk
    have htc : tC (cv l[i].f6) ≤ 1048576 := by
      have h1 := tKL_mem (List.mem_map_of_mem (f := cvK) (List.getElem_mem hlt))
      have h2 : tC (cv l[i].f6) ≤ tK (cvK l[i]) := by unfold tK; rw [w_]; omega
      omega
    simp only [laws_toClauseS.l0]
    rw [if_pos (by omega), if_pos (by omega), rdKL_ l i hlt, toClause_ l[i] htc k (by omega), Option.bind_some]
    rw [if_pos (by simp; omega), w64 (x := (i : Int) + 1) (by omega) (by omega), show (i : Int) + 1 = ((i + 1 : Nat) : Int) by omega, Int.toNat_natCast, set_grow _ _ _ _ _ (by simp; omega)]
    have := ih (i + 1) k (by omega) (by omega)
    rw [List.take_succ_eq_append_getElem hlt, List.map_append, List.map_cons, List.map_nil] at this
    rw [← this]
    dsimp only
    rw [mkK_]
theorem toContract_ (l : List ByteArray) (m : List S51) (h : small l m) (k : Nat) (hk : l.length + wKL (m.map cvK) + 10 ≤ k) : laws_toContract.f k l m = some (l, m.map cvK) := by
  obtain ⟨h1, h2, h3, h4⟩ := h
  unfold laws_toContract.f laws_toClauseS.f
  rw [copyS_ l (by omega) k (by omega), Option.bind_some, if_pos (by omega), if_pos (by omega)]
  have hS := toClauses_ m h3 h4 m.length 0 k (by omega) (by simp only [List.drop_zero]; omega)
  simp only [List.take_zero, List.map_nil, List.nil_append] at hS
  have hS' : laws_toClauseS.l0 k m (List.replicate m.length z40) 0 = _ := hS
  rw [Int.toNat_natCast, hS', Option.bind_some]
theorem eqClauses_ (l : List S40) (hl : l.length ≤ 1048576) (ht : tKL l ≤ 1048576) (d : Nat) :
    ∀ (i k : Nat), i + d = l.length → wKL (l.drop i) + 5 ≤ k → laws_eqClauseS.l0 k l l (i : Int) = some true := by
  induction d with
  | zero =>
    intro i k hi hk
    obtain ⟨k, rfl⟩ : ∃ m, k = m + 1 := ⟨k - 1, by omega⟩
    simp only [laws_eqClauseS.l0]
    rw [if_neg (by omega)]
  | succ d ih =>
    intro i k hi hk
    have hlt : i < l.length := by omega
    obtain ⟨k, rfl⟩ : ∃ m, k = m + 1 := ⟨k - 1, by omega⟩
    rw [List.drop_eq_getElem_cons hlt] at hk
    simp only [wKL] at hk
    have htc : tC l[i].f6 ≤ 1048576 := by
      have h1 := tKL_mem (List.getElem_mem hlt)
      have h2 : tC l[i].f6 ≤ tK l[i] := by unfold tK; omega
      omega
    simp only [laws_eqClauseS.l0]
    rw [if_pos (by omega), if_pos (by omega), if_pos (by omega), rdKC_ l i hlt]
    unfold laws_eqClause.f
    simp only [if_true, eq_ l[i].f6 htc k (by omega), Option.bind_some]
    rw [w64 (x := (i : Int) + 1) (by omega) (by omega), show (i : Int) + 1 = ((i + 1 : Nat) : Int) by omega]
    exact ih (i + 1) k (by omega) (by omega)
theorem eqContract_ (l : List ByteArray) (m : List S40) (h1 : l.length ≤ 1048576) (h3 : m.length ≤ 1048576) (h4 : tKL m ≤ 1048576) (k : Nat) (hk : l.length + wKL m + 10 ≤ k) : laws_eqContract.f k l m l m = some true := by
  unfold laws_eqContract.f laws_eqClauseS.f
  have hS := eqClauses_ m h3 h4 m.length 0 k (by omega) (by simp only [List.drop_zero]; omega)
  have hS' : laws_eqClauseS.l0 k m m 0 = some true := hS
  simp only [eqS_ l (by omega) k (by omega), Option.bind_some, if_true, hS']

mutual
def sameC : S38 → S38 → Bool
  | ⟨a, b, c, l⟩, y => decide (a = y.f0) && (b.toList == y.f1.toList) && decide (c = y.f2) && sameL l y.f3
def sameL : List S38 → List S38 → Bool
  | [], ys => ys.isEmpty
  | x :: xs, ys => match ys with
    | [] => false
    | y :: ys => sameC x y && sameL xs ys
end
theorem sameC_eq (x y : S38) : sameC x y = (decide (x.f0 = y.f0) && (x.f1.toList == y.f1.toList) && decide (x.f2 = y.f2) && sameL x.f3 y.f3) := by cases x; rfl
theorem sameL_cons (x y : S38) (xs ys : List S38) : sameL (x :: xs) (y :: ys) = (sameC x y && sameL xs ys) := rfl
theorem sameL_len (l : List S38) : ∀ m, l.length ≠ m.length → sameL l m = false := by
  induction l with
  | nil => intro m h; cases m with
    | nil => exact absurd rfl h
    | cons y ys => rfl
  | cons x xs ih => intro m h; cases m with
    | nil => rfl
    | cons y ys => rw [sameL_cons, ih ys (by simpa using h), Bool.and_false]
theorem sameS_ (l m : List S38) (hl : l.length ≤ 1048576) (hm : l.length = m.length) (a a' : Int) (b b' : ByteArray) (c c' : Int) (h : ∀ x ∈ l, ∀ y k, wC x + 5 ≤ k → spec_l5Same.f k x.f0 x.f1 x.f2 x.f3 y.f0 y.f1 y.f2 y.f3 = some (sameC x y)) (d : Nat) :
    ∀ (i k : Nat), i + d = l.length → wL (l.drop i) + 5 ≤ k → spec_l5Same.l0 k (i : Int) a b c l a' b' c' m = some (sameL (l.drop i) (m.drop i)) := by
  induction d with
  | zero =>
    intro i k hi hk
    obtain ⟨k, rfl⟩ : ∃ m, k = m + 1 := ⟨k - 1, by omega⟩
    simp only [spec_l5Same.l0]
    rw [if_neg (by omega), List.drop_eq_nil_of_le (by omega), List.drop_eq_nil_of_le (by omega)]; rfl
  | succ d ih =>
    intro i k hi hk
    have hlt : i < l.length := by omega
    obtain ⟨k, rfl⟩ : ∃ m, k = m + 1 := ⟨k - 1, by omega⟩
    rw [dropC_ l i hlt] at hk ⊢
    rw [dropC_ m i (by omega), sameL_cons]
    simp only [wL] at hk
    simp only [spec_l5Same.l0]
    rw [if_pos (by omega), if_pos (by omega), if_pos (by omega), rdC_ l i hlt, rdC_ m i (by omega), h l[i] (List.getElem_mem hlt) _ k (by omega), Option.bind_some]
    rw [w64 (x := (i : Int) + 1) (by omega) (by omega), show (i : Int) + 1 = ((i + 1 : Nat) : Int) by omega, ih (i + 1) k (by omega) (by omega)]
    cases sameC l[i] (m[i]'(by omega)) <;> simp
theorem sameSpec_ (x : S38) : tC x ≤ 1048576 → ∀ (y : S38) (k : Nat), wC x + 5 ≤ k → spec_l5Same.f k x.f0 x.f1 x.f2 x.f3 y.f0 y.f1 y.f2 y.f3 = some (sameC x y) := by
  refine indC (P := fun x => tC x ≤ 1048576 → ∀ (y : S38) (k : Nat), wC x + 5 ≤ k → spec_l5Same.f k x.f0 x.f1 x.f2 x.f3 y.f0 y.f1 y.f2 y.f3 = some (sameC x y)) ?_ x
  intro x ih ht y k hk
  rw [wC_eq] at hk
  rw [tC_eq] at ht
  rw [sameC_eq]
  obtain ⟨k, rfl⟩ : ∃ m, k = m + 2 := ⟨k - 2, by omega⟩
  simp only [spec_l5Same.f, spec_l5Same.j0]
  by_cases h0 : x.f0 = y.f0
  · by_cases h1 : x.f1.toList = y.f1.toList
    · by_cases h2 : x.f2 = y.f2
      · by_cases h3 : x.f3.length = y.f3.length
        · have hS := sameS_ x.f3 y.f3 (by omega) h3 x.f0 y.f0 x.f1 y.f1 x.f2 y.f2 (fun z hz => ih z hz (by have := tL_mem hz; omega)) x.f3.length 0 k (by omega) (by simp only [List.drop_zero]; omega)
          simp only [List.drop_zero] at hS
          have hS' : spec_l5Same.l0 k 0 x.f0 x.f1 x.f2 x.f3 y.f0 y.f1 y.f2 y.f3 = _ := hS
          have e : ((x.f3.length : Int) != (y.f3.length : Int)) = false := by simp [h3]
          rw [if_pos h0, if_pos h1, if_pos h2, e, if_neg (by simp), hS']
          simp [h0, h1, h2]
        · have e : ((x.f3.length : Int) != (y.f3.length : Int)) = true := by simp; omega
          rw [if_pos h0, if_pos h1, if_pos h2, e, if_pos rfl, sameL_len _ _ h3, Bool.and_false]
      · rw [if_pos h0, if_pos h1, if_neg h2]; simp [h2]
    · rw [if_pos h0, if_neg h1]; simp [h1]
  · rw [if_neg h0]; simp [h0]
theorem sameI_ (l m : List S38) (hl : l.length ≤ 1048576) (hm : l.length = m.length) (h : ∀ x ∈ l, ∀ y k, wC x + 5 ≤ k → impl_sameCondition.f k x.f0 x.f1 x.f2 x.f3 y.f0 y.f1 y.f2 y.f3 = some (sameC x y)) (d : Nat) :
    ∀ (i k : Nat), i + d = l.length → wL (l.drop i) + 5 ≤ k → impl_Condition.l0 k m l (l.length : Int) (i : Int) = some (sameL (l.drop i) (m.drop i)) := by
  induction d with
  | zero =>
    intro i k hi hk
    obtain ⟨k, rfl⟩ : ∃ m, k = m + 1 := ⟨k - 1, by omega⟩
    simp only [impl_Condition.l0]
    rw [if_neg (by omega), List.drop_eq_nil_of_le (by omega), List.drop_eq_nil_of_le (by omega)]; rfl
  | succ d ih =>
    intro i k hi hk
    have hlt : i < l.length := by omega
    obtain ⟨k, rfl⟩ : ∃ m, k = m + 1 := ⟨k - 1, by omega⟩
    rw [dropC_ l i hlt] at hk ⊢
    rw [dropC_ m i (by omega), sameL_cons]
    simp only [wL] at hk
    simp only [impl_Condition.l0]
    rw [if_pos (by omega), if_pos (by omega), if_pos (by omega), if_pos (by omega), rdC_ l i hlt, rdC_ m i (by omega), h l[i] (List.getElem_mem hlt) _ k (by omega), Option.bind_some]
    rw [w64 (x := (i : Int) + 1) (by omega) (by omega), show (i : Int) + 1 = ((i + 1 : Nat) : Int) by omega, ih (i + 1) k (by omega) (by omega)]
    cases sameC l[i] (m[i]'(by omega)) <;> simp
theorem sameImpl_ (x : S38) : tC x ≤ 1048576 → ∀ (y : S38) (k : Nat), wC x + 5 ≤ k → impl_sameCondition.f k x.f0 x.f1 x.f2 x.f3 y.f0 y.f1 y.f2 y.f3 = some (sameC x y) := by
  refine indC (P := fun x => tC x ≤ 1048576 → ∀ (y : S38) (k : Nat), wC x + 5 ≤ k → impl_sameCondition.f k x.f0 x.f1 x.f2 x.f3 y.f0 y.f1 y.f2 y.f3 = some (sameC x y)) ?_ x
  intro x ih ht y k hk
  rw [wC_eq] at hk
  rw [tC_eq] at ht
  rw [sameC_eq]
  obtain ⟨k, rfl⟩ : ∃ m, k = m + 2 := ⟨k - 2, by omega⟩
  simp only [impl_sameCondition.f, impl_Condition.f]
  by_cases h0 : x.f0 = y.f0
  · by_cases h1 : x.f1.toList = y.f1.toList
    · by_cases h2 : x.f2 = y.f2
      · by_cases h3 : x.f3.length = y.f3.length
        · have hS := sameI_ x.f3 y.f3 (by omega) h3 (fun z hz => ih z hz (by have := tL_mem hz; omega)) x.f3.length 0 k (by omega) (by simp only [List.drop_zero]; omega)
          simp only [List.drop_zero] at hS
          have hS' : impl_Condition.l0 k y.f3 x.f3 (x.f3.length : Int) 0 = _ := hS
          rw [if_pos h0, if_pos h1, if_pos h2, if_pos (by omega), hS']
          simp [h0, h1, h2]
        · rw [if_pos h0, if_pos h1, if_pos h2, if_neg (by omega), sameL_len _ _ h3, Bool.and_false]; rfl
      · rw [if_pos h0, if_pos h1, if_neg h2]; simp [h2]
    · rw [if_pos h0, if_neg h1]; simp [h1]
  · rw [if_neg h0]; simp [h0]

def seqB : List ByteArray → List ByteArray → Bool
  | [], ys => ys.isEmpty
  | x :: xs, ys => match ys with
    | [] => false
    | y :: ys => (x.toList == y.toList) && seqB xs ys
theorem seqB_cons (x y : ByteArray) (xs ys : List ByteArray) : seqB (x :: xs) (y :: ys) = ((x.toList == y.toList) && seqB xs ys) := rfl
theorem seqB_len (l : List ByteArray) : ∀ m, l.length ≠ m.length → seqB l m = false := by
  induction l with
  | nil => intro m h; cases m with
    | nil => exact absurd rfl h
    | cons y ys => rfl
  | cons x xs ih => intro m h; cases m with
    | nil => rfl
    | cons y ys => rw [seqB_cons, ih ys (by simpa using h), Bool.and_false]
def sameK (x y : S40) : Bool := (x.f0.toList == y.f0.toList) && decide (x.f1 = y.f1) && decide (x.f2 = y.f2) && (x.f3.toList == y.f3.toList) && decide (x.f4 = y.f4) && decide (x.f5 = y.f5) && sameC x.f6 y.f6 && decide (x.f7 = y.f7) && (x.f8.toList == y.f8.toList)
def sameKL : List S40 → List S40 → Bool
  | [], ys => ys.isEmpty
  | x :: xs, ys => match ys with
    | [] => false
    | y :: ys => sameK x y && sameKL xs ys
theorem sameKL_cons (x y : S40) (xs ys : List S40) : sameKL (x :: xs) (y :: ys) = (sameK x y && sameKL xs ys) := rfl
theorem sameKL_len (l : List S40) : ∀ m, l.length ≠ m.length → sameKL l m = false := by
  induction l with
  | nil => intro m h; cases m with
    | nil => exact absurd rfl h
    | cons y ys => rfl
  | cons x xs ih => intro m h; cases m with
    | nil => rfl
    | cons y ys => rw [sameKL_cons, ih ys (by simpa using h), Bool.and_false]
theorem clauseS_ (x y : S40) (ht : tC x.f6 ≤ 1048576) (k : Nat) (hk : wC x.f6 + 5 ≤ k) : spec_l6Same.f k x.f0 x.f1 x.f2 x.f3 x.f4 x.f5 x.f6.f0 x.f6.f1 x.f6.f2 x.f6.f3 x.f7 x.f8 y.f0 y.f1 y.f2 y.f3 y.f4 y.f5 y.f6.f0 y.f6.f1 y.f6.f2 y.f6.f3 y.f7 y.f8 = some (sameK x y) := by
  unfold spec_l6Same.f sameK
  rw [sameSpec_ x.f6 ht y.f6 k hk]
  simp only [Option.bind_some]
  by_cases h0 : x.f0.toList = y.f0.toList <;> by_cases h1 : x.f1 = y.f1 <;> by_cases h2 : x.f2 = y.f2 <;> by_cases h3 : x.f3.toList = y.f3.toList <;> by_cases h4 : x.f4 = y.f4 <;> by_cases h5 : x.f5 = y.f5 <;> simp [h0, h1, h2, h3, h4, h5]
  cases sameC x.f6 y.f6 <;> by_cases h7 : x.f7 = y.f7 <;> simp [h7]
theorem clauseI_ (x y : S40) (ht : tC x.f6 ≤ 1048576) (k : Nat) (hk : wC x.f6 + 5 ≤ k) : impl_sameClause.f k x.f0 x.f1 x.f2 x.f3 x.f4 x.f5 x.f6.f0 x.f6.f1 x.f6.f2 x.f6.f3 x.f7 x.f8 y.f0 y.f1 y.f2 y.f3 y.f4 y.f5 y.f6.f0 y.f6.f1 y.f6.f2 y.f6.f3 y.f7 y.f8 = some (sameK x y) := by
  unfold impl_sameClause.f sameK
  rw [sameImpl_ x.f6 ht y.f6 k hk]
  simp only [Option.bind_some]
  by_cases h0 : x.f0.toList = y.f0.toList <;> by_cases h1 : x.f1 = y.f1 <;> by_cases h2 : x.f2 = y.f2 <;> by_cases h3 : x.f3.toList = y.f3.toList <;> by_cases h4 : x.f4 = y.f4 <;> by_cases h5 : x.f5 = y.f5 <;> simp [h0, h1, h2, h3, h4, h5]
  cases sameC x.f6 y.f6 <;> by_cases h7 : x.f7 = y.f7 <;> simp [h7]
theorem tC_of (l : List S40) (ht : tKL l ≤ 1048576) (x : S40) (hx : x ∈ l) : tC x.f6 ≤ 1048576 := by
  have h1 := tKL_mem hx
  have h2 : tC x.f6 ≤ tK x := by unfold tK; omega
  omega
theorem l1S_ (p q : List ByteArray) (l m : List S40) (hl : l.length ≤ 1048576) (ht : tKL l ≤ 1048576) (hm : l.length = m.length) (d : Nat) :
    ∀ (i k : Nat), i + d = l.length → wKL (l.drop i) + 5 ≤ k → spec_EqualContracts.l1 k (i : Int) p l q m = some (sameKL (l.drop i) (m.drop i)) := by
  induction d with
  | zero =>
    intro i k hi hk
    obtain ⟨k, rfl⟩ : ∃ m, k = m + 1 := ⟨k - 1, by omega⟩
    simp only [spec_EqualContracts.l1]
    rw [if_neg (by omega), List.drop_eq_nil_of_le (by omega), List.drop_eq_nil_of_le (by omega)]; rfl
  | succ d ih =>
    intro i k hi hk
    have hlt : i < l.length := by omega
    obtain ⟨k, rfl⟩ : ∃ m, k = m + 1 := ⟨k - 1, by omega⟩
    rw [List.drop_eq_getElem_cons hlt] at hk ⊢
    rw [List.drop_eq_getElem_cons (show i < m.length by omega), sameKL_cons]
    simp only [wKL] at hk
    simp only [spec_EqualContracts.l1]
    rw [if_pos (by omega), if_pos (by omega), if_pos (by omega), rdKC_ l i hlt, rdKC_ m i (by omega), clauseS_ _ _ (tC_of l ht _ (List.getElem_mem hlt)) k (by omega), Option.bind_some]
    rw [w64 (x := (i : Int) + 1) (by omega) (by omega), show (i : Int) + 1 = ((i + 1 : Nat) : Int) by omega, ih (i + 1) k (by omega) (by omega)]
    cases sameK l[i] (m[i]'(by omega)) <;> simp
theorem l0S_ (p q : List ByteArray) (l m : List S40) (hp : p.length ≤ 1048576) (hpq : p.length = q.length) (hl : l.length ≤ 1048576) (ht : tKL l ≤ 1048576) (hm : l.length = m.length) (d : Nat) :
    ∀ (i k : Nat), i + d = p.length → d + wKL l + 10 ≤ k → spec_EqualContracts.l0 k (i : Int) p l q m = some (seqB (p.drop i) (q.drop i) && sameKL l m) := by
  induction d with
  | zero =>
    intro i k hi hk
    obtain ⟨k, rfl⟩ : ∃ m, k = m + 1 := ⟨k - 1, by omega⟩
    simp only [spec_EqualContracts.l0]
    have h1 := l1S_ p q l m hl ht hm l.length 0 k (by omega) (by simp only [List.drop_zero]; omega)
    simp only [List.drop_zero] at h1
    have h1' : spec_EqualContracts.l1 k 0 p l q m = _ := h1
    rw [if_neg (by omega), List.drop_eq_nil_of_le (by omega), List.drop_eq_nil_of_le (by omega), h1']; rfl
  | succ d ih =>
    intro i k hi hk
    have hlt : i < p.length := by omega
    obtain ⟨k, rfl⟩ : ∃ m, k = m + 1 := ⟨k - 1, by omega⟩
    rw [List.drop_eq_getElem_cons hlt, List.drop_eq_getElem_cons (show i < q.length by omega), seqB_cons]
    simp only [spec_EqualContracts.l0]
    rw [if_pos (by omega), if_pos (by omega), if_pos (by omega), rdOf_nat p i hlt, rdOf_nat q i (by omega)]
    rw [w64 (x := (i : Int) + 1) (by omega) (by omega), show (i : Int) + 1 = ((i + 1 : Nat) : Int) by omega, ih (i + 1) k (by omega) (by omega)]
    by_cases h : p[i].toList = (q[i]'(by omega)).toList
    · rw [if_pos h, beq_iff_eq.2 h, Bool.true_and]
    · rw [if_neg h, beq_eq_false_iff_ne.2 h, Bool.false_and, Bool.false_and]
theorem spec_ (p q : List ByteArray) (l m : List S40) (hp : p.length ≤ 1048576) (hl : l.length ≤ 1048576) (ht : tKL l ≤ 1048576) (k : Nat) (hk : p.length + wKL l + 20 ≤ k) :
    spec_EqualContracts.f k p l q m = some (seqB p q && sameKL l m) := by
  obtain ⟨k, rfl⟩ : ∃ m, k = m + 1 := ⟨k - 1, by omega⟩
  unfold spec_EqualContracts.f
  by_cases h1 : p.length = q.length
  · rw [if_pos (by omega)]
    by_cases h2 : l.length = m.length
    · have e : ((l.length : Int) != (m.length : Int)) = false := by simp [h2]
      have h := l0S_ p q l m hp h1 hl ht h2 p.length 0 k (by omega) (by omega)
      simp only [List.drop_zero] at h
      have h' : spec_EqualContracts.l0 k 0 p l q m = _ := h
      simp only [spec_EqualContracts.j0, e, Bool.false_eq_true, if_false, h']
    · have e : ((l.length : Int) != (m.length : Int)) = true := by simp; omega
      simp only [spec_EqualContracts.j0, e, if_true]
      rw [sameKL_len _ _ h2, Bool.and_false]
  · rw [if_neg (by omega)]
    simp only [spec_EqualContracts.j0, if_true]
    rw [seqB_len _ _ h1, Bool.false_and]
theorem strI_ (p q : List ByteArray) (hp : p.length ≤ 1048576) (hpq : p.length = q.length) (d : Nat) :
    ∀ (i k : Nat), i + d = p.length → d < k → slices_Equal_string_string.l0 k p q (p.length : Int) (i : Int) = some (seqB (p.drop i) (q.drop i)) := by
  induction d with
  | zero =>
    intro i k hi hk
    obtain ⟨k, rfl⟩ : ∃ m, k = m + 1 := ⟨k - 1, by omega⟩
    simp only [slices_Equal_string_string.l0]
    rw [if_neg (by omega), List.drop_eq_nil_of_le (by omega), List.drop_eq_nil_of_le (by omega)]; rfl
  | succ d ih =>
    intro i k hi hk
    have hlt : i < p.length := by omega
    obtain ⟨k, rfl⟩ : ∃ m, k = m + 1 := ⟨k - 1, by omega⟩
    rw [List.drop_eq_getElem_cons hlt, List.drop_eq_getElem_cons (show i < q.length by omega), seqB_cons]
    simp only [slices_Equal_string_string.l0]
    rw [if_pos (by omega), if_pos (by omega), if_pos (by omega), if_pos (by omega), rdOf_nat p i hlt, rdOf_nat q i (by omega)]
    rw [w64 (x := (i : Int) + 1) (by omega) (by omega), show (i : Int) + 1 = ((i + 1 : Nat) : Int) by omega, ih (i + 1) k (by omega) (by omega)]
    by_cases h : p[i].toList = (q[i]'(by omega)).toList
    · rw [if_pos h, beq_iff_eq.2 h, Bool.true_and]
    · rw [if_neg h, beq_eq_false_iff_ne.2 h, Bool.false_and]
theorem clI_ (l m : List S40) (hl : l.length ≤ 1048576) (ht : tKL l ≤ 1048576) (hm : l.length = m.length) (d : Nat) :
    ∀ (i k : Nat), i + d = l.length → wKL (l.drop i) + 5 ≤ k → impl_Clause.l0 k m l (l.length : Int) (i : Int) = some (sameKL (l.drop i) (m.drop i)) := by
  induction d with
  | zero =>
    intro i k hi hk
    obtain ⟨k, rfl⟩ : ∃ m, k = m + 1 := ⟨k - 1, by omega⟩
    simp only [impl_Clause.l0]
    rw [if_neg (by omega), List.drop_eq_nil_of_le (by omega), List.drop_eq_nil_of_le (by omega)]; rfl
  | succ d ih =>
    intro i k hi hk
    have hlt : i < l.length := by omega
    obtain ⟨k, rfl⟩ : ∃ m, k = m + 1 := ⟨k - 1, by omega⟩
    rw [List.drop_eq_getElem_cons hlt] at hk ⊢
    rw [List.drop_eq_getElem_cons (show i < m.length by omega), sameKL_cons]
    simp only [wKL] at hk
    simp only [impl_Clause.l0]
    rw [if_pos (by omega), if_pos (by omega), if_pos (by omega), if_pos (by omega), rdKC_ l i hlt, rdKC_ m i (by omega), clauseI_ _ _ (tC_of l ht _ (List.getElem_mem hlt)) k (by omega), Option.bind_some]
    rw [w64 (x := (i : Int) + 1) (by omega) (by omega), show (i : Int) + 1 = ((i + 1 : Nat) : Int) by omega, ih (i + 1) k (by omega) (by omega)]
    cases sameK l[i] (m[i]'(by omega)) <;> simp
theorem impl_ (p q : List ByteArray) (l m : List S40) (hp : p.length ≤ 1048576) (hl : l.length ≤ 1048576) (ht : tKL l ≤ 1048576) (k : Nat) (hk : p.length + wKL l + 20 ≤ k) :
    impl_EqualContracts.f k p l q m = some (seqB p q && sameKL l m) := by
  unfold impl_EqualContracts.f slices_Equal_string_string.f impl_Clause.f
  by_cases h1 : p.length = q.length
  · have h := strI_ p q hp h1 p.length 0 k (by omega) (by omega)
    simp only [List.drop_zero] at h
    have h' : slices_Equal_string_string.l0 k p q (p.length : Int) 0 = _ := h
    rw [if_pos (by omega), h', Option.bind_some]
    cases seqB p q with
    | false => simp
    | true =>
      by_cases h2 : l.length = m.length
      · have hc := clI_ l m hl ht h2 l.length 0 k (by omega) (by simp only [List.drop_zero]; omega)
        simp only [List.drop_zero] at hc
        have hc' : impl_Clause.l0 k m l (l.length : Int) 0 = _ := hc
        rw [if_pos rfl, if_pos (by omega), hc']; rfl
      · rw [if_pos rfl, if_neg (by omega), sameKL_len _ _ h2]; rfl
  · rw [if_neg (by omega), seqB_len _ _ h1]; rfl
theorem FnExactEqualContracts (a0 : List ByteArray) (a1 : List S51) (b0 : List ByteArray) (b1 : List S51) (x1 : a0.length ≤ maxLen) (x2 : ∀ p ∈ a0, p.size ≤ maxLen) (x3 : a1.length ≤ maxLen) (x4 : ∀ x ∈ a1, ok51 x) (y1 : b0.length ≤ maxLen) (y2 : ∀ p ∈ b0, p.size ≤ maxLen) (y3 : b1.length ≤ maxLen) (y4 : ∀ x ∈ b1, ok51 x) : ∃ k, laws_FnExactEqualContracts.f k a0 a1 b0 b1 = some true := by
  obtain ⟨K, hK⟩ : ∃ K, K = a0.length + b0.length + wKL (a1.map cvK) + wKL (b1.map cvK) + 100 := ⟨_, rfl⟩
  refine ⟨K, ?_⟩
  unfold laws_FnExactEqualContracts.f
  obtain ⟨r, e1, c1⟩ := szContract_ a0 a1 x1 x2 x3 x4 K 1048576 (by omega) (by omega) (by omega)
  rw [e1, Option.bind_some]
  rcases c1 with c1 | ⟨c1, c2, sa⟩
  · rw [if_pos c1]
  rw [if_neg (by omega)]
  obtain ⟨s, e2, d1⟩ := szContract_ b0 b1 y1 y2 y3 y4 K r (by omega) (by omega) (by omega)
  rw [e2, Option.bind_some]
  rcases d1 with d1 | ⟨d1, d2, sb⟩
  · rw [if_pos d1]
  rw [if_neg (by omega)]
  obtain ⟨p1, p2, p3, p4⟩ := sa
  obtain ⟨q1, q2, q3, q4⟩ := sb
  have hS := spec_ a0 b0 (a1.map cvK) (b1.map cvK) p1 (by rw [List.length_map]; exact p3) p4 K (by omega)
  have hI := impl_ a0 b0 (a1.map cvK) (b1.map cvK) p1 (by rw [List.length_map]; exact p3) p4 K (by omega)
  simp only [toContract_ a0 a1 ⟨p1, p2, p3, p4⟩ K (by omega), toContract_ b0 b1 ⟨q1, q2, q3, q4⟩ K (by omega), Option.bind_some, hS, hI,
    eqContract_ a0 (a1.map cvK) p1 (by rw [List.length_map]; exact p3) p4 K (by omega), eqContract_ b0 (b1.map cvK) q1 (by rw [List.length_map]; exact q3) q4 K (by omega)]
  simp

end Go.Proofs.Ytdfbfcgjcfbmpaa.Pure
