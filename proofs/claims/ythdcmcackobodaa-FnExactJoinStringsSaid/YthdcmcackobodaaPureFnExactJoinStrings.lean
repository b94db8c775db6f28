/- The program's JoinStrings and the reference's return the same for every list of strings and separator; the list is left as it was; no condition. -/
import Derived.Test.YthdcmcackobodaaQFnExactJoinStringsx2
import Derived.Lib.SplitLaws
namespace Go.Proofs.Ythdcmcackobodaa.Pure
open Go.RowKit Go.Proofs.Ythdcmcackobodaa.QFnExactJoinStrings Go.Proofs.YthdcmcackobodaaW.PrintWords Go.Proofs.YthdcmcackobodaaW.PrintLast Go.Proofs.YthdcmcackobodaaW.PrintMore
set_option linter.unusedVariables false
set_option linter.unusedSimpArgs false

theorem w64 {x : Int} (h : -9223372036854775808 ≤ x) (h' : x ≤ 9223372036854775807) : wrap64 x = x := by unfold wrap64; omega
theorem tdv {x : Int} (n : Int) (h : 0 ≤ x) : Int.tdiv x n = x / n := Int.tdiv_eq_ediv_of_nonneg h
theorem tmd {x : Int} (n : Int) (h : 0 ≤ x) : Int.tmod x n = x % n := Int.tmod_eq_emod_of_nonneg h
theorem wfb {a : Int} (h : (Lit.int .i64 a).wf = true) : -9223372036854775808 ≤ a ∧ a ≤ 9223372036854775807 := by
  simp [Lit.wf, IntKind.min, IntKind.max, IntKind.signed, IntKind.bits] at h
  omega
theorem within_ {x a b : Int} : (if x ≥ a then some (decide (x ≤ b)) else some false) = some (decide (a ≤ x ∧ x ≤ b)) := by
  by_cases h : x ≥ a
  · rw [if_pos h]; congr 1; simp; omega
  · rw [if_neg h]; congr 1; simp; omega

theorem toList_inj {a b : ByteArray} (h : a.toList = b.toList) : a = b := by
  rw [ByteArray.toList_eq, ByteArray.toList_eq] at h
  exact Go.WideShapes.bytes_inj h
theorem szD (s : ByteArray) : s.data.toList.length = s.size := by simp
theorem rdOf_nat (l : List ByteArray) (i : Nat) (h : i < l.length) : rdOf ByteArray.empty l (i : Int) = l[i] := by
  unfold rdOf; rw [Int.toNat_natCast, List.getD_eq_getElem?_getD, List.getElem?_eq_getElem h]; rfl

theorem index_one (b : UInt8) : ∀ s : List UInt8, Lib.index s [b] = if b ∈ s then (s.idxOf b : Int) else -1
  | [] => by simp [Lib.index]
  | x :: l => by
    have hl := index_one b l
    unfold Lib.index
    by_cases hx : b = x
    · subst hx; simp [List.isPrefixOf]
    · have hx' : ¬ x = b := fun e => hx e.symm
      have e1 : (([b] : List UInt8).isPrefixOf (x :: l)) = false := by simp [List.isPrefixOf, hx]
      rw [e1, hl]
      simp only [Bool.false_eq_true, if_false]
      by_cases hm : b ∈ l
      · have : ((List.idxOf b l : Int) == -1) = false := by rw [beq_eq_false_iff_ne]; omega
        simp only [hm, if_true, List.mem_cons, or_true, this, Bool.false_eq_true, if_false]
        have : List.idxOf b (x :: l) = List.idxOf b l + 1 := by have e : (x == b) = false := beq_eq_false_iff_ne.2 hx'; rw [List.idxOf_cons, e]; rfl
        rw [this]
        omega
      · simp only [hm, if_false, List.mem_cons, hx, or_self]
        rfl
theorem bt_list (s : ByteArray) (i : Nat) (h : i < s.size) : bt s (i : Int) = ((s.data.toList[i]'(by simpa using h)).toNat : Int) := by
  unfold bt
  rw [dif_pos (by simpa using h)]
  simp [ByteArray.getElem_eq_getElem_data]
theorem bt_35 (s : ByteArray) (i : Nat) (h : i < s.size) (b : UInt8) : bt s (i : Int) = (b.toNat : Int) ↔ s.data.toList[i]'(by simpa using h) = b := by
  rw [bt_list s i h]
  constructor
  · intro e; exact UInt8.toNat_inj.1 (by omega)
  · intro e; rw [e]

theorem eqS_l0 (l : List ByteArray) (hl : l.length ≤ 1048577) (d : Nat) : ∀ (i k : Nat), i + d = l.length → d < k → laws_eqStringS.l0 k l l (i : Int) = some true := by
  induction d with
  | zero =>
    intro i k hi hk
    obtain ⟨k, rfl⟩ : ∃ m, k = m + 1 := ⟨k - 1, by omega⟩
    simp only [laws_eqStringS.l0]; rw [if_neg (by omega)]
  | succ d ih =>
    intro i k hi hk
    obtain ⟨k, rfl⟩ : ∃ m, k = m + 1 := ⟨k - 1, by omega⟩
    simp only [laws_eqStringS.l0]
    rw [if_pos (by omega), if_pos (by omega), if_pos (by omega), if_pos trivial, w64 (x := (i : Int) + 1) (by omega) (by omega), show (i : Int) + 1 = ((i + 1 : Nat) : Int) by omega]
    exact ih (i + 1) k (by omega) (by omega)
theorem eqS_ (l : List ByteArray) (hl : l.length ≤ 1048577) (k : Nat) (hk : l.length < k) : laws_eqStringS.f k l l = some true := by
  unfold laws_eqStringS.f
  rw [if_pos rfl]
  exact eqS_l0 l hl l.length 0 k (by omega) hk

theorem copyS_l0 (l : List ByteArray) (hl : l.length ≤ 1048577) (d : Nat) : ∀ (i k : Nat) (y : List ByteArray), i + d = l.length → d < k → y.length = l.length → (∀ j, j < i → y[j]? = l[j]?) → laws_toStringS.l0 k l y (i : Int) = some l := by
  induction d with
  | zero =>
    intro i k y hi hk hy hj
    obtain ⟨k, rfl⟩ : ∃ m, k = m + 1 := ⟨k - 1, by omega⟩
    simp only [laws_toStringS.l0]; rw [if_neg (by omega)]
    congr 1
    apply List.ext_getElem?
    intro j
    by_cases h : j < i
    · exact hj j h
    · rw [List.getElem?_eq_none (by omega), List.getElem?_eq_none (by omega)]
  | succ d ih =>
    intro i k y hi hk hy hj
    obtain ⟨k, rfl⟩ : ∃ m, k = m + 1 := ⟨k - 1, by omega⟩
    simp only [laws_toStringS.l0]
    rw [if_pos (by omega), if_pos (by omega), if_pos (by omega), rdOf_nat l i (by omega), Int.toNat_natCast, w64 (x := (i : Int) + 1) (by omega) (by omega), show (i : Int) + 1 = ((i + 1 : Nat) : Int) by omega]
    refine ih (i + 1) k _ (by omega) (by omega) (by simpa using hy) (fun j hj' => ?_)
    by_cases h : j = i
    · subst h; rw [List.getElem?_set_self (by omega), List.getElem?_eq_getElem (by omega)]
    · rw [List.getElem?_set_ne (by omega)]; exact hj j (by omega)
theorem copyS_ (l : List ByteArray) (hl : l.length ≤ 1048577) (k : Nat) (hk : l.length < k) : laws_toStringS.f k l = some l := by
  unfold laws_toStringS.f
  rw [if_pos (by omega), if_pos (by omega)]
  exact copyS_l0 l hl l.length 0 k _ (by omega) hk (by simp) (fun j hj => by omega)
def tot (l : List ByteArray) : Nat := (l.map (·.size)).sum
theorem tot_cons (p : ByteArray) (l : List ByteArray) : tot (p :: l) = p.size + tot l := by simp [tot]
theorem szS_l0 (l : List ByteArray) (hm : ∀ p ∈ l, p.size ≤ 9223372036854775807) (hl : l.length ≤ 1048577) (d : Nat) : ∀ (i k : Nat) (x : Int), i + d = l.length → d < k → 0 ≤ x → x ≤ 1048576 → ∃ r, laws_szStringS.l0 k l x (i : Int) = some r ∧ (r < 0 ∨ (tot (l.drop i) : Int) ≤ x) := by
  induction d with
  | zero =>
    intro i k x hi hk h0 h1
    obtain ⟨k, rfl⟩ : ∃ m, k = m + 1 := ⟨k - 1, by omega⟩
    refine ⟨x, ?_, Or.inr ?_⟩
    · simp only [laws_szStringS.l0]; rw [if_neg (by omega)]
    · rw [List.drop_eq_nil_of_le (by omega)]; simp [tot]; omega
  | succ d ih =>
    intro i k x hi hk h0 h1
    obtain ⟨k, rfl⟩ : ∃ m, k = m + 1 := ⟨k - 1, by omega⟩
    have hlt : i < l.length := by omega
    have hs := hm l[i] (List.getElem_mem hlt)
    simp only [laws_szStringS.l0]
    rw [if_pos (by omega), if_pos (by omega), rdOf_nat l i hlt, w64 (x := x - ((l[i]).size : Int)) (by omega) (by omega)]
    by_cases hn : x - ((l[i]).size : Int) < 0
    · rw [if_pos hn]; exact ⟨-1, rfl, Or.inl (by omega)⟩
    · rw [if_neg hn, w64 (x := (i : Int) + 1) (by omega) (by omega), show (i : Int) + 1 = ((i + 1 : Nat) : Int) by omega]
      obtain ⟨r, h2, h3⟩ := ih (i + 1) k (x - ((l[i]).size : Int)) (by omega) (by omega) (by omega) (by omega)
      refine ⟨r, h2, ?_⟩
      rcases h3 with h3 | h3
      · exact Or.inl h3
      · refine Or.inr ?_
        rw [List.drop_eq_getElem_cons hlt]
        rw [tot_cons]; omega
theorem szS_ (l : List ByteArray) (hm : ∀ p ∈ l, p.size ≤ 9223372036854775807) (hl : l.length ≤ 9223372036854775807) (k : Nat) (hk : 1048578 ≤ k) : ∃ r, laws_szStringS.f k l 1048576 = some r ∧ (r < 0 ∨ (l.length ≤ 1048576 ∧ tot l ≤ 1048576)) := by
  unfold laws_szStringS.f
  rw [w64 (x := 1048576 - (l.length : Int)) (by omega) (by omega)]
  by_cases h : 1048576 - (l.length : Int) < 0
  · rw [if_pos h]; exact ⟨-1, rfl, Or.inl (by omega)⟩
  · rw [if_neg h]
    obtain ⟨r, h2, h3⟩ := szS_l0 l hm (by omega) l.length 0 k (1048576 - (l.length : Int)) (by omega) (by omega) (by omega) (by omega)
    refine ⟨r, h2, ?_⟩
    rcases h3 with h3 | h3
    · exact Or.inl h3
    · rw [List.drop_zero] at h3; exact Or.inr ⟨by omega, by omega⟩

theorem szC (a b : ByteArray) : (a ++ b).size = a.size + b.size := ByteArray.size_append
def has (x : UInt8) (p : ByteArray) : Prop := x ∈ p.data.toList
instance (x : UInt8) (p : ByteArray) : Decidable (has x p) := by unfold has; infer_instance
theorem stands_l0 (s : ByteArray) (x : UInt8) (hs : s.size ≤ 1048577) (d : Nat) : ∀ (i k : Nat), i + d = s.size → d < k → spec_l1Stands.l0 k s (x.toNat : Int) (i : Int) = some (decide (x ∈ s.data.toList.drop i)) := by
  induction d with
  | zero =>
    intro i k hi hk
    obtain ⟨k, rfl⟩ : ∃ m, k = m + 1 := ⟨k - 1, by omega⟩
    simp only [spec_l1Stands.l0]
    rw [if_neg (by omega), List.drop_eq_nil_of_le (by rw [szD]; omega)]
    simp
  | succ d ih =>
    intro i k hi hk
    obtain ⟨k, rfl⟩ : ∃ m, k = m + 1 := ⟨k - 1, by omega⟩
    have hlt : i < s.data.toList.length := by rw [szD]; omega
    have eb := bt_35 s i (by omega) x
    simp only [spec_l1Stands.l0]
    rw [if_pos (by omega), if_pos (by omega), List.drop_eq_getElem_cons hlt]
    by_cases hb : s.data.toList[i] = x
    · rw [if_pos (eb.2 hb), hb]; simp
    · rw [if_neg (fun e => hb (eb.1 e)), w64 (x := (i : Int) + 1) (by omega) (by omega), show (i : Int) + 1 = ((i + 1 : Nat) : Int) by omega, ih (i + 1) k (by omega) (by omega)]
      have : ¬ x = s.data.toList[i] := fun e => hb e.symm
      simp only [List.mem_cons, this, false_or]
theorem stands_ (s : ByteArray) (x : UInt8) (hs : s.size ≤ 1048577) (k : Nat) (hk : s.size < k) : spec_l1Stands.f k s (x.toNat : Int) = some (decide (has x s)) := by
  unfold spec_l1Stands.f has
  simpa using stands_l0 s x hs s.size 0 k (by omega) hk
theorem contains_ (s : ByteArray) (x : UInt8) (hs : s.size ≤ 1048577) : strings_Contains.f s ⟨#[x]⟩ = some (decide (has x s)) := by
  unfold strings_Contains.f Own.containsF Lib.contains has
  rw [if_pos (by omega), index_one]
  congr 1
  by_cases h : x ∈ s.data.toList
  · rw [if_pos h]; simp only [h, decide_true]; exact decide_eq_true (by omega)
  · rw [if_neg h]; simp only [h, decide_false]; exact decide_eq_false (by omega)
/-- The text that grows: a separator ahead of each part but the first. -/
def jn (c : ByteArray) : ByteArray → Bool → List ByteArray → ByteArray
  | out, _, [] => out
  | out, b, p :: ps => jn c (if b then (out ++ c) ++ p else out ++ p) true ps
theorem jn_ge (c : ByteArray) : ∀ (ps : List ByteArray) (out : ByteArray) (b : Bool), out.size ≤ (jn c out b ps).size
  | [], _, _ => Nat.le_refl _
  | p :: ps, out, b => by
    have := jn_ge c ps (if b then (out ++ c) ++ p else out ++ p) true
    refine Nat.le_trans ?_ this
    cases b <;> simp [szC] <;> omega
theorem jn_le (c : ByteArray) (hc : c.size = 1) : ∀ (ps : List ByteArray) (out : ByteArray) (b : Bool), (jn c out b ps).size ≤ out.size + tot ps + ps.length
  | [], _, _ => by simp [jn]
  | p :: ps, out, b => by
    have := jn_le c hc ps (if b then (out ++ c) ++ p else out ++ p) true
    refine Nat.le_trans this ?_
    have : tot (p :: ps) = p.size + tot ps := by simp [tot]
    rw [this]
    cases b <;> simp [szC, hc] <;> omega
theorem jn_tail (c : ByteArray) : ∀ (ps : List ByteArray) (out : ByteArray), (jn c out true ps).data.toList = out.data.toList ++ Lib.joinTail c.data.toList (ps.map (·.data.toList))
  | [], out => by simp [jn, Lib.joinTail]
  | p :: ps, out => by
    have := jn_tail c ps ((out ++ c) ++ p)
    simp only [jn, if_true, this]
    simp [Lib.joinTail]
theorem jn_join (c : ByteArray) (p : ByteArray) (ps : List ByteArray) : jn c ⟨#[]⟩ false (p :: ps) = ⟨(Lib.join ((p :: ps).map (·.data.toList)) c.data.toList).toArray⟩ := by
  apply Go.WideShapes.bytes_inj
  have := jn_tail c ps (⟨#[]⟩ ++ p)
  simp only [jn, Bool.false_eq_true, if_false, this, List.map_cons]
  rw [Lib.join_cons]
  simp
theorem tot_drop (l : List ByteArray) (i : Nat) (h : i < l.length) : tot (l.drop i) = (l[i]).size + tot (l.drop (i + 1)) := by
  rw [List.drop_eq_getElem_cons h, tot_cons]
theorem mem_tot : ∀ (l : List ByteArray) (p : ByteArray), p ∈ l → p.size ≤ tot l
  | [], p, h => by simp at h
  | q :: l, p, h => by
    rw [tot_cons]
    rcases List.mem_cons.1 h with h | h
    · subst h; omega
    · have := mem_tot l p h; omega
theorem spec_l0 (l : List ByteArray) (x : UInt8) (hl : l.length ≤ 1048577) (d : Nat) : ∀ (i k : Nat) (out : ByteArray), i + d = l.length → d + 1048579 < k → out.size ≤ 4000 → tot (l.drop i) ≤ 1048576 →
    (((∃ p ∈ l.drop i, has x p) ∨ 4000 < (jn ⟨#[x]⟩ out (decide (0 < i)) (l.drop i)).size) → spec_JoinStrings.l0 k l ⟨#[x]⟩ out (i : Int) = some (⟨#[]⟩, false)) ∧
    ((¬ (∃ p ∈ l.drop i, has x p) ∧ (jn ⟨#[x]⟩ out (decide (0 < i)) (l.drop i)).size ≤ 4000) → spec_JoinStrings.l0 k l ⟨#[x]⟩ out (i : Int) = some (jn ⟨#[x]⟩ out (decide (0 < i)) (l.drop i), true)) := by
  induction d with
  | zero =>
    intro i k out hi hk ho ht
    obtain ⟨k, rfl⟩ : ∃ m, k = m + 1 := ⟨k - 1, by omega⟩
    rw [List.drop_eq_nil_of_le (by omega)]
    constructor
    · rintro (⟨p, hp, _⟩ | h)
      · simp at hp
      · simp only [jn] at h; omega
    · intro _
      simp only [spec_JoinStrings.l0]; rw [if_neg (by omega)]; rfl
  | succ d ih =>
    intro i k out hi hk ho ht
    obtain ⟨k, rfl⟩ : ∃ m, k = m + 1 := ⟨k - 1, by omega⟩
    have hlt : i < l.length := by omega
    have htd := tot_drop l i hlt
    have hps : (l[i]).size ≤ 1048576 := by omega
    have hx1 : (⟨#[x]⟩ : ByteArray).size = 1 := rfl
    have hbt : bt (⟨#[x]⟩ : ByteArray) 0 = (x.toNat : Int) := bt_list ⟨#[x]⟩ 0 (Nat.le_refl 1)
    have hst := stands_ l[i] x (by omega) k (by omega)
    rw [List.drop_eq_getElem_cons hlt]
    simp only [spec_JoinStrings.l0]
    rw [if_pos (by omega), if_pos (by omega), if_pos (by rw [hx1]; decide), rdOf_nat l i hlt, hbt, hst, Option.bind_some]
    by_cases hh : has x l[i]
    · rw [if_pos (by simp [hh])]
      exact ⟨fun _ => rfl, fun h => absurd ⟨l[i], List.mem_cons_self, hh⟩ h.1⟩
    · rw [if_neg (by simp [hh])]
      have hex : (∃ p ∈ l[i] :: l.drop (i + 1), has x p) ↔ ∃ p ∈ l.drop (i + 1), has x p := by
        constructor
        · rintro ⟨p, hp, h⟩
          rcases List.mem_cons.1 hp with rfl | hp
          · exact absurd h hh
          · exact ⟨p, hp, h⟩
        · rintro ⟨p, hp, h⟩; exact ⟨p, List.mem_cons_of_mem _ hp, h⟩
      have hj : jn ⟨#[x]⟩ out (decide (0 < i)) (l[i] :: l.drop (i + 1)) = jn ⟨#[x]⟩ (if 0 < i then (out ++ ⟨#[x]⟩) ++ l[i] else out ++ l[i]) (decide (0 < i + 1)) (l.drop (i + 1)) := by
        simp only [jn, decide_eq_true_eq, Nat.succ_pos, decide_true]
      rw [hex, hj, w64 (x := (i : Int) + 1) (by omega) (by omega), show (i : Int) + 1 = ((i + 1 : Nat) : Int) by omega]
      by_cases h0 : 0 < i
      · simp only [h0, if_true]
        rw [if_pos (by omega), if_pos (by omega), if_pos (by rw [szC]; omega)]
        have hge := jn_ge ⟨#[x]⟩ (l.drop (i + 1)) ((out ++ ⟨#[x]⟩) ++ l[i]) (decide (0 < i + 1))
        by_cases hL : (((out ++ ⟨#[x]⟩) ++ l[i]).size : Int) > 4000
        · rw [if_pos hL]
          exact ⟨fun _ => rfl, fun h => by omega⟩
        · rw [if_neg hL]
          exact ih (i + 1) k _ (by omega) (by omega) (by omega) (by omega)
      · simp only [h0, if_false]
        rw [if_neg (by omega), if_pos (by omega)]
        have hge := jn_ge ⟨#[x]⟩ (l.drop (i + 1)) (out ++ l[i]) (decide (0 < i + 1))
        by_cases hL : ((out ++ l[i]).size : Int) > 4000
        · rw [if_pos hL]
          exact ⟨fun _ => rfl, fun h => by omega⟩
        · rw [if_neg hL]
          exact ih (i + 1) k _ (by omega) (by omega) (by omega) (by omega)
theorem impl_l0 (l : List ByteArray) (x : UInt8) (hl : l.length ≤ 1048577) (hsz : ∀ p ∈ l, p.size ≤ 1048577) (d : Nat) : ∀ (i k : Nat), i + d = l.length → d < k →
    ((∃ p ∈ l.drop i, has x p) → impl_JoinStrings.l0 k l ⟨#[x]⟩ l (l.length : Int) (i : Int) = some (⟨#[]⟩, false)) ∧
    (¬ (∃ p ∈ l.drop i, has x p) → impl_JoinStrings.l0 k l ⟨#[x]⟩ l (l.length : Int) (i : Int) = (strings_Join.f l ⟨#[x]⟩).bind fun t => if (t.size : Int) > 4000 then some (⟨#[]⟩, false) else some (t, true)) := by
  induction d with
  | zero =>
    intro i k hi hk
    obtain ⟨k, rfl⟩ : ∃ m, k = m + 1 := ⟨k - 1, by omega⟩
    rw [List.drop_eq_nil_of_le (by omega)]
    constructor
    · rintro ⟨p, hp, _⟩; simp at hp
    · intro _
      simp only [impl_JoinStrings.l0]; rw [if_neg (by omega)]
  | succ d ih =>
    intro i k hi hk
    obtain ⟨k, rfl⟩ : ∃ m, k = m + 1 := ⟨k - 1, by omega⟩
    have hlt : i < l.length := by omega
    have hct := contains_ l[i] x (hsz _ (List.getElem_mem hlt))
    rw [List.drop_eq_getElem_cons hlt]
    simp only [impl_JoinStrings.l0]
    rw [if_pos (by omega), if_pos (by omega), if_pos (by omega), rdOf_nat l i hlt, hct, Option.bind_some]
    by_cases hh : has x l[i]
    · rw [if_pos (by simp [hh])]
      exact ⟨fun _ => rfl, fun h => absurd ⟨l[i], List.mem_cons_self, hh⟩ h⟩
    · rw [if_neg (by simp [hh])]
      have hex : (∃ p ∈ l[i] :: l.drop (i + 1), has x p) ↔ ∃ p ∈ l.drop (i + 1), has x p := by
        constructor
        · rintro ⟨p, hp, h⟩
          rcases List.mem_cons.1 hp with rfl | hp
          · exact absurd h hh
          · exact ⟨p, hp, h⟩
        · rintro ⟨p, hp, h⟩; exact ⟨p, List.mem_cons_of_mem _ hp, h⟩
      rw [hex, w64 (x := (i : Int) + 1) (by omega) (by omega), show (i : Int) + 1 = ((i + 1 : Nat) : Int) by omega]
      exact ih (i + 1) k (by omega) (by omega)
theorem both_ (l : List ByteArray) (c : ByteArray) (hl : l.length ≤ 1048576) (ht : tot l ≤ 1048576) : ∃ r : ByteArray × Bool, spec_JoinStrings.f 3000000 l c = some r ∧ impl_JoinStrings.f 3000000 l c = some r := by
  unfold spec_JoinStrings.f impl_JoinStrings.f
  by_cases hN : (l.length : Int) = 0
  · refine ⟨(⟨#[]⟩, false), ?_, ?_⟩
    · have : ((l.length : Int) == 0) = true := by rw [hN]; rfl
      rw [this]; simp only [spec_JoinStrings.j0, if_true, ite_self]
    · rw [if_pos hN]; simp only [impl_JoinStrings.j0, if_true]
  by_cases hc : (c.size : Int) = 1
  case neg =>
    refine ⟨(⟨#[]⟩, false), ?_, ?_⟩
    · rw [if_neg hc]; simp only [spec_JoinStrings.j0, if_true]
    · have : ((c.size : Int) != 1) = true := bne_iff_ne.2 hc
      rw [if_neg hN, this]; simp only [impl_JoinStrings.j0, if_true]
  obtain ⟨x, rfl⟩ := Lib.one_byte c (by omega)
  have e1 : ((l.length : Int) == 0) = false := beq_eq_false_iff_ne.2 hN
  have e2 : (((⟨#[x]⟩ : ByteArray).size : Int) != 1) = false := rfl
  have hsz : ∀ p ∈ l, p.size ≤ 1048577 := fun p hp => by
    have := mem_tot l p hp
    omega
  have hS := spec_l0 l x (by omega) l.length 0 2999999 ⟨#[]⟩ (by omega) (by omega) (by decide) (by rw [List.drop_zero]; exact ht)
  have hI := impl_l0 l x (by omega) hsz l.length 0 2999999 (by omega) (by omega)
  rw [if_pos hc, e1, if_neg hN, e2]
  simp only [spec_JoinStrings.j0, impl_JoinStrings.j0, Bool.false_eq_true, if_false]
  rw [List.drop_zero] at hS hI
  have hz : ((0 : Nat) : Int) = 0 := rfl
  rw [hz] at hS hI
  simp only [Nat.lt_irrefl, decide_false] at hS
  have hjl := jn_le ⟨#[x]⟩ rfl l ⟨#[]⟩ false
  have hjs : (⟨#[]⟩ : ByteArray).size = 0 := rfl
  by_cases hb : ∃ p ∈ l, has x p
  · exact ⟨_, hS.1 (Or.inl hb), hI.1 hb⟩
  have hJ : strings_Join.f l ⟨#[x]⟩ = some (jn ⟨#[x]⟩ ⟨#[]⟩ false l) := by
    match l, hN, hjl, hl, ht with
    | p :: ps, _, hjl, hl, ht =>
      have hlen : (Lib.join ((p :: ps).map (·.data.toList)) (⟨#[x]⟩ : ByteArray).data.toList).length = (jn ⟨#[x]⟩ ⟨#[]⟩ false (p :: ps)).size := by rw [jn_join]; simp [ByteArray.size]
      unfold strings_Join.f Own.joinF
      rw [if_pos ⟨by simp, by omega, by rw [hlen]; omega⟩, ← jn_join]
  have hI2 := hI.2 hb
  rw [hJ, Option.bind_some] at hI2
  by_cases hL : 4000 < (jn ⟨#[x]⟩ ⟨#[]⟩ false l).size
  · exact ⟨_, hS.1 (Or.inr hL), by rw [hI2, if_pos (by omega)]⟩
  · exact ⟨_, hS.2 ⟨hb, by omega⟩, by rw [hI2, if_neg (by omega)]⟩
theorem FnExactJoinStrings (l : List ByteArray) (c : ByteArray) (hl : l.length ≤ maxLen) (hm : ∀ p ∈ l, p.size ≤ maxLen) (hc : c.size ≤ maxLen) : ∃ k, laws_FnExactJoinStrings.f k l c = some true := by
  refine ⟨3000000, ?_⟩
  have hmx : maxLen = 9223372036854775807 := rfl
  rw [hmx] at hl hm
  unfold laws_FnExactJoinStrings.f
  by_cases h1 : (c.size : Int) > 1048576
  · rw [if_pos h1]
  rw [if_neg h1]
  obtain ⟨r, hr, hr2⟩ := szS_ l hm hl 3000000 (by omega)
  rw [hr, Option.bind_some]
  by_cases h2 : r < 0
  · rw [if_pos h2]
  rw [if_neg h2]
  obtain ⟨hl2, ht⟩ : l.length ≤ 1048576 ∧ tot l ≤ 1048576 := by rcases hr2 with h | h; exact absurd h h2; exact h
  obtain ⟨⟨t, b⟩, hw, hg⟩ := both_ l c hl2 ht
  simp only [copyS_ l (by omega) 3000000 (by omega), Option.bind_some, hw, hg, if_true]
  have hb : (b != b) = false := by cases b <;> rfl
  rw [hb]
  simp only [laws_FnExactJoinStrings.j0, Bool.false_eq_true, if_false, copyS_ l (by omega) 2999999 (by omega), Option.bind_some, eqS_ l (by omega) 2999999 (by omega), if_true]

end Go.Proofs.Ythdcmcackobodaa.Pure
