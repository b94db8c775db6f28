/- What is split and joined again is as it was, and the joins agree with the reference's; no condition. -/
import Derived.Test.YthdcmcackobodaaDoorQFnSplitJoinx2
import Derived.Lib.SplitLaws
namespace Go.Proofs.YthdcmcackobodaaDoor.Pure
open Go.RowKit Go.Proofs.YthdcmcackobodaaDoor.QFnSplitJoin Go.Proofs.YthdcmcackobodaaDoorW.PrintWords Go.Proofs.YthdcmcackobodaaDoorW.PrintLast Go.Proofs.YthdcmcackobodaaDoorW.PrintMore
set_option linter.unusedVariables false
set_option linter.unusedSimpArgs false

theorem w64 {x : Int} (h : -9223372036854775808 ≤ x) (h' : x ≤ 9223372036854775807) : wrap64 x = x := by unfold wrap64; omega
theorem tdv {x : Int} (n : Int) (h : 0 ≤ x) : Int.tdiv x n = x / n := Int.tdiv_eq_ediv_of_nonneg h
theorem tmd {x : Int} (n : Int) (h : 0 ≤ x) : Int.tmod x n = x % n := Int.tmod_eq_emod_of_nonneg h
theorem wfb {a : Int} (h : (Lit.int .i64 a).wf = true) : -9223372036854775808 ≤ a ∧ a ≤ 9223372036854775807 := by
  simp [Lit.wf, IntKind.min, IntKind.max, IntKind.signed, IntKind.bits] at h
  omega
theorem within_ {x a b : Int} : (if x ≥ a then some (decide (x ≤ b)) else some false) = some (decide (a ≤ x ∧ x ≤ b)) := by
  by_cases h : x ≥ a
  · rw [if_pos h]; congr 1; simp; omega
  · rw [if_neg h]; congr 1; simp; omega

theorem toList_inj {a b : ByteArray} (h : a.toList = b.toList) : a = b := by
  rw [ByteArray.toList_eq, ByteArray.toList_eq] at h
  exact Go.WideShapes.bytes_inj h
theorem szD (s : ByteArray) : s.data.toList.length = s.size := by simp
theorem rdOf_nat (l : List ByteArray) (i : Nat) (h : i < l.length) : rdOf ByteArray.empty l (i : Int) = l[i] := by
  unfold rdOf; rw [Int.toNat_natCast, List.getD_eq_getElem?_getD, List.getElem?_eq_getElem h]; rfl

theorem index_one (b : UInt8) : ∀ s : List UInt8, Lib.index s [b] = if b ∈ s then (s.idxOf b : Int) else -1
  | [] => by simp [Lib.index]
  | x :: l => by
    have hl := index_one b l
    unfold Lib.index
    by_cases hx : b = x
    · subst hx; simp [List.isPrefixOf]
    · have hx' : ¬ x = b := fun e => hx e.symm
      have e1 : (([b] : List UInt8).isPrefixOf (x :: l)) = false := by simp [List.isPrefixOf, hx]
      rw [e1, hl]
      simp only [Bool.false_eq_true, if_false]
      by_cases hm : b ∈ l
      · have : ((List.idxOf b l : Int) == -1) = false := by rw [beq_eq_false_iff_ne]; omega
        simp only [hm, if_true, List.mem_cons, or_true, this, Bool.false_eq_true, if_false]
        have : List.idxOf b (x :: l) = List.idxOf b l + 1 := by have e : (x == b) = false := beq_eq_false_iff_ne.2 hx'; rw [List.idxOf_cons, e]; rfl
        rw [this]
        omega
      · simp only [hm, if_false, List.mem_cons, hx, or_self]
        rfl
theorem bt_list (s : ByteArray) (i : Nat) (h : i < s.size) : bt s (i : Int) = ((s.data.toList[i]'(by simpa using h)).toNat : Int) := by
  unfold bt
  rw [dif_pos (by simpa using h)]
  simp [ByteArray.getElem_eq_getElem_data]
theorem bt_35 (s : ByteArray) (i : Nat) (h : i < s.size) (b : UInt8) : bt s (i : Int) = (b.toNat : Int) ↔ s.data.toList[i]'(by simpa using h) = b := by
  rw [bt_list s i h]
  constructor
  · intro e; exact UInt8.toNat_inj.1 (by omega)
  · intro e; rw [e]

/-- A list of bytes cut at each byte c. -/
def cutAt (c : UInt8) : List UInt8 → List (List UInt8)
  | [] => [[]]
  | b :: l => if b = c then [] :: cutAt c l else match cutAt c l with
    | h :: t => (b :: h) :: t
    | [] => [[b]]
theorem cutAt_ne (c : UInt8) : ∀ l, cutAt c l ≠ []
  | [] => by simp [cutAt]
  | b :: l => by
    unfold cutAt
    split
    · simp
    · split <;> simp
theorem cutAt_no (c : UInt8) : ∀ l, c ∉ l → cutAt c l = [l]
  | [], _ => rfl
  | b :: l, h => by
    simp only [List.mem_cons, not_or] at h
    unfold cutAt
    rw [if_neg (fun e => h.1 e.symm), cutAt_no c l h.2]
theorem cutAt_eq (c : UInt8) (l : List UInt8) : cutAt c (c :: l) = [] :: cutAt c l := by rw [cutAt, if_pos rfl]
theorem cutAt_neq (c b : UInt8) (l h : List UInt8) (t : List (List UInt8)) (hb : b ≠ c) (e : cutAt c l = h :: t) : cutAt c (b :: l) = (b :: h) :: t := by rw [cutAt, if_neg hb, e]
theorem cutAt_hit (c : UInt8) : ∀ l, c ∈ l → cutAt c l = l.take (l.idxOf c) :: cutAt c (l.drop (l.idxOf c + 1))
  | [], h => by simp at h
  | b :: l, h => by
    by_cases hb : b = c
    · subst hb; rw [cutAt_eq]; simp
    · have hm : c ∈ l := by
        simp only [List.mem_cons] at h
        rcases h with h | h
        · exact absurd h.symm hb
        · exact h
      have e : (b == c) = false := beq_eq_false_iff_ne.2 hb
      have e2 : List.idxOf c (b :: l) = List.idxOf c l + 1 := by rw [List.idxOf_cons, e]; rfl
      rw [cutAt_neq c b l _ _ hb (cutAt_hit c l hm), e2, List.take_succ_cons, List.drop_succ_cons]
theorem count_drop (c : UInt8) : ∀ l : List UInt8, c ∈ l → (l.drop (l.idxOf c + 1)).count c + 1 = l.count c
  | [], h => by simp at h
  | b :: l, h => by
    by_cases hb : b = c
    · subst hb; simp
    · have hm : c ∈ l := by
        simp only [List.mem_cons] at h
        rcases h with h | h
        · exact absurd h.symm hb
        · exact h
      have e : (b == c) = false := beq_eq_false_iff_ne.2 hb
      rw [List.idxOf_cons, e, List.count_cons, e]
      have := count_drop c l hm
      simpa using this
theorem splitK_cut (c : UInt8) : ∀ (k : Nat) (l : List UInt8), l.count c ≤ k → Lib.splitK [c] 0 k l = cutAt c l
  | 0, l, h => by
    have : c ∉ l := fun hm => by have := List.count_pos_iff.2 hm; omega
    rw [cutAt_no c l this]
    rfl
  | k + 1, l, h => by
    unfold Lib.splitK
    rw [index_one]
    by_cases hm : c ∈ l
    · have e : ((List.idxOf c l : Int) == -1) = false := by rw [beq_eq_false_iff_ne]; omega
      rw [if_pos hm, e, cutAt_hit c l hm]
      have := count_drop c l hm
      simp only [Bool.false_eq_true, if_false, Nat.add_zero, Int.toNat_natCast, List.length_singleton]
      rw [splitK_cut c k _ (by omega)]
    · rw [if_neg hm, cutAt_no c l hm]
      rfl

theorem map_dat_inj : ∀ {a b : List ByteArray}, a.map (·.data.toList) = b.map (·.data.toList) → a = b
  | [], [], _ => rfl
  | [], _ :: _, h => by simp at h
  | _ :: _, [], h => by simp at h
  | x :: a, y :: b, h => by
    simp only [List.map_cons, List.cons.injEq] at h
    rw [Go.WideShapes.bytes_inj h.1, map_dat_inj h.2]

def tot (l : List ByteArray) : Nat := (l.map (·.size)).sum
theorem tot_cons (p : ByteArray) (l : List ByteArray) : tot (p :: l) = p.size + tot l := by simp [tot]

theorem szC (a b : ByteArray) : (a ++ b).size = a.size + b.size := ByteArray.size_append
def has (x : UInt8) (p : ByteArray) : Prop := x ∈ p.data.toList
instance (x : UInt8) (p : ByteArray) : Decidable (has x p) := by unfold has; infer_instance
theorem stands_l0 (s : ByteArray) (x : UInt8) (hs : s.size ≤ 1048577) (d : Nat) : ∀ (i k : Nat), i + d = s.size → d < k → spec_l1Stands.l0 k s (x.toNat : Int) (i : Int) = some (decide (x ∈ s.data.toList.drop i)) := by
  induction d with
  | zero =>
    intro i k hi hk
    obtain ⟨k, rfl⟩ : ∃ m, k = m + 1 := ⟨k - 1, by omega⟩
    simp only [spec_l1Stands.l0]
    rw [if_neg (by omega), List.drop_eq_nil_of_le (by rw [szD]; omega)]
    simp
  | succ d ih =>
    intro i k hi hk
    obtain ⟨k, rfl⟩ : ∃ m, k = m + 1 := ⟨k - 1, by omega⟩
    have hlt : i < s.data.toList.length := by rw [szD]; omega
    have eb := bt_35 s i (by omega) x
    simp only [spec_l1Stands.l0]
    rw [if_pos (by omega), if_pos (by omega), List.drop_eq_getElem_cons hlt]
    by_cases hb : s.data.toList[i] = x
    · rw [if_pos (eb.2 hb), hb]; simp
    · rw [if_neg (fun e => hb (eb.1 e)), w64 (x := (i : Int) + 1) (by omega) (by omega), show (i : Int) + 1 = ((i + 1 : Nat) : Int) by omega, ih (i + 1) k (by omega) (by omega)]
      have : ¬ x = s.data.toList[i] := fun e => hb e.symm
      simp only [List.mem_cons, this, false_or]
theorem stands_ (s : ByteArray) (x : UInt8) (hs : s.size ≤ 1048577) (k : Nat) (hk : s.size < k) : spec_l1Stands.f k s (x.toNat : Int) = some (decide (has x s)) := by
  unfold spec_l1Stands.f has
  simpa using stands_l0 s x hs s.size 0 k (by omega) hk
theorem contains_ (s : ByteArray) (x : UInt8) (hs : s.size ≤ 1048577) : strings_Contains.f s ⟨#[x]⟩ = some (decide (has x s)) := by
  unfold strings_Contains.f Own.containsF Lib.contains has
  rw [if_pos (by omega), index_one]
  congr 1
  by_cases h : x ∈ s.data.toList
  · rw [if_pos h]; simp only [h, decide_true]; exact decide_eq_true (by omega)
  · rw [if_neg h]; simp only [h, decide_false]; exact decide_eq_false (by omega)
/-- The text that grows: a separator ahead of each part but the first. -/
def jn (c : ByteArray) : ByteArray → Bool → List ByteArray → ByteArray
  | out, _, [] => out
  | out, b, p :: ps => jn c (if b then (out ++ c) ++ p else out ++ p) true ps
theorem jn_ge (c : ByteArray) : ∀ (ps : List ByteArray) (out : ByteArray) (b : Bool), out.size ≤ (jn c out b ps).size
  | [], _, _ => Nat.le_refl _
  | p :: ps, out, b => by
    have := jn_ge c ps (if b then (out ++ c) ++ p else out ++ p) true
    refine Nat.le_trans ?_ this
    cases b <;> simp [szC] <;> omega
theorem jn_le (c : ByteArray) (hc : c.size = 1) : ∀ (ps : List ByteArray) (out : ByteArray) (b : Bool), (jn c out b ps).size ≤ out.size + tot ps + ps.length
  | [], _, _ => by simp [jn]
  | p :: ps, out, b => by
    have := jn_le c hc ps (if b then (out ++ c) ++ p else out ++ p) true
    refine Nat.le_trans this ?_
    have : tot (p :: ps) = p.size + tot ps := by simp [tot]
    rw [this]
    cases b <;> simp [szC, hc] <;> omega
theorem jn_tail (c : ByteArray) : ∀ (ps : List ByteArray) (out : ByteArray), (jn c out true ps).data.toList = out.data.toList ++ Lib.joinTail c.data.toList (ps.map (·.data.toList))
  | [], out => by simp [jn, Lib.joinTail]
  | p :: ps, out => by
    have := jn_tail c ps ((out ++ c) ++ p)
    simp only [jn, if_true, this]
    simp [Lib.joinTail]
theorem jn_join (c : ByteArray) (p : ByteArray) (ps : List ByteArray) : jn c ⟨#[]⟩ false (p :: ps) = ⟨(Lib.join ((p :: ps).map (·.data.toList)) c.data.toList).toArray⟩ := by
  apply Go.WideShapes.bytes_inj
  have := jn_tail c ps (⟨#[]⟩ ++ p)
  simp only [jn, Bool.false_eq_true, if_false, this, List.map_cons]
  rw [Lib.join_cons]
  simp
theorem tot_drop (l : List ByteArray) (i : Nat) (h : i < l.length) : tot (l.drop i) = (l[i]).size + tot (l.drop (i + 1)) := by
  rw [List.drop_eq_getElem_cons h, tot_cons]
theorem mem_tot : ∀ (l : List ByteArray) (p : ByteArray), p ∈ l → p.size ≤ tot l
  | [], p, h => by simp at h
  | q :: l, p, h => by
    rw [tot_cons]
    rcases List.mem_cons.1 h with h | h
    · subst h; omega
    · have := mem_tot l p h; omega
theorem spec_l0 (l : List ByteArray) (x : UInt8) (hl : l.length ≤ 1048577) (d : Nat) : ∀ (i k : Nat) (out : ByteArray), i + d = l.length → d + 1048579 < k → out.size ≤ 4000 → tot (l.drop i) ≤ 1048576 →
    (((∃ p ∈ l.drop i, has x p) ∨ 4000 < (jn ⟨#[x]⟩ out (decide (0 < i)) (l.drop i)).size) → spec_JoinStrings.l0 k l ⟨#[x]⟩ out (i : Int) = some (⟨#[]⟩, false)) ∧
    ((¬ (∃ p ∈ l.drop i, has x p) ∧ (jn ⟨#[x]⟩ out (decide (0 < i)) (l.drop i)).size ≤ 4000) → spec_JoinStrings.l0 k l ⟨#[x]⟩ out (i : Int) = some (jn ⟨#[x]⟩ out (decide (0 < i)) (l.drop i), true)) := by
  induction d with
  | zero =>
    intro i k out hi hk ho ht
    obtain ⟨k, rfl⟩ : ∃ m, k = m + 1 := ⟨k - 1, by omega⟩
    rw [List.drop_eq_nil_of_le (by omega)]
    constructor
    · rintro (⟨p, hp, _⟩ | h)
      · simp at hp
      · simp only [jn] at h; omega
    · intro _
      simp only [spec_JoinStrings.l0]; rw [if_neg (by omega)]; rfl
  | succ d ih =>
    intro i k out hi hk ho ht
    obtain ⟨k, rfl⟩ : ∃ m, k = m + 1 := ⟨k - 1, by omega⟩
    have hlt : i < l.length := by omega
    have htd := tot_drop l i hlt
    have hps : (l[i]).size ≤ 1048576 := by omega
    have hx1 : (⟨#[x]⟩ : ByteArray).size = 1 := rfl
    have hbt : bt (⟨#[x]⟩ : ByteArray) 0 = (x.toNat : Int) := bt_list ⟨#[x]⟩ 0 (Nat.le_refl 1)
    have hst := stands_ l[i] x (by omega) k (by omega)
    rw [List.drop_eq_getElem_cons hlt]
    simp only [spec_JoinStrings.l0]
    rw [if_pos (by omega), if_pos (by omega), if_pos (by rw [hx1]; decide), rdOf_nat l i hlt, hbt, hst, Option.bind_some]
    by_cases hh : has x l[i]
    · rw [if_pos (by simp [hh])]
      exact ⟨fun _ => rfl, fun h => absurd ⟨l[i], List.mem_cons_self, hh⟩ h.1⟩
    · rw [if_neg (by simp [hh])]
      have hex : (∃ p ∈ l[i] :: l.drop (i + 1), has x p) ↔ ∃ p ∈ l.drop (i + 1), has x p := by
        constructor
        · rintro ⟨p, hp, h⟩
          rcases List.mem_cons.1 hp with rfl | hp
          · exact absurd h hh
          · exact ⟨p, hp, h⟩
        · rintro ⟨p, hp, h⟩; exact ⟨p, List.mem_cons_of_mem _ hp, h⟩
      have hj : jn ⟨#[x]⟩ out (decide (0 < i)) (l[i] :: l.drop (i + 1)) = jn ⟨#[x]⟩ (if 0 < i then (out ++ ⟨#[x]⟩) ++ l[i] else out ++ l[i]) (decide (0 < i + 1)) (l.drop (i + 1)) := by
        simp only [jn, decide_eq_true_eq, Nat.succ_pos, decide_true]
      rw [hex, hj, w64 (x := (i : Int) + 1) (by omega) (by omega), show (i : Int) + 1 = ((i + 1 : Nat) : Int) by omega]
      by_cases h0 : 0 < i
      · simp only [h0, if_true]
        rw [if_pos (by omega), if_pos (by omega), if_pos (by rw [szC]; omega)]
        have hge := jn_ge ⟨#[x]⟩ (l.drop (i + 1)) ((out ++ ⟨#[x]⟩) ++ l[i]) (decide (0 < i + 1))
        by_cases hL : (((out ++ ⟨#[x]⟩) ++ l[i]).size : Int) > 4000
        · rw [if_pos hL]
          exact ⟨fun _ => rfl, fun h => by omega⟩
        · rw [if_neg hL]
          exact ih (i + 1) k _ (by omega) (by omega) (by omega) (by omega)
      · simp only [h0, if_false]
        rw [if_neg (by omega), if_pos (by omega)]
        have hge := jn_ge ⟨#[x]⟩ (l.drop (i + 1)) (out ++ l[i]) (decide (0 < i + 1))
        by_cases hL : ((out ++ l[i]).size : Int) > 4000
        · rw [if_pos hL]
          exact ⟨fun _ => rfl, fun h => by omega⟩
        · rw [if_neg hL]
          exact ih (i + 1) k _ (by omega) (by omega) (by omega) (by omega)
theorem impl_l0 (l : List ByteArray) (x : UInt8) (hl : l.length ≤ 1048577) (hsz : ∀ p ∈ l, p.size ≤ 1048577) (d : Nat) : ∀ (i k : Nat), i + d = l.length → d < k →
    ((∃ p ∈ l.drop i, has x p) → impl_JoinStrings.l0 k l ⟨#[x]⟩ l (l.length : Int) (i : Int) = some (⟨#[]⟩, false)) ∧
    (¬ (∃ p ∈ l.drop i, has x p) → impl_JoinStrings.l0 k l ⟨#[x]⟩ l (l.length : Int) (i : Int) = (strings_Join.f l ⟨#[x]⟩).bind fun t => if (t.size : Int) > 4000 then some (⟨#[]⟩, false) else some (t, true)) := by
  induction d with
  | zero =>
    intro i k hi hk
    obtain ⟨k, rfl⟩ : ∃ m, k = m + 1 := ⟨k - 1, by omega⟩
    rw [List.drop_eq_nil_of_le (by omega)]
    constructor
    · rintro ⟨p, hp, _⟩; simp at hp
    · intro _
      simp only [impl_JoinStrings.l0]; rw [if_neg (by omega)]
  | succ d ih =>
    intro i k hi hk
    obtain ⟨k, rfl⟩ : ∃ m, k = m + 1 := ⟨k - 1, by omega⟩
    have hlt : i < l.length := by omega
    have hct := contains_ l[i] x (hsz _ (List.getElem_mem hlt))
    rw [List.drop_eq_getElem_cons hlt]
    simp only [impl_JoinStrings.l0]
    rw [if_pos (by omega), if_pos (by omega), if_pos (by omega), rdOf_nat l i hlt, hct, Option.bind_some]
    by_cases hh : has x l[i]
    · rw [if_pos (by simp [hh])]
      exact ⟨fun _ => rfl, fun h => absurd ⟨l[i], List.mem_cons_self, hh⟩ h⟩
    · rw [if_neg (by simp [hh])]
      have hex : (∃ p ∈ l[i] :: l.drop (i + 1), has x p) ↔ ∃ p ∈ l.drop (i + 1), has x p := by
        constructor
        · rintro ⟨p, hp, h⟩
          rcases List.mem_cons.1 hp with rfl | hp
          · exact absurd h hh
          · exact ⟨p, hp, h⟩
        · rintro ⟨p, hp, h⟩; exact ⟨p, List.mem_cons_of_mem _ hp, h⟩
      rw [hex, w64 (x := (i : Int) + 1) (by omega) (by omega), show (i : Int) + 1 = ((i + 1 : Nat) : Int) by omega]
      exact ih (i + 1) k (by omega) (by omega)
theorem both_ (l : List ByteArray) (c : ByteArray) (hl : l.length ≤ 1048576) (ht : tot l ≤ 1048576) : ∃ r : ByteArray × Bool, spec_JoinStrings.f 3000000 l c = some r ∧ impl_JoinStrings.f 3000000 l c = some r := by
  unfold spec_JoinStrings.f impl_JoinStrings.f
  by_cases hN : (l.length : Int) = 0
  · refine ⟨(⟨#[]⟩, false), ?_, ?_⟩
    · have : ((l.length : Int) == 0) = true := by rw [hN]; rfl
      rw [this]; simp only [spec_JoinStrings.j0, if_true, ite_self]
    · rw [if_pos hN]; simp only [impl_JoinStrings.j0, if_true]
  by_cases hc : (c.size : Int) = 1
  case neg =>
    refine ⟨(⟨#[]⟩, false), ?_, ?_⟩
    · rw [if_neg hc]; simp only [spec_JoinStrings.j0, if_true]
    · have : ((c.size : Int) != 1) = true := bne_iff_ne.2 hc
      rw [if_neg hN, this]; simp only [impl_JoinStrings.j0, if_true]
  obtain ⟨x, rfl⟩ := Lib.one_byte c (by omega)
  have e1 : ((l.length : Int) == 0) = false := beq_eq_false_iff_ne.2 hN
  have e2 : (((⟨#[x]⟩ : ByteArray).size : Int) != 1) = false := rfl
  have hsz : ∀ p ∈ l, p.size ≤ 1048577 := fun p hp => by
    have := mem_tot l p hp
    omega
  have hS := spec_l0 l x (by omega) l.length 0 2999999 ⟨#[]⟩ (by omega) (by omega) (by decide) (by rw [List.drop_zero]; exact ht)
  have hI := impl_l0 l x (by omega) hsz l.length 0 2999999 (by omega) (by omega)
  rw [if_pos hc, e1, if_neg hN, e2]
  simp only [spec_JoinStrings.j0, impl_JoinStrings.j0, Bool.false_eq_true, if_false]
  rw [List.drop_zero] at hS hI
  have hz : ((0 : Nat) : Int) = 0 := rfl
  rw [hz] at hS hI
  simp only [Nat.lt_irrefl, decide_false] at hS
  have hjl := jn_le ⟨#[x]⟩ rfl l ⟨#[]⟩ false
  have hjs : (⟨#[]⟩ : ByteArray).size = 0 := rfl
  by_cases hb : ∃ p ∈ l, has x p
  · exact ⟨_, hS.1 (Or.inl hb), hI.1 hb⟩
  have hJ : strings_Join.f l ⟨#[x]⟩ = some (jn ⟨#[x]⟩ ⟨#[]⟩ false l) := by
    match l, hN, hjl, hl, ht with
    | p :: ps, _, hjl, hl, ht =>
      have hlen : (Lib.join ((p :: ps).map (·.data.toList)) (⟨#[x]⟩ : ByteArray).data.toList).length = (jn ⟨#[x]⟩ ⟨#[]⟩ false (p :: ps)).size := by rw [jn_join]; simp [ByteArray.size]
      unfold strings_Join.f Own.joinF
      rw [if_pos ⟨by simp, by omega, by rw [hlen]; omega⟩, ← jn_join]
  have hI2 := hI.2 hb
  rw [hJ, Option.bind_some] at hI2
  by_cases hL : 4000 < (jn ⟨#[x]⟩ ⟨#[]⟩ false l).size
  · exact ⟨_, hS.1 (Or.inr hL), by rw [hI2, if_pos (by omega)]⟩
  · exact ⟨_, hS.2 ⟨hb, by omega⟩, by rw [hI2, if_neg (by omega)]⟩

theorem u64_rng (n : Int) : 0 ≤ IntKind.u64.wrap n ∧ IntKind.u64.wrap n < 18446744073709551616 := by
  simp [IntKind.wrap, IntKind.bits, IntKind.signed]; omega
theorem u64_id (n : Int) (h0 : 0 ≤ n) (h1 : n < 2 ^ 24) : IntKind.u64.wrap n = n := by
  simp [IntKind.wrap, IntKind.bits, IntKind.signed]; omega
theorem seed_byte (n : Int) : 0 ≤ Go.bits .and .u64 (IntKind.u64.wrap n / 1099511627776) 255 ∧ Go.bits .and .u64 (IntKind.u64.wrap n / 1099511627776) 255 < 256 := by
  have h := u64_rng n
  have e := bits_mask .u64 24 (by decide) u64_id 8 (by decide) (IntKind.u64.wrap n / 1099511627776) (by omega) (by omega)
  rw [show ((2 : Int) ^ 8 - 1) = 255 from rfl, show ((2 : Int) ^ 8) = 256 from rfl] at e
  rw [e]
  omega
theorem rd_u8 (l : List Int) (hl : ∀ x ∈ l, (Lit.int .u8 x).wf = true) (i : Int) (h0 : 0 ≤ i) (h : i < l.length) : 0 ≤ rd l i ∧ rd l i < 256 := by
  have hm : rd l i ∈ l := by
    unfold rd
    have : i.toNat < l.length := by omega
    rw [List.getD_eq_getElem?_getD, List.getElem?_eq_getElem this]
    simp
  have := hl _ hm
  simp [Lit.wf, IntKind.min, IntKind.max, IntKind.signed, IntKind.bits] at this
  omega
/-- A cursor's reading: where it stands stays small. -/
theorem next_ (l : List Int) (hl : ∀ x ∈ l, (Lit.int .u8 x).wf = true) (a s : Int) (h0 : 0 ≤ a) (h1 : a ≤ 4000000000000000000) :
    ∃ b s', spec_l1Cur_next.f l a s = some (b, a + 1, s') ∧ 0 ≤ b ∧ b < 256 := by
  unfold spec_l1Cur_next.f
  rw [w64 (x := a + 1) (by omega) (by omega)]
  by_cases h : a < (l.length : Int)
  · have hr := rd_u8 l hl a h0 h
    rw [if_pos h, if_pos h0, if_pos (by omega), w64 (x := rd l a) (by omega) (by omega)]
    exact ⟨_, _, rfl, hr.1, hr.2⟩
  · rw [if_neg h, if_neg (by omega)]
    have hb := seed_byte ((IntKind.u64.wrap ((IntKind.u64.wrap (s * 6364136223846793005)) + 0)) + 902902)
    rw [w64 (by omega) (by omega)]
    exact ⟨_, _, rfl, hb.1, hb.2⟩
theorem pick_ (l : List Int) (hl : ∀ x ∈ l, (Lit.int .u8 x).wf = true) (a s : Int) (h0 : 0 ≤ a) (h1 : a ≤ 3000000000000000000) (n : Int) (hn : n ≤ 1000000) :
    ∃ r a' s', spec_l1Cur_pick.f l a s n = some (r, a', s') ∧ 0 ≤ r ∧ (r < n ∨ r = 0) ∧ a ≤ a' ∧ a' ≤ a + 2 := by
  unfold spec_l1Cur_pick.f
  by_cases h : n ≤ 1
  · rw [if_pos h]; exact ⟨_, _, _, rfl, by omega, Or.inr rfl, by omega, by omega⟩
  · rw [if_neg h]
    obtain ⟨b, s1, e1, hb, hb'⟩ := next_ l hl a s h0 (by omega)
    rw [e1]
    simp only [Option.bind_some]
    by_cases hg : n > 200
    · rw [if_pos hg]
      obtain ⟨b2, s2, e2, hc, hc'⟩ := next_ l hl (a + 1) s1 (by omega) (by omega)
      rw [e2]
      simp only [Option.bind_some]
      rw [if_neg (by omega), w64 (x := b * 256) (by omega) (by omega), w64 (x := b * 256 + b2) (by omega) (by omega), tmd n (by omega)]
      have m1 := Int.emod_nonneg (b * 256 + b2) (show n ≠ 0 by omega)
      have m2 := Int.emod_lt_of_pos (b * 256 + b2) (show 0 < n by omega)
      exact ⟨_, _, _, rfl, m1, Or.inl m2, by omega, by omega⟩
    · rw [if_neg hg, if_neg (by omega), tmd n (by omega)]
      have m1 := Int.emod_nonneg b (show n ≠ 0 by omega)
      have m2 := Int.emod_lt_of_pos b (show 0 < n by omega)
      exact ⟨_, _, _, rfl, m1, Or.inl m2, by omega, by omega⟩

theorem cut_join (c : UInt8) : ∀ (l h : List UInt8) (t : List (List UInt8)), cutAt c l = h :: t → h ++ Lib.joinTail [c] t = l
  | [], h, t, e => by
    simp only [cutAt, List.cons.injEq] at e
    obtain ⟨rfl, rfl⟩ := e
    rfl
  | b :: l, h, t, e => by
    obtain ⟨h', t', e'⟩ : ∃ h' t', cutAt c l = h' :: t' := by
      cases hc : cutAt c l with
      | nil => exact absurd hc (cutAt_ne c l)
      | cons h' t' => exact ⟨h', t', rfl⟩
    have ih := cut_join c l h' t' e'
    by_cases hb : b = c
    · subst hb
      rw [cutAt_eq, e'] at e
      simp only [List.cons.injEq] at e
      obtain ⟨rfl, rfl⟩ := e
      rw [← ih]
      simp [Lib.joinTail]
    · rw [cutAt_neq c b l h' t' hb e'] at e
      simp only [List.cons.injEq] at e
      obtain ⟨rfl, rfl⟩ := e
      rw [List.cons_append, ih]
theorem cut_free (c : UInt8) : ∀ (l p : List UInt8), p ∈ cutAt c l → c ∉ p
  | [], p, h => by
    simp only [cutAt, List.mem_singleton] at h
    subst h; simp
  | b :: l, p, h => by
    obtain ⟨h', t', e'⟩ : ∃ h' t', cutAt c l = h' :: t' := by
      cases hc : cutAt c l with
      | nil => exact absurd hc (cutAt_ne c l)
      | cons h' t' => exact ⟨h', t', rfl⟩
    by_cases hb : b = c
    · subst hb
      rw [cutAt_eq] at h
      rcases List.mem_cons.1 h with h | h
      · subst h; simp
      · exact cut_free b l p h
    · rw [cutAt_neq c b l h' t' hb e'] at h
      rcases List.mem_cons.1 h with h | h
      · subst h
        have := cut_free c l h' (by rw [e']; exact List.mem_cons_self)
        simp only [List.mem_cons, not_or]
        exact ⟨fun e => hb e.symm, this⟩
      · exact cut_free c l p (by rw [e']; exact List.mem_cons_of_mem _ h)
theorem cut_len (c : UInt8) : ∀ l : List UInt8, (cutAt c l).length ≤ l.length + 1
  | [] => by simp [cutAt]
  | b :: l => by
    have ih := cut_len c l
    unfold cutAt
    split
    · simp; omega
    · split <;> rename_i e <;> simp_all <;> omega
theorem cut_size (c : UInt8) : ∀ (l p : List UInt8), p ∈ cutAt c l → p.length ≤ l.length
  | [], p, h => by
    simp only [cutAt, List.mem_singleton] at h
    subst h; simp
  | b :: l, p, h => by
    have ih := cut_size c l
    unfold cutAt at h
    split at h
    · rcases List.mem_cons.1 h with h | h
      · subst h; simp
      · have := ih p h; simp; omega
    · split at h <;> rename_i e
      · rcases List.mem_cons.1 h with h | h
        · subst h
          have := ih _ (by rw [e]; exact List.mem_cons_self)
          simp; omega
        · have := ih p (by rw [e]; exact List.mem_cons_of_mem _ h)
          simp; omega
      · simp only [List.mem_singleton] at h
        subst h; simp
theorem split_cut (s : ByteArray) (x : UInt8) (hs : s.size ≤ 1048576) : ∃ R, strings_Split.f s ⟨#[x]⟩ = some R ∧ R.map (·.data.toList) = cutAt x s.data.toList := by
  refine ⟨Lib.splitB ⟨#[x]⟩ 0 (Lib.countB s ⟨#[x]⟩) s, ?_, ?_⟩
  · unfold strings_Split.f Own.splitF
    rw [if_pos ⟨by omega, Nat.le_refl 1⟩]
  · rw [Lib.splitB_data]
    have hc : Lib.countB s ⟨#[x]⟩ = s.data.toList.count x := Lib.count_one x s.data.toList
    rw [hc]
    exact splitK_cut x (s.data.toList.count x) s.data.toList (Nat.le_refl _)
theorem of_ (l : List Int) (hl : ∀ x ∈ l, (Lit.int .u8 x).wf = true) (a s : Int) (h0 : 0 ≤ a) (h1 : a ≤ 3000000000000000000) (xs : List ByteArray) (hx : xs ≠ []) (hn : xs.length ≤ 1000000) :
    ∃ r a' s', spec_l1Cur_of.f l a s xs = some (r, a', s') ∧ r ∈ xs ∧ a ≤ a' ∧ a' ≤ a + 2 := by
  unfold spec_l1Cur_of.f
  have hp : 0 < xs.length := List.length_pos_iff.2 hx
  obtain ⟨r, a', s', e, r0, r1, a0, a1⟩ := pick_ l hl a s h0 h1 (xs.length : Int) (by omega)
  rw [e]
  simp only [Option.bind_some]
  rw [if_pos r0, if_pos (by omega)]
  refine ⟨_, _, _, rfl, ?_, a0, a1⟩
  unfold rdOf
  have : r.toNat < xs.length := by omega
  rw [List.getD_eq_getElem?_getD, List.getElem?_eq_getElem this]
  simp
theorem any1_ (l : List Int) (hl : ∀ x ∈ l, (Lit.int .u8 x).wf = true) (a s : Int) (h0 : 0 ≤ a) (h1 : a ≤ 2000000000000000000) :
    ∃ r a' s', spec_l1Cur_any1.f l a s = some (r, a', s') ∧ r.size ≤ 10 ∧ a ≤ a' ∧ a' ≤ a + 2 := by
  unfold spec_l1Cur_any1.f
  obtain ⟨r, a', s', e, hr, a0, a1⟩ := of_ l hl a s h0 (by omega) [(⟨#[]⟩ : ByteArray), (⟨#[97]⟩ : ByteArray), (⟨#[97, 44, 98]⟩ : ByteArray), (⟨#[115, 111, 109, 101, 32, 119, 111, 114, 100, 115]⟩ : ByteArray), (⟨#[120, 35, 121]⟩ : ByteArray), (⟨#[45, 49, 50]⟩ : ByteArray), (⟨#[0, 255]⟩ : ByteArray), (⟨#[44, 44]⟩ : ByteArray), (⟨#[48]⟩ : ByteArray)] (by simp) (by simp)
  rw [e]
  refine ⟨r, a', s', rfl, ?_, a0, a1⟩
  simp only [List.mem_cons, List.mem_nil_iff, or_false] at hr
  rcases hr with h | h | h | h | h | h | h | h | h <;> (subst h; decide)
theorem drawSplit_ (l : List Int) (hl : ∀ x ∈ l, (Lit.int .u8 x).wf = true) : ∃ s c, spec_DrawSplitString.f l = some (s, c) ∧ s.size ≤ 10 := by
  unfold spec_DrawSplitString.f
  obtain ⟨r, a1, s1, e, hr, b0, b1⟩ := any1_ l hl 0 0 (by omega) (by omega)
  rw [e]
  simp only [Option.bind_some]
  obtain ⟨c, a2, s2, e2, _, _, _⟩ := of_ l hl a1 s1 (by omega) (by omega) [(⟨#[44]⟩ : ByteArray), (⟨#[44]⟩ : ByteArray), (⟨#[32]⟩ : ByteArray), (⟨#[]⟩ : ByteArray), (⟨#[44, 44]⟩ : ByteArray)] (by simp) (by simp)
  rw [e2]
  exact ⟨r, c, rfl, hr⟩
theorem drawLess_ (l : List Int) (hl : ∀ x ∈ l, (Lit.int .u8 x).wf = true) : ∃ s c, spec_DrawLessString.f l = some (s, c) := by
  unfold spec_DrawLessString.f
  obtain ⟨r, a1, s1, e, hr, b0, b1⟩ := any1_ l hl 0 0 (by omega) (by omega)
  rw [e]
  simp only [Option.bind_some]
  obtain ⟨c, a2, s2, e2, _, _, _⟩ := any1_ l hl a1 s1 (by omega) (by omega)
  rw [e2]
  exact ⟨r, c, rfl⟩
theorem tot_app (l : List ByteArray) (p : ByteArray) : tot (l ++ [p]) = tot l + p.size := by simp [tot]
theorem drawJoin_l0 (l : List Int) (hl : ∀ x ∈ l, (Lit.int .u8 x).wf = true) (n : Int) (hn : n ≤ 4) (d : Nat) : ∀ (i : Int) (k : Nat) (acc : List ByteArray) (a s : Int), 0 ≤ i → n - i ≤ d → i ≤ n → d < k → 0 ≤ a → a ≤ 1000 * (10 - (d : Int)) → d ≤ 4 → acc.length ≤ 4 - d → tot acc ≤ 10 * (4 - d) →
    ∃ L c, spec_DrawJoinStrings.l0 k acc n i l a s = some (L, c) ∧ L.length ≤ 5 ∧ tot L ≤ 5000 := by
  induction d with
  | zero =>
    intro i k acc a s h0 h1 h2 hk ha ha' hd hacc ht
    obtain ⟨k, rfl⟩ : ∃ m, k = m + 1 := ⟨k - 1, by omega⟩
    simp only [spec_DrawJoinStrings.l0]
    rw [if_neg (by omega)]
    unfold spec_l1Cur_one.f
    obtain ⟨r, a1, s1, e, r0, r1, b0, b1⟩ := pick_ l hl a s ha (by omega) 20 (by omega)
    rw [e]
    simp only [Option.bind_some]
    by_cases c0 : (r == 0) = true
    · rw [if_pos c0]
      obtain ⟨x, a2, s2, e2, x0, x1, d0, d1⟩ := pick_ l hl a1 s1 (by omega) (by omega) 20 (by omega)
      rw [e2]
      simp only [Option.bind_some]
      rw [w64 (x := 3990 + x) (by omega) (by omega), if_pos (by omega), if_pos (by omega), if_pos (by omega)]
      obtain ⟨c, a3, s3, e3, _, _, _⟩ := of_ l hl a2 s2 (by omega) (by omega) [(⟨#[44]⟩ : ByteArray), (⟨#[59]⟩ : ByteArray), (⟨#[59]⟩ : ByteArray), (⟨#[]⟩ : ByteArray), (⟨#[97, 98]⟩ : ByteArray)] (by simp) (by simp)
      rw [e3]
      refine ⟨_, c, rfl, by simp; omega, ?_⟩
      rw [tot_app]
      have : (strOfNums (List.replicate (3990 + x).toNat 0)).size = (3990 + x).toNat := by simp [strOfNums, ByteArray.size]
      omega
    · rw [if_neg c0]
      obtain ⟨c, a3, s3, e3, _, _, _⟩ := of_ l hl a1 s1 (by omega) (by omega) [(⟨#[44]⟩ : ByteArray), (⟨#[59]⟩ : ByteArray), (⟨#[59]⟩ : ByteArray), (⟨#[]⟩ : ByteArray), (⟨#[97, 98]⟩ : ByteArray)] (by simp) (by simp)
      rw [e3]
      exact ⟨_, c, rfl, by omega, by omega⟩
  | succ d ih =>
    intro i k acc a s h0 h1 h2 hk ha ha' hd hacc ht
    obtain ⟨k, rfl⟩ : ∃ m, k = m + 1 := ⟨k - 1, by omega⟩
    by_cases hin : i < n
    · simp only [spec_DrawJoinStrings.l0]
      rw [if_pos hin]
      obtain ⟨r, a1, s1, e, hr, b0, b1⟩ := any1_ l hl a s ha (by omega)
      rw [e]
      simp only [Option.bind_some]
      rw [if_pos (by omega), w64 (x := i + 1) (by omega) (by omega)]
      exact ih (i + 1) k _ a1 s1 (by omega) (by omega) (by omega) (by omega) (by omega) (by omega) (by omega) (by simp; omega) (by rw [tot_app]; omega)
    · exact ih i (k + 1) acc a s h0 (by omega) h2 (by omega) ha (by omega) (by omega) (by omega) (by omega)
theorem drawJoin_ (l : List Int) (hl : ∀ x ∈ l, (Lit.int .u8 x).wf = true) (k : Nat) (hk : 5 ≤ k) : ∃ L c, spec_DrawJoinStrings.f k l = some (L, c) ∧ L.length ≤ 5 ∧ tot L ≤ 5000 := by
  unfold spec_DrawJoinStrings.f
  obtain ⟨r, a1, s1, e, r0, r1, b0, b1⟩ := pick_ l hl 0 0 (by omega) (by omega) 4 (by omega)
  rw [e]
  simp only [Option.bind_some]
  exact drawJoin_l0 l hl r (by omega) 4 0 k [] a1 s1 (by omega) (by omega) r0 (by omega) (by omega) (by omega) (by omega) (by simp) (by simp [tot])
theorem back_ (s : ByteArray) (x : UInt8) (hs : s.size ≤ 10) : ∃ R, strings_Split.f s ⟨#[x]⟩ = some R ∧ impl_JoinStrings.f 2999999 R ⟨#[x]⟩ = some (s, true) := by
  obtain ⟨R, h1, h2⟩ := split_cut s x (by omega)
  refine ⟨R, h1, ?_⟩
  obtain ⟨h, t, hc⟩ : ∃ h t, cutAt x s.data.toList = h :: t := by
    cases hc : cutAt x s.data.toList with
    | nil => exact absurd hc (cutAt_ne x _)
    | cons h t => exact ⟨h, t, rfl⟩
  have hj : Lib.join (R.map (·.data.toList)) [x] = s.data.toList := by rw [h2, hc, Lib.join_cons]; exact cut_join x _ h t hc
  have hfree : ¬ ∃ p ∈ R, has x p := by
    rintro ⟨p, hp, hh⟩
    exact cut_free x s.data.toList p.data.toList (by rw [← h2]; exact List.mem_map.2 ⟨p, hp, rfl⟩) hh
  have hRl : R.length ≤ s.size + 1 := by
    have := cut_len x s.data.toList
    rw [← h2, List.length_map, szD] at this
    exact this
  have hRp : 0 < R.length := by
    have : (R.map (·.data.toList)).length = (h :: t).length := by rw [h2, hc]
    simp at this; omega
  have hsz : ∀ p ∈ R, p.size ≤ 1048577 := fun p hp => by
    have := cut_size x s.data.toList p.data.toList (by rw [← h2]; exact List.mem_map.2 ⟨p, hp, rfl⟩)
    rw [szD, szD] at this; omega
  have hI := (impl_l0 R x (by omega) hsz R.length 0 2999998 (by omega) (by omega)).2 (by rw [List.drop_zero]; exact hfree)
  have hJ : strings_Join.f R ⟨#[x]⟩ = some s := by
    unfold strings_Join.f Own.joinF
    have e : (⟨#[x]⟩ : ByteArray).data.toList = [x] := rfl
    rw [e, hj, if_pos ⟨hRp, by omega, by rw [szD]; omega⟩]
  unfold impl_JoinStrings.f
  have e2 : (((⟨#[x]⟩ : ByteArray).size : Int) != 1) = false := rfl
  rw [if_neg (by omega), e2]
  simp only [impl_JoinStrings.j0, Bool.false_eq_true, if_false]
  have hz : ((0 : Nat) : Int) = 0 := rfl
  rw [hz] at hI
  rw [hI, hJ, Option.bind_some, if_neg (by omega)]
theorem less_asym : ∀ a b : List UInt8, Op.bytesLess a b = true → Op.bytesLess b a = false
  | [], [], h => by simp [Op.bytesLess] at h
  | [], _ :: _, _ => by simp [Op.bytesLess]
  | _ :: _, [], h => by simp [Op.bytesLess] at h
  | x :: a, y :: b, h => by
    have ih := less_asym a b
    unfold Op.bytesLess at h ⊢
    by_cases e : x = y
    · subst e; simp_all
    · have e' : ¬ y = x := fun c => e c.symm
      simp_all
      first | done | exact UInt8.le_of_lt h | (rw [UInt8.le_iff_toNat_le]; rw [UInt8.lt_iff_toNat_lt] at h; omega)
theorem FnSplitJoin (l : List Int) (_ : l.length ≤ maxLen) (hl : ∀ x ∈ l, (Lit.int .u8 x).wf = true) : ∃ k, laws_FnSplitJoin.f k l = some true := by
  refine ⟨3000000, ?_⟩
  unfold laws_FnSplitJoin.f laws_vBig.f
  simp only [Option.bind_some]
  by_cases hb : decide ((l.length : Int) > 65536) = true
  · rw [if_pos hb]
  rw [if_neg hb]
  obtain ⟨s, c, e, hs⟩ := drawSplit_ l hl
  obtain ⟨L, mk, e2, hL, hT⟩ := drawJoin_ l hl 3000000 (by omega)
  obtain ⟨p, q, e3⟩ := drawLess_ l hl
  obtain ⟨⟨t, b⟩, hw, hg⟩ := both_ L mk (by omega) (by omega)
  have fin : ∀ R ok, impl_SplitString.f s c = some (R, ok) → laws_FnSplitJoin.j0 3000000 s c R ok false = some true := by
    intro R ok hR
    simp only [laws_FnSplitJoin.j0, Bool.false_eq_true, if_false]
    unfold impl_SplitString.f at hR
    rw [if_neg (by omega)] at hR
    by_cases hc : (c.size : Int) = 1
    · rw [if_pos hc]
      obtain ⟨x, rfl⟩ := Lib.one_byte c (by omega)
      obtain ⟨R', h1, h2⟩ := back_ s x hs
      rw [if_pos hc, h1, Option.bind_some] at hR
      simp only [Option.some.injEq, Prod.mk.injEq] at hR
      obtain ⟨rfl, rfl⟩ := hR
      rw [h2]
      simp
    · rw [if_neg hc] at hR
      simp only [Option.some.injEq, Prod.mk.injEq] at hR
      obtain ⟨rfl, rfl⟩ := hR
      rw [if_neg hc]
      simp
  rw [e]
  simp only [Option.bind_some]
  obtain ⟨R, ok, hR⟩ : ∃ R ok, impl_SplitString.f s c = some (R, ok) := by
    unfold impl_SplitString.f
    rw [if_neg (by omega)]
    by_cases hc : (c.size : Int) = 1
    · obtain ⟨x, rfl⟩ := Lib.one_byte c (by omega)
      obtain ⟨R', h1, _⟩ := back_ s x hs
      rw [if_pos hc, h1]; exact ⟨_, _, rfl⟩
    · rw [if_neg hc]; exact ⟨_, _, rfl⟩
  have hf := fin R ok hR
  rw [hR]
  simp only [Option.bind_some]
  rw [e2]
  simp only [Option.bind_some]
  rw [hg, hw]
  simp only [Option.bind_some]
  rw [e3]
  have hbb : (b != b) = false := by cases b <;> rfl
  simp only [Option.bind_some, if_true, hbb, Bool.false_eq_true, if_false]
  unfold impl_LessString.f spec_LessString.f
  simp only [Option.bind_some, bne_self_eq_false, Bool.false_eq_true, if_false]
  by_cases hlt : Op.bytesLess p.toList q.toList = true
  · rw [if_pos hlt, less_asym _ _ hlt]
    exact hf
  · rw [if_neg hlt]
    exact hf

end Go.Proofs.YthdcmcackobodaaDoor.Pure
