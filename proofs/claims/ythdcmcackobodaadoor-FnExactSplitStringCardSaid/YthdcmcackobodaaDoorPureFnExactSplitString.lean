/- The program's SplitString and the reference's return the same for every two strings; the results share no memory; no condition. -/
import Derived.Test.YthdcmcackobodaaDoorQFnExactSplitStringx2
namespace Go.Proofs.YthdcmcackobodaaDoor.Pure
open Go.RowKit Go.Proofs.YthdcmcackobodaaDoor.QFnExactSplitString Go.Proofs.YthdcmcackobodaaDoorW.PrintWords Go.Proofs.YthdcmcackobodaaDoorW.PrintLast Go.Proofs.YthdcmcackobodaaDoorW.PrintMore
set_option linter.unusedVariables false
set_option linter.unusedSimpArgs false

theorem w64 {x : Int} (h : -9223372036854775808 ≤ x) (h' : x ≤ 9223372036854775807) : wrap64 x = x := by unfold wrap64; omega
theorem tdv {x : Int} (n : Int) (h : 0 ≤ x) : Int.tdiv x n = x / n := Int.tdiv_eq_ediv_of_nonneg h
theorem tmd {x : Int} (n : Int) (h : 0 ≤ x) : Int.tmod x n = x % n := Int.tmod_eq_emod_of_nonneg h
theorem wfb {a : Int} (h : (Lit.int .i64 a).wf = true) : -9223372036854775808 ≤ a ∧ a ≤ 9223372036854775807 := by
  simp [Lit.wf, IntKind.min, IntKind.max, IntKind.signed, IntKind.bits] at h
  omega
theorem within_ {x a b : Int} : (if x ≥ a then some (decide (x ≤ b)) else some false) = some (decide (a ≤ x ∧ x ≤ b)) := by
  by_cases h : x ≥ a
  · rw [if_pos h]; congr 1; simp; omega
  · rw [if_neg h]; congr 1; simp; omega

theorem toList_inj {a b : ByteArray} (h : a.toList = b.toList) : a = b := by
  rw [ByteArray.toList_eq, ByteArray.toList_eq] at h
  exact Go.WideShapes.bytes_inj h
theorem szD (s : ByteArray) : s.data.toList.length = s.size := by simp
theorem rdOf_nat (l : List ByteArray) (i : Nat) (h : i < l.length) : rdOf ByteArray.empty l (i : Int) = l[i] := by
  unfold rdOf; rw [Int.toNat_natCast, List.getD_eq_getElem?_getD, List.getElem?_eq_getElem h]; rfl

/-- A list of bytes cut at each byte c. -/
def cutAt (c : UInt8) : List UInt8 → List (List UInt8)
  | [] => [[]]
  | b :: l => if b = c then [] :: cutAt c l else match cutAt c l with
    | h :: t => (b :: h) :: t
    | [] => [[b]]
theorem cutAt_ne (c : UInt8) : ∀ l, cutAt c l ≠ []
  | [] => by simp [cutAt]
  | b :: l => by
    unfold cutAt
    split
    · simp
    · split <;> simp
theorem cutAt_no (c : UInt8) : ∀ l, c ∉ l → cutAt c l = [l]
  | [], _ => rfl
  | b :: l, h => by
    simp only [List.mem_cons, not_or] at h
    unfold cutAt
    rw [if_neg (fun e => h.1 e.symm), cutAt_no c l h.2]
theorem cutAt_eq (c : UInt8) (l : List UInt8) : cutAt c (c :: l) = [] :: cutAt c l := by rw [cutAt, if_pos rfl]
theorem cutAt_neq (c b : UInt8) (l h : List UInt8) (t : List (List UInt8)) (hb : b ≠ c) (e : cutAt c l = h :: t) : cutAt c (b :: l) = (b :: h) :: t := by rw [cutAt, if_neg hb, e]
theorem cutAt_hit (c : UInt8) : ∀ l, c ∈ l → cutAt c l = l.take (l.idxOf c) :: cutAt c (l.drop (l.idxOf c + 1))
  | [], h => by simp at h
  | b :: l, h => by
    by_cases hb : b = c
    · subst hb; rw [cutAt_eq]; simp
    · have hm : c ∈ l := by
        simp only [List.mem_cons] at h
        rcases h with h | h
        · exact absurd h.symm hb
        · exact h
      have e : (b == c) = false := beq_eq_false_iff_ne.2 hb
      have e2 : List.idxOf c (b :: l) = List.idxOf c l + 1 := by rw [List.idxOf_cons, e]; rfl
      rw [cutAt_neq c b l _ _ hb (cutAt_hit c l hm), e2, List.take_succ_cons, List.drop_succ_cons]
theorem index_one (b : UInt8) : ∀ s : List UInt8, Lib.index s [b] = if b ∈ s then (s.idxOf b : Int) else -1
  | [] => by simp [Lib.index]
  | x :: l => by
    have hl := index_one b l
    unfold Lib.index
    by_cases hx : b = x
    · subst hx; simp [List.isPrefixOf]
    · have hx' : ¬ x = b := fun e => hx e.symm
      have e1 : (([b] : List UInt8).isPrefixOf (x :: l)) = false := by simp [List.isPrefixOf, hx]
      rw [e1, hl]
      simp only [Bool.false_eq_true, if_false]
      by_cases hm : b ∈ l
      · have : ((List.idxOf b l : Int) == -1) = false := by rw [beq_eq_false_iff_ne]; omega
        simp only [hm, if_true, List.mem_cons, or_true, this, Bool.false_eq_true, if_false]
        have : List.idxOf b (x :: l) = List.idxOf b l + 1 := by have e : (x == b) = false := beq_eq_false_iff_ne.2 hx'; rw [List.idxOf_cons, e]; rfl
        rw [this]
        omega
      · simp only [hm, if_false, List.mem_cons, hx, or_self]
        rfl
theorem count_drop (c : UInt8) : ∀ l : List UInt8, c ∈ l → (l.drop (l.idxOf c + 1)).count c + 1 = l.count c
  | [], h => by simp at h
  | b :: l, h => by
    by_cases hb : b = c
    · subst hb; simp
    · have hm : c ∈ l := by
        simp only [List.mem_cons] at h
        rcases h with h | h
        · exact absurd h.symm hb
        · exact h
      have e : (b == c) = false := beq_eq_false_iff_ne.2 hb
      rw [List.idxOf_cons, e, List.count_cons, e]
      have := count_drop c l hm
      simpa using this
theorem splitK_cut (c : UInt8) : ∀ (k : Nat) (l : List UInt8), l.count c ≤ k → Lib.splitK [c] 0 k l = cutAt c l
  | 0, l, h => by
    have : c ∉ l := fun hm => by have := List.count_pos_iff.2 hm; omega
    rw [cutAt_no c l this]
    rfl
  | k + 1, l, h => by
    unfold Lib.splitK
    rw [index_one]
    by_cases hm : c ∈ l
    · have e : ((List.idxOf c l : Int) == -1) = false := by rw [beq_eq_false_iff_ne]; omega
      rw [if_pos hm, e, cutAt_hit c l hm]
      have := count_drop c l hm
      simp only [Bool.false_eq_true, if_false, Nat.add_zero, Int.toNat_natCast, List.length_singleton]
      rw [splitK_cut c k _ (by omega)]
    · rw [if_neg hm, cutAt_no c l hm]
      rfl
theorem bt_list (s : ByteArray) (i : Nat) (h : i < s.size) : bt s (i : Int) = ((s.data.toList[i]'(by simpa using h)).toNat : Int) := by
  unfold bt
  rw [dif_pos (by simpa using h)]
  simp [ByteArray.getElem_eq_getElem_data]
theorem bt_eq (s : ByteArray) (i : Nat) (h : i < s.size) (b : UInt8) : bt s (i : Int) = (b.toNat : Int) ↔ s.data.toList[i]'(by simpa using h) = b := by
  rw [bt_list s i h]
  constructor
  · intro e; exact UInt8.toNat_inj.1 (by omega)
  · intro e; rw [e]
theorem extract_dat (s : ByteArray) (x i : Nat) : (s.extract x i).data.toList = (s.data.toList.drop x).take (i - x) := by
  simp [List.take_drop]
theorem split_l0 (s : ByteArray) (c : UInt8) (hs : s.size ≤ 1048576) (d : Nat) : ∀ (i x k : Nat) (acc : List ByteArray), i + d = s.size → d < k → x ≤ i → acc.length ≤ i →
    ∃ R h t, spec_l1Split.l0 k s (c.toNat : Int) acc (x : Int) (i : Int) = some R ∧ cutAt c (s.data.toList.drop i) = h :: t ∧
      R.map (·.data.toList) = acc.map (·.data.toList) ++ ((s.data.toList.drop x).take (i - x) ++ h) :: t := by
  induction d with
  | zero =>
    intro i x k acc hi hk hx ha
    obtain ⟨k, rfl⟩ : ∃ m, k = m + 1 := ⟨k - 1, by omega⟩
    refine ⟨acc ++ [s.extract x s.size], [], [], ?_, ?_, ?_⟩
    · simp only [spec_l1Split.l0]
      rw [if_neg (by omega), if_pos (by omega), if_pos (by omega), if_pos (by omega)]
      rfl
    · rw [List.drop_eq_nil_of_le (by rw [szD]; omega)]; rfl
    · rw [List.map_append, List.map_cons, List.map_nil, extract_dat, show s.size = i by omega]; simp
  | succ d ih =>
    intro i x k acc hi hk hx ha
    obtain ⟨k, rfl⟩ : ∃ m, k = m + 1 := ⟨k - 1, by omega⟩
    have hlt : i < s.data.toList.length := by rw [szD]; omega
    have eb := bt_eq s i (by omega) c
    simp only [spec_l1Split.l0]
    rw [if_pos (by omega), if_pos (by omega), List.drop_eq_getElem_cons hlt, w64 (x := (i : Int) + 1) (by omega) (by omega), show (i : Int) + 1 = ((i + 1 : Nat) : Int) by omega]
    by_cases hb : s.data.toList[i] = c
    · rw [if_pos (eb.2 hb), if_pos (by omega), if_pos (by omega), if_pos (by omega), if_pos (by omega)]
      obtain ⟨R, h, t, h1, h2, h3⟩ := ih (i + 1) (i + 1) k (acc ++ [s.extract ((x : Int)).toNat ((i : Int)).toNat]) (by omega) (by omega) (by omega) (by simp; omega)
      refine ⟨R, [], h :: t, h1, ?_, ?_⟩
      · unfold cutAt; rw [if_pos hb, h2]
      · rw [h3, List.map_append, List.map_cons, List.map_nil, extract_dat]; simp
    · rw [if_neg (fun e => hb (eb.1 e))]
      obtain ⟨R, h, t, h1, h2, h3⟩ := ih (i + 1) x k acc (by omega) (by omega) (by omega) (by omega)
      refine ⟨R, s.data.toList[i] :: h, t, h1, ?_, ?_⟩
      · unfold cutAt; rw [if_neg hb, h2]
      · rw [h3]
        have : (s.data.toList.drop x).take (i + 1 - x) = (s.data.toList.drop x).take (i - x) ++ [s.data.toList[i]] := by
          rw [show i + 1 - x = (i - x) + 1 by omega, List.take_add_one, List.getElem?_drop, show x + (i - x) = i by omega, List.getElem?_eq_getElem hlt]; rfl
        rw [this]; simp
theorem map_dat_inj : ∀ {a b : List ByteArray}, a.map (·.data.toList) = b.map (·.data.toList) → a = b
  | [], [], _ => rfl
  | [], _ :: _, h => by simp at h
  | _ :: _, [], h => by simp at h
  | x :: a, y :: b, h => by
    simp only [List.map_cons, List.cons.injEq] at h
    rw [Go.WideShapes.bytes_inj h.1, map_dat_inj h.2]
/-- The reference's cut and the library's are one. -/
theorem split_same (s : ByteArray) (c : UInt8) (hs : s.size ≤ 1048576) : ∃ R, R.length ≤ s.size + 1 ∧ (∀ k, s.size < k → spec_l1Split.f k s (c.toNat : Int) = some R) ∧ strings_Split.f s ⟨#[c]⟩ = some R := by
  obtain ⟨R, h, t, h1, h2, h3⟩ := split_l0 s c hs s.size 0 0 (s.size + 1) [] (by omega) (by omega) (by omega) (by simp)
  have e : R = Lib.splitB ⟨#[c]⟩ 0 (Lib.countB s ⟨#[c]⟩) s := by
    apply map_dat_inj
    rw [Lib.splitB_data, h3]
    have hc : Lib.countB s ⟨#[c]⟩ = s.data.toList.count c := Lib.count_one c s.data.toList
    rw [hc]
    have := splitK_cut c (s.data.toList.count c) s.data.toList (Nat.le_refl _)
    rw [show ((⟨#[c]⟩ : ByteArray).data.toList) = [c] from rfl, this]
    simpa using h2.symm
  have hl : R.length ≤ s.size + 1 := by
    rw [e]
    have := Lib.splitB_length_le ⟨#[c]⟩ 0 (Lib.countB s ⟨#[c]⟩) s
    have := Lib.countB_le ⟨#[c]⟩ (Nat.le_refl 1) s.size s (Nat.le_refl _)
    omega
  refine ⟨R, hl, fun k hk => at_rounds (fun k => spec_l1Split.mono s (c.toNat : Int) k) hk (by unfold spec_l1Split.f; exact h1), ?_⟩
  unfold strings_Split.f Own.splitF
  rw [if_pos ⟨by omega, Nat.le_refl 1⟩, ← e]

theorem sz_mk_ (a : Array UInt8) : (⟨a⟩ : ByteArray).size = a.size := rfl
theorem strOfNums_one (x : Int) : (strOfNums [x]).size = 1 := by simp [strOfNums, sz_mk_]
theorem markText_l0 (d : Nat) : ∀ (n : Int) (x : ByteArray), 0 ≤ n → n < 10 ^ d → n ≤ 1000000000 → x.size + d ≤ 1000 → ∃ t, laws_markText.l0 (d + 1) n x = some t := by
  induction d with
  | zero =>
    intro n x h0 h1 h2 hx
    exact ⟨_, by simp only [laws_markText.l0]; rw [if_neg (by omega), if_pos (by omega)]⟩
  | succ d ih =>
    intro n x h0 h1 h2 hx
    by_cases hn : n > 0
    · have e1 : Int.tdiv n 10 = n / 10 := tdv 10 h0
      have hp : (10 : Int) ^ (d + 1) = 10 * 10 ^ d := by rw [Int.pow_succ]; omega
      have hs : (strOfNums [(wrap64 (48 + (Int.tmod n 10))) % 256]).size = 1 := strOfNums_one _
      obtain ⟨t, ht⟩ := ih (n / 10) (strOfNums [(wrap64 (48 + (Int.tmod n 10))) % 256] ++ x) (by omega) (by omega) (by omega) (by rw [ByteArray.size_append, hs]; omega)
      refine ⟨t, ?_⟩
      rw [laws_markText.l0, if_pos hn, Option.bind_some, if_pos (by rw [hs]; omega), e1, w64 (x := n / 10) (by omega) (by omega)]
      exact ht
    · exact ⟨_, by rw [laws_markText.l0, if_neg hn, if_pos (by omega)]⟩
def mk_ (n : Int) : ByteArray := (laws_markText.f 11 n).getD ⟨#[]⟩
theorem mk_some (n : Int) (h0 : 1 ≤ n) (h1 : n ≤ 1000000000) (k : Nat) (hk : 11 ≤ k) : laws_markText.f k n = some (mk_ n) := by
  refine at_rounds (fun k => laws_markText.mono n k) hk ?_
  obtain ⟨t, ht⟩ := markText_l0 10 n ⟨#[]⟩ (by omega) (by omega) h1 (by decide)
  have : laws_markText.f 11 n = some t := by unfold laws_markText.f; rw [if_neg (by omega)]; exact ht
  unfold mk_
  rw [this]; rfl
theorem mark_l0S (N : Nat) (hN : N ≤ 1048577) (v : Int) (h0 : 1 ≤ v) (hv : v ≤ 1000000) (d : Nat) : ∀ (i k : Nat) (l : List ByteArray), l.length = N → i + d = N → d + 11 < k →
    ∃ L, laws_markStringS.l0 k l (v + i) (i : Int) = some (v + N, L) ∧ L.length = N ∧ (∀ j, j < i → L[j]? = l[j]?) ∧ ∀ j, i ≤ j → j < N → L[j]? = some (mk_ (v + j)) := by
  induction d with
  | zero =>
    intro i k l hl hi hk
    obtain ⟨k, rfl⟩ : ∃ m, k = m + 1 := ⟨k - 1, by omega⟩
    refine ⟨l, ?_, hl, fun _ _ => rfl, fun j a b => by omega⟩
    simp only [laws_markStringS.l0]
    rw [if_neg (by omega), show i = N by omega]
  | succ d ih =>
    intro i k l hl hi hk
    obtain ⟨k, rfl⟩ : ∃ m, k = m + 1 := ⟨k - 1, by omega⟩
    obtain ⟨L, h1, h2, h3, h4⟩ := ih (i + 1) k (l.set i (mk_ (v + i))) (by simpa using hl) (by omega) (by omega)
    refine ⟨L, ?_, h2, fun j hj => ?_, fun j a b => ?_⟩
    · simp only [laws_markStringS.l0]
      rw [if_pos (by omega), mk_some (v + i) (by omega) (by omega) k (by omega), Option.bind_some, if_pos (by omega), w64 (x := v + i + 1) (by omega) (by omega), w64 (x := (i : Int) + 1) (by omega) (by omega), Int.toNat_natCast]
      rw [show v + (i : Int) + 1 = v + ((i + 1 : Nat) : Int) by omega, show (i : Int) + 1 = ((i + 1 : Nat) : Int) by omega]
      exact h1
    · rw [h3 j (by omega), List.getElem?_set_ne (by omega)]
    · by_cases hj : j = i
      · subst hj; rw [h3 j (by omega), List.getElem?_set_self (by omega)]
      · exact h4 j (by omega) b
theorem held_l0S (N : Nat) (hN : N ≤ 1048577) (v : Int) (h0 : 1 ≤ v) (hv : v ≤ 1000000) (L : List ByteArray) (hL : L.length = N) (hm : ∀ j, j < N → L[j]? = some (mk_ (v + j))) (d : Nat) : ∀ (i k : Nat), i + d = N → d + 11 < k →
    laws_heldStringS.l0 k L (v + i) (i : Int) = some (v + N) := by
  induction d with
  | zero =>
    intro i k hi hk
    obtain ⟨k, rfl⟩ : ∃ m, k = m + 1 := ⟨k - 1, by omega⟩
    simp only [laws_heldStringS.l0]
    rw [if_neg (by omega), show i = N by omega]
  | succ d ih =>
    intro i k hi hk
    obtain ⟨k, rfl⟩ : ∃ m, k = m + 1 := ⟨k - 1, by omega⟩
    have hlt : i < L.length := by omega
    have e := hm i (by omega)
    rw [List.getElem?_eq_getElem hlt] at e
    simp only [laws_heldStringS.l0]
    rw [if_pos (by omega), if_pos (by omega), mk_some (v + i) (by omega) (by omega) k (by omega), Option.bind_some, rdOf_nat L i hlt, Option.some.inj e, if_pos rfl, w64 (x := v + i + 1) (by omega) (by omega), w64 (x := (i : Int) + 1) (by omega) (by omega)]
    rw [show v + (i : Int) + 1 = v + ((i + 1 : Nat) : Int) by omega, show (i : Int) + 1 = ((i + 1 : Nat) : Int) by omega]
    exact ih (i + 1) k (by omega) (by omega)
theorem eqS_l0 (l : List ByteArray) (hl : l.length ≤ 1048577) (d : Nat) : ∀ (i k : Nat), i + d = l.length → d < k → laws_eqStringS.l0 k l l (i : Int) = some true := by
  induction d with
  | zero =>
    intro i k hi hk
    obtain ⟨k, rfl⟩ : ∃ m, k = m + 1 := ⟨k - 1, by omega⟩
    simp only [laws_eqStringS.l0]; rw [if_neg (by omega)]
  | succ d ih =>
    intro i k hi hk
    obtain ⟨k, rfl⟩ : ∃ m, k = m + 1 := ⟨k - 1, by omega⟩
    simp only [laws_eqStringS.l0]
    rw [if_pos (by omega), if_pos (by omega), if_pos (by omega), if_pos trivial, w64 (x := (i : Int) + 1) (by omega) (by omega), show (i : Int) + 1 = ((i + 1 : Nat) : Int) by omega]
    exact ih (i + 1) k (by omega) (by omega)
theorem eqS_ (l : List ByteArray) (hl : l.length ≤ 1048577) (k : Nat) (hk : l.length < k) : laws_eqStringS.f k l l = some true := by
  unfold laws_eqStringS.f
  rw [if_pos rfl]
  exact eqS_l0 l hl l.length 0 k (by omega) hk
/-- Marked, the list holds its marks. -/
theorem marked_ (l : List ByteArray) (hl : l.length ≤ 1048577) (v : Int) (h0 : 1 ≤ v) (hv : v ≤ 1000000) : ∃ L, L.length = l.length ∧ (∀ k, l.length + 12 ≤ k → laws_markStringS.f k l v = some (v + l.length, L)) ∧ ∀ k, l.length + 12 ≤ k → laws_heldStringS.f k L v = some (v + l.length) := by
  obtain ⟨L, h1, h2, _, h4⟩ := mark_l0S l.length hl v h0 hv l.length 0 (l.length + 12) l rfl (by omega) (by omega)
  refine ⟨L, h2, fun k hk => at_rounds (fun k => laws_markStringS.mono l v k) hk ?_, fun k hk => ?_⟩
  · unfold laws_markStringS.f; simpa using h1
  · unfold laws_heldStringS.f
    have := held_l0S l.length hl v h0 hv L h2 (fun j hj => h4 j (by omega) hj) l.length 0 k (by omega) (by omega)
    simpa using this

theorem law_same (s c : ByteArray) (R : List ByteArray) (b : Bool) (hR : R.length ≤ 4001) (h1 : ¬ (s.size : Int) > 1048576) (h2 : ¬ (c.size : Int) > 1048576)
    (hw : spec_SplitString.f 5000 s c = some (R, b)) (hg : impl_SplitString.f s c = some (R, b)) : laws_FnExactSplitString.f 5000 s c = some true := by
  obtain ⟨L, hL, hm, hh⟩ := marked_ R (by omega) 1 (by omega) (by omega)
  have e1 := eqS_ R (by omega) 5000 (by omega)
  have e2 := eqS_ R (by omega) 4999 (by omega)
  unfold laws_FnExactSplitString.f
  rw [if_neg h1, if_neg h2, hw, hg]
  simp only [Option.bind_some, e1, if_true]
  have hb : (b != b) = false := by cases b <;> rfl
  rw [hb]
  simp only [laws_FnExactSplitString.j0, Bool.false_eq_true, if_false, hm 4999 (by omega), hh 4999 (by omega), Option.bind_some, hg, e2, if_true, hb]
  rw [if_neg (by omega)]
  simp only [laws_FnExactSplitString.j1, Bool.false_eq_true, if_false, hh 4998 (by omega), Option.bind_some, if_true]
  rw [if_neg (by omega)]
theorem FnExactSplitString (s c : ByteArray) (hs0 : s.size ≤ maxLen) (hc0 : c.size ≤ maxLen) : ∃ k, laws_FnExactSplitString.f k s c = some true := by
  refine ⟨5000, ?_⟩
  by_cases h1 : (s.size : Int) > 1048576
  · unfold laws_FnExactSplitString.f; rw [if_pos h1]
  by_cases h2 : (c.size : Int) > 1048576
  · unfold laws_FnExactSplitString.f; rw [if_neg h1, if_pos h2]
  by_cases h4 : (s.size : Int) > 4000
  · refine law_same s c [] false (by simp) h1 h2 ?_ ?_
    · unfold spec_SplitString.f
      by_cases hc : (c.size : Int) = 1
      · rw [if_pos hc, if_pos h4]
      · rw [if_neg hc]
    · unfold impl_SplitString.f; rw [if_pos h4]
  by_cases hc : (c.size : Int) = 1
  · obtain ⟨x, rfl⟩ := Lib.one_byte c (by omega)
    obtain ⟨R, hl, hw, hg⟩ := split_same s x (by omega)
    refine law_same s _ R true (by omega) h1 h2 ?_ ?_
    · unfold spec_SplitString.f
      have e : bt (⟨#[x]⟩ : ByteArray) 0 = (x.toNat : Int) := bt_list ⟨#[x]⟩ 0 (Nat.le_refl 1)
      rw [if_pos hc, if_neg h4, if_pos (by omega), e, hw 5000 (by omega), Option.bind_some]
    · unfold impl_SplitString.f; rw [if_neg h4, if_pos hc, hg, Option.bind_some]
  · refine law_same s c [] false (by simp) h1 h2 ?_ ?_
    · unfold spec_SplitString.f; rw [if_neg hc]
    · unfold impl_SplitString.f; rw [if_neg h4, if_neg hc]

end Go.Proofs.YthdcmcackobodaaDoor.Pure
