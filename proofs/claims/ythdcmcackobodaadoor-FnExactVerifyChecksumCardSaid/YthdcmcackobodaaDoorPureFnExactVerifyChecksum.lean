/- The program's VerifyChecksum and the reference's return the same for every string; no condition. -/
import Derived.Test.YthdcmcackobodaaDoorQFnExactVerifyChecksumx2
namespace Go.Proofs.YthdcmcackobodaaDoor.Pure
open Go.RowKit Go.Proofs.YthdcmcackobodaaDoor.QFnExactVerifyChecksum Go.Proofs.YthdcmcackobodaaDoorW.PrintWords Go.Proofs.YthdcmcackobodaaDoorW.PrintLast Go.Proofs.YthdcmcackobodaaDoorW.PrintMore
set_option linter.unusedVariables false
set_option linter.unusedSimpArgs false

theorem w64 {x : Int} (h : -9223372036854775808 ≤ x) (h' : x ≤ 9223372036854775807) : wrap64 x = x := by unfold wrap64; omega
theorem tdv {x : Int} (n : Int) (h : 0 ≤ x) : Int.tdiv x n = x / n := Int.tdiv_eq_ediv_of_nonneg h
theorem tmd {x : Int} (n : Int) (h : 0 ≤ x) : Int.tmod x n = x % n := Int.tmod_eq_emod_of_nonneg h
theorem wfb {a : Int} (h : (Lit.int .i64 a).wf = true) : -9223372036854775808 ≤ a ∧ a ≤ 9223372036854775807 := by
  simp [Lit.wf, IntKind.min, IntKind.max, IntKind.signed, IntKind.bits] at h
  omega
theorem within_ {x a b : Int} : (if x ≥ a then some (decide (x ≤ b)) else some false) = some (decide (a ≤ x ∧ x ≤ b)) := by
  by_cases h : x ≥ a
  · rw [if_pos h]; congr 1; simp; omega
  · rw [if_neg h]; congr 1; simp; omega

theorem digit_ (d : Nat) (h : d < 10) : (⟨#[48, 49, 50, 51, 52, 53, 54, 55, 56, 57]⟩ : ByteArray).extract d (d + 1) = ⟨#[UInt8.ofNat (48 + d)]⟩ := by
  match d, h with
  | 0, _ => rfl
  | 1, _ => rfl
  | 2, _ => rfl
  | 3, _ => rfl
  | 4, _ => rfl
  | 5, _ => rfl
  | 6, _ => rfl
  | 7, _ => rfl
  | 8, _ => rfl
  | 9, _ => rfl
theorem digits_len (k : Nat) : ∀ u : Nat, u < 10 ^ (k + 1) → (Lib.decDigits u).length ≤ k + 1 := by
  induction k with
  | zero => intro u hu; rw [Lib.decDigits]; split <;> simp_all
  | succ k ih =>
    intro u hu
    rw [Lib.decDigits]
    split
    · simp
    · have : u / 10 < 10 ^ (k + 1) := by rw [Nat.div_lt_iff_lt_mul (by omega)]; rw [Nat.pow_succ] at hu; omega
      have := ih _ this
      simp; omega
theorem app_mk (a b : Array UInt8) : (⟨a⟩ : ByteArray) ++ ⟨b⟩ = ⟨a ++ b⟩ := by apply ByteArray.ext; simp
theorem sz_mk (a : Array UInt8) : (⟨a⟩ : ByteArray).size = a.size := rfl
theorem num_some (k : Nat) : ∀ n : Int, 0 ≤ n → n < 10 ^ (k + 1) → n < 9223372036854775807 → k ≤ 30 → spec_l1Num.f (k + 1) n = some ⟨(Lib.decDigits n.toNat).toArray⟩ := by
  induction k with
  | zero =>
    intro n h0 h1 h2 hk
    obtain ⟨u, rfl⟩ : ∃ u : Nat, n = u := ⟨n.toNat, by omega⟩
    have hu : u < 10 := by omega
    unfold spec_l1Num.f
    rw [if_neg (by omega), if_pos (by omega), if_pos h0, w64 (x := (u : Int) + 1) (by omega) (by omega), if_pos (by omega), if_pos (by omega)]
    rw [show ((u : Int) + 1).toNat = u + 1 by omega, show ((u : Int)).toNat = u by omega, digit_ u hu, Lib.decDigits, dif_pos hu]
  | succ k ih =>
    intro n h0 h1 h2 hk
    obtain ⟨u, rfl⟩ : ∃ u : Nat, n = u := ⟨n.toNat, by omega⟩
    by_cases hu : u < 10
    · unfold spec_l1Num.f
      rw [if_neg (by omega), if_pos (by omega), if_pos h0, w64 (x := (u : Int) + 1) (by omega) (by omega), if_pos (by omega), if_pos (by omega)]
      rw [show ((u : Int) + 1).toNat = u + 1 by omega, show ((u : Int)).toNat = u by omega, digit_ u hu, Lib.decDigits, dif_pos hu]
    · have e1 : Int.tdiv (u : Int) 10 = ((u / 10 : Nat) : Int) := by rw [Int.tdiv_eq_ediv_of_nonneg h0]; omega
      have e2 : Int.tmod (u : Int) 10 = ((u % 10 : Nat) : Int) := by rw [Int.tmod_eq_emod_of_nonneg h0]; omega
      have hu2 : u < 10 ^ (k + 1 + 1) := by exact_mod_cast h1
      have hu1 : u / 10 < 10 ^ (k + 1) := by rw [Nat.div_lt_iff_lt_mul (by omega)]; rw [Nat.pow_succ] at hu2; omega
      have hi := ih ((u / 10 : Nat) : Int) (by omega) (by exact_mod_cast hu1) (by omega) (by omega)
      have hl := digits_len k (u / 10) hu1
      unfold spec_l1Num.f
      rw [if_neg (by omega), if_neg (by omega), e1, w64 (x := ((u / 10 : Nat) : Int)) (by omega) (by omega), hi, Option.bind_some, e2]
      rw [w64 (x := ((u % 10 : Nat) : Int) + 1) (by omega) (by omega), if_pos (by omega), if_pos (by omega), if_pos (by omega)]
      rw [show (((u % 10 : Nat) : Int) + 1).toNat = u % 10 + 1 by omega, show (((u % 10 : Nat) : Int)).toNat = u % 10 by omega, show (((u / 10 : Nat) : Int)).toNat = u / 10 by omega, show ((u : Int)).toNat = u by omega, digit_ (u % 10) (by omega)]
      rw [if_pos (by simp only [sz_mk, List.size_toArray, List.length_cons, List.length_nil]; omega), app_mk]
      have e3 : Lib.decDigits u = Lib.decDigits (u / 10) ++ [UInt8.ofNat (48 + u % 10)] := by rw [Lib.decDigits, dif_neg hu]
      rw [e3]
      simp
theorem num_ (n : Int) (h0 : -1000000000000000000 < n) (h1 : n < 1000000000000000000) : ∀ k, 20 ≤ k → spec_l1Num.f k n = some ⟨(Lib.itoa n).toArray⟩ := by
  intro k hk
  refine at_rounds (fun k => spec_l1Num.mono n k) hk ?_
  unfold Lib.itoa
  by_cases hn : n < 0
  · rw [if_pos hn]
    have hu : n.natAbs < 10 ^ 19 := by omega
    have hl := digits_len 18 n.natAbs hu
    have hs := num_some 18 (-n) (by omega) (by omega) (by omega) (by omega)
    unfold spec_l1Num.f
    rw [if_pos hn, w64 (x := -n) (by omega) (by omega), hs, Option.bind_some, show (-n).toNat = n.natAbs by omega, if_pos (by simp only [sz_mk, List.size_toArray]; omega), app_mk]
    simp
  · rw [if_neg hn]
    exact num_some 19 n (by omega) (by omega) (by omega) (by omega)
theorem itoa_ (n : Int) (h0 : -1000000000000000000 < n) (h1 : n < 1000000000000000000) : strconv_Itoa.f n = some ⟨(Lib.itoa n).toArray⟩ := by
  unfold strconv_Itoa.f Own.itoaF
  rw [if_pos (by omega)]

theorem itoa_nat (u : Nat) : Lib.itoa (u : Int) = Lib.decDigits u := by unfold Lib.itoa; rw [if_neg (by omega)]; simp
theorem dig1 (u : Nat) (h : u < 10) : (Lib.decDigits u).length = 1 := by rw [Lib.decDigits, dif_pos h]; rfl
theorem digS (u n : Nat) (h : 10 ≤ u) (hn : (Lib.decDigits (u / 10)).length = n) : (Lib.decDigits u).length = n + 1 := by
  have e3 : Lib.decDigits u = Lib.decDigits (u / 10) ++ [UInt8.ofNat (48 + u % 10)] := by rw [Lib.decDigits, dif_neg (by omega)]
  rw [e3]; simp [hn]
theorem itoa_s (n : Int) : (⟨(Lib.itoa n).toArray⟩ : ByteArray).size = (Lib.itoa n).length := by simp [sz_mk]
theorem itoa_len (n : Int) (h0 : 0 ≤ n) (h1 : n < 1000000000000000000) : (⟨(Lib.itoa n).toArray⟩ : ByteArray).size ≤ 19 := by
  obtain ⟨u, rfl⟩ : ∃ u : Nat, n = u := ⟨n.toNat, by omega⟩
  rw [itoa_s, itoa_nat]
  exact digits_len 18 u (by omega)
theorem itoa_len' (n : Int) (h0 : -1000000000000000000 < n) (h1 : n < 1000000000000000000) : (⟨(Lib.itoa n).toArray⟩ : ByteArray).size ≤ 20 := by
  by_cases h : 0 ≤ n
  · have := itoa_len n h h1; omega
  · rw [itoa_s]
    unfold Lib.itoa
    rw [if_pos (by omega)]
    have := digits_len 18 n.natAbs (by omega)
    simp only [List.length_cons]; omega
theorem itoa_1 (n : Int) (h0 : 0 ≤ n) (h1 : n < 10) : (⟨(Lib.itoa n).toArray⟩ : ByteArray).size = 1 := by
  obtain ⟨u, rfl⟩ : ∃ u : Nat, n = u := ⟨n.toNat, by omega⟩
  rw [itoa_s, itoa_nat]
  exact dig1 u (by omega)
theorem itoa_2 (n : Int) (h0 : 10 ≤ n) (h1 : n < 100) : (⟨(Lib.itoa n).toArray⟩ : ByteArray).size = 2 := by
  obtain ⟨u, rfl⟩ : ∃ u : Nat, n = u := ⟨n.toNat, by omega⟩
  rw [itoa_s, itoa_nat]
  exact digS u 1 (by omega) (dig1 _ (by omega))
theorem itoa_4 (n : Int) (h0 : 1000 ≤ n) (h1 : n < 10000) : (⟨(Lib.itoa n).toArray⟩ : ByteArray).size = 4 := by
  obtain ⟨u, rfl⟩ : ∃ u : Nat, n = u := ⟨n.toNat, by omega⟩
  rw [itoa_s, itoa_nat]
  exact digS u 3 (by omega) (digS _ 2 (by omega) (digS _ 1 (by omega) (dig1 _ (by omega))))

theorem szC (a b : ByteArray) : (a ++ b).size = a.size + b.size := ByteArray.size_append
theorem sum_b (s : ByteArray) (hs : s.size ≤ 4000) (d : Nat) : ∀ (i : Int) (h : Int) (k : Nat), 0 ≤ i → i ≤ s.size → (s.size : Int) - i = d → d < k → -1000000 < h → h < 1000000 →
    ∃ r, -1000000 < r ∧ r < 1000000 ∧ spec_l1Sum.l0 k s h i = some r ∧ impl_Checksum.l0 k s h s.size i = some (r, true) := by
  induction d with
  | zero =>
    intro i h k h0 h1 hd hk hb hb'
    obtain ⟨k, rfl⟩ : ∃ m, k = m + 1 := ⟨k - 1, by omega⟩
    refine ⟨h, hb, hb', ?_, ?_⟩
    · simp only [spec_l1Sum.l0]; rw [if_neg (by omega)]
    · simp only [impl_Checksum.l0]; rw [if_neg (by omega)]
  | succ d ih =>
    intro i h k h0 h1 hd hk hb hb'
    obtain ⟨k, rfl⟩ : ∃ m, k = m + 1 := ⟨k - 1, by omega⟩
    have t1 := Int.tmod_lt_of_pos (wrap64 ((wrap64 ((wrap64 (41 * h)) + (wrap64 (bt s i)))) + 1)) (show (0 : Int) < 999979 by omega)
    have t2 : -999979 < Int.tmod (wrap64 ((wrap64 ((wrap64 (41 * h)) + (wrap64 (bt s i)))) + 1)) 999979 := Int.lt_tmod_of_pos _ (by omega)
    obtain ⟨r, b, b', hr, hr'⟩ := ih (i + 1) (Int.tmod (wrap64 ((wrap64 ((wrap64 (41 * h)) + (wrap64 (bt s i)))) + 1)) 999979) k (by omega) (by omega) (by omega) (by omega) (by omega) (by omega)
    refine ⟨r, b, b', ?_, ?_⟩
    · simp only [spec_l1Sum.l0]; rw [if_pos (by omega), if_pos h0, w64 (x := i + 1) (by omega) (by omega)]; exact hr
    · simp only [impl_Checksum.l0]; rw [if_pos (by omega), if_pos h0, if_pos (by omega), w64 (x := i + 1) (by omega) (by omega)]; exact hr'
theorem seal_ (s : ByteArray) (hs : s.size ≤ 4000) : ∃ n : Int, -1000000 < n ∧ n < 1000000 ∧ (∀ k, 4001 ≤ k → impl_Checksum.f k s = some (n, true)) ∧ ∀ k, 4001 ≤ k → spec_l1Seal.f k s = some (s ++ ⟨#[35]⟩ ++ ⟨(Lib.itoa n).toArray⟩) := by
  obtain ⟨n, b, b', h1, h2⟩ := sum_b s hs s.size 0 7 4001 (by omega) (by omega) (by omega) (by omega) (by omega) (by omega)
  refine ⟨n, b, b', fun k hk => at_rounds (fun k => impl_Checksum.mono s k) hk (by unfold impl_Checksum.f; rw [if_neg (by omega)]; exact h2), fun k hk => at_rounds (fun k => spec_l1Seal.mono s k) hk ?_⟩
  unfold spec_l1Seal.f spec_l1Sum.f
  rw [h1]
  simp only [Option.bind_some, num_ n (by omega) (by omega) 4001 (by omega)]
  have l := itoa_len' n (by omega) (by omega)
  rw [if_pos (by omega), if_pos (by rw [szC, show (⟨#[35]⟩ : ByteArray).size = 1 from rfl]; omega)]
theorem index_one (b : UInt8) : ∀ s : List UInt8, Lib.index s [b] = if b ∈ s then (s.idxOf b : Int) else -1
  | [] => by simp [Lib.index]
  | x :: l => by
    have hl := index_one b l
    unfold Lib.index
    by_cases hx : b = x
    · subst hx; simp [List.isPrefixOf]
    · have hx' : ¬ x = b := fun e => hx e.symm
      have e1 : (([b] : List UInt8).isPrefixOf (x :: l)) = false := by simp [List.isPrefixOf, hx]
      rw [e1, hl]
      simp only [Bool.false_eq_true, if_false]
      by_cases hm : b ∈ l
      · have : ((List.idxOf b l : Int) == -1) = false := by rw [beq_eq_false_iff_ne]; omega
        simp only [hm, if_true, List.mem_cons, or_true, this, Bool.false_eq_true, if_false]
        have : List.idxOf b (x :: l) = List.idxOf b l + 1 := by have e : (x == b) = false := beq_eq_false_iff_ne.2 hx'; rw [List.idxOf_cons, e]; rfl
        rw [this]
        omega
      · simp only [hm, if_false, List.mem_cons, hx, or_self]
        rfl
theorem bt_list (s : ByteArray) (i : Nat) (h : i < s.size) : bt s (i : Int) = ((s.data.toList[i]'(by simpa using h)).toNat : Int) := by
  unfold bt
  rw [dif_pos (by simpa using h)]
  simp [ByteArray.getElem_eq_getElem_data]
theorem bt_35 (s : ByteArray) (i : Nat) (h : i < s.size) (b : UInt8) : bt s (i : Int) = (b.toNat : Int) ↔ s.data.toList[i]'(by simpa using h) = b := by
  rw [bt_list s i h]
  constructor
  · intro e; exact UInt8.toNat_inj.1 (by omega)
  · intro e; rw [e]

theorem szD (s : ByteArray) : s.data.toList.length = s.size := by simp
theorem toList_inj {a b : ByteArray} (h : a.toList = b.toList) : a = b := by
  rw [ByteArray.toList_eq, ByteArray.toList_eq] at h
  exact Go.WideShapes.bytes_inj h
theorem split_l0 (s : ByteArray) (hs : s.size ≤ 1048576) (d : Nat) : ∀ (i x k : Nat) (acc : List ByteArray), i + d = s.size → d < k → x ≤ i → acc.length ≤ i →
    ∃ L, spec_l1Split.l0 k s 35 acc (x : Int) (i : Int) = some (acc ++ s.extract x (i + List.idxOf 35 (s.data.toList.drop i)) :: L) := by
  induction d with
  | zero =>
    intro i x k acc hi hk hx ha
    obtain ⟨k, rfl⟩ : ∃ m, k = m + 1 := ⟨k - 1, by omega⟩
    refine ⟨[], ?_⟩
    simp only [spec_l1Split.l0]
    rw [if_neg (by omega), if_pos (by omega), if_pos (by omega), if_pos (by omega), List.drop_eq_nil_of_le (by rw [szD]; omega)]
    simp only [List.idxOf_nil, Nat.add_zero]
    rw [show ((x : Int)).toNat = x by omega, show s.size = i by omega]
  | succ d ih =>
    intro i x k acc hi hk hx ha
    obtain ⟨k, rfl⟩ : ∃ m, k = m + 1 := ⟨k - 1, by omega⟩
    have hlt : i < s.data.toList.length := by rw [szD]; omega
    have e35 : bt s (i : Int) = 35 ↔ s.data.toList[i] = 35 := bt_35 s i (by omega) 35
    simp only [spec_l1Split.l0]
    rw [if_pos (by omega), if_pos (by omega), List.drop_eq_getElem_cons hlt, w64 (x := (i : Int) + 1) (by omega) (by omega), show (i : Int) + 1 = ((i + 1 : Nat) : Int) by omega]
    by_cases hb : s.data.toList[i] = 35
    · rw [if_pos (e35.2 hb), if_pos (by omega), if_pos (by omega), if_pos (by omega), if_pos (by omega)]
      obtain ⟨L, hL⟩ := ih (i + 1) (i + 1) k (acc ++ [s.extract ((x : Int)).toNat ((i : Int)).toNat]) (by omega) (by omega) (by omega) (by simp; omega)
      refine ⟨s.extract (i + 1) (i + 1 + List.idxOf 35 (List.drop (i + 1) s.data.toList)) :: L, ?_⟩
      rw [hL, hb, List.append_assoc]
      simp only [List.idxOf_cons_self, Nat.add_zero, List.cons_append, List.nil_append, Int.toNat_natCast]
    · rw [if_neg (fun e => hb (e35.1 e))]
      obtain ⟨L, hL⟩ := ih (i + 1) x k acc (by omega) (by omega) (by omega) (by omega)
      refine ⟨L, ?_⟩
      have : List.idxOf 35 (s.data.toList[i] :: s.data.toList.drop (i + 1)) = List.idxOf 35 (s.data.toList.drop (i + 1)) + 1 := by
        have e : (s.data.toList[i] == 35) = false := beq_eq_false_iff_ne.2 hb
        rw [List.idxOf_cons, e]; rfl
      rw [hL, this, show i + 1 + List.idxOf 35 (s.data.toList.drop (i + 1)) = i + (List.idxOf 35 (s.data.toList.drop (i + 1)) + 1) by omega]
theorem cut_ (s : ByteArray) (hs : s.size ≤ 1048576) : ∃ x y, strings_Cut.f s ⟨#[35]⟩ = some (s.extract 0 (List.idxOf 35 s.data.toList), x, y) := by
  unfold strings_Cut.f Own.cutF
  rw [if_pos (by omega)]
  refine ⟨⟨(Lib.cut s.data.toList (⟨#[35]⟩ : ByteArray).data.toList).2.1.toArray⟩, (Lib.cut s.data.toList (⟨#[35]⟩ : ByteArray).data.toList).2.2, ?_⟩
  congr 2
  apply ByteArray.ext
  unfold Lib.cut
  rw [index_one]
  apply Array.ext'
  by_cases h : (35 : UInt8) ∈ s.data.toList
  · rw [if_pos h, if_pos (by omega)]
    simp
  · rw [if_neg h, if_neg (by omega), List.idxOf_eq_length h]
    simp
theorem no_sep (s : ByteArray) : ¬ (35 : UInt8) ∈ (s.extract 0 (List.idxOf 35 s.data.toList)).data.toList := by
  have : (s.extract 0 (List.idxOf 35 s.data.toList)).data.toList = s.data.toList.take (List.idxOf 35 s.data.toList) := by simp
  rw [this]
  intro h
  generalize s.data.toList = l at h
  induction l with
  | nil => simp at h
  | cons x l ih =>
    by_cases hx : x = 35
    · subst hx; simp at h
    · have e : (x == (35 : UInt8)) = false := beq_eq_false_iff_ne.2 hx
      rw [List.idxOf_cons, e] at h
      simp only [cond_false, List.take_succ_cons, List.mem_cons] at h
      rcases h with h | h
      · exact hx h.symm
      · exact ih h
theorem append_ (p : ByteArray) (hs : p.size ≤ 1048576) (hn : ¬ (35 : UInt8) ∈ p.data.toList) :
    (p.size > 4000 ∧ impl_AppendChecksum.f 4001 p = some (⟨#[]⟩, false)) ∨ (p.size ≤ 4000 ∧ ∃ t, spec_l1Seal.f 4001 p = some t ∧ impl_AppendChecksum.f 4001 p = if (t.size : Int) > 4000 then some (⟨#[]⟩, false) else some (t, true)) := by
  unfold impl_AppendChecksum.f impl_decimal.f
  by_cases h4 : p.size > 4000
  · refine Or.inl ⟨h4, ?_⟩
    have e : impl_Checksum.f 4001 p = some (0, false) := by unfold impl_Checksum.f; rw [if_pos (by omega)]
    have l := itoa_len' 0 (by omega) (by omega)
    rw [e]
    simp only [Option.bind_some, itoa_ 0 (by omega) (by omega)]
    rw [if_pos (by omega), if_pos (by rw [szC, show (⟨#[35]⟩ : ByteArray).size = 1 from rfl]; omega)]
    simp
  · refine Or.inr ⟨by omega, ?_⟩
    obtain ⟨n, b, b', hi, hq⟩ := seal_ p (by omega)
    have l := itoa_len' n (by omega) (by omega)
    have hct : strings_Contains.f p ⟨#[35]⟩ = some false := by
      unfold strings_Contains.f Own.containsF Lib.contains
      rw [if_pos (by omega), index_one, if_neg hn]
      rfl
    have c1 : p.size + 1 ≤ 9223372036854775807 := by omega
    have c2 : (p ++ (⟨#[35]⟩ : ByteArray)).size + (⟨(Lib.itoa n).toArray⟩ : ByteArray).size ≤ 9223372036854775807 := by rw [szC, show (⟨#[35]⟩ : ByteArray).size = 1 from rfl]; omega
    refine ⟨_, hq 4001 (by omega), ?_⟩
    rw [hi 4001 (by omega)]
    simp only [Option.bind_some, itoa_ n (by omega) (by omega), hct, c1, c2, if_true, Bool.false_eq_true, if_false]
theorem FnExactVerifyChecksum (s : ByteArray) (hs0 : s.size ≤ maxLen) : ∃ k, laws_FnExactVerifyChecksum.f k s = some true := by
  refine ⟨4001, ?_⟩
  unfold laws_FnExactVerifyChecksum.f
  by_cases hb : (s.size : Int) > 1048576
  · rw [if_pos hb]
  rw [if_neg hb]
  unfold spec_VerifyChecksum.f impl_VerifyChecksum.f
  obtain ⟨x, y, hc⟩ := cut_ s (by omega)
  have hp : (s.extract 0 (List.idxOf 35 s.data.toList)).size ≤ s.size := by simp; omega
  have hA := append_ _ (by omega) (no_sep s)
  rw [hc]
  simp only [Option.bind_some]
  by_cases h4 : (s.size : Int) > 4000
  · rw [if_pos h4]
    rcases hA with ⟨_, hA⟩ | ⟨_, t, _, hA⟩
    · rw [hA]; simp
    · rw [hA]
      by_cases ht : (t.size : Int) > 4000
      · rw [if_pos ht]; simp
      · rw [if_neg ht]
        have : ¬ t.toList = s.toList := fun e => by
          have e2 : t = s := toList_inj e
          rw [e2] at ht; exact ht h4
        simp [this]
  rw [if_neg h4]
  rcases hA with ⟨h5, _⟩ | ⟨_, t, hq, hA⟩
  · omega
  obtain ⟨L, hL⟩ := split_l0 s (by omega) s.size 0 0 4001 [] (by omega) (by omega) (by omega) (by simp)
  have hL' : spec_l1Split.f 4001 s 35 = some (s.extract 0 (List.idxOf 35 s.data.toList) :: L) := by unfold spec_l1Split.f; simpa using hL
  rw [hL']
  simp only [Option.bind_some]
  rw [if_pos (by simp only [List.length_cons]; omega)]
  have hr : rdOf ByteArray.empty (s.extract 0 (List.idxOf 35 s.data.toList) :: L) 0 = s.extract 0 (List.idxOf 35 s.data.toList) := rfl
  rw [hr, hq, hA]
  simp only [Option.bind_some]
  by_cases ht : (t.size : Int) > 4000
  · have : ¬ t.toList = s.toList := fun e => by
      have e2 : t = s := toList_inj e
      rw [e2] at ht; exact h4 ht
    rw [if_pos ht]; simp [this]
  · rw [if_neg ht]
    by_cases e : t.toList = s.toList
    · simp [e]
    · simp [e]

end Go.Proofs.YthdcmcackobodaaDoor.Pure
