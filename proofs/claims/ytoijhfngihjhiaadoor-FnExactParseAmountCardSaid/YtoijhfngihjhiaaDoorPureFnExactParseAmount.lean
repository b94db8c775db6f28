/- The program's ParseAmount and the reference's return the same for every text; no condition. -/
import Derived.Test.YtoijhfngihjhiaaDoorQFnExactParseAmountx3
namespace Go.Proofs.YtoijhfngihjhiaaDoor.Pure
open Go.RowKit Go.Proofs.YtoijhfngihjhiaaDoor.QFnExactParseAmount Go.Proofs.YtoijhfngihjhiaaDoorW.PrintWords Go.Proofs.YtoijhfngihjhiaaDoorW.PrintLast Go.Proofs.YtoijhfngihjhiaaDoorW.PrintMore
set_option linter.unusedVariables false
set_option linter.unusedSimpArgs false

theorem w64 {x : Int} (h : -9223372036854775808 ≤ x) (h' : x ≤ 9223372036854775807) : wrap64 x = x := by unfold wrap64; omega
theorem tdv {x : Int} (n : Int) (h : 0 ≤ x) : Int.tdiv x n = x / n := Int.tdiv_eq_ediv_of_nonneg h
theorem tmd {x : Int} (n : Int) (h : 0 ≤ x) : Int.tmod x n = x % n := Int.tmod_eq_emod_of_nonneg h
theorem wfb {a : Int} (h : (Lit.int .i64 a).wf = true) : -9223372036854775808 ≤ a ∧ a ≤ 9223372036854775807 := by
  simp [Lit.wf, IntKind.min, IntKind.max, IntKind.signed, IntKind.bits] at h
  omega
theorem within_ {x a b : Int} : (if x ≥ a then some (decide (x ≤ b)) else some false) = some (decide (a ≤ x ∧ x ≤ b)) := by
  by_cases h : x ≥ a
  · rw [if_pos h]; congr 1; simp; omega
  · rw [if_neg h]; congr 1; simp; omega

theorem digit_ (d : Nat) (h : d < 10) : (⟨#[48, 49, 50, 51, 52, 53, 54, 55, 56, 57]⟩ : ByteArray).extract d (d + 1) = ⟨#[UInt8.ofNat (48 + d)]⟩ := by
  match d, h with
  | 0, _ => rfl
  | 1, _ => rfl
  | 2, _ => rfl
  | 3, _ => rfl
  | 4, _ => rfl
  | 5, _ => rfl
  | 6, _ => rfl
  | 7, _ => rfl
  | 8, _ => rfl
  | 9, _ => rfl
theorem digits_len (k : Nat) : ∀ u : Nat, u < 10 ^ (k + 1) → (Lib.decDigits u).length ≤ k + 1 := by
  induction k with
  | zero => intro u hu; rw [Lib.decDigits]; split <;> simp_all
  | succ k ih =>
    intro u hu
    rw [Lib.decDigits]
    split
    · simp
    · have : u / 10 < 10 ^ (k + 1) := by rw [Nat.div_lt_iff_lt_mul (by omega)]; rw [Nat.pow_succ] at hu; omega
      have := ih _ this
      simp; omega
theorem app_mk (a b : Array UInt8) : (⟨a⟩ : ByteArray) ++ ⟨b⟩ = ⟨a ++ b⟩ := by apply ByteArray.ext; simp
theorem sz_mk (a : Array UInt8) : (⟨a⟩ : ByteArray).size = a.size := rfl
theorem num_some (k : Nat) : ∀ n : Int, 0 ≤ n → n < 10 ^ (k + 1) → n < 9223372036854775807 → k ≤ 30 → spec_l1Num.f (k + 1) n = some ⟨(Lib.decDigits n.toNat).toArray⟩ := by
  induction k with
  | zero =>
    intro n h0 h1 h2 hk
    obtain ⟨u, rfl⟩ : ∃ u : Nat, n = u := ⟨n.toNat, by omega⟩
    have hu : u < 10 := by omega
    unfold spec_l1Num.f
    rw [if_neg (by omega), if_pos (by omega), if_pos h0, w64 (x := (u : Int) + 1) (by omega) (by omega), if_pos (by omega), if_pos (by omega)]
    rw [show ((u : Int) + 1).toNat = u + 1 by omega, show ((u : Int)).toNat = u by omega, digit_ u hu, Lib.decDigits, dif_pos hu]
  | succ k ih =>
    intro n h0 h1 h2 hk
    obtain ⟨u, rfl⟩ : ∃ u : Nat, n = u := ⟨n.toNat, by omega⟩
    by_cases hu : u < 10
    · unfold spec_l1Num.f
      rw [if_neg (by omega), if_pos (by omega), if_pos h0, w64 (x := (u : Int) + 1) (by omega) (by omega), if_pos (by omega), if_pos (by omega)]
      rw [show ((u : Int) + 1).toNat = u + 1 by omega, show ((u : Int)).toNat = u by omega, digit_ u hu, Lib.decDigits, dif_pos hu]
    · have e1 : Int.tdiv (u : Int) 10 = ((u / 10 : Nat) : Int) := by rw [Int.tdiv_eq_ediv_of_nonneg h0]; omega
      have e2 : Int.tmod (u : Int) 10 = ((u % 10 : Nat) : Int) := by rw [Int.tmod_eq_emod_of_nonneg h0]; omega
      have hu2 : u < 10 ^ (k + 1 + 1) := by exact_mod_cast h1
      have hu1 : u / 10 < 10 ^ (k + 1) := by rw [Nat.div_lt_iff_lt_mul (by omega)]; rw [Nat.pow_succ] at hu2; omega
      have hi := ih ((u / 10 : Nat) : Int) (by omega) (by exact_mod_cast hu1) (by omega) (by omega)
      have hl := digits_len k (u / 10) hu1
      unfold spec_l1Num.f
      rw [if_neg (by omega), if_neg (by omega), e1, w64 (x := ((u / 10 : Nat) : Int)) (by omega) (by omega), hi, Option.bind_some, e2]
      rw [w64 (x := ((u % 10 : Nat) : Int) + 1) (by omega) (by omega), if_pos (by omega), if_pos (by omega), if_pos (by omega)]
      rw [show (((u % 10 : Nat) : Int) + 1).toNat = u % 10 + 1 by omega, show (((u % 10 : Nat) : Int)).toNat = u % 10 by omega, show (((u / 10 : Nat) : Int)).toNat = u / 10 by omega, show ((u : Int)).toNat = u by omega, digit_ (u % 10) (by omega)]
      rw [if_pos (by simp only [sz_mk, List.size_toArray, List.length_cons, List.length_nil]; omega), app_mk]
      have e3 : Lib.decDigits u = Lib.decDigits (u / 10) ++ [UInt8.ofNat (48 + u % 10)] := by rw [Lib.decDigits, dif_neg hu]
      rw [e3]
      simp
theorem num_ (n : Int) (h0 : -1000000000000000000 < n) (h1 : n < 1000000000000000000) : ∀ k, 20 ≤ k → spec_l1Num.f k n = some ⟨(Lib.itoa n).toArray⟩ := by
  intro k hk
  refine at_rounds (fun k => spec_l1Num.mono n k) hk ?_
  unfold Lib.itoa
  by_cases hn : n < 0
  · rw [if_pos hn]
    have hu : n.natAbs < 10 ^ 19 := by omega
    have hl := digits_len 18 n.natAbs hu
    have hs := num_some 18 (-n) (by omega) (by omega) (by omega) (by omega)
    unfold spec_l1Num.f
    rw [if_pos hn, w64 (x := -n) (by omega) (by omega), hs, Option.bind_some, show (-n).toNat = n.natAbs by omega, if_pos (by simp only [sz_mk, List.size_toArray]; omega), app_mk]
    simp
  · rw [if_neg hn]
    exact num_some 19 n (by omega) (by omega) (by omega) (by omega)
theorem itoa_ (n : Int) (h0 : -1000000000000000000 < n) (h1 : n < 1000000000000000000) : strconv_Itoa.f n = some ⟨(Lib.itoa n).toArray⟩ := by
  unfold strconv_Itoa.f Own.itoaF
  rw [if_pos (by omega)]

theorem toList_inj {a b : ByteArray} (h : a.toList = b.toList) : a = b := by
  rw [ByteArray.toList_eq, ByteArray.toList_eq] at h
  exact Go.WideShapes.bytes_inj h
theorem szD (s : ByteArray) : s.data.toList.length = s.size := by simp
theorem rdOf_nat (l : List ByteArray) (i : Nat) (h : i < l.length) : rdOf ByteArray.empty l (i : Int) = l[i] := by
  unfold rdOf; rw [Int.toNat_natCast, List.getD_eq_getElem?_getD, List.getElem?_eq_getElem h]; rfl

theorem index_one (b : UInt8) : ∀ s : List UInt8, Lib.index s [b] = if b ∈ s then (s.idxOf b : Int) else -1
  | [] => by simp [Lib.index]
  | x :: l => by
    have hl := index_one b l
    unfold Lib.index
    by_cases hx : b = x
    · subst hx; simp [List.isPrefixOf]
    · have hx' : ¬ x = b := fun e => hx e.symm
      have e1 : (([b] : List UInt8).isPrefixOf (x :: l)) = false := by simp [List.isPrefixOf, hx]
      rw [e1, hl]
      simp only [Bool.false_eq_true, if_false]
      by_cases hm : b ∈ l
      · have : ((List.idxOf b l : Int) == -1) = false := by rw [beq_eq_false_iff_ne]; omega
        simp only [hm, if_true, List.mem_cons, or_true, this, Bool.false_eq_true, if_false]
        have : List.idxOf b (x :: l) = List.idxOf b l + 1 := by have e : (x == b) = false := beq_eq_false_iff_ne.2 hx'; rw [List.idxOf_cons, e]; rfl
        rw [this]
        omega
      · simp only [hm, if_false, List.mem_cons, hx, or_self]
        rfl
theorem bt_list (s : ByteArray) (i : Nat) (h : i < s.size) : bt s (i : Int) = ((s.data.toList[i]'(by simpa using h)).toNat : Int) := by
  unfold bt
  rw [dif_pos (by simpa using h)]
  simp [ByteArray.getElem_eq_getElem_data]
theorem bt_35 (s : ByteArray) (i : Nat) (h : i < s.size) (b : UInt8) : bt s (i : Int) = (b.toNat : Int) ↔ s.data.toList[i]'(by simpa using h) = b := by
  rw [bt_list s i h]
  constructor
  · intro e; exact UInt8.toNat_inj.1 (by omega)
  · intro e; rw [e]

/-- A byte is a decimal digit. -/
def isDg (c : UInt8) : Prop := 48 ≤ c.toNat ∧ c.toNat ≤ 57
instance (c : UInt8) : Decidable (isDg c) := by unfold isDg; infer_instance
/-- The number that digits spell behind a number that stands already. -/
def dec (a : Nat) (l : List UInt8) : Nat := l.foldl (fun a c => 10 * a + (c.toNat - 48)) a
theorem dec_cons (a : Nat) (c : UInt8) (l : List UInt8) : dec a (c :: l) = dec (10 * a + (c.toNat - 48)) l := by simp only [dec, List.foldl_cons]
theorem dec_app (a : Nat) (l m : List UInt8) : dec a (l ++ m) = dec (dec a l) m := by unfold dec; rw [List.foldl_append]
theorem dig_nat (u : Nat) (h : u < 10) : (UInt8.ofNat (48 + u)).toNat = 48 + u := by rw [UInt8.toNat_ofNat']; omega
theorem dec_dig (u : Nat) : dec 0 (Lib.decDigits u) = u ∧ (∀ c ∈ Lib.decDigits u, isDg c) ∧ 1 ≤ (Lib.decDigits u).length := by
  induction u using Nat.strongRecOn with
  | _ u ih =>
    rw [Lib.decDigits]
    by_cases h : u < 10
    · rw [dif_pos h]
      refine ⟨?_, ?_, by simp⟩
      · show 10 * 0 + ((UInt8.ofNat (48 + u)).toNat - 48) = u
        rw [dig_nat u h]; omega
      · intro c hc
        obtain rfl := List.mem_singleton.1 hc
        unfold isDg
        rw [dig_nat u h]; omega
    · rw [dif_neg h]
      obtain ⟨e1, e2, e3⟩ := ih (u / 10) (by omega)
      have hd := dig_nat (u % 10) (by omega)
      refine ⟨?_, ?_, by simp⟩
      · rw [dec_app, e1]
        show 10 * (u / 10) + ((UInt8.ofNat (48 + u % 10)).toNat - 48) = u
        rw [hd]; omega
      · intro c hc
        rcases List.mem_append.1 hc with hc | hc
        · exact e2 c hc
        · obtain rfl := List.mem_singleton.1 hc
          unfold isDg
          rw [hd]; omega
theorem parse_dg (l : List UInt8) : ∀ a, (∀ c ∈ l, isDg c) → (a + 1) * 10 ^ l.length ≤ 1000000000000000000 → Lib.parseUint10 a l = .ok (dec a l) := by
  induction l with
  | nil => intro a _ _; rfl
  | cons c l ih =>
    intro a h h1
    have hc := h c (by simp)
    have hp : 1 ≤ 10 ^ l.length := Nat.one_le_pow _ _ (by decide)
    have h2 : (10 * a + 10) * 10 ^ l.length ≤ 1000000000000000000 := by
      rw [List.length_cons, Nat.pow_succ, ← Nat.mul_assoc, Nat.mul_right_comm] at h1
      rw [show 10 * a + 10 = (a + 1) * 10 by omega]; exact h1
    have h3 : 10 * a + 10 ≤ 1000000000000000000 := Nat.le_trans (Nat.le_mul_of_pos_right _ hp) h2
    unfold isDg at hc
    unfold Lib.parseUint10
    rw [if_pos hc, if_neg (by omega), if_neg (by omega), ih _ (fun c hc => h c (by simp [hc])) (Nat.le_trans (Nat.mul_le_mul_right _ (by omega)) h2), dec_cons, Nat.mul_comm a 10]
theorem dec_lt (l : List UInt8) : ∀ a, (∀ c ∈ l, isDg c) → dec a l + 1 ≤ (a + 1) * 10 ^ l.length := by
  induction l with
  | nil => intro a _; simp [dec]
  | cons c l ih =>
    intro a h
    have hc := h c (by simp)
    unfold isDg at hc
    rw [dec_cons, List.length_cons, Nat.pow_succ]
    refine Nat.le_trans (ih _ (fun c hc => h c (by simp [hc]))) ?_
    rw [Nat.mul_comm (10 ^ l.length) 10, ← Nat.mul_assoc]
    exact Nat.mul_le_mul_right _ (by omega)
/-- A text of digits, and one of a minus and digits, as strconv.Atoi reads them. -/
theorem atoi_dg (s : ByteArray) (hd : ∀ c ∈ s.data.toList, isDg c) (h1 : 1 ≤ s.data.toList.length) (h2 : s.data.toList.length ≤ 18) : Own.atoiF s = some (dec 0 s.data.toList : Int) := by
  unfold Own.atoiF Lib.atoiAll
  generalize s.data.toList = l at *
  cases l with
  | nil => simp at h1
  | cons c r =>
    have hc := hd c (by simp)
    unfold isDg at hc
    have hp : 10 ^ (c :: r).length ≤ 1000000000000000000 := Nat.le_trans (Nat.pow_le_pow_right (by decide) h2) (by decide)
    have hl := dec_lt (c :: r) 0 hd
    have e : Lib.parseMag (if c.toNat = 43 ∨ c.toNat = 45 then r else c :: r) = .ok (dec 0 (c :: r)) := by
      rw [if_neg (by omega)]
      unfold Lib.parseMag
      rw [if_neg (by simp), parse_dg _ 0 hd (by omega)]
    simp only [e]
    rw [if_neg (by omega), if_neg (by omega), if_neg (by omega)]
theorem atoi_neg (s : ByteArray) (l : List UInt8) (hs : s.data.toList = 45 :: l) (hd : ∀ c ∈ l, isDg c) (h1 : 1 ≤ l.length) (h2 : l.length ≤ 18) : Own.atoiF s = some (-(dec 0 l : Int)) := by
  unfold Own.atoiF Lib.atoiAll
  rw [hs]
  have hp : 10 ^ l.length ≤ 1000000000000000000 := Nat.le_trans (Nat.pow_le_pow_right (by decide) h2) (by decide)
  have hl := dec_lt l 0 hd
  have h45 : (45 : UInt8).toNat = 45 := rfl
  have e : Lib.parseMag (if (45 : UInt8).toNat = 43 ∨ (45 : UInt8).toNat = 45 then l else 45 :: l) = .ok (dec 0 l) := by
    rw [if_pos (by omega)]
    unfold Lib.parseMag
    rw [if_neg (by intro h; subst h; simp at h1), parse_dg _ 0 hd (by omega)]
  simp only [e]
  rw [if_neg (by omega), if_neg (by omega), if_pos h45]
/-- The numeral of a number is read as the number. -/
theorem atoi_itoa (s : ByteArray) (n : Int) (hs : s.data.toList = Lib.itoa n) (h0 : -1000000000000 < n) (h1 : n < 1000000000000) : Own.atoiF s = some n := by
  unfold Lib.itoa at hs
  by_cases hn : n < 0
  · rw [if_pos hn] at hs
    obtain ⟨e1, e2, e3⟩ := dec_dig n.natAbs
    have hl := digits_len 17 n.natAbs (by omega)
    rw [atoi_neg s _ hs e2 e3 hl, e1]
    congr 1; omega
  · rw [if_neg hn] at hs
    obtain ⟨e1, e2, e3⟩ := dec_dig n.toNat
    have hl := digits_len 17 n.toNat (by omega)
    rw [atoi_dg s (by rw [hs]; exact e2) (by rw [hs]; exact e3) (by rw [hs]; exact hl), hs, e1]
    congr 1; omega

theorem itoa_nat (u : Nat) : Lib.itoa (u : Int) = Lib.decDigits u := by unfold Lib.itoa; rw [if_neg (by omega)]; simp
theorem dig1 (u : Nat) (h : u < 10) : (Lib.decDigits u).length = 1 := by rw [Lib.decDigits, dif_pos h]; rfl
theorem digS (u n : Nat) (h : 10 ≤ u) (hn : (Lib.decDigits (u / 10)).length = n) : (Lib.decDigits u).length = n + 1 := by
  have e3 : Lib.decDigits u = Lib.decDigits (u / 10) ++ [UInt8.ofNat (48 + u % 10)] := by rw [Lib.decDigits, dif_neg (by omega)]
  rw [e3]; simp [hn]
theorem itoa_s (n : Int) : (⟨(Lib.itoa n).toArray⟩ : ByteArray).size = (Lib.itoa n).length := by simp [sz_mk]
theorem itoa_len (n : Int) (h0 : 0 ≤ n) (h1 : n < 1000000000000000000) : (⟨(Lib.itoa n).toArray⟩ : ByteArray).size ≤ 19 := by
  obtain ⟨u, rfl⟩ : ∃ u : Nat, n = u := ⟨n.toNat, by omega⟩
  rw [itoa_s, itoa_nat]
  exact digits_len 18 u (by omega)
theorem itoa_len' (n : Int) (h0 : -1000000000000000000 < n) (h1 : n < 1000000000000000000) : (⟨(Lib.itoa n).toArray⟩ : ByteArray).size ≤ 20 := by
  by_cases h : 0 ≤ n
  · have := itoa_len n h h1; omega
  · rw [itoa_s]
    unfold Lib.itoa
    rw [if_pos (by omega)]
    have := digits_len 18 n.natAbs (by omega)
    simp only [List.length_cons]; omega
theorem itoa_1 (n : Int) (h0 : 0 ≤ n) (h1 : n < 10) : (⟨(Lib.itoa n).toArray⟩ : ByteArray).size = 1 := by
  obtain ⟨u, rfl⟩ : ∃ u : Nat, n = u := ⟨n.toNat, by omega⟩
  rw [itoa_s, itoa_nat]
  exact dig1 u (by omega)
theorem itoa_2 (n : Int) (h0 : 10 ≤ n) (h1 : n < 100) : (⟨(Lib.itoa n).toArray⟩ : ByteArray).size = 2 := by
  obtain ⟨u, rfl⟩ : ∃ u : Nat, n = u := ⟨n.toNat, by omega⟩
  rw [itoa_s, itoa_nat]
  exact digS u 1 (by omega) (dig1 _ (by omega))
theorem itoa_4 (n : Int) (h0 : 1000 ≤ n) (h1 : n < 10000) : (⟨(Lib.itoa n).toArray⟩ : ByteArray).size = 4 := by
  obtain ⟨u, rfl⟩ : ∃ u : Nat, n = u := ⟨n.toNat, by omega⟩
  rw [itoa_s, itoa_nat]
  exact digS u 3 (by omega) (digS _ 2 (by omega) (digS _ 1 (by omega) (dig1 _ (by omega))))

theorem padded_1 (k : Nat) (n : Int) (h0 : 0 ≤ n) (h1 : n < 10) : impl_padded.f (k + 2) n 2 = some (⟨#[48]⟩ ++ ⟨(Lib.itoa n).toArray⟩) := by
  have hs := itoa_1 n h0 h1
  have hs2 : ((⟨#[48]⟩ : ByteArray) ++ ⟨(Lib.itoa n).toArray⟩).size = 2 := by rw [ByteArray.size_append, hs]; rfl
  unfold impl_padded.f
  rw [itoa_ n (by omega) (by omega), Option.bind_some]
  simp only [impl_padded.l0]
  rw [if_pos (by rw [hs]; decide), if_pos (by rw [hs]; decide), if_neg (by rw [hs2]; decide)]
theorem padded_2 (k : Nat) (n : Int) (h0 : 10 ≤ n) (h1 : n < 100) : impl_padded.f (k + 1) n 2 = some ⟨(Lib.itoa n).toArray⟩ := by
  have hs := itoa_2 n h0 h1
  unfold impl_padded.f
  rw [itoa_ n (by omega) (by omega), Option.bind_some]
  simp only [impl_padded.l0]
  rw [if_neg (by rw [hs]; decide)]
theorem padded_4 (k : Nat) (n : Int) (h0 : 1000 ≤ n) (h1 : n < 10000) : impl_padded.f (k + 1) n 4 = some ⟨(Lib.itoa n).toArray⟩ := by
  have hs := itoa_4 n h0 h1
  unfold impl_padded.f
  rw [itoa_ n (by omega) (by omega), Option.bind_some]
  simp only [impl_padded.l0]
  rw [if_neg (by rw [hs]; decide)]

theorem szC (a b : ByteArray) : (a ++ b).size = a.size + b.size := ByteArray.size_append
def two (d : Nat) : List UInt8 := [UInt8.ofNat (48 + d / 10), UInt8.ofNat (48 + d % 10)]
theorem two_small (d : Nat) (h : d < 10) : 48 :: Lib.decDigits d = two d := by
  rw [Lib.decDigits, dif_pos h]
  unfold two
  rw [Nat.div_eq_of_lt h, Nat.mod_eq_of_lt h]
  rfl
theorem two_big (d : Nat) (h : 10 ≤ d) (h2 : d < 100) : Lib.decDigits d = two d := by
  rw [Lib.decDigits, dif_neg (by omega), Lib.decDigits, dif_pos (by omega)]
  rfl
theorem two_dg (d : Nat) (h : d < 100) : ∀ c ∈ two d, isDg c := by
  intro c hc
  unfold two at hc
  rcases List.mem_cons.1 hc with rfl | hc
  · unfold isDg; rw [dig_nat _ (by omega)]; omega
  · obtain rfl := List.mem_singleton.1 hc
    unfold isDg; rw [dig_nat _ (by omega)]; omega
theorem two_dec (a d : Nat) (h : d < 100) : dec a (two d) = 100 * a + d := by
  unfold two
  rw [dec_cons, dec_cons, dig_nat _ (by omega), dig_nat _ (by omega)]
  show 10 * (10 * a + (48 + d / 10 - 48)) + (48 + d % 10 - 48) = _
  omega

def amtL (m : Nat) : List UInt8 := Lib.decDigits (m / 100) ++ 46 :: two (m % 100)
/-- An amount's text. -/
def txt (x : Int) : List UInt8 := if x < 0 then 45 :: amtL x.natAbs else amtL x.natAbs
theorem amount_ (n m : Int) (s : ByteArray) (hs : s.size ≤ 1) (hm : m = n ∨ m = -n) (h0 : 0 ≤ m) (h1 : m ≤ 1000000000) : ∃ r, spec_l2Format.j0 30 m s = some r ∧ impl_amountText.j0 30 n s = some r ∧ r.data.toList = s.data.toList ++ amtL m.toNat := by
  have a1 : Lib.itoa (m / 100) = Lib.decDigits (m.toNat / 100) := by rw [← itoa_nat]; congr 1; omega
  have a2 : Lib.itoa (m % 100) = Lib.decDigits (m.toNat % 100) := by rw [← itoa_nat]; congr 1; omega
  have hz : impl_size.f n = some m := by
    unfold impl_size.f mx
    rw [w64 (x := -n) (by omega) (by omega)]
    rcases hm with rfl | rfl
    · congr 1; split <;> omega
    · congr 1; split <;> omega
  have e1 : Int.tdiv m 100 = m / 100 := tdv 100 h0
  have e2 : Int.tmod m 100 = m % 100 := tmd 100 h0
  have l1 := itoa_len (m / 100) (by omega) (by omega)
  have l2 := itoa_len (m % 100) (by omega) (by omega)
  have n1 := num_ (m / 100) (by omega) (by omega) 29 (by omega)
  have n2 := num_ (m % 100) (by omega) (by omega) 29 (by omega)
  have i1 := itoa_ (m / 100) (by omega) (by omega)
  have s1 : (⟨#[46]⟩ : ByteArray).size = 1 := rfl
  have s2 : (⟨#[48]⟩ : ByteArray).size = 1 := rfl
  by_cases hd : m % 100 < 10
  · have p1 := padded_1 27 (m % 100) (by omega) hd
    refine ⟨s ++ ⟨(Lib.itoa (m / 100)).toArray⟩ ++ ⟨#[46]⟩ ++ ⟨#[48]⟩ ++ ⟨(Lib.itoa (m % 100)).toArray⟩, ?_, ?_, ?_⟩
    · simp only [spec_l2Format.j0, e1, e2]
      rw [w64 (x := m / 100) (by omega) (by omega), n1, n2]
      simp only [Option.bind_some]
      rw [if_pos (by omega), if_pos (by rw [szC]; omega), if_pos hd, if_pos (by simp only [szC]; omega), if_pos (by simp only [szC]; omega)]
    · simp only [impl_amountText.j0, hz, Option.bind_some, e1, e2]
      rw [w64 (x := m / 100) (by omega) (by omega), i1]
      simp only [Option.bind_some, p1]
      rw [if_pos (by omega), if_pos (by rw [szC]; omega), if_pos (by simp only [szC]; omega)]
      simp only [ByteArray.append_assoc]
    · unfold amtL
      rw [← two_small (m.toNat % 100) (by omega), ← a1, ← a2]
      simp [ByteArray.data_append]
  · have p1 := padded_2 28 (m % 100) (by omega) (by omega)
    refine ⟨s ++ ⟨(Lib.itoa (m / 100)).toArray⟩ ++ ⟨#[46]⟩ ++ ⟨(Lib.itoa (m % 100)).toArray⟩, ?_, ?_, ?_⟩
    · simp only [spec_l2Format.j0, e1, e2]
      rw [w64 (x := m / 100) (by omega) (by omega), n1, n2]
      simp only [Option.bind_some]
      rw [if_pos (by omega), if_pos (by rw [szC]; omega), if_neg hd, if_pos (by simp only [szC]; omega)]
    · simp only [impl_amountText.j0, hz, Option.bind_some, e1, e2]
      rw [w64 (x := m / 100) (by omega) (by omega), i1]
      simp only [Option.bind_some, p1]
      rw [if_pos (by omega), if_pos (by rw [szC]; omega), if_pos (by simp only [szC]; omega)]
    · unfold amtL
      rw [← two_big (m.toNat % 100) (by omega) (by omega), ← a1, ← a2]
      simp [ByteArray.data_append]
theorem fmt_ (x : Int) (h0 : -1000000000 ≤ x) (h1 : x ≤ 1000000000) (k : Nat) (hk : 30 ≤ k) : ∃ r, spec_l2Format.f k x = some r ∧ impl_amountText.f k x = some r ∧ r.data.toList = txt x := by
  have : ∃ r, spec_l2Format.f 30 x = some r ∧ impl_amountText.f 30 x = some r ∧ r.data.toList = txt x := by
    unfold spec_l2Format.f impl_amountText.f txt
    by_cases hx : x < 0
    · obtain ⟨r, q1, q2, q3⟩ := amount_ x (-x) ⟨#[45]⟩ (by decide) (Or.inr rfl) (by omega) (by omega)
      rw [if_pos hx, if_pos hx, if_pos hx, w64 (x := -x) (by omega) (by omega)]
      refine ⟨r, q1, q2, ?_⟩
      rw [q3, show (-x).toNat = x.natAbs by omega]; rfl
    · obtain ⟨r, q1, q2, q3⟩ := amount_ x x ⟨#[]⟩ (by decide) (Or.inl rfl) (by omega) (by omega)
      rw [if_neg hx, if_neg hx, if_neg hx]
      refine ⟨r, q1, q2, ?_⟩
      rw [q3, show x.toNat = x.natAbs by omega]; rfl
  obtain ⟨r, q1, q2, q3⟩ := this
  exact ⟨r, at_rounds (fun k => spec_l2Format.mono x k) hk q1, at_rounds (fun k => impl_amountText.mono x k) hk q2, q3⟩

theorem listEq (r a : ByteArray) : r.toList = a.toList ↔ r.data.toList = a.data.toList := by rw [ByteArray.toList_eq, ByteArray.toList_eq]
theorem amt_ (x : Int) : spec_l2Amount.f x = some (decide (-1000000000 ≤ x ∧ x ≤ 1000000000)) := by unfold spec_l2Amount.f spec_l1In.f; rw [within_, Option.bind_some]
theorem amtI_ (x : Int) : impl_isAmount.f x = some (decide (-1000000000 ≤ x ∧ x ≤ 1000000000)) := by unfold impl_isAmount.f impl_within.f; rw [within_, Option.bind_some]
/-- Which bytes may stand from place i on. -/
def okL : Nat → List UInt8 → Bool
  | _, [] => true
  | i, c :: l => (decide (isDg c) || c == 46 || (c == 45 && i == 0)) && okL (i + 1) l
/-- The number of the digits among bytes. -/
def decF : Nat → List UInt8 → Nat
  | a, [] => a
  | a, c :: l => decF (if isDg c then 10 * a + (c.toNat - 48) else a) l
theorem okL_app (l m : List UInt8) : ∀ i, okL i (l ++ m) = (okL i l && okL (i + l.length) m) := by
  induction l with
  | nil => intro i; simp [okL]
  | cons c l ih => intro i; simp only [List.cons_append, okL, ih, Bool.and_assoc, List.length_cons]; rw [show i + 1 + l.length = i + (l.length + 1) by omega]
theorem okL_dg (l : List UInt8) (h : ∀ c ∈ l, isDg c) : ∀ i, okL i l = true := by
  induction l with
  | nil => intro i; rfl
  | cons c l ih => intro i; simp only [okL]; rw [ih (fun c hc => h c (by simp [hc])) (i + 1)]; simp [h c (by simp)]
theorem decF_app (l m : List UInt8) : ∀ a, decF a (l ++ m) = decF (decF a l) m := by
  induction l with
  | nil => intro a; rfl
  | cons c l ih => intro a; simp only [List.cons_append, decF, ih]
theorem decF_dg (l : List UInt8) (h : ∀ c ∈ l, isDg c) : ∀ a, decF a l = dec a l := by
  induction l with
  | nil => intro a; rfl
  | cons c l ih => intro a; rw [dec_cons]; simp only [decF]; rw [if_pos (h c (by simp)), ih (fun c hc => h c (by simp [hc]))]
theorem amtL_ok (M i : Nat) : okL i (amtL M) = true := by
  unfold amtL
  rw [okL_app, okL_dg _ (dec_dig _).2.1]
  simp only [okL, Bool.true_and]
  rw [okL_dg _ (two_dg _ (by omega))]
  simp
theorem amtL_dec (M : Nat) : decF 0 (amtL M) = M := by
  unfold amtL
  rw [decF_app, decF_dg _ (dec_dig _).2.1, (dec_dig _).1]
  simp only [decF]
  rw [if_neg (by decide), decF_dg _ (two_dg _ (by omega)), two_dec _ _ (by omega)]
  omega
theorem txt_ok (x : Int) : okL 0 (txt x) = true := by
  unfold txt
  split
  · simp only [okL]; rw [amtL_ok]; rfl
  · exact amtL_ok _ _
theorem txt_dec (x : Int) : decF 0 (txt x) = x.natAbs := by
  unfold txt
  split
  · simp only [decF]; rw [if_neg (by decide), amtL_dec]
  · exact amtL_dec _
theorem amtL_head (M : Nat) : ∃ c l, amtL M = c :: l ∧ isDg c := by
  obtain ⟨_, h2, h3⟩ := dec_dig (M / 100)
  unfold amtL
  cases hd : Lib.decDigits (M / 100) with
  | nil => rw [hd] at h3; simp at h3
  | cons c l => exact ⟨c, l ++ 46 :: two (M % 100), rfl, h2 c (by rw [hd]; simp)⟩
theorem txt_len (x : Int) (h0 : -1000000000 ≤ x) (h1 : x ≤ 1000000000) : 4 ≤ (txt x).length ∧ (txt x).length ≤ 12 := by
  have e3 := (dec_dig (x.natAbs / 100)).2.2
  have hl := digits_len 7 (x.natAbs / 100) (by omega)
  have : (amtL x.natAbs).length = (Lib.decDigits (x.natAbs / 100)).length + 3 := by unfold amtL two; simp
  unfold txt
  split
  · simp only [List.length_cons]; omega
  · omega
/-- What the reference says of the number that it read. -/
def F_ (a : ByteArray) (x : Int) : Int × Bool := if -1000000000 ≤ x ∧ x ≤ 1000000000 ∧ txt x = a.data.toList then (x, true) else (0, false)
theorem j2_ (a : ByteArray) (x : Int) (k : Nat) (hk : 31 ≤ k) : spec_ParseAmount.j2 k a x = some (F_ a x) := by
  obtain ⟨k, rfl⟩ : ∃ m, k = m + 1 := ⟨k - 1, by omega⟩
  simp only [spec_ParseAmount.j2]
  rw [amt_, Option.bind_some]
  unfold F_
  by_cases h : -1000000000 ≤ x ∧ x ≤ 1000000000
  · obtain ⟨r, q1, _, q3⟩ := fmt_ x h.1 h.2 k (by omega)
    rw [if_pos (decide_eq_true h), q1, Option.bind_some]
    by_cases e : txt x = a.data.toList
    · rw [if_pos ((listEq _ _).2 (q3.trans e)), if_pos ⟨h.1, h.2, e⟩]
    · rw [if_neg (fun h2 => e (q3.symm.trans ((listEq _ _).1 h2))), if_neg (fun h2 => e h2.2.2)]
  · rw [if_neg (by rw [decide_eq_true_eq]; exact h), if_neg (fun h2 => h ⟨h2.1, h2.2.1⟩)]
theorem loop_ (a : ByteArray) (h1 : 1 ≤ a.size) (hs : a.size ≤ 12) (d : Nat) : ∀ (i k x : Nat), i + d = a.size → 2 * d + 40 ≤ k → x < 10 ^ i →
    spec_ParseAmount.l0 k a (x : Int) (i : Int) = some (if okL i (a.data.toList.drop i) = true then F_ a (if bt a 0 = 45 then -(decF x (a.data.toList.drop i) : Int) else (decF x (a.data.toList.drop i) : Int)) else (0, false)) := by
  have hlen : a.data.toList.length = a.size := by simp
  induction d with
  | zero =>
    intro i k x hi hk hx
    obtain ⟨k, rfl⟩ : ∃ m, k = m + 1 := ⟨k - 1, by omega⟩
    have hp : 10 ^ i ≤ 10 ^ 12 := Nat.pow_le_pow_right (by decide) (by omega)
    have hp6 : 10 ^ 12 = 1000000000000 := by decide
    simp only [spec_ParseAmount.l0]
    rw [if_neg (by omega), if_pos (by omega), List.drop_eq_nil_of_le (by omega), if_pos (show okL i [] = true from rfl)]
    by_cases hb : bt a 0 = 45
    · rw [if_pos hb, if_pos hb, w64 (x := -(x : Int)) (by omega) (by omega)]
      exact j2_ a _ k (by omega)
    · rw [if_neg hb, if_neg hb]
      exact j2_ a _ k (by omega)
  | succ d ih =>
    intro i k x hi hk hx
    obtain ⟨k, rfl⟩ : ∃ m, k = m + 2 := ⟨k - 2, by omega⟩
    have hp : 10 ^ i ≤ 10 ^ 12 := Nat.pow_le_pow_right (by decide) (by omega)
    have hp6 : 10 ^ 12 = 1000000000000 := by decide
    have hlt : i < a.data.toList.length := by omega
    have hb := bt_list a i (by omega)
    rw [List.drop_eq_getElem_cons hlt]
    generalize hc : a.data.toList[i] = c at *
    have step : spec_ParseAmount.l0 (k + 2) a (x : Int) (i : Int) = spec_ParseAmount.j1 (k + 1) a (x : Int) (i : Int) (decide (isDg c)) := by
      simp only [spec_ParseAmount.l0]
      rw [if_pos (by omega), if_pos (by omega), hb]
      by_cases q : (c.toNat : Int) ≥ 48
      · rw [if_pos q]; congr 1; rw [decide_eq_decide]; unfold isDg; omega
      · rw [if_neg q]; congr 1; symm; rw [decide_eq_false_iff_not]; unfold isDg; omega
    rw [step]
    simp only [spec_ParseAmount.j1]
    have next : ∀ y : Nat, y < 10 ^ (i + 1) → spec_ParseAmount.l0 k a (y : Int) (wrap64 ((i : Int) + 1)) = some (if okL (i + 1) (a.data.toList.drop (i + 1)) = true then F_ a (if bt a 0 = 45 then -(decF y (a.data.toList.drop (i + 1)) : Int) else (decF y (a.data.toList.drop (i + 1)) : Int)) else (0, false)) := by
      intro y hy
      rw [w64 (x := (i : Int) + 1) (by omega) (by omega), show (i : Int) + 1 = ((i + 1 : Nat) : Int) by omega]
      exact ih (i + 1) k y (by omega) (by omega) hy
    by_cases hd : isDg c
    · have hd' := hd
      unfold isDg at hd'
      rw [if_pos (decide_eq_true hd), if_pos (by omega), if_pos (by omega), hb, w64 (x := 10 * (x : Int)) (by omega) (by omega), show ((c.toNat : Int) - 48) % 256 = ((c.toNat - 48 : Nat) : Int) by omega,
        w64 (x := 10 * (x : Int) + ((c.toNat - 48 : Nat) : Int)) (by omega) (by omega), show 10 * (x : Int) + ((c.toNat - 48 : Nat) : Int) = ((10 * x + (c.toNat - 48) : Nat) : Int) by omega, next _ (by rw [Nat.pow_succ]; omega)]
      simp only [okL, decF, hd, if_true, decide_true, Bool.true_or, Bool.true_and]
    · rw [if_neg (by rw [decide_eq_true_eq]; exact hd), if_pos (by omega), if_pos (by omega), hb]
      have c46 : ((c.toNat : Int) = 46) ↔ c = 46 := ⟨fun h => UInt8.toNat_inj.1 (by show c.toNat = 46; omega), fun h => by rw [h]; rfl⟩
      have c45 : ((c.toNat : Int) = 45) ↔ c = 45 := ⟨fun h => UInt8.toNat_inj.1 (by show c.toNat = 45; omega), fun h => by rw [h]; rfl⟩
      have hy : x < 10 ^ (i + 1) := by rw [Nat.pow_succ]; omega
      by_cases q1 : c = 46
      · rw [if_pos (c46.2 q1), next _ hy]
        have hd6 : ¬ isDg 46 := q1 ▸ hd
        subst q1
        simp [okL, decF, hd6]
      · rw [if_neg (fun h => q1 (c46.1 h))]
        by_cases q2 : c = 45
        · rw [if_pos (c45.2 q2)]
          by_cases q3 : (i : Int) > 0
          · rw [if_pos q3, if_neg]
            have : (i == 0) = false := beq_eq_false_iff_ne.2 (by omega)
            simp [okL, hd, q1, this]
          · rw [if_neg q3, next _ hy]
            have q4 : i = 0 := by omega
            subst q4
            have hd5 : ¬ isDg 45 := q2 ▸ hd
            subst q2
            simp [okL, decF, hd5]
        · rw [if_neg (fun h => q2 (c45.1 h)), if_neg]
          simp [okL, hd, q1, q2]
def goodA (s : ByteArray) (x : Int) : Prop := -1000000000 ≤ x ∧ x ≤ 1000000000 ∧ s.data.toList = txt x
theorem spec_no (s : ByteArray) (k : Nat) (hk : 100 ≤ k) (h : ∀ x, ¬ goodA s x) : spec_ParseAmount.f k s = some (0, false) := by
  have hF : ∀ x, F_ s x = (0, false) := fun x => by unfold F_; rw [if_neg]; intro q; exact h x ⟨q.1, q.2.1, q.2.2.symm⟩
  unfold spec_ParseAmount.f spec_l1In.f
  rw [within_, Option.bind_some]
  by_cases hs : (4 : Int) ≤ s.size ∧ (s.size : Int) ≤ 12
  · rw [if_pos (decide_eq_true hs)]
    have := loop_ s (by omega) (by omega) s.size 0 k 0 (by omega) (by omega) (by decide)
    rw [show spec_ParseAmount.l0 k s 0 0 = _ from this, hF]
    simp
  · rw [if_neg (by rw [decide_eq_true_eq]; exact hs)]
theorem spec_yes (s : ByteArray) (x : Int) (h : goodA s x) (k : Nat) (hk : 100 ≤ k) : spec_ParseAmount.f k s = some (x, true) := by
  obtain ⟨h0, h1, hs⟩ := h
  have hlen : s.data.toList.length = s.size := by simp
  have hl := txt_len x h0 h1
  rw [← hs, hlen] at hl
  unfold spec_ParseAmount.f spec_l1In.f
  rw [within_, Option.bind_some, if_pos (decide_eq_true (by omega))]
  have := loop_ s (by omega) (by omega) s.size 0 k 0 (by omega) (by omega) (by decide)
  rw [show spec_ParseAmount.l0 k s 0 0 = _ from this, List.drop_zero, hs, txt_dec, if_pos (txt_ok x)]
  have hb := bt_list s 0 (by omega)
  have e0 : s.data.toList[0]? = (txt x)[0]? := by rw [hs]
  rw [List.getElem?_eq_getElem (by omega)] at e0
  have hx : (if bt s 0 = 45 then -(x.natAbs : Int) else (x.natAbs : Int)) = x := by
    rw [show bt s 0 = _ from hb]
    unfold txt at e0
    by_cases hn : x < 0
    · rw [if_pos hn] at e0
      rw [Option.some.inj e0, if_pos (show ((UInt8.toNat 45 : Nat) : Int) = 45 from rfl)]; omega
    · rw [if_neg hn] at e0
      obtain ⟨c, l, ec, hc⟩ := amtL_head x.natAbs
      rw [ec] at e0
      unfold isDg at hc
      rw [Option.some.inj e0, if_neg (by omega)]; omega
  rw [hx]
  unfold F_
  rw [if_pos ⟨h0, h1, hs.symm⟩]
theorem idx_ (q : List UInt8) : ∀ p : List UInt8, 46 ∉ p → (p ++ 46 :: q).idxOf 46 = p.length := by
  intro p
  induction p with
  | nil => intro _; simp
  | cons c p ih =>
    intro h
    have hc : (c == 46) = false := beq_eq_false_iff_ne.2 (fun e => h (by simp [e]))
    rw [List.cons_append, List.idxOf_cons, hc, ih (fun e => h (by simp [e]))]
    rfl
theorem undot_ (s : ByteArray) (p q : List UInt8) (h : s.data.toList = p ++ 46 :: q) (hp : 46 ∉ p) : (Own.undot s).data.toList = p ++ q := by
  have hi : Lib.index (p ++ 46 :: q) [46] = ((p.length : Nat) : Int) := by rw [index_one, if_pos (by simp), idx_ q p hp]
  have hc := Lib.count_hit (by simp) hi
  show Lib.replace s.data.toList [46] [] 1 = _
  rw [h]
  unfold Lib.replace
  rw [if_neg (by decide)]
  have hn : Lib.replaceNum (p ++ 46 :: q) [46] 1 = 1 := by unfold Lib.replaceNum; rw [if_neg (by omega)]; rfl
  rw [hn, Lib.replaceK_hit _ _ _ _ _ hi, Lib.replaceK]
  simp
theorem no46 (l : List UInt8) (h : ∀ c ∈ l, isDg c) : (46 : UInt8) ∉ l := fun e => by have := h _ e; unfold isDg at this; revert this; decide
theorem atoi_txt (s : ByteArray) (x : Int) (h0 : -1000000000 ≤ x) (h1 : x ≤ 1000000000) (hs : s.data.toList = txt x) : Own.atoiF (Own.undot s) = some x := by
  obtain ⟨e1, e2, e3⟩ := dec_dig (x.natAbs / 100)
  have hl := digits_len 7 (x.natAbs / 100) (by omega)
  have ht := two_dg (x.natAbs % 100) (by omega)
  have hd : ∀ c ∈ Lib.decDigits (x.natAbs / 100) ++ two (x.natAbs % 100), isDg c := by
    intro c hc
    rcases List.mem_append.1 hc with hc | hc
    · exact e2 c hc
    · exact ht c hc
  have hv : dec 0 (Lib.decDigits (x.natAbs / 100) ++ two (x.natAbs % 100)) = x.natAbs := by rw [dec_app, e1, two_dec _ _ (by omega)]; omega
  have h2 : (two (x.natAbs % 100)).length = 2 := rfl
  unfold txt amtL at hs
  by_cases hn : x < 0
  · rw [if_pos hn, ← List.cons_append] at hs
    have hu := undot_ s _ _ hs (by intro e; rcases List.mem_cons.1 e with e | e; cases e; exact no46 _ e2 e)
    rw [List.cons_append] at hu
    rw [atoi_neg _ _ hu hd (by simp only [List.length_append]; omega) (by simp only [List.length_append]; omega), hv]
    congr 1; omega
  · rw [if_neg hn] at hs
    have hu := undot_ s _ _ hs (no46 _ e2)
    rw [atoi_dg _ (by rw [hu]; exact hd) (by rw [hu]; simp only [List.length_append]; omega) (by rw [hu]; simp only [List.length_append]; omega), hu, hv]
    congr 1; omega
theorem impl_yes (s : ByteArray) (hsz : s.size ≤ 1048576) (x : Int) (h : goodA s x) (k : Nat) (hk : 30 ≤ k) : impl_ParseAmount.f k s = some (x, true) := by
  obtain ⟨h0, h1, hs⟩ := h
  obtain ⟨r, _, q2, q3⟩ := fmt_ x h0 h1 k hk
  unfold impl_ParseAmount.f
  rw [if_pos hsz, atoi_txt s x h0 h1 hs]
  simp only [Option.isSome_some, if_true, Option.getD_some]
  rw [amtI_, Option.bind_some, if_pos (decide_eq_true ⟨h0, h1⟩), q2, Option.bind_some, if_pos ((listEq _ _).2 (q3.trans hs.symm))]
theorem impl_no (s : ByteArray) (hsz : s.size ≤ 1048576) (k : Nat) (hk : 30 ≤ k) (h : ∀ x, ¬ goodA s x) : impl_ParseAmount.f k s = some (0, false) := by
  unfold impl_ParseAmount.f
  rw [if_pos hsz]
  cases hv : Own.atoiF (Own.undot s) with
  | none => simp
  | some v =>
    simp only [Option.isSome_some, if_true, Option.getD_some]
    rw [amtI_, Option.bind_some]
    by_cases hw : -1000000000 ≤ v ∧ v ≤ 1000000000
    · obtain ⟨r, _, q2, q3⟩ := fmt_ v hw.1 hw.2 k hk
      rw [if_pos (decide_eq_true hw), q2, Option.bind_some, if_neg (fun e => h v ⟨hw.1, hw.2, ((listEq _ _).1 e).symm.trans q3⟩)]
    · rw [if_neg (by rw [decide_eq_true_eq]; exact hw)]
theorem FnExactParseAmount (a : ByteArray) (h : a.size ≤ maxLen) : ∃ k, laws_FnExactParseAmount.f k a = some true := by
  refine ⟨100, ?_⟩
  unfold laws_FnExactParseAmount.f
  by_cases hs : (a.size : Int) > 1048576
  · rw [if_pos hs]
  rw [if_neg hs]
  by_cases hg : ∃ n, goodA a n
  · obtain ⟨n, hg⟩ := hg
    rw [spec_yes a n hg 100 (by omega), impl_yes a (by omega) n hg 100 (by omega)]
    simp
  · have hg : ∀ n, ¬ goodA a n := fun n h => hg ⟨n, h⟩
    rw [spec_no a 100 (by omega) hg, impl_no a (by omega) 100 (by omega) hg]
    simp

end Go.Proofs.YtoijhfngihjhiaaDoor.Pure
