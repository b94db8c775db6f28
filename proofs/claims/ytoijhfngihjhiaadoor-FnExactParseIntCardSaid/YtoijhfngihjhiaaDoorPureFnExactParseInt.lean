/- The program's ParseInt and the reference's return the same for every text; no condition. -/
import Derived.Test.YtoijhfngihjhiaaDoorQFnExactParseIntx2
namespace Go.Proofs.YtoijhfngihjhiaaDoor.Pure
open Go.RowKit Go.Proofs.YtoijhfngihjhiaaDoor.QFnExactParseInt Go.Proofs.YtoijhfngihjhiaaDoorW.PrintWords Go.Proofs.YtoijhfngihjhiaaDoorW.PrintLast Go.Proofs.YtoijhfngihjhiaaDoorW.PrintMore
set_option linter.unusedVariables false
set_option linter.unusedSimpArgs false

theorem w64 {x : Int} (h : -9223372036854775808 ≤ x) (h' : x ≤ 9223372036854775807) : wrap64 x = x := by unfold wrap64; omega
theorem tdv {x : Int} (n : Int) (h : 0 ≤ x) : Int.tdiv x n = x / n := Int.tdiv_eq_ediv_of_nonneg h
theorem tmd {x : Int} (n : Int) (h : 0 ≤ x) : Int.tmod x n = x % n := Int.tmod_eq_emod_of_nonneg h
theorem wfb {a : Int} (h : (Lit.int .i64 a).wf = true) : -9223372036854775808 ≤ a ∧ a ≤ 9223372036854775807 := by
  simp [Lit.wf, IntKind.min, IntKind.max, IntKind.signed, IntKind.bits] at h
  omega
theorem within_ {x a b : Int} : (if x ≥ a then some (decide (x ≤ b)) else some false) = some (decide (a ≤ x ∧ x ≤ b)) := by
  by_cases h : x ≥ a
  · rw [if_pos h]; congr 1; simp; omega
  · rw [if_neg h]; congr 1; simp; omega

theorem digit_ (d : Nat) (h : d < 10) : (⟨#[48, 49, 50, 51, 52, 53, 54, 55, 56, 57]⟩ : ByteArray).extract d (d + 1) = ⟨#[UInt8.ofNat (48 + d)]⟩ := by
  match d, h with
  | 0, _ => rfl
  | 1, _ => rfl
  | 2, _ => rfl
  | 3, _ => rfl
  | 4, _ => rfl
  | 5, _ => rfl
  | 6, _ => rfl
  | 7, _ => rfl
  | 8, _ => rfl
  | 9, _ => rfl
theorem digits_len (k : Nat) : ∀ u : Nat, u < 10 ^ (k + 1) → (Lib.decDigits u).length ≤ k + 1 := by
  induction k with
  | zero => intro u hu; rw [Lib.decDigits]; split <;> simp_all
  | succ k ih =>
    intro u hu
    rw [Lib.decDigits]
    split
    · simp
    · have : u / 10 < 10 ^ (k + 1) := by rw [Nat.div_lt_iff_lt_mul (by omega)]; rw [Nat.pow_succ] at hu; omega
      have := ih _ this
      simp; omega
theorem app_mk (a b : Array UInt8) : (⟨a⟩ : ByteArray) ++ ⟨b⟩ = ⟨a ++ b⟩ := by apply ByteArray.ext; simp
theorem sz_mk (a : Array UInt8) : (⟨a⟩ : ByteArray).size = a.size := rfl
theorem num_some (k : Nat) : ∀ n : Int, 0 ≤ n → n < 10 ^ (k + 1) → n < 9223372036854775807 → k ≤ 30 → spec_l1Num.f (k + 1) n = some ⟨(Lib.decDigits n.toNat).toArray⟩ := by
  induction k with
  | zero =>
    intro n h0 h1 h2 hk
    obtain ⟨u, rfl⟩ : ∃ u : Nat, n = u := ⟨n.toNat, by omega⟩
    have hu : u < 10 := by omega
    unfold spec_l1Num.f
    rw [if_neg (by omega), if_pos (by omega), if_pos h0, w64 (x := (u : Int) + 1) (by omega) (by omega), if_pos (by omega), if_pos (by omega)]
    rw [show ((u : Int) + 1).toNat = u + 1 by omega, show ((u : Int)).toNat = u by omega, digit_ u hu, Lib.decDigits, dif_pos hu]
  | succ k ih =>
    intro n h0 h1 h2 hk
    obtain ⟨u, rfl⟩ : ∃ u : Nat, n = u := ⟨n.toNat, by omega⟩
    by_cases hu : u < 10
    · unfold spec_l1Num.f
      rw [if_neg (by omega), if_pos (by omega), if_pos h0, w64 (x := (u : Int) + 1) (by omega) (by omega), if_pos (by omega), if_pos (by omega)]
      rw [show ((u : Int) + 1).toNat = u + 1 by omega, show ((u : Int)).toNat = u by omega, digit_ u hu, Lib.decDigits, dif_pos hu]
    · have e1 : Int.tdiv (u : Int) 10 = ((u / 10 : Nat) : Int) := by rw [Int.tdiv_eq_ediv_of_nonneg h0]; omega
      have e2 : Int.tmod (u : Int) 10 = ((u % 10 : Nat) : Int) := by rw [Int.tmod_eq_emod_of_nonneg h0]; omega
      have hu2 : u < 10 ^ (k + 1 + 1) := by exact_mod_cast h1
      have hu1 : u / 10 < 10 ^ (k + 1) := by rw [Nat.div_lt_iff_lt_mul (by omega)]; rw [Nat.pow_succ] at hu2; omega
      have hi := ih ((u / 10 : Nat) : Int) (by omega) (by exact_mod_cast hu1) (by omega) (by omega)
      have hl := digits_len k (u / 10) hu1
      unfold spec_l1Num.f
      rw [if_neg (by omega), if_neg (by omega), e1, w64 (x := ((u / 10 : Nat) : Int)) (by omega) (by omega), hi, Option.bind_some, e2]
      rw [w64 (x := ((u % 10 : Nat) : Int) + 1) (by omega) (by omega), if_pos (by omega), if_pos (by omega), if_pos (by omega)]
      rw [show (((u % 10 : Nat) : Int) + 1).toNat = u % 10 + 1 by omega, show (((u % 10 : Nat) : Int)).toNat = u % 10 by omega, show (((u / 10 : Nat) : Int)).toNat = u / 10 by omega, show ((u : Int)).toNat = u by omega, digit_ (u % 10) (by omega)]
      rw [if_pos (by simp only [sz_mk, List.size_toArray, List.length_cons, List.length_nil]; omega), app_mk]
      have e3 : Lib.decDigits u = Lib.decDigits (u / 10) ++ [UInt8.ofNat (48 + u % 10)] := by rw [Lib.decDigits, dif_neg hu]
      rw [e3]
      simp
theorem num_ (n : Int) (h0 : -1000000000000000000 < n) (h1 : n < 1000000000000000000) : ∀ k, 20 ≤ k → spec_l1Num.f k n = some ⟨(Lib.itoa n).toArray⟩ := by
  intro k hk
  refine at_rounds (fun k => spec_l1Num.mono n k) hk ?_
  unfold Lib.itoa
  by_cases hn : n < 0
  · rw [if_pos hn]
    have hu : n.natAbs < 10 ^ 19 := by omega
    have hl := digits_len 18 n.natAbs hu
    have hs := num_some 18 (-n) (by omega) (by omega) (by omega) (by omega)
    unfold spec_l1Num.f
    rw [if_pos hn, w64 (x := -n) (by omega) (by omega), hs, Option.bind_some, show (-n).toNat = n.natAbs by omega, if_pos (by simp only [sz_mk, List.size_toArray]; omega), app_mk]
    simp
  · rw [if_neg hn]
    exact num_some 19 n (by omega) (by omega) (by omega) (by omega)
theorem itoa_ (n : Int) (h0 : -1000000000000000000 < n) (h1 : n < 1000000000000000000) : strconv_Itoa.f n = some ⟨(Lib.itoa n).toArray⟩ := by
  unfold strconv_Itoa.f Own.itoaF
  rw [if_pos (by omega)]

theorem toList_inj {a b : ByteArray} (h : a.toList = b.toList) : a = b := by
  rw [ByteArray.toList_eq, ByteArray.toList_eq] at h
  exact Go.WideShapes.bytes_inj h
theorem szD (s : ByteArray) : s.data.toList.length = s.size := by simp
theorem rdOf_nat (l : List ByteArray) (i : Nat) (h : i < l.length) : rdOf ByteArray.empty l (i : Int) = l[i] := by
  unfold rdOf; rw [Int.toNat_natCast, List.getD_eq_getElem?_getD, List.getElem?_eq_getElem h]; rfl

theorem index_one (b : UInt8) : ∀ s : List UInt8, Lib.index s [b] = if b ∈ s then (s.idxOf b : Int) else -1
  | [] => by simp [Lib.index]
  | x :: l => by
    have hl := index_one b l
    unfold Lib.index
    by_cases hx : b = x
    · subst hx; simp [List.isPrefixOf]
    · have hx' : ¬ x = b := fun e => hx e.symm
      have e1 : (([b] : List UInt8).isPrefixOf (x :: l)) = false := by simp [List.isPrefixOf, hx]
      rw [e1, hl]
      simp only [Bool.false_eq_true, if_false]
      by_cases hm : b ∈ l
      · have : ((List.idxOf b l : Int) == -1) = false := by rw [beq_eq_false_iff_ne]; omega
        simp only [hm, if_true, List.mem_cons, or_true, this, Bool.false_eq_true, if_false]
        have : List.idxOf b (x :: l) = List.idxOf b l + 1 := by have e : (x == b) = false := beq_eq_false_iff_ne.2 hx'; rw [List.idxOf_cons, e]; rfl
        rw [this]
        omega
      · simp only [hm, if_false, List.mem_cons, hx, or_self]
        rfl
theorem bt_list (s : ByteArray) (i : Nat) (h : i < s.size) : bt s (i : Int) = ((s.data.toList[i]'(by simpa using h)).toNat : Int) := by
  unfold bt
  rw [dif_pos (by simpa using h)]
  simp [ByteArray.getElem_eq_getElem_data]
theorem bt_35 (s : ByteArray) (i : Nat) (h : i < s.size) (b : UInt8) : bt s (i : Int) = (b.toNat : Int) ↔ s.data.toList[i]'(by simpa using h) = b := by
  rw [bt_list s i h]
  constructor
  · intro e; exact UInt8.toNat_inj.1 (by omega)
  · intro e; rw [e]

/-- A byte is a decimal digit. -/
def isDg (c : UInt8) : Prop := 48 ≤ c.toNat ∧ c.toNat ≤ 57
instance (c : UInt8) : Decidable (isDg c) := by unfold isDg; infer_instance
/-- The number that digits spell behind a number that stands already. -/
def dec (a : Nat) (l : List UInt8) : Nat := l.foldl (fun a c => 10 * a + (c.toNat - 48)) a
theorem dec_cons (a : Nat) (c : UInt8) (l : List UInt8) : dec a (c :: l) = dec (10 * a + (c.toNat - 48)) l := by simp only [dec, List.foldl_cons]
theorem dec_app (a : Nat) (l m : List UInt8) : dec a (l ++ m) = dec (dec a l) m := by unfold dec; rw [List.foldl_append]
theorem dig_nat (u : Nat) (h : u < 10) : (UInt8.ofNat (48 + u)).toNat = 48 + u := by rw [UInt8.toNat_ofNat']; omega
theorem dec_dig (u : Nat) : dec 0 (Lib.decDigits u) = u ∧ (∀ c ∈ Lib.decDigits u, isDg c) ∧ 1 ≤ (Lib.decDigits u).length := by
  induction u using Nat.strongRecOn with
  | _ u ih =>
    rw [Lib.decDigits]
    by_cases h : u < 10
    · rw [dif_pos h]
      refine ⟨?_, ?_, by simp⟩
      · show 10 * 0 + ((UInt8.ofNat (48 + u)).toNat - 48) = u
        rw [dig_nat u h]; omega
      · intro c hc
        obtain rfl := List.mem_singleton.1 hc
        unfold isDg
        rw [dig_nat u h]; omega
    · rw [dif_neg h]
      obtain ⟨e1, e2, e3⟩ := ih (u / 10) (by omega)
      have hd := dig_nat (u % 10) (by omega)
      refine ⟨?_, ?_, by simp⟩
      · rw [dec_app, e1]
        show 10 * (u / 10) + ((UInt8.ofNat (48 + u % 10)).toNat - 48) = u
        rw [hd]; omega
      · intro c hc
        rcases List.mem_append.1 hc with hc | hc
        · exact e2 c hc
        · obtain rfl := List.mem_singleton.1 hc
          unfold isDg
          rw [hd]; omega
theorem parse_dg (l : List UInt8) : ∀ a, (∀ c ∈ l, isDg c) → (a + 1) * 10 ^ l.length ≤ 1000000000000000000 → Lib.parseUint10 a l = .ok (dec a l) := by
  induction l with
  | nil => intro a _ _; rfl
  | cons c l ih =>
    intro a h h1
    have hc := h c (by simp)
    have hp : 1 ≤ 10 ^ l.length := Nat.one_le_pow _ _ (by decide)
    have h2 : (10 * a + 10) * 10 ^ l.length ≤ 1000000000000000000 := by
      rw [List.length_cons, Nat.pow_succ, ← Nat.mul_assoc, Nat.mul_right_comm] at h1
      rw [show 10 * a + 10 = (a + 1) * 10 by omega]; exact h1
    have h3 : 10 * a + 10 ≤ 1000000000000000000 := Nat.le_trans (Nat.le_mul_of_pos_right _ hp) h2
    unfold isDg at hc
    unfold Lib.parseUint10
    rw [if_pos hc, if_neg (by omega), if_neg (by omega), ih _ (fun c hc => h c (by simp [hc])) (Nat.le_trans (Nat.mul_le_mul_right _ (by omega)) h2), dec_cons, Nat.mul_comm a 10]
theorem dec_lt (l : List UInt8) : ∀ a, (∀ c ∈ l, isDg c) → dec a l + 1 ≤ (a + 1) * 10 ^ l.length := by
  induction l with
  | nil => intro a _; simp [dec]
  | cons c l ih =>
    intro a h
    have hc := h c (by simp)
    unfold isDg at hc
    rw [dec_cons, List.length_cons, Nat.pow_succ]
    refine Nat.le_trans (ih _ (fun c hc => h c (by simp [hc]))) ?_
    rw [Nat.mul_comm (10 ^ l.length) 10, ← Nat.mul_assoc]
    exact Nat.mul_le_mul_right _ (by omega)
/-- A text of digits, and one of a minus and digits, as strconv.Atoi reads them. -/
theorem atoi_dg (s : ByteArray) (hd : ∀ c ∈ s.data.toList, isDg c) (h1 : 1 ≤ s.data.toList.length) (h2 : s.data.toList.length ≤ 18) : Own.atoiF s = some (dec 0 s.data.toList : Int) := by
  unfold Own.atoiF Lib.atoiAll
  generalize s.data.toList = l at *
  cases l with
  | nil => simp at h1
  | cons c r =>
    have hc := hd c (by simp)
    unfold isDg at hc
    have hp : 10 ^ (c :: r).length ≤ 1000000000000000000 := Nat.le_trans (Nat.pow_le_pow_right (by decide) h2) (by decide)
    have hl := dec_lt (c :: r) 0 hd
    have e : Lib.parseMag (if c.toNat = 43 ∨ c.toNat = 45 then r else c :: r) = .ok (dec 0 (c :: r)) := by
      rw [if_neg (by omega)]
      unfold Lib.parseMag
      rw [if_neg (by simp), parse_dg _ 0 hd (by omega)]
    simp only [e]
    rw [if_neg (by omega), if_neg (by omega), if_neg (by omega)]
theorem atoi_neg (s : ByteArray) (l : List UInt8) (hs : s.data.toList = 45 :: l) (hd : ∀ c ∈ l, isDg c) (h1 : 1 ≤ l.length) (h2 : l.length ≤ 18) : Own.atoiF s = some (-(dec 0 l : Int)) := by
  unfold Own.atoiF Lib.atoiAll
  rw [hs]
  have hp : 10 ^ l.length ≤ 1000000000000000000 := Nat.le_trans (Nat.pow_le_pow_right (by decide) h2) (by decide)
  have hl := dec_lt l 0 hd
  have h45 : (45 : UInt8).toNat = 45 := rfl
  have e : Lib.parseMag (if (45 : UInt8).toNat = 43 ∨ (45 : UInt8).toNat = 45 then l else 45 :: l) = .ok (dec 0 l) := by
    rw [if_pos (by omega)]
    unfold Lib.parseMag
    rw [if_neg (by intro h; subst h; simp at h1), parse_dg _ 0 hd (by omega)]
  simp only [e]
  rw [if_neg (by omega), if_neg (by omega), if_pos h45]
/-- The numeral of a number is read as the number. -/
theorem atoi_itoa (s : ByteArray) (n : Int) (hs : s.data.toList = Lib.itoa n) (h0 : -1000000000000 < n) (h1 : n < 1000000000000) : Own.atoiF s = some n := by
  unfold Lib.itoa at hs
  by_cases hn : n < 0
  · rw [if_pos hn] at hs
    obtain ⟨e1, e2, e3⟩ := dec_dig n.natAbs
    have hl := digits_len 17 n.natAbs (by omega)
    rw [atoi_neg s _ hs e2 e3 hl, e1]
    congr 1; omega
  · rw [if_neg hn] at hs
    obtain ⟨e1, e2, e3⟩ := dec_dig n.toNat
    have hl := digits_len 17 n.toNat (by omega)
    rw [atoi_dg s (by rw [hs]; exact e2) (by rw [hs]; exact e3) (by rw [hs]; exact hl), hs, e1]
    congr 1; omega

/-- Where the reference's reading of digits ends. -/
def fin_ (a s : ByteArray) (x : Int) : Int × Bool :=
  if s.size < a.size then (if Lib.itoa (-x) = a.data.toList then (-x, true) else (0, false)) else (if Lib.itoa x = a.data.toList then (x, true) else (0, false))
theorem itoaL (n : Int) (a : ByteArray) : ((⟨(Lib.itoa n).toArray⟩ : ByteArray).toList = a.toList) ↔ Lib.itoa n = a.data.toList := by
  rw [ByteArray.toList_eq, ByteArray.toList_eq]
theorem read_l0 (a s : ByteArray) (hs : s.size ≤ 6) (d : Nat) : ∀ (i k : Nat) (x : Nat), i + d = s.size → d + 21 ≤ k → x < 10 ^ i →
    spec_l1Read.l0 k a s (x : Int) (i : Int) = some (if ∀ c ∈ s.data.toList.drop i, isDg c then fin_ a s (dec x (s.data.toList.drop i) : Int) else (0, false)) := by
  have hlen : s.data.toList.length = s.size := by simp
  induction d with
  | zero =>
    intro i k x hi hk hx
    obtain ⟨k, rfl⟩ : ∃ m, k = m + 1 := ⟨k - 1, by omega⟩
    have hp : 10 ^ i ≤ 10 ^ 6 := Nat.pow_le_pow_right (by decide) (by omega)
    have hp6 : 10 ^ 6 = 1000000 := by decide
    simp only [spec_l1Read.l0]
    rw [if_neg (by omega), List.drop_eq_nil_of_le (by omega), if_pos (show ∀ c ∈ ([] : List UInt8), isDg c by simp)]
    simp only [dec, List.foldl_nil]
    unfold fin_
    by_cases h1 : s.size < a.size
    · rw [if_pos (by omega), if_pos h1, w64 (x := -(x : Int)) (by omega) (by omega), num_ _ (by omega) (by omega) k (by omega), Option.bind_some]
      by_cases h2 : Lib.itoa (-(x : Int)) = a.data.toList
      · rw [if_pos ((itoaL _ _).2 h2), if_pos h2]
      · rw [if_neg (fun h => h2 ((itoaL _ _).1 h)), if_neg h2]
    · rw [if_neg (by omega), if_neg h1, num_ _ (by omega) (by omega) k (by omega), Option.bind_some]
      by_cases h2 : Lib.itoa (x : Int) = a.data.toList
      · rw [if_pos ((itoaL _ _).2 h2), if_pos h2]
      · rw [if_neg (fun h => h2 ((itoaL _ _).1 h)), if_neg h2]
  | succ d ih =>
    intro i k x hi hk hx
    obtain ⟨k, rfl⟩ : ∃ m, k = m + 1 := ⟨k - 1, by omega⟩
    have hp : 10 ^ i ≤ 10 ^ 6 := Nat.pow_le_pow_right (by decide) (by omega)
    have hp6 : 10 ^ 6 = 1000000 := by decide
    have hlt : i < s.data.toList.length := by omega
    simp only [spec_l1Read.l0]
    rw [if_pos (by omega), if_pos (by omega), bt_list s i (by omega), List.drop_eq_getElem_cons hlt]
    generalize hc : s.data.toList[i] = c
    by_cases h1 : c.toNat < 48
    · rw [if_pos (by omega), if_neg]
      intro h
      have := h c (by simp)
      unfold isDg at this
      omega
    · rw [if_neg (by omega)]
      by_cases h2 : c.toNat > 57
      · rw [if_pos (by omega), if_neg]
        intro h
        have := h c (by simp)
        unfold isDg at this
        omega
      · have hdg : isDg c := by unfold isDg; omega
        rw [if_neg (by omega), w64 (x := 10 * (x : Int)) (by omega) (by omega), show ((c.toNat : Int) - 48) % 256 = ((c.toNat - 48 : Nat) : Int) by omega,
          w64 (x := (i : Int) + 1) (by omega) (by omega), w64 (by omega) (by omega), show 10 * (x : Int) + ((c.toNat - 48 : Nat) : Int) = ((10 * x + (c.toNat - 48) : Nat) : Int) by omega, show (i : Int) + 1 = ((i + 1 : Nat) : Int) by omega]
        rw [ih (i + 1) k _ (by omega) (by omega) (by rw [Nat.pow_succ]; omega)]
        congr 1
        by_cases h3 : ∀ b ∈ s.data.toList.drop (i + 1), isDg b
        · rw [if_pos h3, if_pos (by intro b hb; rcases List.mem_cons.1 hb with rfl | hb; exact hdg; exact h3 b hb)]
          rfl
        · rw [if_neg h3, if_neg (fun h => h3 (fun b hb => h b (by simp [hb])))]
theorem read_j1 (a s : ByteArray) (k : Nat) (hk : 40 ≤ k) : spec_l1Read.j1 k a s = some (if 1 ≤ s.size ∧ s.size ≤ 6 ∧ ∀ c ∈ s.data.toList, isDg c then fin_ a s (dec 0 s.data.toList : Int) else (0, false)) := by
  obtain ⟨k, rfl⟩ : ∃ m, k = m + 1 := ⟨k - 1, by omega⟩
  simp only [spec_l1Read.j1, spec_l1In.f]
  rw [within_, Option.bind_some]
  by_cases h : 1 ≤ s.size ∧ s.size ≤ 6
  · rw [if_pos (decide_eq_true (by omega))]
    have := read_l0 a s h.2 s.size 0 k 0 (by omega) (by omega) (by decide)
    rw [List.drop_zero] at this
    rw [show spec_l1Read.l0 k a s 0 0 = _ from this]
    congr 1
    by_cases h2 : ∀ c ∈ s.data.toList, isDg c
    · rw [if_pos h2, if_pos ⟨h.1, h.2, h2⟩]
    · rw [if_neg h2, if_neg (fun h3 => h2 h3.2.2)]
  · rw [if_neg (by rw [decide_eq_true_eq]; omega), if_neg (fun h3 => h ⟨h3.1, h3.2.1⟩)]
/-- What is read, and of which text. -/
def good_ (s : ByteArray) (n : Int) : Prop := -999999 ≤ n ∧ n ≤ 999999 ∧ s.data.toList = Lib.itoa n
theorem fin_no (a s : ByteArray) (x : Int) (h0 : 0 ≤ x) (h1 : x ≤ 999999) (h : ∀ n, ¬ good_ a n) : fin_ a s x = (0, false) := by
  unfold fin_
  split
  · rw [if_neg]; intro e; exact h _ ⟨by omega, by omega, e.symm⟩
  · rw [if_neg]; intro e; exact h _ ⟨by omega, by omega, e.symm⟩
theorem dec6 (l : List UInt8) (h : ∀ c ∈ l, isDg c) (hl : l.length ≤ 6) : dec 0 l ≤ 999999 := by
  have h1 := dec_lt l 0 h
  have : 10 ^ l.length ≤ 10 ^ 6 := Nat.pow_le_pow_right (by decide) hl
  have hp6 : 10 ^ 6 = 1000000 := by decide
  omega
theorem j1_no (a s : ByteArray) (k : Nat) (hk : 40 ≤ k) (h : ∀ n, ¬ good_ a n) : spec_l1Read.j1 k a s = some (0, false) := by
  rw [read_j1 a s k hk]
  congr 1
  by_cases h2 : 1 ≤ s.size ∧ s.size ≤ 6 ∧ ∀ c ∈ s.data.toList, isDg c
  · rw [if_pos h2]
    have := dec6 _ h2.2.2 (by simpa using h2.2.1)
    exact fin_no a s _ (by omega) (by omega) h
  · rw [if_neg h2]
theorem read_no (s : ByteArray) (k : Nat) (hk : 41 ≤ k) (h : ∀ n, ¬ good_ s n) : spec_l1Read.f k s = some (0, false) := by
  obtain ⟨k, rfl⟩ : ∃ m, k = m + 1 := ⟨k - 1, by omega⟩
  unfold spec_l1Read.f
  by_cases h1 : (s.size : Int) > 1
  · rw [if_pos h1, if_pos (by omega)]
    simp only [spec_l1Read.j0]
    split
    · rw [if_pos (by omega)]; exact j1_no s _ k (by omega) h
    · exact j1_no s _ k (by omega) h
  · rw [if_neg h1]
    simp only [spec_l1Read.j0]
    rw [if_neg Bool.false_ne_true]
    exact j1_no s _ k (by omega) h
theorem read_yes (s : ByteArray) (n : Int) (h : good_ s n) (k : Nat) (hk : 41 ≤ k) : spec_l1Read.f k s = some (n, true) := by
  obtain ⟨k, rfl⟩ : ∃ m, k = m + 1 := ⟨k - 1, by omega⟩
  obtain ⟨h0, h1, hs⟩ := h
  have hs0 := hs
  have hlen : s.data.toList.length = s.size := by simp
  unfold Lib.itoa at hs
  by_cases hn : n < 0
  · rw [if_pos hn] at hs
    obtain ⟨e1, e2, e3⟩ := dec_dig n.natAbs
    have hl := digits_len 5 n.natAbs (by omega)
    have hsz : s.size = (Lib.decDigits n.natAbs).length + 1 := by rw [← hlen, hs]; rfl
    have ht : (s.extract 1 s.size).data.toList = Lib.decDigits n.natAbs := by
      have : (s.extract 1 s.size).data.toList = s.data.toList.drop 1 := by
        simp [ByteArray.data_extract]
        exact List.take_of_length_le (by simp)
      rw [this, hs]; rfl
    have hts : (s.extract 1 s.size).size = (Lib.decDigits n.natAbs).length := by rw [← ht]; simp
    have hb : (bt s 0 == 45) = true := by
      have := bt_list s 0 (by omega)
      have e : s.data.toList[0]'(by omega) = 45 := by simp only [hs]; rfl
      rw [e] at this
      rw [show (0 : Int) = ((0 : Nat) : Int) from rfl, this]; rfl
    unfold spec_l1Read.f
    rw [if_pos (by omega), if_pos (by omega), hb]
    simp only [spec_l1Read.j0]
    rw [if_pos trivial, if_pos (by omega), read_j1 _ _ k (by omega), if_pos ⟨by omega, by omega, by rw [ht]; exact e2⟩, ht, e1]
    unfold fin_
    rw [if_pos (by omega), show -((n.natAbs : Nat) : Int) = n by omega, if_pos hs0.symm]
  · rw [if_neg hn] at hs
    obtain ⟨e1, e2, e3⟩ := dec_dig n.toNat
    have hl := digits_len 5 n.toNat (by omega)
    have hj : spec_l1Read.j1 k s s = some (n, true) := by
      rw [read_j1 _ _ k (by omega), if_pos ⟨by rw [← hlen, hs]; omega, by rw [← hlen, hs]; omega, by rw [hs]; exact e2⟩, hs, e1]
      unfold fin_
      rw [if_neg (by omega), show ((n.toNat : Nat) : Int) = n by omega, if_pos hs0.symm]
    unfold spec_l1Read.f
    by_cases h2 : (s.size : Int) > 1
    · have hb : (bt s 0 == 45) = false := by
        have := bt_list s 0 (by omega)
        have hd : isDg (s.data.toList[0]'(by omega)) := by
          have hall : ∀ c ∈ s.data.toList, isDg c := by rw [hs]; exact e2
          exact hall _ (List.getElem_mem _)
        unfold isDg at hd
        rw [show (0 : Int) = ((0 : Nat) : Int) from rfl, this, beq_eq_false_iff_ne]
        omega
      rw [if_pos h2, if_pos (by omega), hb]
      simp only [spec_l1Read.j0]
      rw [if_neg Bool.false_ne_true]; exact hj
    · rw [if_neg h2]
      simp only [spec_l1Read.j0]
      rw [if_neg Bool.false_ne_true]; exact hj
theorem impl_yes (s : ByteArray) (hsz : s.size ≤ 1048576) (n : Int) (h : good_ s n) : impl_ParseInt.f s = some (n, true) := by
  obtain ⟨h0, h1, hs⟩ := h
  unfold impl_ParseInt.f impl_within.f impl_decimal.f
  rw [if_pos hsz, atoi_itoa s n hs (by omega) (by omega)]
  simp only [Option.isSome_some, if_true, Option.getD_some]
  rw [within_, Option.bind_some, if_pos (decide_eq_true (by omega)), itoa_ n (by omega) (by omega), Option.bind_some, Option.bind_some, if_pos ((itoaL _ _).2 hs.symm)]
theorem impl_no (s : ByteArray) (hsz : s.size ≤ 1048576) (h : ∀ n, ¬ good_ s n) : impl_ParseInt.f s = some (0, false) := by
  unfold impl_ParseInt.f impl_within.f impl_decimal.f
  rw [if_pos hsz]
  cases hv : Own.atoiF s with
  | none => simp
  | some v =>
    simp only [Option.isSome_some, if_true, Option.getD_some]
    rw [within_, Option.bind_some]
    by_cases hw : -999999 ≤ v ∧ v ≤ 999999
    · rw [if_pos (decide_eq_true hw), itoa_ v (by omega) (by omega), Option.bind_some, Option.bind_some, if_neg (fun e => h v ⟨hw.1, hw.2, ((itoaL _ _).1 e).symm⟩)]
    · rw [if_neg (by rw [decide_eq_true_eq]; exact hw)]
theorem FnExactParseInt (a : ByteArray) (h : a.size ≤ maxLen) : ∃ k, laws_FnExactParseInt.f k a = some true := by
  refine ⟨50, ?_⟩
  unfold laws_FnExactParseInt.f spec_ParseInt.f
  by_cases hs : (a.size : Int) > 1048576
  · rw [if_pos hs]
  rw [if_neg hs]
  by_cases hg : ∃ n, good_ a n
  · obtain ⟨n, hg⟩ := hg
    rw [read_yes a n hg 50 (by omega), impl_yes a (by omega) n hg]
    simp
  · have hg : ∀ n, ¬ good_ a n := fun n h => hg ⟨n, h⟩
    rw [read_no a 50 (by omega) hg, impl_no a (by omega) hg]
    simp

end Go.Proofs.YtoijhfngihjhiaaDoor.Pure
