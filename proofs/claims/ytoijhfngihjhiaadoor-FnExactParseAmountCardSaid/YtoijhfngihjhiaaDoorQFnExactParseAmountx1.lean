-- Written by a program of this session out of the translation; Lean checks it.
import Derived.Test.YtoijhfngihjhiaaDoorQFnExactParseAmountx0
namespace Go.Proofs.YtoijhfngihjhiaaDoor.QFnExactParseAmount
open Go.RowKit Go.Proofs.YtoijhfngihjhiaaDoorW.PrintWords Go.Proofs.YtoijhfngihjhiaaDoorW.PrintLast Go.Proofs.YtoijhfngihjhiaaDoorW.PrintMore
attribute [local go_sem] Instr.field asAgg Own.str_leq Own.str_gtr Own.str_geq
attribute [local go_sem] max2_int min2_int max_two min_two max_three min_three max_four min_four   -- for this text's walks alone
set_option linter.unusedVariables false
set_option linter.unusedSimpArgs false

/-! ### spec_l1In: function 22 -/
def spec_l1In.f (a0 : Int) (a1 : Int) (a2 : Int) : Option (Bool) := if a0 ≥ a1 then (some (decide (a0 ≤ a2))) else (some false)
set_option maxHeartbeats 8000000 in
set_option maxRecDepth 100000 in
theorem spec_l1In.calls (a0 : Int) (a1 : Int) (a2 : Int) (r : Bool) (w : World) (h : spec_l1In.f a0 a1 a2 = some r) :
  Calls Tryd.prog 22 #[.int .i64 a0, .int .i64 a1, .int .i64 a2] w fun e w' => e = .returned (.bool r) ∧ Drawn0 w w' := by
 have H : (if a0 ≥ a1 then (some (decide (a0 ≤ a2))) else (some false)) = some r := h
 clear h
 by_cases c4 : a0 ≥ a1
 ·
  rw [if_pos c4] at H
  have c4b0 : decide (a1 ≤ a0) = true := decide_eq_true c4
  clear c4
  obtain rfl := Option.some.inj H
  go_enter Tryd.func22, Tryd.ntmps22
  go_wp2
  go_ret
  exact ⟨by first | rfl | (simp; done) | (simp [*]; done), by repeat (first | exact Drawn0.refl _ | apply Drawn0.step)⟩
 rw [if_neg c4] at H
 have c4b0 : decide (a1 ≤ a0) = false := decide_eq_false c4
 clear c4
 obtain rfl := Option.some.inj H
 go_enter Tryd.func22, Tryd.ntmps22
 go_wp2
 go_ret
 exact ⟨by first | rfl | (simp; done) | (simp [*]; done), by repeat (first | exact Drawn0.refl _ | apply Drawn0.step)⟩

/-! ### spec_l2Amount: function 23 -/
def spec_l2Amount.f (a0 : Int) : Option (Bool) := (spec_l1In.f a0 (-1000000000) 1000000000).bind fun t101 => (some t101)
set_option maxHeartbeats 8000000 in
set_option maxRecDepth 100000 in
theorem spec_l2Amount.calls (a0 : Int) (r : Bool) (w : World) (h : spec_l2Amount.f a0 = some r) :
  Calls Tryd.prog 23 #[.int .i64 a0] w fun e w' => e = .returned (.bool r) ∧ Drawn0 w w' := by
 have H : ((spec_l1In.f a0 (-1000000000) 1000000000).bind fun t101 => (some t101)) = some r := h
 clear h
 replace H := Own.bd H; obtain ⟨t101, A2, H⟩ := H
 obtain rfl := Option.some.inj H
 go_enter Tryd.func23, Tryd.ntmps23
 go_wp2_with (first | ((with_reducible refine gate_callee (f := 22) rfl ?_); refine goesL_ (some 4) rfl rfl Tryd.func22 (by kernel_rfl) rfl #[.int .i64 a0, .int .i64 (-1000000000), .int .i64 1000000000] rfl Own.ha ?_; (with_reducible refine (spec_l1In.calls a0 (-1000000000) 1000000000 t101 _ A2.out).mono ?_); rintro e w' ⟨rfl, ⟨nd, rfl⟩⟩; refine ⟨_, rfl, ?_⟩))
 go_ret
 exact ⟨by first | rfl | (simp; done) | (simp [*]; done), by repeat (first | exact Drawn0.refl _ | apply Drawn0.step)⟩

/-! ### spec_l1Num: function 28 -/
def spec_l1Num.f : Nat → Int → Option (ByteArray)
 | 0, _ => none
 | k + 1, a0 => if a0 < 0 then ((spec_l1Num.f k (wrap64 (-a0))).bind fun t102 => (if 1 + t102.size ≤ 9223372036854775807 then (some ((⟨#[45]⟩ : ByteArray) ++ t102)) else (none))) else (if a0 < 10 then (if 0 ≤ a0 then (if a0 ≤ (wrap64 (a0 + 1)) then (if (wrap64 (a0 + 1)) ≤ 10 then (some ((⟨#[48, 49, 50, 51, 52, 53, 54, 55, 56, 57]⟩ : ByteArray).extract (a0 : Int).toNat ((wrap64 (a0 + 1)) : Int).toNat)) else (none)) else (none)) else (none)) else ((spec_l1Num.f k (wrap64 (Int.tdiv a0 10))).bind fun t103 => (if 0 ≤ (Int.tmod a0 10) then (if (Int.tmod a0 10) ≤ (wrap64 ((Int.tmod a0 10) + 1)) then (if (wrap64 ((Int.tmod a0 10) + 1)) ≤ 10 then (if t103.size + ((⟨#[48, 49, 50, 51, 52, 53, 54, 55, 56, 57]⟩ : ByteArray).extract ((Int.tmod a0 10) : Int).toNat ((wrap64 ((Int.tmod a0 10) + 1)) : Int).toNat).size ≤ 9223372036854775807 then (some (t103 ++ ((⟨#[48, 49, 50, 51, 52, 53, 54, 55, 56, 57]⟩ : ByteArray).extract ((Int.tmod a0 10) : Int).toNat ((wrap64 ((Int.tmod a0 10) + 1)) : Int).toNat))) else (none)) else (none)) else (none)) else (none))))
theorem spec_l1Num.mono_l : ∀ k, (∀ y0, LeO (spec_l1Num.f k y0) (spec_l1Num.f (k + 1) y0))
 | 0 => fun _ r h => by simp [spec_l1Num.f] at h
 | k + 1 => by
  have ih0 := spec_l1Num.mono_l k
  ·
   intro y0
   unfold spec_l1Num.f
   repeat' first
   | (with_reducible first | exact ih0 _ | exact LeO.refl _ | exact LeO.none _ | refine LeO.ite ?_ ?_ | refine LeO.bind ?_ (fun _ => ?_))
theorem spec_l1Num.mono : ∀ a0 k, LeO (spec_l1Num.f k a0) (spec_l1Num.f (k + 1) a0) := by
 intro a0 k
 have ih0 := spec_l1Num.mono_l k
 exact ih0 a0
def spec_l1Num.T5 : Bool × List (List Nat × List Nat) := (true, [([], []), ([0], [0]), ([1], [1]), ([], []), ([3], [3]), ([], []), ([5], [5]), ([6], [6]), ([4, 7], [4, 7]), ([2, 8], [2, 8]), ([9, 2, 0, 1, 2, 3, 4, 5, 6, 7, 8, 9], [9])])
def spec_l1Num.B5 : List Nat := [0, 1, 3, 0, 8, 0, 32, 96, 248, 511, 1023]
theorem spec_l1Num.tab5 : rtab .any (opsOf Tryd.f28 5) = spec_l1Num.T5 := by kernel_rfl
theorem spec_l1Num.bits5 : waitsOk spec_l1Num.T5.2 spec_l1Num.B5 = true := by kernel_rfl
set_option maxHeartbeats 8000000 in
set_option maxRecDepth 100000 in
theorem spec_l1Num.calls (k : Nat) : ∀ (a0 : Int) (r : ByteArray) (w : World) (h : spec_l1Num.f k a0 = some r),
  Calls Tryd.prog 28 #[.int .i64 a0] w fun e w' => e = .returned (.string r) ∧ Below w.heap.size w w' := by
 induction k using Nat.strongRecOn with
 | _ k ih =>
 intro a0 r w h
 cases k with
 | zero => exact absurd h (by simp [spec_l1Num.f])
 | succ k =>
 simp only [spec_l1Num.f] at h
 have HB := Aside0.mk (Below.refl w.heap.size w)
 have H : (if a0 < 0 then ((spec_l1Num.f k (wrap64 (-a0))).bind fun t102 => (if 1 + t102.size ≤ 9223372036854775807 then (some ((⟨#[45]⟩ : ByteArray) ++ t102)) else (none))) else (if a0 < 10 then (if 0 ≤ a0 then (if a0 ≤ (wrap64 (a0 + 1)) then (if (wrap64 (a0 + 1)) ≤ 10 then (some ((⟨#[48, 49, 50, 51, 52, 53, 54, 55, 56, 57]⟩ : ByteArray).extract (a0 : Int).toNat ((wrap64 (a0 + 1)) : Int).toNat)) else (none)) else (none)) else (none)) else ((spec_l1Num.f k (wrap64 (Int.tdiv a0 10))).bind fun t103 => (if 0 ≤ (Int.tmod a0 10) then (if (Int.tmod a0 10) ≤ (wrap64 ((Int.tmod a0 10) + 1)) then (if (wrap64 ((Int.tmod a0 10) + 1)) ≤ 10 then (if t103.size + ((⟨#[48, 49, 50, 51, 52, 53, 54, 55, 56, 57]⟩ : ByteArray).extract ((Int.tmod a0 10) : Int).toNat ((wrap64 ((Int.tmod a0 10) + 1)) : Int).toNat).size ≤ 9223372036854775807 then (some (t103 ++ ((⟨#[48, 49, 50, 51, 52, 53, 54, 55, 56, 57]⟩ : ByteArray).extract ((Int.tmod a0 10) : Int).toNat ((wrap64 ((Int.tmod a0 10) + 1)) : Int).toNat))) else (none)) else (none)) else (none)) else (none))))) = some r := h
 clear h
 by_cases c2 : a0 < 0
 ·
  rw [if_pos c2] at H
  replace c2 := decide_eq_true c2
  replace H := Own.bd H; obtain ⟨t102, A3, H⟩ := H
  replace H := Own.ifn H; obtain ⟨c4, H⟩ := H
  have c4b0 := eq_true c4
  have c4b1 : decide (1 + t102.size ≤ 9223372036854775807) = true := decide_eq_true c4
  try have c4b2 : (9223372036854775807 < 1 + t102.size) = False := eq_false (Nat.not_lt.2 c4)
  obtain rfl := Option.some.inj H
  go_enter Tryd.func28, Tryd.ntmps28
  go_wp2_with (first | ((with_reducible refine gate_callee (f := 28) rfl ?_); refine goesL_ (some 7) rfl rfl Tryd.func28 (by kernel_rfl) rfl #[.int .i64 (wrap64 (-a0))] rfl Own.ha ?_; (with_reducible refine (ih k (by omega) (wrap64 (-a0)) t102 _ A3.out).mono ?_); rintro e w5 ⟨rfl, hb⟩; refine ⟨_, rfl, ?_⟩; replace HB := Own.bs hb; (try clear hb)))
  go_ret
  exact ⟨Own.rr, Own.bl⟩
 rw [if_neg c2] at H
 replace c2 := decide_eq_false c2
 by_cases c6 : a0 < 10
 ·
  rw [if_pos c6] at H
  replace c6 := decide_eq_true c6
  replace H := Own.ifn H; obtain ⟨c7, H⟩ := H
  have c7b0 := eq_true c7
  have c7b1 : decide (0 ≤ a0) = true := decide_eq_true c7
  clear c7
  replace H := Own.ifn H; obtain ⟨c8, H⟩ := H
  have c8b0 := eq_true c8
  have c8b1 : decide (a0 ≤ (wrap64 (a0 + 1))) = true := decide_eq_true c8
  replace H := Own.ifn H; obtain ⟨c9, H⟩ := H
  have c9b0 := eq_true c9
  have c9b1 : decide ((wrap64 (a0 + 1)) ≤ 10) = true := decide_eq_true c9
  obtain rfl := Option.some.inj H
  go_enter Tryd.func28, Tryd.ntmps28
  go_wp2
  go_ret
  exact ⟨Own.rr, Own.bl⟩
 rw [if_neg c6] at H
 replace c6 := decide_eq_false c6
 replace H := Own.bd H; obtain ⟨t103, A10, H⟩ := H
 obtain ⟨ji11, hji11⟩ : ∃ j_ : Int, (Int.tmod a0 10) = j_ := ⟨_, rfl⟩
 replace H : (if 0 ≤ (ji11) then (if (ji11) ≤ (wrap64 ((ji11) + 1)) then (if (wrap64 ((ji11) + 1)) ≤ 10 then (if t103.size + ((⟨#[48, 49, 50, 51, 52, 53, 54, 55, 56, 57]⟩ : ByteArray).extract ((ji11) : Int).toNat ((wrap64 ((ji11) + 1)) : Int).toNat).size ≤ 9223372036854775807 then (some (t103 ++ ((⟨#[48, 49, 50, 51, 52, 53, 54, 55, 56, 57]⟩ : ByteArray).extract ((ji11) : Int).toNat ((wrap64 ((ji11) + 1)) : Int).toNat))) else (none)) else (none)) else (none)) else (none)) = some r := by first | (rw [hji11] at H; exact H) | (simp only [hji11] at H ⊢; exact H)
 (try rw [hji11] at A10)
 replace H := Own.ifn H; obtain ⟨c12, H⟩ := H
 have c12b0 := eq_true c12
 have c12b1 : decide (0 ≤ (ji11)) = true := decide_eq_true c12
 clear c12
 replace H := Own.ifn H; obtain ⟨c13, H⟩ := H
 have c13b0 := eq_true c13
 have c13b1 : decide ((ji11) ≤ (wrap64 ((ji11) + 1))) = true := decide_eq_true c13
 replace H := Own.ifn H; obtain ⟨c14, H⟩ := H
 have c14b0 := eq_true c14
 have c14b1 : decide ((wrap64 ((ji11) + 1)) ≤ 10) = true := decide_eq_true c14
 replace H := Own.ifn H; obtain ⟨c15, H⟩ := H
 have c15b0 := eq_true c15
 have c15b1 : decide (t103.size + ((⟨#[48, 49, 50, 51, 52, 53, 54, 55, 56, 57]⟩ : ByteArray).extract ((ji11) : Int).toNat ((wrap64 ((ji11) + 1)) : Int).toNat).size ≤ 9223372036854775807) = true := decide_eq_true c15
 try have c15b2 : (9223372036854775807 < t103.size + ((⟨#[48, 49, 50, 51, 52, 53, 54, 55, 56, 57]⟩ : ByteArray).extract ((ji11) : Int).toNat ((wrap64 ((ji11) + 1)) : Int).toNat).size) = False := eq_false (Nat.not_lt.2 c15)
 obtain rfl := Option.some.inj H
 go_enter Tryd.func28, Tryd.ntmps28
 try go_wp2
 have n0_ := Aside0.mk (below_drew1 HB.out)
 clear HB
 have HB := n0_
 clear n0_
 refine start_ (n := 11) (S := fun w' => True) (ds := []) #[false, false, false, false, false, false, false, false, false, false, false] (by kernel_rfl) rfl rfl trivial (fun hHeld => ?_); refine with_tabW spec_l1Num.tab5 spec_l1Num.bits5 (fun HT_ HW_ => ?_)
 generalize w.drew = w16 at HB hHeld ⊢
 refine pure_ (i := 0) (N := some 15) (v := ?_) (a' := ?_) #[true, false, false, false, false, false, false, false, false, false, false] rfl rfl (any_of HT_.out (by kernel_rfl)) (fun _ _ _ h => h) (Or.inl ⟨by rfl, ?_⟩) ?_ ?_
 rotate_left
 ·
  intro w'
  go_simp
  first | with_reducible rfl | (rw [if_neg (by simp only [ByteArray.size_extract, Own.size_mk_, List.size_toArray, List.length_cons, List.length_nil] at *; omega)]; try with_reducible rfl)
 rotate_left
 ·
  simp only [Own.ps]
  rfl
 refine pure_ (i := 1) (N := some 16) (v := ?_) (a' := ?_) #[true, true, false, false, false, false, false, false, false, false, false] rfl rfl (any_of HT_.out (by kernel_rfl)) (fun _ _ _ h => h) (Or.inl ⟨by rfl, ?_⟩) ?_ ?_
 rotate_left
 ·
  intro w'
  go_simp
  first | with_reducible rfl | (rw [if_neg (by simp only [ByteArray.size_extract, Own.size_mk_, List.size_toArray, List.length_cons, List.length_nil] at *; omega)]; try with_reducible rfl)
 rotate_left
 ·
  simp only [Own.ps]
  rfl
 refine pure_ (i := 3) (N := some 18) (v := ?_) (a' := ?_) #[true, true, false, true, false, false, false, false, false, false, false] rfl rfl (any_of HT_.out (by kernel_rfl)) (fun _ _ _ h => h) (Or.inl ⟨by rfl, ?_⟩) ?_ ?_
 rotate_left
 ·
  intro w'
  go_simp
  first | with_reducible rfl | (rw [if_neg (by simp only [ByteArray.size_extract, Own.size_mk_, List.size_toArray, List.length_cons, List.length_nil] at *; omega)]; try with_reducible rfl)
 rotate_left
 ·
  simp only [Own.ps]
  rfl
 refine pure_ (i := 4) (N := some 19) (v := ?_) (a' := ?_) #[true, true, false, true, true, false, false, false, false, false, false] rfl rfl (any_of HT_.out (by kernel_rfl)) (fun _ _ _ h => h) (Or.inl ⟨by rfl, ?_⟩) ?_ ?_
 rotate_left
 ·
  intro w'
  go_simp
  first | with_reducible rfl | (rw [if_neg (by simp only [ByteArray.size_extract, Own.size_mk_, List.size_toArray, List.length_cons, List.length_nil] at *; omega)]; try with_reducible rfl)
 rotate_left
 ·
  simp only [Own.ps]
  rfl
 refine pure_ (i := 5) (N := some 20) (v := ?_) (a' := ?_) #[true, true, false, true, true, true, false, false, false, false, false] rfl rfl (any_of HT_.out (by kernel_rfl)) (fun _ _ _ h => h) (Or.inl ⟨by rfl, ?_⟩) ?_ ?_
 rotate_left
 ·
  intro w'
  go_simp
  first | with_reducible rfl | (rw [if_neg (by simp only [ByteArray.size_extract, Own.size_mk_, List.size_toArray, List.length_cons, List.length_nil] at *; omega)]; try with_reducible rfl)
 rotate_left
 ·
  simp only [Own.ps]
  rfl
 refine pure_ (i := 6) (N := some 21) (v := ?_) (a' := ?_) #[true, true, false, true, true, true, true, false, false, false, false] rfl rfl (any_of HT_.out (by kernel_rfl)) (fun _ _ _ h => h) (Or.inl ⟨by rfl, ?_⟩) ?_ ?_
 rotate_left
 ·
  intro w'
  go_simp
  first | with_reducible rfl | (rw [if_neg (by simp only [ByteArray.size_extract, Own.size_mk_, List.size_toArray, List.length_cons, List.length_nil] at *; omega)]; try with_reducible rfl)
 rotate_left
 ·
  simp only [Own.ps]
  rfl
 refine pure_ (i := 7) (N := some 22) (v := ?_) (a' := ?_) #[true, true, false, true, true, true, true, true, false, false, false] rfl rfl (any_of HT_.out (by kernel_rfl)) (fun _ _ _ h => h) (Or.inl ⟨by rfl, ?_⟩) ?_ ?_
 rotate_left
 ·
  intro w'
  go_simp
  first | with_reducible rfl | (rw [if_neg (by simp only [ByteArray.size_extract, Own.size_mk_, List.size_toArray, List.length_cons, List.length_nil] at *; omega)]; try with_reducible rfl)
 rotate_left
 ·
  simp only [Own.ps]
  rfl
 refine pure_ (i := 8) (N := some 23) (v := ?_) (a' := ?_) #[true, true, false, true, true, true, true, true, true, false, false] rfl rfl (any_of HT_.out (by kernel_rfl)) (fun _ _ _ h => h) (Or.inl ⟨by rfl, ?_⟩) ?_ ?_
 rotate_left
 ·
  intro w'
  go_simp
  first | with_reducible rfl | (rw [if_neg (by simp only [ByteArray.size_extract, Own.size_mk_, List.size_toArray, List.length_cons, List.length_nil] at *; omega)]; try with_reducible rfl)
 rotate_left
 ·
  simp only [Own.ps]
  rfl
 refine one_ (i := 2) (N := some 17) #[true, true, true, true, true, true, true, true, true, false, false] rfl rfl (one_of HT_.out (by kernel_rfl)) (by decide) (fun K hK => ?_)
 refine goes_ Tryd.func28 (by kernel_rfl) rfl #[.int .i64 (wrap64 (Int.tdiv a0 10))] (by rfl) rfl rfl Own.ha ?_
 with_reducible refine (ih k (by omega) (wrap64 (Int.tdiv a0 10)) t103 _ A10.out).mono ?_
 rintro e w17 ⟨rfl, hb⟩
 refine ⟨_, rfl, ?_⟩
 have n0_ := Own.bs hb
 clear HB
 have HB := n0_
 clear n0_
 (try clear hb)
 (try clear hb2)
 (try clear hk)
 (try clear hi)
 refine hK.out _ _ trivial (fun hHeld => ?_)
 clear hK K
 refine norm_ (a' := ?_) ?_ ?_
 rotate_left
 ·
  show Act.put _ (some 17) _ = _
  simp only [Own.ps]
  rfl
 refine pure_ (i := 9) (N := some 24) (v := ?_) (a' := ?_) #[true, true, true, true, true, true, true, true, true, true, false] rfl rfl (any_of HT_.out (by kernel_rfl)) (fun _ _ _ h => h) (Or.inl ⟨by rfl, ?_⟩) ?_ ?_
 rotate_left
 ·
  intro w'
  go_simp
  first | with_reducible rfl | (rw [if_neg (by simp only [ByteArray.size_extract, Own.size_mk_, List.size_toArray, List.length_cons, List.length_nil] at *; omega)]; try with_reducible rfl)
 rotate_left
 ·
  simp only [Own.ps]
  rfl
 refine pure_ (i := 10) (N := some 2) (v := ?_) (a' := ?_) #[true, true, true, true, true, true, true, true, true, true, true] rfl rfl (any_of HT_.out (by kernel_rfl)) (fun _ _ _ h => h) (Or.inl ⟨by rfl, ?_⟩) ?_ ?_
 rotate_left
 ·
  intro w'
  go_simp
  first | with_reducible rfl | (rw [if_neg (by simp only [ByteArray.size_extract, Own.size_mk_, List.size_toArray, List.length_cons, List.length_nil] at *; omega)]; try with_reducible rfl)
 rotate_left
 ·
  simp only [Own.ps]
  rfl
 refine done_ (done_of HT_.out (by kernel_rfl)) ?_
 try go_wp2
 go_ret
 exact ⟨by first | rfl | (simp [errW_none, errW_some] <;> rfl) | (simp only [← hji11]; first | rfl | (simp [errW_none, errW_some] <;> rfl)) | (simp [*, errW_none, errW_some] <;> rfl), Own.bl⟩

/-! ### spec_l2Format: function 24 -/
def spec_l2Format.j0 : Nat → Int → ByteArray → Option (ByteArray)
 | 0, _, _ => none
 | k + 1, x0, x3 => (spec_l1Num.f k (wrap64 (Int.tdiv x0 100))).bind fun t104 => (if x3.size + t104.size ≤ 9223372036854775807 then (if (x3 ++ t104).size + 1 ≤ 9223372036854775807 then (if (Int.tmod x0 100) < 10 then (if ((x3 ++ t104) ++ (⟨#[46]⟩ : ByteArray)).size + 1 ≤ 9223372036854775807 then ((spec_l1Num.f k (Int.tmod x0 100)).bind fun t105 => (if (((x3 ++ t104) ++ (⟨#[46]⟩ : ByteArray)) ++ (⟨#[48]⟩ : ByteArray)).size + t105.size ≤ 9223372036854775807 then (some ((((x3 ++ t104) ++ (⟨#[46]⟩ : ByteArray)) ++ (⟨#[48]⟩ : ByteArray)) ++ t105)) else (none))) else (none)) else ((spec_l1Num.f k (Int.tmod x0 100)).bind fun t106 => (if ((x3 ++ t104) ++ (⟨#[46]⟩ : ByteArray)).size + t106.size ≤ 9223372036854775807 then (some (((x3 ++ t104) ++ (⟨#[46]⟩ : ByteArray)) ++ t106)) else (none)))) else (none)) else (none))
def spec_l2Format.f (k : Nat) (a0 : Int) : Option (ByteArray) := if a0 < 0 then (spec_l2Format.j0 k (wrap64 (-a0)) (⟨#[45]⟩ : ByteArray)) else (spec_l2Format.j0 k a0 (⟨#[]⟩ : ByteArray))
theorem spec_l2Format.mono_l : ∀ k, (∀ y0 y1, LeO (spec_l2Format.j0 k y0 y1) (spec_l2Format.j0 (k + 1) y0 y1))
 | 0 => fun _ _ r h => by simp [spec_l2Format.j0] at h
 | k + 1 => by
  have ih0 := spec_l2Format.mono_l k
  ·
   intro y0 y1
   unfold spec_l2Format.j0
   repeat' first
   | (with_reducible first | exact ih0 _ _ | exact spec_l1Num.mono _ _ | exact LeO.refl _ | exact LeO.none _ | refine LeO.ite ?_ ?_ | refine LeO.bind ?_ (fun _ => ?_))
theorem spec_l2Format.mono : ∀ a0 k, LeO (spec_l2Format.f k a0) (spec_l2Format.f (k + 1) a0) := by
 intro a0 k
 have ih0 := spec_l2Format.mono_l k
 unfold spec_l2Format.f
 repeat' first
   | (with_reducible first | exact ih0 _ _ | exact spec_l1Num.mono _ _ | exact LeO.refl _ | exact LeO.none _ | refine LeO.ite ?_ ?_ | refine LeO.bind ?_ (fun _ => ?_))
set_option maxHeartbeats 8000000 in
set_option maxRecDepth 100000 in
theorem spec_l2Format.calls (k : Nat) (a0 : Int) (r : ByteArray) (w : World) (h : spec_l2Format.f k a0 = some r) :
  Calls Tryd.prog 24 #[.int .i64 a0] w fun e w' => e = .returned (.string r) ∧ Below w.heap.size w w' := by
 have HB := Aside0.mk (Below.refl w.heap.size w)
 have H : (if a0 < 0 then (spec_l2Format.j0 k (wrap64 (-a0)) (⟨#[45]⟩ : ByteArray)) else (spec_l2Format.j0 k a0 (⟨#[]⟩ : ByteArray))) = some r := h
 clear h
 have HC2 := Aside0.mk H
 clear H
 go_enter Tryd.func24, Tryd.ntmps24
 go_upto_if 5 with (fail)
 go_cut [0, 3] (fun v0 v3 wc => ∃ (kq : Nat) (x0_1 : Int) (x3_1 : ByteArray), v0 = .int .i64 x0_1 ∧ v3 = .string x3_1 ∧ Aside0 (spec_l2Format.j0 kq x0_1 x3_1 = some r) ∧ Aside0 (kq ≤ k) ∧ Aside0 (Below w.heap.size w wc))
 case first =>
  have H := HC2.out
  clear HC2
  by_cases c3 : a0 < 0
  ·
   rw [if_pos c3] at H
   replace c3 := decide_eq_true c3
   (first | rw [c3] | (simp only [i64_w, i32_w]; rw [c3]) | skip)
   have H' := Aside0.mk H
   clear H
   go_wp2
   go_meet
   case rel => exact ⟨_, (wrap64 (-a0)), ((⟨#[45]⟩ : ByteArray)), Own.rs, Own.rs, H', ⟨by first | omega | exact Nat.le_refl _⟩, ⟨Own.bl⟩⟩
  rw [if_neg c3] at H
  replace c3 := decide_eq_false c3
  (first | rw [c3] | (simp only [i64_w, i32_w]; rw [c3]) | skip)
  have H' := Aside0.mk H
  clear H
  go_wp2
  go_meet
  case rel => exact ⟨_, (a0), ((⟨#[]⟩ : ByteArray)), Own.rs, Own.rs, H', ⟨by first | omega | exact Nat.le_refl _⟩, ⟨Own.bl⟩⟩
 case rest =>
  clear HC2
  try clear c2; try clear p2; try clear c3
  obtain ⟨kq, x0_1, x3_1, rfl, rfl, HA, HJ1, HB⟩ := hcut
  cases kq with
  | zero => exact absurd HA.out (by simp [spec_l2Format.j0])
  | succ kj1 =>
   have H := HA.out
   clear HA
   simp only [spec_l2Format.j0] at H
   replace H := Own.bd H; obtain ⟨t104, A4, H⟩ := H
   replace H := Own.ifn H; obtain ⟨c5, H⟩ := H
   have c5b0 := eq_true c5
   have c5b1 : decide (x3_1.size + t104.size ≤ 9223372036854775807) = true := decide_eq_true c5
   try have c5b2 : (9223372036854775807 < x3_1.size + t104.size) = False := eq_false (Nat.not_lt.2 c5)
   replace H := Own.ifn H; obtain ⟨c6, H⟩ := H
   have c6b0 := eq_true c6
   have c6b1 : decide ((x3_1 ++ t104).size + 1 ≤ 9223372036854775807) = true := decide_eq_true c6
   try have c6b2 : (9223372036854775807 < (x3_1 ++ t104).size + 1) = False := eq_false (Nat.not_lt.2 c6)
   try (obtain ⟨xc6_, hxc6_⟩ : ∃ x_ : Nat, ((x3_1 ++ t104).size + 1) = x_ := ⟨_, rfl⟩; have c6b3 := c6b2; rw [hxc6_] at c6b3; (try simp [go_sem] at hxc6_); subst hxc6_)
   by_cases c7 : (Int.tmod x0_1 100) < 10
   rotate_left
   ·
    rw [if_neg c7] at H
    replace c7 := decide_eq_false c7
    replace H := Own.bd H; obtain ⟨t106, A13, H⟩ := H
    replace H := Own.ifn H; obtain ⟨c14, H⟩ := H
    have c14b0 := eq_true c14
    have c14b1 : decide (((x3_1 ++ t104) ++ (⟨#[46]⟩ : ByteArray)).size + t106.size ≤ 9223372036854775807) = true := decide_eq_true c14
    try have c14b2 : (9223372036854775807 < ((x3_1 ++ t104) ++ (⟨#[46]⟩ : ByteArray)).size + t106.size) = False := eq_false (Nat.not_lt.2 c14)
    try (obtain ⟨xc14_, hxc14_⟩ : ∃ x_ : Nat, (((x3_1 ++ t104) ++ (⟨#[46]⟩ : ByteArray)).size + t106.size) = x_ := ⟨_, rfl⟩; have c14b3 := c14b2; rw [hxc14_] at c14b3; (try simp [go_sem] at hxc14_); subst hxc14_)
    obtain rfl := Option.some.inj H
    go_wp2_with (first | ((with_reducible refine gate_callee (f := 28) rfl ?_); refine goesL_ (some 11) rfl rfl Tryd.func28 (by kernel_rfl) rfl #[.int .i64 (wrap64 (Int.tdiv x0_1 100))] rfl Own.ha ?_; (with_reducible refine (spec_l1Num.calls kj1 (wrap64 (Int.tdiv x0_1 100)) t104 _ A4.out).mono ?_); rintro e w15 ⟨rfl, hb⟩; refine ⟨_, rfl, ?_⟩; replace HB := Own.bs hb; (try clear hb)) | ((with_reducible refine gate_callee (f := 28) rfl ?_); refine goesL_ (some 22) rfl rfl Tryd.func28 (by kernel_rfl) rfl #[.int .i64 (Int.tmod x0_1 100)] rfl Own.ha ?_; (with_reducible refine (spec_l1Num.calls kj1 (Int.tmod x0_1 100) t106 _ A13.out).mono ?_); rintro e w16 ⟨rfl, hb⟩; refine ⟨_, rfl, ?_⟩; replace HB := Own.bs hb; (try clear hb)))
    go_ret
    exact ⟨Own.rr, Own.bl⟩
   rw [if_pos c7] at H
   replace c7 := decide_eq_true c7
   replace H := Own.ifn H; obtain ⟨c8, H⟩ := H
   have c8b0 := eq_true c8
   have c8b1 : decide (((x3_1 ++ t104) ++ (⟨#[46]⟩ : ByteArray)).size + 1 ≤ 9223372036854775807) = true := decide_eq_true c8
   try have c8b2 : (9223372036854775807 < ((x3_1 ++ t104) ++ (⟨#[46]⟩ : ByteArray)).size + 1) = False := eq_false (Nat.not_lt.2 c8)
   try (obtain ⟨xc8_, hxc8_⟩ : ∃ x_ : Nat, (((x3_1 ++ t104) ++ (⟨#[46]⟩ : ByteArray)).size + 1) = x_ := ⟨_, rfl⟩; have c8b3 := c8b2; rw [hxc8_] at c8b3; (try simp [go_sem] at hxc8_); subst hxc8_)
   replace H := Own.bd H; obtain ⟨t105, A9, H⟩ := H
   replace H := Own.ifn H; obtain ⟨c10, H⟩ := H
   have c10b0 := eq_true c10
   have c10b1 : decide ((((x3_1 ++ t104) ++ (⟨#[46]⟩ : ByteArray)) ++ (⟨#[48]⟩ : ByteArray)).size + t105.size ≤ 9223372036854775807) = true := decide_eq_true c10
   try have c10b2 : (9223372036854775807 < (((x3_1 ++ t104) ++ (⟨#[46]⟩ : ByteArray)) ++ (⟨#[48]⟩ : ByteArray)).size + t105.size) = False := eq_false (Nat.not_lt.2 c10)
   try (obtain ⟨xc10_, hxc10_⟩ : ∃ x_ : Nat, ((((x3_1 ++ t104) ++ (⟨#[46]⟩ : ByteArray)) ++ (⟨#[48]⟩ : ByteArray)).size + t105.size) = x_ := ⟨_, rfl⟩; have c10b3 := c10b2; rw [hxc10_] at c10b3; (try simp [go_sem] at hxc10_); subst hxc10_)
   obtain rfl := Option.some.inj H
   go_wp2_with (first | ((with_reducible refine gate_callee (f := 28) rfl ?_); refine goesL_ (some 11) rfl rfl Tryd.func28 (by kernel_rfl) rfl #[.int .i64 (wrap64 (Int.tdiv x0_1 100))] rfl Own.ha ?_; (with_reducible refine (spec_l1Num.calls kj1 (wrap64 (Int.tdiv x0_1 100)) t104 _ A4.out).mono ?_); rintro e w11 ⟨rfl, hb⟩; refine ⟨_, rfl, ?_⟩; replace HB := Own.bs hb; (try clear hb)) | ((with_reducible refine gate_callee (f := 28) rfl ?_); refine goesL_ (some 22) rfl rfl Tryd.func28 (by kernel_rfl) rfl #[.int .i64 (Int.tmod x0_1 100)] rfl Own.ha ?_; (with_reducible refine (spec_l1Num.calls kj1 (Int.tmod x0_1 100) t105 _ A9.out).mono ?_); rintro e w12 ⟨rfl, hb⟩; refine ⟨_, rfl, ?_⟩; replace HB := Own.bs hb; (try clear hb)))
   go_ret
   exact ⟨Own.rr, Own.bl⟩

end Go.Proofs.YtoijhfngihjhiaaDoor.QFnExactParseAmount
