-- Written by a program of this session out of the translation; Lean checks it.
import Derived.Test.YtnpenfficbdlmaaDoorQFnExactConditionNamesx0
import Derived.Test.YtnpenfficbdlmaaDoorQFnExactConditionNamesx2
namespace Go.Proofs.YtnpenfficbdlmaaDoor.QFnExactConditionNames
open Go.RowKit Go.Proofs.YtnpenfficbdlmaaDoorW.PrintWords Go.Proofs.YtnpenfficbdlmaaDoorW.PrintLast Go.Proofs.YtnpenfficbdlmaaDoorW.PrintMore
attribute [local go_sem] Instr.field asAgg Own.str_leq Own.str_gtr Own.str_geq
attribute [local go_sem] max2_int min2_int max_two min_two max_three min_three max_four min_four   -- for this text's walks alone
set_option linter.unusedVariables false
set_option linter.unusedSimpArgs false

/-! ### spec_l5Name: function 51 -/
mutual
def spec_l5Name.j0 : Nat → ByteArray → Bool → Option (Bool)
 | 0, _, _ => none
 | k + 1, x0, x17 => if x17 = true then (some false) else (spec_l5Name.l0 k x0 0)
def spec_l5Name.l0 : Nat → ByteArray → Int → Option (Bool)
 | 0, _, _ => none
 | k + 1, x0, x3 => if x3 < (x0.size : Int) then (if 0 ≤ x3 then ((spec_l5Sign.f (bt x0 x3)).bind fun t133 => (if t133 = true then (spec_l5Name.l0 k x0 (wrap64 (x3 + 1))) else (some false))) else (none)) else (if x0.toList = ([116, 114, 117, 101] : List UInt8) then (some false) else (if x0.toList = ([102, 114, 111, 109] : List UInt8) then (some false) else (if x0.toList = ([110, 111, 116] : List UInt8) then (some false) else (if x0.toList = ([97, 110, 100] : List UInt8) then (some false) else (if x0.toList = ([111, 114] : List UInt8) then (some false) else (if x0.toList = ([98, 111, 116, 104] : List UInt8) then (some false) else (if x0.toList = ([101, 105, 116, 104, 101, 114] : List UInt8) then (some false) else (if x0.toList = ([105, 116] : List UInt8) then (some false) else (if x0.toList = ([105, 110] : List UInt8) then (some false) else (some true))))))))))
end
def spec_l5Name.f (k : Nat) (a0 : ByteArray) : Option (Bool) := (spec_l1In.f (a0.size : Int) 1 8).bind fun t132 => (if t132 = true then (if 0 < (a0.size : Int) then (if (bt a0 0) < 97 then (spec_l5Name.j0 k a0 true) else (spec_l5Name.j0 k a0 (decide ((bt a0 0) > 122)))) else (none)) else (spec_l5Name.j0 k a0 true))
theorem spec_l5Name.mono_l : ∀ k, (∀ y0 y1, LeO (spec_l5Name.j0 k y0 y1) (spec_l5Name.j0 (k + 1) y0 y1)) ∧ (∀ y0 y1, LeO (spec_l5Name.l0 k y0 y1) (spec_l5Name.l0 (k + 1) y0 y1))
 | 0 => ⟨fun _ _ r h => by simp [spec_l5Name.j0] at h, fun _ _ r h => by simp [spec_l5Name.l0] at h⟩
 | k + 1 => by
  obtain ⟨ih0, ih1⟩ := spec_l5Name.mono_l k
  refine ⟨?_, ?_⟩
  ·
   intro y0 y1
   unfold spec_l5Name.j0
   repeat' first
   | (with_reducible first | exact ih0 _ _ | exact ih1 _ _ | exact LeO.refl _ | exact LeO.none _ | refine LeO.ite ?_ ?_ | refine LeO.bind ?_ (fun _ => ?_))
  ·
   intro y0 y1
   unfold spec_l5Name.l0
   repeat' first
   | (with_reducible first | exact ih0 _ _ | exact ih1 _ _ | exact LeO.refl _ | exact LeO.none _ | refine LeO.ite ?_ ?_ | refine LeO.bind ?_ (fun _ => ?_))
theorem spec_l5Name.mono : ∀ a0 k, LeO (spec_l5Name.f k a0) (spec_l5Name.f (k + 1) a0) := by
 intro a0 k
 obtain ⟨ih0, ih1⟩ := spec_l5Name.mono_l k
 unfold spec_l5Name.f
 repeat' first
   | (with_reducible first | exact ih0 _ _ | exact ih1 _ _ | exact LeO.refl _ | exact LeO.none _ | refine LeO.ite ?_ ?_ | refine LeO.bind ?_ (fun _ => ?_))
set_option maxHeartbeats 8000000 in
set_option maxRecDepth 100000 in
theorem spec_l5Name.calls (k : Nat) (a0 : ByteArray) (r : Bool) (w : World) (h : spec_l5Name.f k a0 = some r) :
  Calls Tryd.prog 51 #[.string a0] w fun e w' => e = .returned (.bool r) ∧ Drawn0 w w' := by
 have H : ((spec_l1In.f (a0.size : Int) 1 8).bind fun t132 => (if t132 = true then (if 0 < (a0.size : Int) then (if (bt a0 0) < 97 then (spec_l5Name.j0 k a0 true) else (spec_l5Name.j0 k a0 (decide ((bt a0 0) > 122)))) else (none)) else (spec_l5Name.j0 k a0 true))) = some r := h
 clear h
 have HC2 := Aside0.mk H
 clear H
 go_enter Tryd.func51, Tryd.ntmps51
 go_upto_region 1 with (fail)
 go_cut [17] (fun v17 wc => ∃ (kq : Nat) (x17_1 : Bool), v17 = .bool x17_1 ∧ Aside0 (spec_l5Name.j0 kq a0 x17_1 = some r) ∧ Aside0 (kq ≤ k) ∧ Drawn0 w wc)
 case first =>
  have H := HC2.out
  clear HC2
  replace H := Own.bd H; obtain ⟨t132, A3, H⟩ := H
  replace H := Own.ift H; obtain ⟨rfl, H⟩ | ⟨rfl, H⟩ := H
  ·
   have H' := Aside0.mk H
   clear H
   go_wp2_with (first | ((with_reducible refine gate_callee (f := 66) rfl ?_); refine goesL_ (some 6) rfl rfl Tryd.func66 (by kernel_rfl) rfl #[.int .i64 (a0.size : Int), .int .i64 1, .int .i64 8] rfl Own.ha ?_; (with_reducible refine (spec_l1In.calls (a0.size : Int) 1 8 false _ A3.out).mono ?_); rintro e w' ⟨rfl, ⟨nd, rfl⟩⟩; refine ⟨_, rfl, ?_⟩))
   go_meet
   case rel => exact ⟨_, (true), Own.rs, H', ⟨by first | omega | exact Nat.le_refl _⟩, by repeat (first | exact Drawn0.refl _ | apply Drawn0.step)⟩
  replace H := Own.ifn H; obtain ⟨c5, H⟩ := H
  have c5b0 : decide (0 < (a0.size : Int)) = true := decide_eq_true c5
  have c5b1 : decide (0 < a0.size) = true := decide_eq_true (by omega)
  clear c5
  (first | rw [c5b0] | (simp only [i64_w, i32_w]; rw [c5b0]) | skip)
  by_cases c7 : (bt a0 0) < 97
  ·
   rw [if_pos c7] at H
   replace c7 := decide_eq_true c7
   have H' := Aside0.mk H
   clear H
   go_wp2_with (first | ((with_reducible refine gate_callee (f := 66) rfl ?_); refine goesL_ (some 6) rfl rfl Tryd.func66 (by kernel_rfl) rfl #[.int .i64 (a0.size : Int), .int .i64 1, .int .i64 8] rfl Own.ha ?_; (with_reducible refine (spec_l1In.calls (a0.size : Int) 1 8 true _ A3.out).mono ?_); rintro e w' ⟨rfl, ⟨nd, rfl⟩⟩; refine ⟨_, rfl, ?_⟩; have p6 : 0 ≤ (0 : Int) := (by omega); have q6 : 0 < a0.size := (by have : (0 : Int) < (a0.size : Int) := Own.dp; omega); have hx6 : ∀ h : 0 < a0.size, ((a0[0]'h).toNat : Int) = bt a0 0 := bt_at a0 0; clear p6; have qi6 : (0 < (a0.size : Int)) = True := eq_true (Own.dp); replace q6 := eq_true q6))
   go_meet
   case rel => exact ⟨_, (true), Own.rs, H', ⟨by first | omega | exact Nat.le_refl _⟩, by repeat (first | exact Drawn0.refl _ | apply Drawn0.step)⟩
  rw [if_neg c7] at H
  replace c7 := decide_eq_false c7
  have H' := Aside0.mk H
  clear H
  go_wp2_with (first | ((with_reducible refine gate_callee (f := 66) rfl ?_); refine goesL_ (some 6) rfl rfl Tryd.func66 (by kernel_rfl) rfl #[.int .i64 (a0.size : Int), .int .i64 1, .int .i64 8] rfl Own.ha ?_; (with_reducible refine (spec_l1In.calls (a0.size : Int) 1 8 true _ A3.out).mono ?_); rintro e w' ⟨rfl, ⟨nd, rfl⟩⟩; refine ⟨_, rfl, ?_⟩; have p6 : 0 ≤ (0 : Int) := (by omega); have q6 : 0 < a0.size := (by have : (0 : Int) < (a0.size : Int) := Own.dp; omega); have hx6 : ∀ h : 0 < a0.size, ((a0[0]'h).toNat : Int) = bt a0 0 := bt_at a0 0; clear p6; have qi6 : (0 < (a0.size : Int)) = True := eq_true (Own.dp); replace q6 := eq_true q6; have p8 : 0 ≤ (0 : Int) := (by omega); have q8 : 0 < a0.size := (by have : (0 : Int) < (a0.size : Int) := Own.dp; omega); have hx8 : ∀ h : 0 < a0.size, ((a0[0]'h).toNat : Int) = bt a0 0 := bt_at a0 0; clear p8; have qi8 : (0 < (a0.size : Int)) = True := eq_true (Own.dp); replace q8 := eq_true q8))
  go_meet
  case rel => exact ⟨_, (decide ((bt a0 0) > 122)), Own.rs, H', ⟨by first | omega | exact Nat.le_refl _⟩, by repeat (first | exact Drawn0.refl _ | apply Drawn0.step)⟩
 case rest =>
  clear HC2
  try clear p2; try clear c4; try clear c5; try clear c5b0; try clear c5b1; try clear c6; try clear p6; try clear q6; try clear hx6; try clear qi6; try clear c7; try clear p8; try clear q8; try clear hx8; try clear qi8; try clear p6; try clear p8; try clear q6; try clear q8
  obtain ⟨kq, x17_1, rfl, HA, HJ1, ⟨mc1, rfl⟩⟩ := hcut
  cases kq with
  | zero => exact absurd HA.out (by simp [spec_l5Name.j0])
  | succ kj1 =>
   have H := HA.out
   clear HA
   simp only [spec_l5Name.j0] at H
   replace H := Own.ifu H; obtain ⟨rfl, H⟩ | ⟨rfl, H⟩ := H
   ·
    obtain rfl := Option.some.inj H
    go_wp2
    go_ret
    exact ⟨by first | rfl | (simp; done) | (simp [*]; done), by repeat (first | exact Drawn0.refl _ | apply Drawn0.step)⟩
   have H' := Aside0.mk H
   clear H
   go_wp2
   go_loopg [3] kj1 (fun kq v3 w' => ∃ (x3_2 : Int), v3 = .int .i64 x3_2 ∧ Aside0 (spec_l5Name.l0 kq a0 x3_2 = some r) ∧ Aside0 (kq ≤ kj1) ∧ Drawn0 w w')
   case atStart => exact ⟨(0), Own.rs, H', ⟨Nat.le_refl _⟩, by repeat (first | exact Drawn0.refl _ | apply Drawn0.step)⟩
   case round =>
    clear H'
    try clear c1; try clear p2; try clear c4; try clear c5; try clear c5b0; try clear c5b1; try clear c6; try clear p6; try clear q6; try clear hx6; try clear qi6; try clear c7; try clear p8; try clear q8; try clear hx8; try clear qi8; try clear c9; try clear p2; try clear p6; try clear p8; try clear q6; try clear q8
    obtain ⟨x3_2, rfl, HA, HK2, ⟨m2, rfl⟩⟩ := hrel
    cases gk with
    | zero => exact absurd HA.out (by simp [spec_l5Name.l0])
    | succ k2 =>
     have H := HA.out
     clear HA
     simp only [spec_l5Name.l0] at H
     by_cases c10 : x3_2 < (a0.size : Int)
     ·
      rw [if_pos c10] at H
      replace c10 := decide_eq_true c10
      replace H := Own.ifd H; obtain ⟨c11, H⟩ := H
      replace H := Own.bd H; obtain ⟨t133, A13, H⟩ := H
      replace H := Own.ift H; obtain ⟨rfl, H⟩ | ⟨rfl, H⟩ := H
      ·
       obtain rfl := Option.some.inj H
       have p12 : 0 ≤ (x3_2 : Int) := Own.dp
       have q12 : x3_2 < (a0.size : Int) := Own.dp
       have hx12 := bt_at a0 x3_2
       replace p12 := eq_true p12
       replace q12 := eq_true q12
       go_wp2_with (first | ((with_reducible refine gate_callee (f := 67) rfl ?_); refine goesL_ (some 27) rfl rfl Tryd.func67 (by kernel_rfl) rfl #[.int .u8 (bt a0 x3_2)] rfl Own.ha ?_; (with_reducible refine (spec_l5Sign.calls (bt a0 x3_2) false _ A13.out).mono ?_); rintro e w' ⟨rfl, ⟨nd, rfl⟩⟩; refine ⟨_, rfl, ?_⟩))
       go_ret
       exact ⟨by first | rfl | (simp; done) | (simp [*]; done), by repeat (first | exact Drawn0.refl _ | apply Drawn0.step)⟩
      have H' := Aside0.mk H
      clear H
      have p12 : 0 ≤ (x3_2 : Int) := Own.dp
      have q12 : x3_2 < (a0.size : Int) := Own.dp
      have hx12 := bt_at a0 x3_2
      replace p12 := eq_true p12
      replace q12 := eq_true q12
      go_wp2_with (first | ((with_reducible refine gate_callee (f := 67) rfl ?_); refine goesL_ (some 27) rfl rfl Tryd.func67 (by kernel_rfl) rfl #[.int .u8 (bt a0 x3_2)] rfl Own.ha ?_; (with_reducible refine (spec_l5Sign.calls (bt a0 x3_2) true _ A13.out).mono ?_); rintro e w' ⟨rfl, ⟨nd, rfl⟩⟩; refine ⟨_, rfl, ?_⟩))
      go_roundg k2
      case measure => have := HJ1.out; have := HK2.out; omega
      case rel => exact ⟨(wrap64 (x3_2 + 1)), Own.rs, H', ⟨by have := HJ1.out; have := HK2.out; omega⟩, by repeat (first | exact Drawn0.refl _ | apply Drawn0.step)⟩
     rw [if_neg c10] at H
     replace c10 := decide_eq_false c10
     by_cases c15 : a0.toList = ([116, 114, 117, 101] : List UInt8)
     ·
      rw [if_pos c15] at H
      have c15b0 : (a0.toList == ([116, 114, 117, 101] : List UInt8)) = true := beq_iff_eq.mpr c15
      have c15b1 : (a0.toList != ([116, 114, 117, 101] : List UInt8)) = false := bne_eq_false_iff_eq.mpr c15
      clear c15
      obtain rfl := Option.some.inj H
      go_wp2
      go_ret
      exact ⟨by first | rfl | (simp; done) | (simp [*]; done), by repeat (first | exact Drawn0.refl _ | apply Drawn0.step)⟩
     rw [if_neg c15] at H
     have c15b0 : (a0.toList == ([116, 114, 117, 101] : List UInt8)) = false := beq_eq_false_iff_ne.mpr c15
     have c15b1 : (a0.toList != ([116, 114, 117, 101] : List UInt8)) = true := bne_iff_ne.mpr c15
     by_cases c16 : a0.toList = ([102, 114, 111, 109] : List UInt8)
     ·
      rw [if_pos c16] at H
      have c16b0 : (a0.toList == ([102, 114, 111, 109] : List UInt8)) = true := beq_iff_eq.mpr c16
      have c16b1 : (a0.toList != ([102, 114, 111, 109] : List UInt8)) = false := bne_eq_false_iff_eq.mpr c16
      clear c16
      obtain rfl := Option.some.inj H
      go_wp2
      go_ret
      exact ⟨by first | rfl | (simp; done) | (simp [*]; done), by repeat (first | exact Drawn0.refl _ | apply Drawn0.step)⟩
     rw [if_neg c16] at H
     have c16b0 : (a0.toList == ([102, 114, 111, 109] : List UInt8)) = false := beq_eq_false_iff_ne.mpr c16
     have c16b1 : (a0.toList != ([102, 114, 111, 109] : List UInt8)) = true := bne_iff_ne.mpr c16
     by_cases c17 : a0.toList = ([110, 111, 116] : List UInt8)
     ·
      rw [if_pos c17] at H
      have c17b0 : (a0.toList == ([110, 111, 116] : List UInt8)) = true := beq_iff_eq.mpr c17
      have c17b1 : (a0.toList != ([110, 111, 116] : List UInt8)) = false := bne_eq_false_iff_eq.mpr c17
      clear c17
      obtain rfl := Option.some.inj H
      go_wp2
      go_ret
      exact ⟨by first | rfl | (simp; done) | (simp [*]; done), by repeat (first | exact Drawn0.refl _ | apply Drawn0.step)⟩
     rw [if_neg c17] at H
     have c17b0 : (a0.toList == ([110, 111, 116] : List UInt8)) = false := beq_eq_false_iff_ne.mpr c17
     have c17b1 : (a0.toList != ([110, 111, 116] : List UInt8)) = true := bne_iff_ne.mpr c17
     by_cases c18 : a0.toList = ([97, 110, 100] : List UInt8)
     ·
      rw [if_pos c18] at H
      have c18b0 : (a0.toList == ([97, 110, 100] : List UInt8)) = true := beq_iff_eq.mpr c18
      have c18b1 : (a0.toList != ([97, 110, 100] : List UInt8)) = false := bne_eq_false_iff_eq.mpr c18
      clear c18
      obtain rfl := Option.some.inj H
      go_wp2
      go_ret
      exact ⟨by first | rfl | (simp; done) | (simp [*]; done), by repeat (first | exact Drawn0.refl _ | apply Drawn0.step)⟩
     rw [if_neg c18] at H
     have c18b0 : (a0.toList == ([97, 110, 100] : List UInt8)) = false := beq_eq_false_iff_ne.mpr c18
     have c18b1 : (a0.toList != ([97, 110, 100] : List UInt8)) = true := bne_iff_ne.mpr c18
     by_cases c19 : a0.toList = ([111, 114] : List UInt8)
     ·
      rw [if_pos c19] at H
      have c19b0 : (a0.toList == ([111, 114] : List UInt8)) = true := beq_iff_eq.mpr c19
      have c19b1 : (a0.toList != ([111, 114] : List UInt8)) = false := bne_eq_false_iff_eq.mpr c19
      clear c19
      obtain rfl := Option.some.inj H
      go_wp2
      go_ret
      exact ⟨by first | rfl | (simp; done) | (simp [*]; done), by repeat (first | exact Drawn0.refl _ | apply Drawn0.step)⟩
     rw [if_neg c19] at H
     have c19b0 : (a0.toList == ([111, 114] : List UInt8)) = false := beq_eq_false_iff_ne.mpr c19
     have c19b1 : (a0.toList != ([111, 114] : List UInt8)) = true := bne_iff_ne.mpr c19
     by_cases c20 : a0.toList = ([98, 111, 116, 104] : List UInt8)
     ·
      rw [if_pos c20] at H
      have c20b0 : (a0.toList == ([98, 111, 116, 104] : List UInt8)) = true := beq_iff_eq.mpr c20
      have c20b1 : (a0.toList != ([98, 111, 116, 104] : List UInt8)) = false := bne_eq_false_iff_eq.mpr c20
      clear c20
      obtain rfl := Option.some.inj H
      go_wp2
      go_ret
      exact ⟨by first | rfl | (simp; done) | (simp [*]; done), by repeat (first | exact Drawn0.refl _ | apply Drawn0.step)⟩
     rw [if_neg c20] at H
     have c20b0 : (a0.toList == ([98, 111, 116, 104] : List UInt8)) = false := beq_eq_false_iff_ne.mpr c20
     have c20b1 : (a0.toList != ([98, 111, 116, 104] : List UInt8)) = true := bne_iff_ne.mpr c20
     by_cases c21 : a0.toList = ([101, 105, 116, 104, 101, 114] : List UInt8)
     ·
      rw [if_pos c21] at H
      have c21b0 : (a0.toList == ([101, 105, 116, 104, 101, 114] : List UInt8)) = true := beq_iff_eq.mpr c21
      have c21b1 : (a0.toList != ([101, 105, 116, 104, 101, 114] : List UInt8)) = false := bne_eq_false_iff_eq.mpr c21
      clear c21
      obtain rfl := Option.some.inj H
      go_wp2
      go_ret
      exact ⟨by first | rfl | (simp; done) | (simp [*]; done), by repeat (first | exact Drawn0.refl _ | apply Drawn0.step)⟩
     rw [if_neg c21] at H
     have c21b0 : (a0.toList == ([101, 105, 116, 104, 101, 114] : List UInt8)) = false := beq_eq_false_iff_ne.mpr c21
     have c21b1 : (a0.toList != ([101, 105, 116, 104, 101, 114] : List UInt8)) = true := bne_iff_ne.mpr c21
     by_cases c22 : a0.toList = ([105, 116] : List UInt8)
     ·
      rw [if_pos c22] at H
      have c22b0 : (a0.toList == ([105, 116] : List UInt8)) = true := beq_iff_eq.mpr c22
      have c22b1 : (a0.toList != ([105, 116] : List UInt8)) = false := bne_eq_false_iff_eq.mpr c22
      clear c22
      obtain rfl := Option.some.inj H
      go_wp2
      go_ret
      exact ⟨by first | rfl | (simp; done) | (simp [*]; done), by repeat (first | exact Drawn0.refl _ | apply Drawn0.step)⟩
     rw [if_neg c22] at H
     have c22b0 : (a0.toList == ([105, 116] : List UInt8)) = false := beq_eq_false_iff_ne.mpr c22
     have c22b1 : (a0.toList != ([105, 116] : List UInt8)) = true := bne_iff_ne.mpr c22
     by_cases c23 : a0.toList = ([105, 110] : List UInt8)
     rotate_left
     ·
      rw [if_neg c23] at H
      have c23b0 : (a0.toList == ([105, 110] : List UInt8)) = false := beq_eq_false_iff_ne.mpr c23
      have c23b1 : (a0.toList != ([105, 110] : List UInt8)) = true := bne_iff_ne.mpr c23
      obtain rfl := Option.some.inj H
      go_wp2
      go_ret
      exact ⟨by first | rfl | (simp; done) | (simp [*]; done), by repeat (first | exact Drawn0.refl _ | apply Drawn0.step)⟩
     rw [if_pos c23] at H
     have c23b0 : (a0.toList == ([105, 110] : List UInt8)) = true := beq_iff_eq.mpr c23
     have c23b1 : (a0.toList != ([105, 110] : List UInt8)) = false := bne_eq_false_iff_eq.mpr c23
     clear c23
     obtain rfl := Option.some.inj H
     go_wp2
     go_ret
     exact ⟨by first | rfl | (simp; done) | (simp [*]; done), by repeat (first | exact Drawn0.refl _ | apply Drawn0.step)⟩

/-! ### spec_l3Good: function 52 -/
def spec_l3Good.f (a0 : Int) : Option (Bool) := (spec_l1In.f a0 0 36524).bind fun t134 => (some t134)
set_option maxHeartbeats 8000000 in
set_option maxRecDepth 100000 in
theorem spec_l3Good.calls (a0 : Int) (r : Bool) (w : World) (h : spec_l3Good.f a0 = some r) :
  Calls Tryd.prog 52 #[.int .i64 a0] w fun e w' => e = .returned (.bool r) ∧ Drawn0 w w' := by
 have H : ((spec_l1In.f a0 0 36524).bind fun t134 => (some t134)) = some r := h
 clear h
 replace H := Own.bd H; obtain ⟨t134, A2, H⟩ := H
 obtain rfl := Option.some.inj H
 go_enter Tryd.func52, Tryd.ntmps52
 go_wp2_with (first | ((with_reducible refine gate_callee (f := 66) rfl ?_); refine goesL_ (some 4) rfl rfl Tryd.func66 (by kernel_rfl) rfl #[.int .i64 a0, .int .i64 0, .int .i64 36524] rfl Own.ha ?_; (with_reducible refine (spec_l1In.calls a0 0 36524 t134 _ A2.out).mono ?_); rintro e w' ⟨rfl, ⟨nd, rfl⟩⟩; refine ⟨_, rfl, ?_⟩))
 go_ret
 exact ⟨by first | rfl | (simp; done) | (simp [*]; done), by repeat (first | exact Drawn0.refl _ | apply Drawn0.step)⟩

/-! ### spec_l5Form: function 42 -/
def spec_l5Form.f (k : Nat) (a0_0 : Int) (a0_1 : ByteArray) (a0_2 : Int) (l0_3 : List (S28)) : Option (Bool) := if a0_0 = 1 then (if (l0_3.length : Int) = 0 then (if a0_1.toList = ([] : List UInt8) then (some (a0_2 == 0)) else (some false)) else (some false)) else (if a0_0 = 2 then (if (l0_3.length : Int) = 0 then ((spec_l5Name.f k a0_1).bind fun t136 => (if t136 = true then (some (a0_2 == 0)) else (some false))) else (some false)) else (if a0_0 = 3 then (if (l0_3.length : Int) = 0 then (if a0_1.toList = ([] : List UInt8) then ((spec_l3Good.f a0_2).bind fun t137 => (some t137)) else (some false)) else (some false)) else (if a0_0 = 4 then (if (l0_3.length : Int) = 1 then (if a0_1.toList = ([] : List UInt8) then (some (a0_2 == 0)) else (some false)) else (some false)) else (if a0_0 = 5 then (if (l0_3.length : Int) = 2 then (if a0_1.toList = ([] : List UInt8) then (some (a0_2 == 0)) else (some false)) else (some false)) else (if a0_0 = 6 then (if (l0_3.length : Int) = 2 then (if a0_1.toList = ([] : List UInt8) then (some (a0_2 == 0)) else (some false)) else (some false)) else (some false))))))
theorem spec_l5Form.mono : ∀ a0 a1 a2 a3 k, LeO (spec_l5Form.f k a0 a1 a2 a3) (spec_l5Form.f (k + 1) a0 a1 a2 a3) := by
 intro a0 a1 a2 a3 k
 unfold spec_l5Form.f
 repeat' first
   | (with_reducible first | exact spec_l5Name.mono _ _ | exact LeO.refl _ | exact LeO.none _ | refine LeO.ite ?_ ?_ | refine LeO.bind ?_ (fun _ => ?_))
set_option maxHeartbeats 8000000 in
set_option maxRecDepth 100000 in
theorem spec_l5Form.calls (k : Nat) (a0_0 : Int) (a0_1 : ByteArray) (a0_2 : Int) (A0_3 : Option Addr) (c0_3 : Nat) (l0_3 : List (S28)) (r : Bool) (w : World) (hr0_3 : Kd.C k28 w A0_3 l0_3.length l0_3) (hc0_3 : l0_3.length ≤ c0_3) (h : spec_l5Form.f k a0_0 a0_1 a0_2 l0_3 = some r) :
  Calls Tryd.prog 42 #[.agg #[.int .i64 a0_0, .string a0_1, .int .i64 a0_2, .slice A0_3 l0_3.length c0_3]] w fun e w' => e = .returned (.bool r) ∧ Below w.heap.size w w' := by
 have hu28 := Tryd.underlying28
 have HR0_3 := Aside0.mk hr0_3
 have HC0_3 := Aside0.mk hc0_3
 clear hr0_3 hc0_3
 have HB := Aside0.mk (Below.refl w.heap.size w)
 have H : (if a0_0 = 1 then (if (l0_3.length : Int) = 0 then (if a0_1.toList = ([] : List UInt8) then (some (a0_2 == 0)) else (some false)) else (some false)) else (if a0_0 = 2 then (if (l0_3.length : Int) = 0 then ((spec_l5Name.f k a0_1).bind fun t136 => (if t136 = true then (some (a0_2 == 0)) else (some false))) else (some false)) else (if a0_0 = 3 then (if (l0_3.length : Int) = 0 then (if a0_1.toList = ([] : List UInt8) then ((spec_l3Good.f a0_2).bind fun t137 => (some t137)) else (some false)) else (some false)) else (if a0_0 = 4 then (if (l0_3.length : Int) = 1 then (if a0_1.toList = ([] : List UInt8) then (some (a0_2 == 0)) else (some false)) else (some false)) else (if a0_0 = 5 then (if (l0_3.length : Int) = 2 then (if a0_1.toList = ([] : List UInt8) then (some (a0_2 == 0)) else (some false)) else (some false)) else (if a0_0 = 6 then (if (l0_3.length : Int) = 2 then (if a0_1.toList = ([] : List UInt8) then (some (a0_2 == 0)) else (some false)) else (some false)) else (some false))))))) = some r := h
 clear h
 by_cases c2 : a0_0 = 1
 ·
  rw [if_pos c2] at H
  have c2b0 : (a0_0 == 1) = true := beq_iff_eq.mpr c2
  have c2b1 : (a0_0 != 1) = false := bne_eq_false_iff_eq.mpr c2
  clear c2
  by_cases c3 : (l0_3.length : Int) = 0
  rotate_left
  ·
   rw [if_neg c3] at H
   have c3b0 : ((l0_3.length : Int) == 0) = false := beq_eq_false_iff_ne.mpr c3
   have c3b1 : ((l0_3.length : Int) != 0) = true := bne_iff_ne.mpr c3
   have c3b2 : ¬ (l0_3 = []) := fun h_ => c3 (by rw [h_]; rfl)
   obtain rfl := Option.some.inj H
   go_enter Tryd.func42, Tryd.ntmps42
   go_wp2_with (first | ((with_reducible refine gate_dst (N := 1) rfl ?_); refine Own.be (N := 1) (cs := #[.int .i64 a0_0, .string a0_1, .int .i64 a0_2, .slice A0_3 l0_3.length c0_3]) (t := 28) ?_; intro gb135 hg w9 hbox hb; have BK135 := Aside0.mk hbox; have GW135 := (Own.gs hg : Aside0 (w.heap.size ≤ gb135)); have GE135 := GW135; replace HB := Own.bs hb; clear hb hbox hg; obtain ⟨z10_0, z10_1, z10_2, z10_3, y10_0, y10_1, y10_2, y10_3⟩ := Own.box4 BK135.out))
   go_ret
   exact ⟨Own.rr, Own.bl⟩
  rw [if_pos c3] at H
  have c3b0 : ((l0_3.length : Int) == 0) = true := beq_iff_eq.mpr c3
  have c3b1 : ((l0_3.length : Int) != 0) = false := bne_eq_false_iff_eq.mpr c3
  clear c3
  by_cases c4 : a0_1.toList = ([] : List UInt8)
  rotate_left
  ·
   rw [if_neg c4] at H
   have c4b0 : (a0_1.toList == ([] : List UInt8)) = false := beq_eq_false_iff_ne.mpr c4
   have c4b1 : (a0_1.toList != ([] : List UInt8)) = true := bne_iff_ne.mpr c4
   obtain rfl := Option.some.inj H
   go_enter Tryd.func42, Tryd.ntmps42
   go_wp2_with (first | ((with_reducible refine gate_dst (N := 1) rfl ?_); refine Own.be (N := 1) (cs := #[.int .i64 a0_0, .string a0_1, .int .i64 a0_2, .slice A0_3 l0_3.length c0_3]) (t := 28) ?_; intro gb135 hg w7 hbox hb; have BK135 := Aside0.mk hbox; have GW135 := (Own.gs hg : Aside0 (w.heap.size ≤ gb135)); have GE135 := GW135; replace HB := Own.bs hb; clear hb hbox hg; obtain ⟨z8_0, z8_1, z8_2, z8_3, y8_0, y8_1, y8_2, y8_3⟩ := Own.box4 BK135.out))
   go_ret
   exact ⟨Own.rr, Own.bl⟩
  rw [if_pos c4] at H
  have c4b0 : (a0_1.toList == ([] : List UInt8)) = true := beq_iff_eq.mpr c4
  have c4b1 : (a0_1.toList != ([] : List UInt8)) = false := bne_eq_false_iff_eq.mpr c4
  clear c4
  obtain rfl := Option.some.inj H
  go_enter Tryd.func42, Tryd.ntmps42
  go_wp2_with (first | ((with_reducible refine gate_dst (N := 1) rfl ?_); refine Own.be (N := 1) (cs := #[.int .i64 a0_0, .string a0_1, .int .i64 a0_2, .slice A0_3 l0_3.length c0_3]) (t := 28) ?_; intro gb135 hg w5 hbox hb; have BK135 := Aside0.mk hbox; have GW135 := (Own.gs hg : Aside0 (w.heap.size ≤ gb135)); have GE135 := GW135; replace HB := Own.bs hb; clear hb hbox hg; obtain ⟨z6_0, z6_1, z6_2, z6_3, y6_0, y6_1, y6_2, y6_3⟩ := Own.box4 BK135.out))
  go_ret
  exact ⟨Own.rr, Own.bl⟩
 rw [if_neg c2] at H
 have c2b0 : (a0_0 == 1) = false := beq_eq_false_iff_ne.mpr c2
 have c2b1 : (a0_0 != 1) = true := bne_iff_ne.mpr c2
 by_cases c11 : a0_0 = 2
 ·
  rw [if_pos c11] at H
  have c11b0 : (a0_0 == 2) = true := beq_iff_eq.mpr c11
  have c11b1 : (a0_0 != 2) = false := bne_eq_false_iff_eq.mpr c11
  clear c11
  by_cases c12 : (l0_3.length : Int) = 0
  rotate_left
  ·
   rw [if_neg c12] at H
   have c12b0 : ((l0_3.length : Int) == 0) = false := beq_eq_false_iff_ne.mpr c12
   have c12b1 : ((l0_3.length : Int) != 0) = true := bne_iff_ne.mpr c12
   have c12b2 : ¬ (l0_3 = []) := fun h_ => c12 (by rw [h_]; rfl)
   obtain rfl := Option.some.inj H
   go_enter Tryd.func42, Tryd.ntmps42
   go_wp2_with (first | ((with_reducible refine gate_dst (N := 1) rfl ?_); refine Own.be (N := 1) (cs := #[.int .i64 a0_0, .string a0_1, .int .i64 a0_2, .slice A0_3 l0_3.length c0_3]) (t := 28) ?_; intro gb135 hg w19 hbox hb; have BK135 := Aside0.mk hbox; have GW135 := (Own.gs hg : Aside0 (w.heap.size ≤ gb135)); have GE135 := GW135; replace HB := Own.bs hb; clear hb hbox hg; obtain ⟨z20_0, z20_1, z20_2, z20_3, y20_0, y20_1, y20_2, y20_3⟩ := Own.box4 BK135.out))
   go_ret
   exact ⟨Own.rr, Own.bl⟩
  rw [if_pos c12] at H
  have c12b0 : ((l0_3.length : Int) == 0) = true := beq_iff_eq.mpr c12
  have c12b1 : ((l0_3.length : Int) != 0) = false := bne_eq_false_iff_eq.mpr c12
  clear c12
  replace H := Own.bd H; obtain ⟨t136, A13, H⟩ := H
  replace H := Own.ifu H; obtain ⟨rfl, H⟩ | ⟨rfl, H⟩ := H
  ·
   obtain rfl := Option.some.inj H
   go_enter Tryd.func42, Tryd.ntmps42
   go_wp2_with (first | ((with_reducible refine gate_dst (N := 1) rfl ?_); refine Own.be (N := 1) (cs := #[.int .i64 a0_0, .string a0_1, .int .i64 a0_2, .slice A0_3 l0_3.length c0_3]) (t := 28) ?_; intro gb135 hg w15 hbox hb; have BK135 := Aside0.mk hbox; have GW135 := (Own.gs hg : Aside0 (w.heap.size ≤ gb135)); have GE135 := GW135; replace HB := Own.bs hb; clear hb hbox hg; obtain ⟨z16_0, z16_1, z16_2, z16_3, y16_0, y16_1, y16_2, y16_3⟩ := Own.box4 BK135.out) | (go_at_call 51; (with_reducible refine (spec_l5Name.calls k a0_1 true _ A13.out).mono ?_); rintro e w' ⟨rfl, ⟨nd, rfl⟩⟩))
   go_ret
   exact ⟨Own.rr, Own.bl⟩
  obtain rfl := Option.some.inj H
  go_enter Tryd.func42, Tryd.ntmps42
  go_wp2_with (first | ((with_reducible refine gate_dst (N := 1) rfl ?_); refine Own.be (N := 1) (cs := #[.int .i64 a0_0, .string a0_1, .int .i64 a0_2, .slice A0_3 l0_3.length c0_3]) (t := 28) ?_; intro gb135 hg w17 hbox hb; have BK135 := Aside0.mk hbox; have GW135 := (Own.gs hg : Aside0 (w.heap.size ≤ gb135)); have GE135 := GW135; replace HB := Own.bs hb; clear hb hbox hg; obtain ⟨z18_0, z18_1, z18_2, z18_3, y18_0, y18_1, y18_2, y18_3⟩ := Own.box4 BK135.out) | (go_at_call 51; (with_reducible refine (spec_l5Name.calls k a0_1 false _ A13.out).mono ?_); rintro e w' ⟨rfl, ⟨nd, rfl⟩⟩))
  go_ret
  exact ⟨Own.rr, Own.bl⟩
 rw [if_neg c11] at H
 have c11b0 : (a0_0 == 2) = false := beq_eq_false_iff_ne.mpr c11
 have c11b1 : (a0_0 != 2) = true := bne_iff_ne.mpr c11
 by_cases c21 : a0_0 = 3
 ·
  rw [if_pos c21] at H
  have c21b0 : (a0_0 == 3) = true := beq_iff_eq.mpr c21
  have c21b1 : (a0_0 != 3) = false := bne_eq_false_iff_eq.mpr c21
  clear c21
  by_cases c22 : (l0_3.length : Int) = 0
  rotate_left
  ·
   rw [if_neg c22] at H
   have c22b0 : ((l0_3.length : Int) == 0) = false := beq_eq_false_iff_ne.mpr c22
   have c22b1 : ((l0_3.length : Int) != 0) = true := bne_iff_ne.mpr c22
   have c22b2 : ¬ (l0_3 = []) := fun h_ => c22 (by rw [h_]; rfl)
   obtain rfl := Option.some.inj H
   go_enter Tryd.func42, Tryd.ntmps42
   go_wp2_with (first | ((with_reducible refine gate_dst (N := 1) rfl ?_); refine Own.be (N := 1) (cs := #[.int .i64 a0_0, .string a0_1, .int .i64 a0_2, .slice A0_3 l0_3.length c0_3]) (t := 28) ?_; intro gb135 hg w29 hbox hb; have BK135 := Aside0.mk hbox; have GW135 := (Own.gs hg : Aside0 (w.heap.size ≤ gb135)); have GE135 := GW135; replace HB := Own.bs hb; clear hb hbox hg; obtain ⟨z30_0, z30_1, z30_2, z30_3, y30_0, y30_1, y30_2, y30_3⟩ := Own.box4 BK135.out))
   go_ret
   exact ⟨Own.rr, Own.bl⟩
  rw [if_pos c22] at H
  have c22b0 : ((l0_3.length : Int) == 0) = true := beq_iff_eq.mpr c22
  have c22b1 : ((l0_3.length : Int) != 0) = false := bne_eq_false_iff_eq.mpr c22
  clear c22
  by_cases c23 : a0_1.toList = ([] : List UInt8)
  rotate_left
  ·
   rw [if_neg c23] at H
   have c23b0 : (a0_1.toList == ([] : List UInt8)) = false := beq_eq_false_iff_ne.mpr c23
   have c23b1 : (a0_1.toList != ([] : List UInt8)) = true := bne_iff_ne.mpr c23
   obtain rfl := Option.some.inj H
   go_enter Tryd.func42, Tryd.ntmps42
   go_wp2_with (first | ((with_reducible refine gate_dst (N := 1) rfl ?_); refine Own.be (N := 1) (cs := #[.int .i64 a0_0, .string a0_1, .int .i64 a0_2, .slice A0_3 l0_3.length c0_3]) (t := 28) ?_; intro gb135 hg w27 hbox hb; have BK135 := Aside0.mk hbox; have GW135 := (Own.gs hg : Aside0 (w.heap.size ≤ gb135)); have GE135 := GW135; replace HB := Own.bs hb; clear hb hbox hg; obtain ⟨z28_0, z28_1, z28_2, z28_3, y28_0, y28_1, y28_2, y28_3⟩ := Own.box4 BK135.out))
   go_ret
   exact ⟨Own.rr, Own.bl⟩
  rw [if_pos c23] at H
  have c23b0 : (a0_1.toList == ([] : List UInt8)) = true := beq_iff_eq.mpr c23
  have c23b1 : (a0_1.toList != ([] : List UInt8)) = false := bne_eq_false_iff_eq.mpr c23
  clear c23
  replace H := Own.bd H; obtain ⟨t137, A24, H⟩ := H
  obtain rfl := Option.some.inj H
  go_enter Tryd.func42, Tryd.ntmps42
  go_wp2_with (first | ((with_reducible refine gate_dst (N := 1) rfl ?_); refine Own.be (N := 1) (cs := #[.int .i64 a0_0, .string a0_1, .int .i64 a0_2, .slice A0_3 l0_3.length c0_3]) (t := 28) ?_; intro gb135 hg w25 hbox hb; have BK135 := Aside0.mk hbox; have GW135 := (Own.gs hg : Aside0 (w.heap.size ≤ gb135)); have GE135 := GW135; replace HB := Own.bs hb; clear hb hbox hg; obtain ⟨z26_0, z26_1, z26_2, z26_3, y26_0, y26_1, y26_2, y26_3⟩ := Own.box4 BK135.out) | (go_at_call 52; (with_reducible refine (spec_l3Good.calls a0_2 t137 _ A24.out).mono ?_); rintro e w' ⟨rfl, ⟨nd, rfl⟩⟩))
  go_ret
  exact ⟨Own.rr, Own.bl⟩
 rw [if_neg c21] at H
 have c21b0 : (a0_0 == 3) = false := beq_eq_false_iff_ne.mpr c21
 have c21b1 : (a0_0 != 3) = true := bne_iff_ne.mpr c21
 by_cases c31 : a0_0 = 4
 ·
  rw [if_pos c31] at H
  have c31b0 : (a0_0 == 4) = true := beq_iff_eq.mpr c31
  have c31b1 : (a0_0 != 4) = false := bne_eq_false_iff_eq.mpr c31
  clear c31
  by_cases c32 : (l0_3.length : Int) = 1
  rotate_left
  ·
   rw [if_neg c32] at H
   have c32b0 : ((l0_3.length : Int) == 1) = false := beq_eq_false_iff_ne.mpr c32
   have c32b1 : ((l0_3.length : Int) != 1) = true := bne_iff_ne.mpr c32
   obtain rfl := Option.some.inj H
   go_enter Tryd.func42, Tryd.ntmps42
   go_wp2_with (first | ((with_reducible refine gate_dst (N := 1) rfl ?_); refine Own.be (N := 1) (cs := #[.int .i64 a0_0, .string a0_1, .int .i64 a0_2, .slice A0_3 l0_3.length c0_3]) (t := 28) ?_; intro gb135 hg w38 hbox hb; have BK135 := Aside0.mk hbox; have GW135 := (Own.gs hg : Aside0 (w.heap.size ≤ gb135)); have GE135 := GW135; replace HB := Own.bs hb; clear hb hbox hg; obtain ⟨z39_0, z39_1, z39_2, z39_3, y39_0, y39_1, y39_2, y39_3⟩ := Own.box4 BK135.out))
   go_ret
   exact ⟨Own.rr, Own.bl⟩
  rw [if_pos c32] at H
  have c32b0 : ((l0_3.length : Int) == 1) = true := beq_iff_eq.mpr c32
  have c32b1 : ((l0_3.length : Int) != 1) = false := bne_eq_false_iff_eq.mpr c32
  clear c32
  by_cases c33 : a0_1.toList = ([] : List UInt8)
  rotate_left
  ·
   rw [if_neg c33] at H
   have c33b0 : (a0_1.toList == ([] : List UInt8)) = false := beq_eq_false_iff_ne.mpr c33
   have c33b1 : (a0_1.toList != ([] : List UInt8)) = true := bne_iff_ne.mpr c33
   obtain rfl := Option.some.inj H
   go_enter Tryd.func42, Tryd.ntmps42
   go_wp2_with (first | ((with_reducible refine gate_dst (N := 1) rfl ?_); refine Own.be (N := 1) (cs := #[.int .i64 a0_0, .string a0_1, .int .i64 a0_2, .slice A0_3 l0_3.length c0_3]) (t := 28) ?_; intro gb135 hg w36 hbox hb; have BK135 := Aside0.mk hbox; have GW135 := (Own.gs hg : Aside0 (w.heap.size ≤ gb135)); have GE135 := GW135; replace HB := Own.bs hb; clear hb hbox hg; obtain ⟨z37_0, z37_1, z37_2, z37_3, y37_0, y37_1, y37_2, y37_3⟩ := Own.box4 BK135.out))
   go_ret
   exact ⟨Own.rr, Own.bl⟩
  rw [if_pos c33] at H
  have c33b0 : (a0_1.toList == ([] : List UInt8)) = true := beq_iff_eq.mpr c33
  have c33b1 : (a0_1.toList != ([] : List UInt8)) = false := bne_eq_false_iff_eq.mpr c33
  clear c33
  obtain rfl := Option.some.inj H
  go_enter Tryd.func42, Tryd.ntmps42
  go_wp2_with (first | ((with_reducible refine gate_dst (N := 1) rfl ?_); refine Own.be (N := 1) (cs := #[.int .i64 a0_0, .string a0_1, .int .i64 a0_2, .slice A0_3 l0_3.length c0_3]) (t := 28) ?_; intro gb135 hg w34 hbox hb; have BK135 := Aside0.mk hbox; have GW135 := (Own.gs hg : Aside0 (w.heap.size ≤ gb135)); have GE135 := GW135; replace HB := Own.bs hb; clear hb hbox hg; obtain ⟨z35_0, z35_1, z35_2, z35_3, y35_0, y35_1, y35_2, y35_3⟩ := Own.box4 BK135.out))
  go_ret
  exact ⟨Own.rr, Own.bl⟩
 rw [if_neg c31] at H
 have c31b0 : (a0_0 == 4) = false := beq_eq_false_iff_ne.mpr c31
 have c31b1 : (a0_0 != 4) = true := bne_iff_ne.mpr c31
 by_cases c40 : a0_0 = 5
 ·
  rw [if_pos c40] at H
  have c40b0 : (a0_0 == 5) = true := beq_iff_eq.mpr c40
  have c40b1 : (a0_0 != 5) = false := bne_eq_false_iff_eq.mpr c40
  clear c40
  by_cases c41 : (l0_3.length : Int) = 2
  rotate_left
  ·
   rw [if_neg c41] at H
   have c41b0 : ((l0_3.length : Int) == 2) = false := beq_eq_false_iff_ne.mpr c41
   have c41b1 : ((l0_3.length : Int) != 2) = true := bne_iff_ne.mpr c41
   obtain rfl := Option.some.inj H
   go_enter Tryd.func42, Tryd.ntmps42
   go_wp2_with (first | ((with_reducible refine gate_dst (N := 1) rfl ?_); refine Own.be (N := 1) (cs := #[.int .i64 a0_0, .string a0_1, .int .i64 a0_2, .slice A0_3 l0_3.length c0_3]) (t := 28) ?_; intro gb135 hg w47 hbox hb; have BK135 := Aside0.mk hbox; have GW135 := (Own.gs hg : Aside0 (w.heap.size ≤ gb135)); have GE135 := GW135; replace HB := Own.bs hb; clear hb hbox hg; obtain ⟨z48_0, z48_1, z48_2, z48_3, y48_0, y48_1, y48_2, y48_3⟩ := Own.box4 BK135.out))
   go_ret
   exact ⟨Own.rr, Own.bl⟩
  rw [if_pos c41] at H
  have c41b0 : ((l0_3.length : Int) == 2) = true := beq_iff_eq.mpr c41
  have c41b1 : ((l0_3.length : Int) != 2) = false := bne_eq_false_iff_eq.mpr c41
  clear c41
  by_cases c42 : a0_1.toList = ([] : List UInt8)
  rotate_left
  ·
   rw [if_neg c42] at H
   have c42b0 : (a0_1.toList == ([] : List UInt8)) = false := beq_eq_false_iff_ne.mpr c42
   have c42b1 : (a0_1.toList != ([] : List UInt8)) = true := bne_iff_ne.mpr c42
   obtain rfl := Option.some.inj H
   go_enter Tryd.func42, Tryd.ntmps42
   go_wp2_with (first | ((with_reducible refine gate_dst (N := 1) rfl ?_); refine Own.be (N := 1) (cs := #[.int .i64 a0_0, .string a0_1, .int .i64 a0_2, .slice A0_3 l0_3.length c0_3]) (t := 28) ?_; intro gb135 hg w45 hbox hb; have BK135 := Aside0.mk hbox; have GW135 := (Own.gs hg : Aside0 (w.heap.size ≤ gb135)); have GE135 := GW135; replace HB := Own.bs hb; clear hb hbox hg; obtain ⟨z46_0, z46_1, z46_2, z46_3, y46_0, y46_1, y46_2, y46_3⟩ := Own.box4 BK135.out))
   go_ret
   exact ⟨Own.rr, Own.bl⟩
  rw [if_pos c42] at H
  have c42b0 : (a0_1.toList == ([] : List UInt8)) = true := beq_iff_eq.mpr c42
  have c42b1 : (a0_1.toList != ([] : List UInt8)) = false := bne_eq_false_iff_eq.mpr c42
  clear c42
  obtain rfl := Option.some.inj H
  go_enter Tryd.func42, Tryd.ntmps42
  go_wp2_with (first | ((with_reducible refine gate_dst (N := 1) rfl ?_); refine Own.be (N := 1) (cs := #[.int .i64 a0_0, .string a0_1, .int .i64 a0_2, .slice A0_3 l0_3.length c0_3]) (t := 28) ?_; intro gb135 hg w43 hbox hb; have BK135 := Aside0.mk hbox; have GW135 := (Own.gs hg : Aside0 (w.heap.size ≤ gb135)); have GE135 := GW135; replace HB := Own.bs hb; clear hb hbox hg; obtain ⟨z44_0, z44_1, z44_2, z44_3, y44_0, y44_1, y44_2, y44_3⟩ := Own.box4 BK135.out))
  go_ret
  exact ⟨Own.rr, Own.bl⟩
 rw [if_neg c40] at H
 have c40b0 : (a0_0 == 5) = false := beq_eq_false_iff_ne.mpr c40
 have c40b1 : (a0_0 != 5) = true := bne_iff_ne.mpr c40
 by_cases c49 : a0_0 = 6
 rotate_left
 ·
  rw [if_neg c49] at H
  have c49b0 : (a0_0 == 6) = false := beq_eq_false_iff_ne.mpr c49
  have c49b1 : (a0_0 != 6) = true := bne_iff_ne.mpr c49
  obtain rfl := Option.some.inj H
  go_enter Tryd.func42, Tryd.ntmps42
  go_wp2_with (first | ((with_reducible refine gate_dst (N := 1) rfl ?_); refine Own.be (N := 1) (cs := #[.int .i64 a0_0, .string a0_1, .int .i64 a0_2, .slice A0_3 l0_3.length c0_3]) (t := 28) ?_; intro gb135 hg w58 hbox hb; have BK135 := Aside0.mk hbox; have GW135 := (Own.gs hg : Aside0 (w.heap.size ≤ gb135)); have GE135 := GW135; replace HB := Own.bs hb; clear hb hbox hg; obtain ⟨z59_0, z59_1, z59_2, z59_3, y59_0, y59_1, y59_2, y59_3⟩ := Own.box4 BK135.out))
  go_ret
  exact ⟨Own.rr, Own.bl⟩
 rw [if_pos c49] at H
 have c49b0 : (a0_0 == 6) = true := beq_iff_eq.mpr c49
 have c49b1 : (a0_0 != 6) = false := bne_eq_false_iff_eq.mpr c49
 clear c49
 by_cases c50 : (l0_3.length : Int) = 2
 rotate_left
 ·
  rw [if_neg c50] at H
  have c50b0 : ((l0_3.length : Int) == 2) = false := beq_eq_false_iff_ne.mpr c50
  have c50b1 : ((l0_3.length : Int) != 2) = true := bne_iff_ne.mpr c50
  obtain rfl := Option.some.inj H
  go_enter Tryd.func42, Tryd.ntmps42
  go_wp2_with (first | ((with_reducible refine gate_dst (N := 1) rfl ?_); refine Own.be (N := 1) (cs := #[.int .i64 a0_0, .string a0_1, .int .i64 a0_2, .slice A0_3 l0_3.length c0_3]) (t := 28) ?_; intro gb135 hg w56 hbox hb; have BK135 := Aside0.mk hbox; have GW135 := (Own.gs hg : Aside0 (w.heap.size ≤ gb135)); have GE135 := GW135; replace HB := Own.bs hb; clear hb hbox hg; obtain ⟨z57_0, z57_1, z57_2, z57_3, y57_0, y57_1, y57_2, y57_3⟩ := Own.box4 BK135.out))
  go_ret
  exact ⟨Own.rr, Own.bl⟩
 rw [if_pos c50] at H
 have c50b0 : ((l0_3.length : Int) == 2) = true := beq_iff_eq.mpr c50
 have c50b1 : ((l0_3.length : Int) != 2) = false := bne_eq_false_iff_eq.mpr c50
 clear c50
 by_cases c51 : a0_1.toList = ([] : List UInt8)
 rotate_left
 ·
  rw [if_neg c51] at H
  have c51b0 : (a0_1.toList == ([] : List UInt8)) = false := beq_eq_false_iff_ne.mpr c51
  have c51b1 : (a0_1.toList != ([] : List UInt8)) = true := bne_iff_ne.mpr c51
  obtain rfl := Option.some.inj H
  go_enter Tryd.func42, Tryd.ntmps42
  go_wp2_with (first | ((with_reducible refine gate_dst (N := 1) rfl ?_); refine Own.be (N := 1) (cs := #[.int .i64 a0_0, .string a0_1, .int .i64 a0_2, .slice A0_3 l0_3.length c0_3]) (t := 28) ?_; intro gb135 hg w54 hbox hb; have BK135 := Aside0.mk hbox; have GW135 := (Own.gs hg : Aside0 (w.heap.size ≤ gb135)); have GE135 := GW135; replace HB := Own.bs hb; clear hb hbox hg; obtain ⟨z55_0, z55_1, z55_2, z55_3, y55_0, y55_1, y55_2, y55_3⟩ := Own.box4 BK135.out))
  go_ret
  exact ⟨Own.rr, Own.bl⟩
 rw [if_pos c51] at H
 have c51b0 : (a0_1.toList == ([] : List UInt8)) = true := beq_iff_eq.mpr c51
 have c51b1 : (a0_1.toList != ([] : List UInt8)) = false := bne_eq_false_iff_eq.mpr c51
 clear c51
 obtain rfl := Option.some.inj H
 go_enter Tryd.func42, Tryd.ntmps42
 go_wp2_with (first | ((with_reducible refine gate_dst (N := 1) rfl ?_); refine Own.be (N := 1) (cs := #[.int .i64 a0_0, .string a0_1, .int .i64 a0_2, .slice A0_3 l0_3.length c0_3]) (t := 28) ?_; intro gb135 hg w52 hbox hb; have BK135 := Aside0.mk hbox; have GW135 := (Own.gs hg : Aside0 (w.heap.size ≤ gb135)); have GE135 := GW135; replace HB := Own.bs hb; clear hb hbox hg; obtain ⟨z53_0, z53_1, z53_2, z53_3, y53_0, y53_1, y53_2, y53_3⟩ := Own.box4 BK135.out))
 go_ret
 exact ⟨Own.rr, Own.bl⟩

/-! ### spec_l5Forms: function 31 -/
mutual
def spec_l5Forms.l0 : Nat → Int → Int → ByteArray → Int → List (S28) → Option (Bool)
 | 0, _, _, _, _, _ => none
 | k + 1, x3, x139000, x139001, x139002, x139003 => if x3 < (x139003.length : Int) then (if 0 ≤ x3 then ((spec_l5Forms.f k ((rd_T28 x139003 x3).f0) ((rd_T28 x139003 x3).f1) ((rd_T28 x139003 x3).f2) ((rd_T28 x139003 x3).f3)).bind fun t141 => (if t141 = true then (spec_l5Forms.l0 k (wrap64 (x3 + 1)) x139000 x139001 x139002 x139003) else (some false))) else (none)) else (some true)
def spec_l5Forms.f : Nat → Int → ByteArray → Int → List (S28) → Option (Bool)
 | 0, _, _, _, _ => none
 | k + 1, a0_0, a0_1, a0_2, l0_3 => (spec_l5Form.f k a0_0 a0_1 a0_2 l0_3).bind fun t139 => (if t139 = true then (spec_l5Forms.l0 k 0 a0_0 a0_1 a0_2 l0_3) else (some false))
end
theorem spec_l5Forms.mono_l : ∀ k, (∀ y0 y1 y2 y3, LeO (spec_l5Forms.f k y0 y1 y2 y3) (spec_l5Forms.f (k + 1) y0 y1 y2 y3)) ∧ (∀ y0 y1 y2 y3 y4, LeO (spec_l5Forms.l0 k y0 y1 y2 y3 y4) (spec_l5Forms.l0 (k + 1) y0 y1 y2 y3 y4))
 | 0 => ⟨fun _ _ _ _ r h => by simp [spec_l5Forms.f] at h, fun _ _ _ _ _ r h => by simp [spec_l5Forms.l0] at h⟩
 | k + 1 => by
  obtain ⟨ih0, ih1⟩ := spec_l5Forms.mono_l k
  refine ⟨?_, ?_⟩
  ·
   intro y0 y1 y2 y3
   unfold spec_l5Forms.f
   repeat' first
   | (with_reducible first | exact ih0 _ _ _ _ | exact ih1 _ _ _ _ _ | exact spec_l5Form.mono _ _ _ _ _ | exact LeO.refl _ | exact LeO.none _ | refine LeO.ite ?_ ?_ | refine LeO.bind ?_ (fun _ => ?_))
  ·
   intro y0 y1 y2 y3 y4
   unfold spec_l5Forms.l0
   repeat' first
   | (with_reducible first | exact ih0 _ _ _ _ | exact ih1 _ _ _ _ _ | exact spec_l5Form.mono _ _ _ _ _ | exact LeO.refl _ | exact LeO.none _ | refine LeO.ite ?_ ?_ | refine LeO.bind ?_ (fun _ => ?_))
theorem spec_l5Forms.mono : ∀ a0 a1 a2 a3 k, LeO (spec_l5Forms.f k a0 a1 a2 a3) (spec_l5Forms.f (k + 1) a0 a1 a2 a3) := by
 intro a0 a1 a2 a3 k
 obtain ⟨ih0, ih1⟩ := spec_l5Forms.mono_l k
 exact ih0 a0 a1 a2 a3
set_option maxHeartbeats 8000000 in
set_option maxRecDepth 100000 in
theorem spec_l5Forms.calls (k : Nat) : ∀ (a0_0 : Int) (a0_1 : ByteArray) (a0_2 : Int) (A0_3 : Option Addr) (c0_3 : Nat) (l0_3 : List (S28)) (r : Bool) (w : World) (hr0_3 : Kd.C k28 w A0_3 l0_3.length l0_3) (hc0_3 : l0_3.length ≤ c0_3) (h : spec_l5Forms.f k a0_0 a0_1 a0_2 l0_3 = some r),
  Calls Tryd.prog 31 #[.agg #[.int .i64 a0_0, .string a0_1, .int .i64 a0_2, .slice A0_3 l0_3.length c0_3]] w fun e w' => e = .returned (.bool r) ∧ Below w.heap.size w w' := by
 induction k using Nat.strongRecOn with
 | _ k ih =>
 intro a0_0 a0_1 a0_2 A0_3 c0_3 l0_3 r w hr0_3 hc0_3 h
 cases k with
 | zero => exact absurd h (by simp [spec_l5Forms.f])
 | succ k =>
 simp only [spec_l5Forms.f] at h
 have hu28 := Tryd.underlying28
 have HR0_3 := Aside0.mk hr0_3
 have HC0_3 := Aside0.mk hc0_3
 clear hr0_3 hc0_3
 have HB := Aside0.mk (Below.refl w.heap.size w)
 have H : ((spec_l5Form.f k a0_0 a0_1 a0_2 l0_3).bind fun t139 => (if t139 = true then (spec_l5Forms.l0 k 0 a0_0 a0_1 a0_2 l0_3) else (some false))) = some r := h
 clear h
 replace H := Own.bd H; obtain ⟨t139, A2, H⟩ := H
 replace H := Own.ift H; obtain ⟨rfl, H⟩ | ⟨rfl, H⟩ := H
 ·
  obtain rfl := Option.some.inj H
  go_enter Tryd.func31, Tryd.ntmps31
  go_wp2_with (first | ((with_reducible refine gate_dst (N := 1) rfl ?_); refine Own.be (N := 1) (cs := #[.int .i64 a0_0, .string a0_1, .int .i64 a0_2, .slice A0_3 l0_3.length c0_3]) (t := 28) ?_; intro gb138 hg w16 hbox hb; have BK138 := Aside0.mk hbox; have GW138 := (Own.gs hg : Aside0 (w.heap.size ≤ gb138)); have GE138 := GW138; replace HB := Own.bs hb; clear hb hbox hg; obtain ⟨z17_0, z17_1, z17_2, z17_3, y17_0, y17_1, y17_2, y17_3⟩ := Own.box4 BK138.out) | ((with_reducible refine gate_callee (f := 42) rfl ?_); refine goesL_ (some 5) rfl rfl Tryd.func42 (by kernel_rfl) rfl #[.agg #[.int .i64 a0_0, .string a0_1, .int .i64 a0_2, .slice A0_3 l0_3.length c0_3]] rfl Own.ha ?_; (with_reducible refine (spec_l5Form.calls k a0_0 a0_1 a0_2 _ _ l0_3 false _ ?side1 ?side2 A2.out).mono ?_); (case side1 => exact Kd.C_below HR0_3.out Own.bl); (case side2 => exact HC0_3.out); rintro e w18 ⟨rfl, hb⟩; refine ⟨_, rfl, ?_⟩; replace BK138 := Own.bb BK138.out hb; replace HB := Own.bs hb; (try clear hb)))
  go_ret
  exact ⟨Own.rr, Own.bl⟩
 have H' := Aside0.mk H
 clear H
 go_enter Tryd.func31, Tryd.ntmps31
 go_wp2_with (first | ((with_reducible refine gate_dst (N := 1) rfl ?_); refine Own.be (N := 1) (cs := #[.int .i64 a0_0, .string a0_1, .int .i64 a0_2, .slice A0_3 l0_3.length c0_3]) (t := 28) ?_; intro gb138 hg w4 hbox hb; have BK138 := Aside0.mk hbox; have GW138 := (Own.gs hg : Aside0 (w.heap.size ≤ gb138)); have GE138 := GW138; replace HB := Own.bs hb; clear hb hbox hg; obtain ⟨z5_0, z5_1, z5_2, z5_3, y5_0, y5_1, y5_2, y5_3⟩ := Own.box4 BK138.out) | ((with_reducible refine gate_callee (f := 42) rfl ?_); refine goesL_ (some 5) rfl rfl Tryd.func42 (by kernel_rfl) rfl #[.agg #[.int .i64 a0_0, .string a0_1, .int .i64 a0_2, .slice A0_3 l0_3.length c0_3]] rfl Own.ha ?_; (with_reducible refine (spec_l5Form.calls k a0_0 a0_1 a0_2 _ _ l0_3 true _ ?side1 ?side2 A2.out).mono ?_); (case side1 => exact Kd.C_below HR0_3.out Own.bl); (case side2 => exact HC0_3.out); rintro e w6 ⟨rfl, hb⟩; refine ⟨_, rfl, ?_⟩; replace BK138 := Own.bb BK138.out hb; replace HB := Own.bs hb; (try clear hb)))
 go_loopg [3] k (fun kq v3 w' => ∃ (x3_1 : Int), v3 = .int .i64 x3_1 ∧ Aside0 (spec_l5Forms.l0 kq x3_1 a0_0 a0_1 a0_2 l0_3 = some r) ∧ Aside0 (kq ≤ k) ∧ Aside0 (w'.heap[gb138]? = some (.cells #[.int .i64 a0_0, .string a0_1, .int .i64 a0_2, (.slice A0_3 l0_3.length c0_3)] 28 (0, 0))) ∧ Aside0 (Below w.heap.size w w'))
 case atStart => exact ⟨(0), Own.rs, H', ⟨Nat.le_refl _⟩, ⟨Own.bk⟩, ⟨Own.bl⟩⟩
 case round =>
  clear H'
  try clear p2; try clear c3; try clear c4; try clear z5_0 z5_1 z5_2 z5_3 y5_0 y5_1 y5_2 y5_3
  obtain ⟨x3_1, rfl, HA, HK1, BK138, HB⟩ := hrel
  cases gk with
  | zero => exact absurd HA.out (by simp [spec_l5Forms.l0])
  | succ k1 =>
   have H := HA.out
   clear HA
   simp only [spec_l5Forms.l0] at H
   by_cases c7 : x3_1 < (l0_3.length : Int)
   rotate_left
   ·
    rw [if_neg c7] at H
    replace c7 := decide_eq_false c7
    obtain rfl := Option.some.inj H
    obtain ⟨z15_0, z15_1, z15_2, z15_3, y15_0, y15_1, y15_2, y15_3⟩ := Own.box4 BK138.out
    go_wp2
    go_ret
    exact ⟨Own.rr, Own.bl⟩
   rw [if_pos c7] at H
   replace c7 := decide_eq_true c7
   replace H := Own.ifd H; obtain ⟨c8, H⟩ := H
   replace H := Own.bd H; obtain ⟨t141, A9, H⟩ := H
   replace H := Own.ift H; obtain ⟨rfl, H⟩ | ⟨rfl, H⟩ := H
   ·
    obtain rfl := Option.some.inj H
    obtain ⟨z13_0, z13_1, z13_2, z13_3, y13_0, y13_1, y13_2, y13_3⟩ := Own.box4 BK138.out
    have p140 : 0 ≤ (x3_1 : Int) := Own.dp
    have q140 : x3_1 < (l0_3.length : Int) := Own.dp
    obtain ⟨ad140, A140_3, c140_3, e140, hx140_0, hx140_1, hx140_2, hx140_3, hl140_3, hi140_3⟩ := at_T28 HR0_3.out x3_1 p140 q140
    cases e140
    replace hx140_0 := Own.up HB.out hx140_0
    replace hx140_1 := Own.up HB.out hx140_1
    replace hx140_2 := Own.up HB.out hx140_2
    replace hx140_3 := Own.up HB.out hx140_3
    have HR140_3 := Aside0.mk hi140_3
    have HC140_3 := Aside0.mk hl140_3
    clear hi140_3 hl140_3
    replace p140 := eq_true p140
    replace q140 := eq_true q140
    go_wp2_with (first | ((with_reducible refine gate_callee (f := 31) rfl ?_); refine goesL_ (some 19) rfl rfl Tryd.func31 (by kernel_rfl) rfl #[.agg #[.int .i64 ((rd_T28 l0_3 x3_1).f0), .string ((rd_T28 l0_3 x3_1).f1), .int .i64 ((rd_T28 l0_3 x3_1).f2), .slice A140_3 ((rd_T28 l0_3 x3_1).f3).length c140_3]] rfl Own.ha ?_; (with_reducible refine (ih k1 (by have := HK1.out; omega) ((rd_T28 l0_3 x3_1).f0) ((rd_T28 l0_3 x3_1).f1) ((rd_T28 l0_3 x3_1).f2) _ _ ((rd_T28 l0_3 x3_1).f3) false _ ?side1 ?side2 A9.out).mono ?_); (case side1 => exact Kd.C_below HR140_3.out Own.bl); (case side2 => exact HC140_3.out); rintro e w14 ⟨rfl, hb⟩; refine ⟨_, rfl, ?_⟩; replace BK138 := Own.bb BK138.out hb; replace HB := Own.bs hb; (try clear hb)))
    go_ret
    exact ⟨Own.rr, Own.bl⟩
   have H' := Aside0.mk H
   clear H
   obtain ⟨z11_0, z11_1, z11_2, z11_3, y11_0, y11_1, y11_2, y11_3⟩ := Own.box4 BK138.out
   have p140 : 0 ≤ (x3_1 : Int) := Own.dp
   have q140 : x3_1 < (l0_3.length : Int) := Own.dp
   obtain ⟨ad140, A140_3, c140_3, e140, hx140_0, hx140_1, hx140_2, hx140_3, hl140_3, hi140_3⟩ := at_T28 HR0_3.out x3_1 p140 q140
   cases e140
   replace hx140_0 := Own.up HB.out hx140_0
   replace hx140_1 := Own.up HB.out hx140_1
   replace hx140_2 := Own.up HB.out hx140_2
   replace hx140_3 := Own.up HB.out hx140_3
   have HR140_3 := Aside0.mk hi140_3
   have HC140_3 := Aside0.mk hl140_3
   clear hi140_3 hl140_3
   replace p140 := eq_true p140
   replace q140 := eq_true q140
   go_wp2_with (first | ((with_reducible refine gate_callee (f := 31) rfl ?_); refine goesL_ (some 19) rfl rfl Tryd.func31 (by kernel_rfl) rfl #[.agg #[.int .i64 ((rd_T28 l0_3 x3_1).f0), .string ((rd_T28 l0_3 x3_1).f1), .int .i64 ((rd_T28 l0_3 x3_1).f2), .slice A140_3 ((rd_T28 l0_3 x3_1).f3).length c140_3]] rfl Own.ha ?_; (with_reducible refine (ih k1 (by have := HK1.out; omega) ((rd_T28 l0_3 x3_1).f0) ((rd_T28 l0_3 x3_1).f1) ((rd_T28 l0_3 x3_1).f2) _ _ ((rd_T28 l0_3 x3_1).f3) true _ ?side1 ?side2 A9.out).mono ?_); (case side1 => exact Kd.C_below HR140_3.out Own.bl); (case side2 => exact HC140_3.out); rintro e w12 ⟨rfl, hb⟩; refine ⟨_, rfl, ?_⟩; replace BK138 := Own.bb BK138.out hb; replace HB := Own.bs hb; (try clear hb)))
   go_roundg k1
   case measure => have := HK1.out; omega
   case rel => exact ⟨(wrap64 (x3_1 + 1)), Own.rs, H', ⟨by have := HK1.out; omega⟩, ⟨Own.bk⟩, ⟨Own.bl⟩⟩

end Go.Proofs.YtnpenfficbdlmaaDoor.QFnExactConditionNames
