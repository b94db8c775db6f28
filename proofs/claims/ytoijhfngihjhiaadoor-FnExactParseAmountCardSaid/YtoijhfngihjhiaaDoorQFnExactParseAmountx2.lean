-- Written by a program of this session out of the translation; Lean checks it.
import Derived.Test.YtoijhfngihjhiaaDoorQFnExactParseAmountx0
import Derived.Test.YtoijhfngihjhiaaDoorQFnExactParseAmountx1
namespace Go.Proofs.YtoijhfngihjhiaaDoor.QFnExactParseAmount
open Go.RowKit Go.Proofs.YtoijhfngihjhiaaDoorW.PrintWords Go.Proofs.YtoijhfngihjhiaaDoorW.PrintLast Go.Proofs.YtoijhfngihjhiaaDoorW.PrintMore
attribute [local go_sem] Instr.field asAgg Own.str_leq Own.str_gtr Own.str_geq
attribute [local go_sem] max2_int min2_int max_two min_two max_three min_three max_four min_four   -- for this text's walks alone
set_option linter.unusedVariables false
set_option linter.unusedSimpArgs false

/-! ### spec_ParseAmount: function 10 -/
mutual
def spec_ParseAmount.l0 : Nat → ByteArray → Int → Int → Option (Int × Bool)
 | 0, _, _, _ => none
 | k + 1, x0, x4, x5 => if x5 < (x0.size : Int) then (if 0 ≤ x5 then (if (bt x0 x5) ≥ 48 then (spec_ParseAmount.j1 k x0 x4 x5 (decide ((bt x0 x5) ≤ 57))) else (spec_ParseAmount.j1 k x0 x4 x5 false)) else (none)) else (if 0 < (x0.size : Int) then (if (bt x0 0) = 45 then (spec_ParseAmount.j2 k x0 (wrap64 (-x4))) else (spec_ParseAmount.j2 k x0 x4)) else (none))
def spec_ParseAmount.j1 : Nat → ByteArray → Int → Int → Bool → Option (Int × Bool)
 | 0, _, _, _, _ => none
 | k + 1, x0, x4, x5, x25 => if x25 = true then (if 0 ≤ x5 then (if x5 < (x0.size : Int) then (spec_ParseAmount.l0 k x0 (wrap64 ((wrap64 (10 * x4)) + (((bt x0 x5) - 48) % 256))) (wrap64 (x5 + 1))) else (none)) else (none)) else (if 0 ≤ x5 then (if x5 < (x0.size : Int) then (if (bt x0 x5) = 46 then (spec_ParseAmount.l0 k x0 x4 (wrap64 (x5 + 1))) else (if (bt x0 x5) = 45 then (if x5 > 0 then (some (0, false)) else (spec_ParseAmount.l0 k x0 x4 (wrap64 (x5 + 1)))) else (some (0, false)))) else (none)) else (none))
def spec_ParseAmount.j2 : Nat → ByteArray → Int → Option (Int × Bool)
 | 0, _, _ => none
 | k + 1, x0, x4 => (spec_l2Amount.f x4).bind fun t108 => (if t108 = true then ((spec_l2Format.f k x4).bind fun t109 => (if t109.toList = x0.toList then (some (x4, true)) else (some (0, false)))) else (some (0, false)))
end
def spec_ParseAmount.f (k : Nat) (a0 : ByteArray) : Option (Int × Bool) := (spec_l1In.f (a0.size : Int) 4 12).bind fun t107 => (if t107 = true then (spec_ParseAmount.l0 k a0 0 0) else (some (0, false)))
theorem spec_ParseAmount.mono_l : ∀ k, (∀ y0 y1 y2, LeO (spec_ParseAmount.l0 k y0 y1 y2) (spec_ParseAmount.l0 (k + 1) y0 y1 y2)) ∧ (∀ y0 y1 y2 y3, LeO (spec_ParseAmount.j1 k y0 y1 y2 y3) (spec_ParseAmount.j1 (k + 1) y0 y1 y2 y3)) ∧ (∀ y0 y1, LeO (spec_ParseAmount.j2 k y0 y1) (spec_ParseAmount.j2 (k + 1) y0 y1))
 | 0 => ⟨fun _ _ _ r h => by simp [spec_ParseAmount.l0] at h, fun _ _ _ _ r h => by simp [spec_ParseAmount.j1] at h, fun _ _ r h => by simp [spec_ParseAmount.j2] at h⟩
 | k + 1 => by
  obtain ⟨ih0, ih1, ih2⟩ := spec_ParseAmount.mono_l k
  refine ⟨?_, ?_, ?_⟩
  ·
   intro y0 y1 y2
   unfold spec_ParseAmount.l0
   repeat' first
   | (with_reducible first | exact ih0 _ _ _ | exact ih1 _ _ _ _ | exact ih2 _ _ | exact spec_l2Format.mono _ _ | exact LeO.refl _ | exact LeO.none _ | refine LeO.ite ?_ ?_ | refine LeO.bind ?_ (fun _ => ?_))
  ·
   intro y0 y1 y2 y3
   unfold spec_ParseAmount.j1
   repeat' first
   | (with_reducible first | exact ih0 _ _ _ | exact ih1 _ _ _ _ | exact ih2 _ _ | exact spec_l2Format.mono _ _ | exact LeO.refl _ | exact LeO.none _ | refine LeO.ite ?_ ?_ | refine LeO.bind ?_ (fun _ => ?_))
  ·
   intro y0 y1
   unfold spec_ParseAmount.j2
   repeat' first
   | (with_reducible first | exact ih0 _ _ _ | exact ih1 _ _ _ _ | exact ih2 _ _ | exact spec_l2Format.mono _ _ | exact LeO.refl _ | exact LeO.none _ | refine LeO.ite ?_ ?_ | refine LeO.bind ?_ (fun _ => ?_))
theorem spec_ParseAmount.mono : ∀ a0 k, LeO (spec_ParseAmount.f k a0) (spec_ParseAmount.f (k + 1) a0) := by
 intro a0 k
 obtain ⟨ih0, ih1, ih2⟩ := spec_ParseAmount.mono_l k
 unfold spec_ParseAmount.f
 repeat' first
   | (with_reducible first | exact ih0 _ _ _ | exact ih1 _ _ _ _ | exact ih2 _ _ | exact spec_l2Format.mono _ _ | exact LeO.refl _ | exact LeO.none _ | refine LeO.ite ?_ ?_ | refine LeO.bind ?_ (fun _ => ?_))
set_option maxHeartbeats 8000000 in
set_option maxRecDepth 100000 in
theorem spec_ParseAmount.calls (k : Nat) (a0 : ByteArray) (r1 : Int) (r2 : Bool) (w : World) (h : spec_ParseAmount.f k a0 = some (r1, r2)) :
  Calls Tryd.prog 10 #[.string a0] w fun e w' => e = .returned (.tuple #[.int .i64 r1, .bool r2]) ∧ Below w.heap.size w w' := by
 have HB := Aside0.mk (Below.refl w.heap.size w)
 have H : ((spec_l1In.f (a0.size : Int) 4 12).bind fun t107 => (if t107 = true then (spec_ParseAmount.l0 k a0 0 0) else (some (0, false)))) = some (r1, r2) := h
 clear h
 replace H := Own.bd H; obtain ⟨t107, A2, H⟩ := H
 replace H := Own.ift H; obtain ⟨rfl, H⟩ | ⟨rfl, H⟩ := H
 ·
  simp only [Option.some.injEq, Prod.mk.injEq] at H
  obtain ⟨rfl, rfl⟩ := H
  go_enter Tryd.func10, Tryd.ntmps10
  go_wp2_with (first | ((with_reducible refine gate_callee (f := 22) rfl ?_); refine goesL_ (some 8) rfl rfl Tryd.func22 (by kernel_rfl) rfl #[.int .i64 (a0.size : Int), .int .i64 4, .int .i64 12] rfl Own.ha ?_; (with_reducible refine (spec_l1In.calls (a0.size : Int) 4 12 false _ A2.out).mono ?_); rintro e w' ⟨rfl, ⟨nd, rfl⟩⟩; refine ⟨_, rfl, ?_⟩))
  go_ret2
  exact ⟨Own.rr, Own.bl⟩
 have H' := Aside0.mk H
 clear H
 go_enter Tryd.func10, Tryd.ntmps10
 go_wp2_with (first | ((with_reducible refine gate_callee (f := 22) rfl ?_); refine goesL_ (some 8) rfl rfl Tryd.func22 (by kernel_rfl) rfl #[.int .i64 (a0.size : Int), .int .i64 4, .int .i64 12] rfl Own.ha ?_; (with_reducible refine (spec_l1In.calls (a0.size : Int) 4 12 true _ A2.out).mono ?_); rintro e w' ⟨rfl, ⟨nd, rfl⟩⟩; refine ⟨_, rfl, ?_⟩))
 go_loopg [4, 5] k (fun kq v4 v5 w' => ∃ (x4_1 : Int) (x5_1 : Int), v4 = .int .i64 x4_1 ∧ v5 = .int .i64 x5_1 ∧ Aside0 (spec_ParseAmount.l0 kq a0 x4_1 x5_1 = some (r1, r2)) ∧ Aside0 (kq ≤ k) ∧ Aside0 (Below w.heap.size w w'))
 case atStart => exact ⟨(0), (0), Own.rs, Own.rs, H', ⟨Nat.le_refl _⟩, ⟨Own.bl⟩⟩
 case round =>
  clear H'
  try clear c1; try clear c2; try clear p2; try clear c3
  obtain ⟨x4_1, x5_1, rfl, rfl, HA, HK1, HB⟩ := hrel
  cases gk with
  | zero => exact absurd HA.out (by simp [spec_ParseAmount.l0])
  | succ k1 =>
   have H := HA.out
   clear HA
   simp only [spec_ParseAmount.l0] at H
   by_cases c4 : x5_1 < (a0.size : Int)
   rotate_left
   ·
    rw [if_neg c4] at H
    replace c4 := decide_eq_false c4
    replace H := Own.ifn H; obtain ⟨c21, H⟩ := H
    have c21b0 : decide (0 < (a0.size : Int)) = true := decide_eq_true c21
    have c21b1 : decide (0 < a0.size) = true := decide_eq_true (by omega)
    clear c21
    have HC23 := Aside0.mk H
    clear H
    have p22 : 0 ≤ (0 : Int) := (by omega)
    have q22 : 0 < a0.size := (by have : (0 : Int) < (a0.size : Int) := Own.dp; omega)
    have hx22 : ∀ h : 0 < a0.size, ((a0[0]'h).toNat : Int) = bt a0 0 := bt_at a0 0
    clear p22
    have qi22 : (0 < (a0.size : Int)) = True := eq_true (Own.dp)
    replace q22 := eq_true q22
    go_upto_if 50 with (fail)
    go_cut [4] (fun v4 wc => ∃ (kq : Nat) (x4_22 : Int), v4 = .int .i64 x4_22 ∧ Aside0 (spec_ParseAmount.j2 kq a0 x4_22 = some (r1, r2)) ∧ Aside0 (kq ≤ k1) ∧ Aside0 (Below w.heap.size w wc))
    case first =>
     have H := HC23.out
     clear HC23
     by_cases c24 : (bt a0 0) = 45
     rotate_left
     ·
      rw [if_neg c24] at H
      have c24b0 : ((bt a0 0) == 45) = false := beq_eq_false_iff_ne.mpr c24
      have c24b1 : ((bt a0 0) != 45) = true := bne_iff_ne.mpr c24
      (first | rw [c24b0] | (simp only [i64_w, i32_w]; rw [c24b0]) | skip)
      have H' := Aside0.mk H
      clear H
      go_wp2
      go_meet
      case rel => exact ⟨_, (x4_1), Own.rs, H', ⟨by have := HK1.out; first | omega | exact Nat.le_refl _⟩, ⟨Own.bl⟩⟩
     rw [if_pos c24] at H
     have c24b0 : ((bt a0 0) == 45) = true := beq_iff_eq.mpr c24
     have c24b1 : ((bt a0 0) != 45) = false := bne_eq_false_iff_eq.mpr c24
     clear c24
     (first | rw [c24b0] | (simp only [i64_w, i32_w]; rw [c24b0]) | skip)
     have H' := Aside0.mk H
     clear H
     go_wp2
     go_meet
     case rel => exact ⟨_, (wrap64 (-x4_1)), Own.rs, H', ⟨by have := HK1.out; first | omega | exact Nat.le_refl _⟩, ⟨Own.bl⟩⟩
    case rest =>
     clear HC23
     try clear c1; try clear p1; try clear q1; try clear hx1; try clear c2; try clear p2; try clear q2; try clear hx2; try clear qi2; try clear c3; try clear c4; try clear c6; try clear p6; try clear p7; try clear q7; try clear hx7; try clear c8; try clear c8b0; try clear p9; try clear q9; try clear hx9; try clear c10; try clear c11; try clear c12; try clear p13; try clear q13; try clear hx13; try clear c14; try clear c15; try clear p16; try clear q16; try clear hx16; try clear c17; try clear c17b0; try clear c17b1; try clear p18; try clear q18; try clear hx18; try clear c19; try clear c19b0; try clear c19b1; try clear c20; try clear c20b0; try clear c21; try clear c21b0; try clear c21b1; try clear c22; try clear p22; try clear q22; try clear hx22; try clear qi22; try clear c24; try clear c24b0; try clear c24b1; try clear p13; try clear p16; try clear p18; try clear p2; try clear p22; try clear p7; try clear p9; try clear q13; try clear q16; try clear q18; try clear q22; try clear q7; try clear q9
     obtain ⟨kq, x4_22, rfl, HA, HJ22, HB⟩ := hcut
     cases kq with
     | zero => exact absurd HA.out (by simp [spec_ParseAmount.j2])
     | succ kj22 =>
      have H := HA.out
      clear HA
      simp only [spec_ParseAmount.j2] at H
      replace H := Own.bd H; obtain ⟨t108, A25, H⟩ := H
      replace H := Own.ift H; obtain ⟨rfl, H⟩ | ⟨rfl, H⟩ := H
      ·
       simp only [Option.some.injEq, Prod.mk.injEq] at H
       obtain ⟨rfl, rfl⟩ := H
       go_wp2_with (first | ((with_reducible refine gate_callee (f := 23) rfl ?_); refine goesL_ (some 54) rfl rfl Tryd.func23 (by kernel_rfl) rfl #[.int .i64 x4_22] rfl Own.ha ?_; (with_reducible refine (spec_l2Amount.calls x4_22 false _ A25.out).mono ?_); rintro e w' ⟨rfl, ⟨nd, rfl⟩⟩; refine ⟨_, rfl, ?_⟩))
       go_ret2
       exact ⟨Own.rr, Own.bl⟩
      replace H := Own.bd H; obtain ⟨t109, A27, H⟩ := H
      by_cases c28 : t109.toList = a0.toList
      rotate_left
      ·
       rw [if_neg c28] at H
       have c28b0 : (t109.toList == a0.toList) = false := beq_eq_false_iff_ne.mpr c28
       have c28b1 : (t109.toList != a0.toList) = true := bne_iff_ne.mpr c28
       simp only [Option.some.injEq, Prod.mk.injEq] at H
       obtain ⟨rfl, rfl⟩ := H
       go_wp2_with (first | ((with_reducible refine gate_callee (f := 23) rfl ?_); refine goesL_ (some 54) rfl rfl Tryd.func23 (by kernel_rfl) rfl #[.int .i64 x4_22] rfl Own.ha ?_; (with_reducible refine (spec_l2Amount.calls x4_22 true _ A25.out).mono ?_); rintro e w' ⟨rfl, ⟨nd, rfl⟩⟩; refine ⟨_, rfl, ?_⟩) | (go_at_call 24; (with_reducible refine (spec_l2Format.calls kj22 x4_22 t109 _ A27.out).mono ?_); rintro e w30 ⟨rfl, hb⟩; replace HB := Own.bs hb; (try clear hb)))
       go_ret2
       exact ⟨Own.rr, Own.bl⟩
      rw [if_pos c28] at H
      have c28b0 : (t109.toList == a0.toList) = true := beq_iff_eq.mpr c28
      have c28b1 : (t109.toList != a0.toList) = false := bne_eq_false_iff_eq.mpr c28
      clear c28
      simp only [Option.some.injEq, Prod.mk.injEq] at H
      obtain ⟨rfl, rfl⟩ := H
      go_wp2_with (first | ((with_reducible refine gate_callee (f := 23) rfl ?_); refine goesL_ (some 54) rfl rfl Tryd.func23 (by kernel_rfl) rfl #[.int .i64 x4_22] rfl Own.ha ?_; (with_reducible refine (spec_l2Amount.calls x4_22 true _ A25.out).mono ?_); rintro e w' ⟨rfl, ⟨nd, rfl⟩⟩; refine ⟨_, rfl, ?_⟩) | (go_at_call 24; (with_reducible refine (spec_l2Format.calls kj22 x4_22 t109 _ A27.out).mono ?_); rintro e w29 ⟨rfl, hb⟩; replace HB := Own.bs hb; (try clear hb)))
      go_ret2
      exact ⟨Own.rr, Own.bl⟩
   rw [if_pos c4] at H
   replace c4 := decide_eq_true c4
   have HC5 := Aside0.mk H
   clear H
   go_upto_region 7 with (fail)
   go_cut [25] (fun v25 wc => ∃ (kq : Nat) (x25_4 : Bool), v25 = .bool x25_4 ∧ Aside0 (spec_ParseAmount.j1 kq a0 x4_1 x5_1 x25_4 = some (r1, r2)) ∧ Aside0 (kq ≤ k1) ∧ Aside0 (Below w.heap.size w wc))
   case first =>
    have H := HC5.out
    clear HC5
    replace H := Own.ifd H; obtain ⟨c6, H⟩ := H
    (first | rw [c6] | (simp only [i64_w, i32_w]; rw [c6]) | skip)
    by_cases c8 : (bt a0 x5_1) ≥ 48
    rotate_left
    ·
     rw [if_neg c8] at H
     have c8b0 : decide (48 ≤ (bt a0 x5_1)) = false := decide_eq_false c8
     clear c8
     have H' := Aside0.mk H
     clear H
     have p7 : 0 ≤ (x5_1 : Int) := Own.dp
     have q7 : x5_1 < (a0.size : Int) := Own.dp
     have hx7 := bt_at a0 x5_1
     replace p7 := eq_true p7
     replace q7 := eq_true q7
     go_wp2
     go_meet
     case rel => exact ⟨_, (false), Own.rs, H', ⟨by have := HK1.out; first | omega | exact Nat.le_refl _⟩, ⟨Own.bl⟩⟩
    rw [if_pos c8] at H
    have c8b0 : decide (48 ≤ (bt a0 x5_1)) = true := decide_eq_true c8
    clear c8
    have H' := Aside0.mk H
    clear H
    have p7 : 0 ≤ (x5_1 : Int) := Own.dp
    have q7 : x5_1 < (a0.size : Int) := Own.dp
    have hx7 := bt_at a0 x5_1
    replace p7 := eq_true p7
    replace q7 := eq_true q7
    have p9 : 0 ≤ (x5_1 : Int) := Own.dp
    have q9 : x5_1 < (a0.size : Int) := Own.dp
    have hx9 := bt_at a0 x5_1
    replace p9 := eq_true p9
    replace q9 := eq_true q9
    go_wp2
    go_meet
    case rel => exact ⟨_, (decide ((bt a0 x5_1) ≤ 57)), Own.rs, H', ⟨by have := HK1.out; first | omega | exact Nat.le_refl _⟩, ⟨Own.bl⟩⟩
   case rest =>
    clear HC5
    try clear c1; try clear c2; try clear p2; try clear c3; try clear c4; try clear c6; try clear p7; try clear q7; try clear hx7; try clear c8; try clear c8b0; try clear p9; try clear q9; try clear hx9; try clear p2; try clear p7; try clear p9; try clear q7; try clear q9
    obtain ⟨kq, x25_4, rfl, HA, HJ4, HB⟩ := hcut
    cases kq with
    | zero => exact absurd HA.out (by simp [spec_ParseAmount.j1])
    | succ kj4 =>
     have H := HA.out
     clear HA
     simp only [spec_ParseAmount.j1] at H
     replace H := Own.ifu H; obtain ⟨rfl, H⟩ | ⟨rfl, H⟩ := H
     ·
      replace H := Own.ifd H; obtain ⟨c11, H⟩ := H
      replace H := Own.ifd H; obtain ⟨c12, H⟩ := H
      have H' := Aside0.mk H
      clear H
      have p13 : 0 ≤ (x5_1 : Int) := Own.dp
      have q13 : x5_1 < (a0.size : Int) := Own.dp
      have hx13 := bt_at a0 x5_1
      replace p13 := eq_true p13
      replace q13 := eq_true q13
      go_wp2
      go_roundg kj4
      case measure => have := HK1.out; have := HJ4.out; omega
      case rel => exact ⟨(wrap64 ((wrap64 (10 * x4_1)) + (((bt a0 x5_1) - 48) % 256))), (wrap64 (x5_1 + 1)), Own.rs, Own.rs, H', ⟨by have := HK1.out; have := HJ4.out; omega⟩, ⟨Own.bl⟩⟩
     replace H := Own.ifd H; obtain ⟨c14, H⟩ := H
     replace H := Own.ifd H; obtain ⟨c15, H⟩ := H
     by_cases c17 : (bt a0 x5_1) = 46
     ·
      rw [if_pos c17] at H
      have c17b0 : ((bt a0 x5_1) == 46) = true := beq_iff_eq.mpr c17
      have c17b1 : ((bt a0 x5_1) != 46) = false := bne_eq_false_iff_eq.mpr c17
      clear c17
      have H' := Aside0.mk H
      clear H
      have p16 : 0 ≤ (x5_1 : Int) := Own.dp
      have q16 : x5_1 < (a0.size : Int) := Own.dp
      have hx16 := bt_at a0 x5_1
      replace p16 := eq_true p16
      replace q16 := eq_true q16
      go_wp2
      go_roundg kj4
      case measure => have := HK1.out; have := HJ4.out; omega
      case rel => exact ⟨(x4_1), (wrap64 (x5_1 + 1)), Own.rs, Own.rs, H', ⟨by have := HK1.out; have := HJ4.out; omega⟩, ⟨Own.bl⟩⟩
     rw [if_neg c17] at H
     have c17b0 : ((bt a0 x5_1) == 46) = false := beq_eq_false_iff_ne.mpr c17
     have c17b1 : ((bt a0 x5_1) != 46) = true := bne_iff_ne.mpr c17
     by_cases c19 : (bt a0 x5_1) = 45
     rotate_left
     ·
      rw [if_neg c19] at H
      have c19b0 : ((bt a0 x5_1) == 45) = false := beq_eq_false_iff_ne.mpr c19
      have c19b1 : ((bt a0 x5_1) != 45) = true := bne_iff_ne.mpr c19
      simp only [Option.some.injEq, Prod.mk.injEq] at H
      obtain ⟨rfl, rfl⟩ := H
      have p16 : 0 ≤ (x5_1 : Int) := Own.dp
      have q16 : x5_1 < (a0.size : Int) := Own.dp
      have hx16 := bt_at a0 x5_1
      replace p16 := eq_true p16
      replace q16 := eq_true q16
      have p18 : 0 ≤ (x5_1 : Int) := Own.dp
      have q18 : x5_1 < (a0.size : Int) := Own.dp
      have hx18 := bt_at a0 x5_1
      replace p18 := eq_true p18
      replace q18 := eq_true q18
      go_wp2
      go_ret2
      exact ⟨Own.rr, Own.bl⟩
     rw [if_pos c19] at H
     have c19b0 : ((bt a0 x5_1) == 45) = true := beq_iff_eq.mpr c19
     have c19b1 : ((bt a0 x5_1) != 45) = false := bne_eq_false_iff_eq.mpr c19
     clear c19
     by_cases c20 : x5_1 > 0
     ·
      rw [if_pos c20] at H
      have c20b0 : decide (0 < x5_1) = true := decide_eq_true c20
      clear c20
      simp only [Option.some.injEq, Prod.mk.injEq] at H
      obtain ⟨rfl, rfl⟩ := H
      have p16 : 0 ≤ (x5_1 : Int) := Own.dp
      have q16 : x5_1 < (a0.size : Int) := Own.dp
      have hx16 := bt_at a0 x5_1
      replace p16 := eq_true p16
      replace q16 := eq_true q16
      have p18 : 0 ≤ (x5_1 : Int) := Own.dp
      have q18 : x5_1 < (a0.size : Int) := Own.dp
      have hx18 := bt_at a0 x5_1
      replace p18 := eq_true p18
      replace q18 := eq_true q18
      go_wp2
      go_ret2
      exact ⟨Own.rr, Own.bl⟩
     rw [if_neg c20] at H
     have c20b0 : decide (0 < x5_1) = false := decide_eq_false c20
     clear c20
     have H' := Aside0.mk H
     clear H
     have p16 : 0 ≤ (x5_1 : Int) := Own.dp
     have q16 : x5_1 < (a0.size : Int) := Own.dp
     have hx16 := bt_at a0 x5_1
     replace p16 := eq_true p16
     replace q16 := eq_true q16
     have p18 : 0 ≤ (x5_1 : Int) := Own.dp
     have q18 : x5_1 < (a0.size : Int) := Own.dp
     have hx18 := bt_at a0 x5_1
     replace p18 := eq_true p18
     replace q18 := eq_true q18
     go_wp2
     go_roundg kj4
     case measure => have := HK1.out; have := HJ4.out; omega
     case rel => exact ⟨(x4_1), (wrap64 (x5_1 + 1)), Own.rs, Own.rs, H', ⟨by have := HK1.out; have := HJ4.out; omega⟩, ⟨Own.bl⟩⟩

/-! ### impl_within: function 14 -/
def impl_within.f (a0 : Int) (a1 : Int) (a2 : Int) : Option (Bool) := if a0 ≥ a1 then (some (decide (a0 ≤ a2))) else (some false)
set_option maxHeartbeats 8000000 in
set_option maxRecDepth 100000 in
theorem impl_within.calls (a0 : Int) (a1 : Int) (a2 : Int) (r : Bool) (w : World) (h : impl_within.f a0 a1 a2 = some r) :
  Calls Tryd.prog 14 #[.int .i64 a0, .int .i64 a1, .int .i64 a2] w fun e w' => e = .returned (.bool r) ∧ Drawn0 w w' := by
 have H : (if a0 ≥ a1 then (some (decide (a0 ≤ a2))) else (some false)) = some r := h
 clear h
 by_cases c4 : a0 ≥ a1
 ·
  rw [if_pos c4] at H
  have c4b0 : decide (a1 ≤ a0) = true := decide_eq_true c4
  clear c4
  obtain rfl := Option.some.inj H
  go_enter Tryd.func14, Tryd.ntmps14
  go_wp2
  go_ret
  exact ⟨by first | rfl | (simp; done) | (simp [*]; done), by repeat (first | exact Drawn0.refl _ | apply Drawn0.step)⟩
 rw [if_neg c4] at H
 have c4b0 : decide (a1 ≤ a0) = false := decide_eq_false c4
 clear c4
 obtain rfl := Option.some.inj H
 go_enter Tryd.func14, Tryd.ntmps14
 go_wp2
 go_ret
 exact ⟨by first | rfl | (simp; done) | (simp [*]; done), by repeat (first | exact Drawn0.refl _ | apply Drawn0.step)⟩

/-! ### impl_isAmount: function 26 -/
def impl_isAmount.f (a0 : Int) : Option (Bool) := (impl_within.f a0 (-1000000000) 1000000000).bind fun t110 => (some t110)
set_option maxHeartbeats 8000000 in
set_option maxRecDepth 100000 in
theorem impl_isAmount.calls (a0 : Int) (r : Bool) (w : World) (h : impl_isAmount.f a0 = some r) :
  Calls Tryd.prog 26 #[.int .i64 a0] w fun e w' => e = .returned (.bool r) ∧ Drawn0 w w' := by
 have H : ((impl_within.f a0 (-1000000000) 1000000000).bind fun t110 => (some t110)) = some r := h
 clear h
 replace H := Own.bd H; obtain ⟨t110, A2, H⟩ := H
 obtain rfl := Option.some.inj H
 go_enter Tryd.func26, Tryd.ntmps26
 go_wp2_with (first | ((with_reducible refine gate_callee (f := 14) rfl ?_); refine goesL_ (some 4) rfl rfl Tryd.func14 (by kernel_rfl) rfl #[.int .i64 a0, .int .i64 (-1000000000), .int .i64 1000000000] rfl Own.ha ?_; (with_reducible refine (impl_within.calls a0 (-1000000000) 1000000000 t110 _ A2.out).mono ?_); rintro e w' ⟨rfl, ⟨nd, rfl⟩⟩; refine ⟨_, rfl, ?_⟩))
 go_ret
 exact ⟨by first | rfl | (simp; done) | (simp [*]; done), by repeat (first | exact Drawn0.refl _ | apply Drawn0.step)⟩

/-! ### strconv_Itoa: function 31 -/
def strconv_Itoa.f (a0 : Int) : Option (ByteArray) := Own.itoaF a0
theorem strconv_Itoa.calls (a0 : Int) (r : ByteArray) (w : World) (hG : Own.Glob w) (h : strconv_Itoa.f a0 = some r) :
  Calls Tryd.prog 31 #[.int .i64 a0] w fun e w' => e = .returned (.string r) ∧ Below w.heap.size w w' :=
 Own.itoa_calls a0 r w hG.tab h


/-! ### impl_padded: function 35 -/
def impl_padded.l0 : Nat → Int → ByteArray → Option (ByteArray)
 | 0, _, _ => none
 | k + 1, x1, x5 => if (x5.size : Int) < x1 then (if 1 + x5.size ≤ 9223372036854775807 then (impl_padded.l0 k x1 ((⟨#[48]⟩ : ByteArray) ++ x5)) else (none)) else (some x5)
def impl_padded.f (k : Nat) (a0 : Int) (a1 : Int) : Option (ByteArray) := (strconv_Itoa.f a0).bind fun t111 => (impl_padded.l0 k a1 t111)
theorem impl_padded.mono_l : ∀ k, (∀ y0 y1, LeO (impl_padded.l0 k y0 y1) (impl_padded.l0 (k + 1) y0 y1))
 | 0 => fun _ _ r h => by simp [impl_padded.l0] at h
 | k + 1 => by
  have ih0 := impl_padded.mono_l k
  ·
   intro y0 y1
   unfold impl_padded.l0
   repeat' first
   | (with_reducible first | exact ih0 _ _ | exact LeO.refl _ | exact LeO.none _ | refine LeO.ite ?_ ?_ | refine LeO.bind ?_ (fun _ => ?_))
theorem impl_padded.mono : ∀ a0 a1 k, LeO (impl_padded.f k a0 a1) (impl_padded.f (k + 1) a0 a1) := by
 intro a0 a1 k
 have ih0 := impl_padded.mono_l k
 unfold impl_padded.f
 repeat' first
   | (with_reducible first | exact ih0 _ _ | exact LeO.refl _ | exact LeO.none _ | refine LeO.ite ?_ ?_ | refine LeO.bind ?_ (fun _ => ?_))
set_option maxHeartbeats 8000000 in
set_option maxRecDepth 100000 in
theorem impl_padded.calls (k : Nat) (a0 : Int) (a1 : Int) (r : ByteArray) (w : World) (hG : Own.Glob w) (h : impl_padded.f k a0 a1 = some r) :
  Calls Tryd.prog 35 #[.int .i64 a0, .int .i64 a1] w fun e w' => e = .returned (.string r) ∧ Below w.heap.size w w' := by
 have HB := Aside0.mk (Below.refl w.heap.size w)
 have HG := Aside0.mk hG
 clear hG
 have H : ((strconv_Itoa.f a0).bind fun t111 => (impl_padded.l0 k a1 t111)) = some r := h
 clear h
 replace H := Own.bd H; obtain ⟨t111, A3, H⟩ := H
 have H' := Aside0.mk H
 clear H
 go_enter Tryd.func35, Tryd.ntmps35
 go_wp2_with (first | ((with_reducible refine gate_callee (f := 31) rfl ?_); refine goesL_ (some 7) rfl rfl Tryd.func31 (by kernel_rfl) rfl #[.int .i64 a0] rfl Own.ha ?_; (with_reducible refine (strconv_Itoa.calls a0 t111 _ ?side1 A3.out).mono ?_); (case side1 => exact Own.gl HG.out); rintro e w4 ⟨rfl, hb⟩; refine ⟨_, rfl, ?_⟩; replace HB := Own.bs hb; (try clear hb)))
 go_loopg [5] k (fun kq v5 w' => ∃ (x5_1 : ByteArray), v5 = .string x5_1 ∧ Aside0 (impl_padded.l0 kq a1 x5_1 = some r) ∧ Aside0 (kq ≤ k) ∧ Aside0 (Below w.heap.size w w'))
 case atStart => exact ⟨(t111), Own.rs, H', ⟨Nat.le_refl _⟩, ⟨Own.bl⟩⟩
 case round =>
  clear H'
  try clear p2; try clear c3
  obtain ⟨x5_1, rfl, HA, HK1, HB⟩ := hrel
  cases gk with
  | zero => exact absurd HA.out (by simp [impl_padded.l0])
  | succ k1 =>
   have H := HA.out
   clear HA
   simp only [impl_padded.l0] at H
   by_cases c5 : (x5_1.size : Int) < a1
   rotate_left
   ·
    rw [if_neg c5] at H
    replace c5 := decide_eq_false c5
    obtain rfl := Option.some.inj H
    go_wp2
    go_ret
    exact ⟨Own.rr, Own.bl⟩
   rw [if_pos c5] at H
   replace c5 := decide_eq_true c5
   replace H := Own.ifn H; obtain ⟨c6, H⟩ := H
   have c6b0 := eq_true c6
   have c6b1 : decide (1 + x5_1.size ≤ 9223372036854775807) = true := decide_eq_true c6
   try have c6b2 : (9223372036854775807 < 1 + x5_1.size) = False := eq_false (Nat.not_lt.2 c6)
   have H' := Aside0.mk H
   clear H
   go_wp2
   go_roundg k1
   case measure => have := HK1.out; omega
   case rel => exact ⟨((⟨#[48]⟩ : ByteArray) ++ x5_1), Own.rs, H', ⟨by have := HK1.out; omega⟩, ⟨Own.bl⟩⟩

/-! ### impl_size: function 43 -/
def impl_size.f (a0 : Int) : Option (Int) := some (mx a0 (wrap64 (-a0)))
set_option maxHeartbeats 8000000 in
set_option maxRecDepth 100000 in
theorem impl_size.calls (a0 : Int) (r : Int) (w : World) (h : impl_size.f a0 = some r) :
  Calls Tryd.prog 43 #[.int .i64 a0] w fun e w' => e = .returned (.int .i64 r) ∧ Below w.heap.size w w' := by
 have HB := Aside0.mk (Below.refl w.heap.size w)
 have H : (some (mx a0 (wrap64 (-a0)))) = some r := h
 clear h
 obtain ⟨ji2, hji2⟩ : ∃ j_ : Int, (mx a0 (wrap64 (-a0))) = j_ := ⟨_, rfl⟩
 replace H : (some ji2) = some r := by first | (rw [hji2] at H; exact H) | (simp only [hji2] at H ⊢; exact H)
 have hji2_ : (if a0 < (wrap64 (-a0)) then (wrap64 (-a0)) else a0) = ji2 := hji2
 obtain rfl := Option.some.inj H
 go_enter Tryd.func43, Tryd.ntmps43
 go_wp2
 go_ret
 exact ⟨by first | rfl | (simp [errW_none, errW_some] <;> rfl) | (simp only [← hji2]; first | rfl | (simp [errW_none, errW_some] <;> rfl)) | (simp [*, errW_none, errW_some] <;> rfl), Own.bl⟩

/-! ### impl_amountText: function 27 -/
def impl_amountText.j0 : Nat → Int → ByteArray → Option (ByteArray)
 | 0, _, _ => none
 | k + 1, x0, x3 => (impl_size.f x0).bind fun t112 => ((strconv_Itoa.f (wrap64 (Int.tdiv t112 100))).bind fun t113 => (if x3.size + t113.size ≤ 9223372036854775807 then (if (x3 ++ t113).size + 1 ≤ 9223372036854775807 then ((impl_size.f x0).bind fun t114 => ((impl_padded.f k (Int.tmod t114 100) 2).bind fun t115 => (if ((x3 ++ t113) ++ (⟨#[46]⟩ : ByteArray)).size + t115.size ≤ 9223372036854775807 then (some (((x3 ++ t113) ++ (⟨#[46]⟩ : ByteArray)) ++ t115)) else (none)))) else (none)) else (none)))
def impl_amountText.f (k : Nat) (a0 : Int) : Option (ByteArray) := if a0 < 0 then (impl_amountText.j0 k a0 (⟨#[45]⟩ : ByteArray)) else (impl_amountText.j0 k a0 (⟨#[]⟩ : ByteArray))
theorem impl_amountText.mono_l : ∀ k, (∀ y0 y1, LeO (impl_amountText.j0 k y0 y1) (impl_amountText.j0 (k + 1) y0 y1))
 | 0 => fun _ _ r h => by simp [impl_amountText.j0] at h
 | k + 1 => by
  have ih0 := impl_amountText.mono_l k
  ·
   intro y0 y1
   unfold impl_amountText.j0
   repeat' first
   | (with_reducible first | exact ih0 _ _ | exact impl_padded.mono _ _ _ | exact LeO.refl _ | exact LeO.none _ | refine LeO.ite ?_ ?_ | refine LeO.bind ?_ (fun _ => ?_))
theorem impl_amountText.mono : ∀ a0 k, LeO (impl_amountText.f k a0) (impl_amountText.f (k + 1) a0) := by
 intro a0 k
 have ih0 := impl_amountText.mono_l k
 unfold impl_amountText.f
 repeat' first
   | (with_reducible first | exact ih0 _ _ | exact impl_padded.mono _ _ _ | exact LeO.refl _ | exact LeO.none _ | refine LeO.ite ?_ ?_ | refine LeO.bind ?_ (fun _ => ?_))
set_option maxHeartbeats 8000000 in
set_option maxRecDepth 100000 in
theorem impl_amountText.calls (k : Nat) (a0 : Int) (r : ByteArray) (w : World) (hG : Own.Glob w) (h : impl_amountText.f k a0 = some r) :
  Calls Tryd.prog 27 #[.int .i64 a0] w fun e w' => e = .returned (.string r) ∧ Below w.heap.size w w' := by
 have HB := Aside0.mk (Below.refl w.heap.size w)
 have HG := Aside0.mk hG
 clear hG
 have H : (if a0 < 0 then (impl_amountText.j0 k a0 (⟨#[45]⟩ : ByteArray)) else (impl_amountText.j0 k a0 (⟨#[]⟩ : ByteArray))) = some r := h
 clear h
 have HC2 := Aside0.mk H
 clear H
 go_enter Tryd.func27, Tryd.ntmps27
 go_upto_if 5 with (fail)
 go_cut [3] (fun v3 wc => ∃ (kq : Nat) (x3_1 : ByteArray), v3 = .string x3_1 ∧ Aside0 (impl_amountText.j0 kq a0 x3_1 = some r) ∧ Aside0 (kq ≤ k) ∧ Aside0 (Below w.heap.size w wc))
 case first =>
  have H := HC2.out
  clear HC2
  by_cases c3 : a0 < 0
  ·
   rw [if_pos c3] at H
   replace c3 := decide_eq_true c3
   (first | rw [c3] | (simp only [i64_w, i32_w]; rw [c3]) | skip)
   have H' := Aside0.mk H
   clear H
   go_wp2
   go_meet
   case rel => exact ⟨_, ((⟨#[45]⟩ : ByteArray)), Own.rs, H', ⟨by first | omega | exact Nat.le_refl _⟩, ⟨Own.bl⟩⟩
  rw [if_neg c3] at H
  replace c3 := decide_eq_false c3
  (first | rw [c3] | (simp only [i64_w, i32_w]; rw [c3]) | skip)
  have H' := Aside0.mk H
  clear H
  go_wp2
  go_meet
  case rel => exact ⟨_, ((⟨#[]⟩ : ByteArray)), Own.rs, H', ⟨by first | omega | exact Nat.le_refl _⟩, ⟨Own.bl⟩⟩
 case rest =>
  clear HC2
  try clear c2; try clear p2; try clear c3
  obtain ⟨kq, x3_1, rfl, HA, HJ1, HB⟩ := hcut
  cases kq with
  | zero => exact absurd HA.out (by simp [impl_amountText.j0])
  | succ kj1 =>
   have H := HA.out
   clear HA
   simp only [impl_amountText.j0] at H
   replace H := Own.bd H; obtain ⟨t112, A4, H⟩ := H
   replace H := Own.bd H; obtain ⟨t113, A5, H⟩ := H
   replace H := Own.ifn H; obtain ⟨c6, H⟩ := H
   have c6b0 := eq_true c6
   have c6b1 : decide (x3_1.size + t113.size ≤ 9223372036854775807) = true := decide_eq_true c6
   try have c6b2 : (9223372036854775807 < x3_1.size + t113.size) = False := eq_false (Nat.not_lt.2 c6)
   replace H := Own.ifn H; obtain ⟨c7, H⟩ := H
   have c7b0 := eq_true c7
   have c7b1 : decide ((x3_1 ++ t113).size + 1 ≤ 9223372036854775807) = true := decide_eq_true c7
   try have c7b2 : (9223372036854775807 < (x3_1 ++ t113).size + 1) = False := eq_false (Nat.not_lt.2 c7)
   try (obtain ⟨xc7_, hxc7_⟩ : ∃ x_ : Nat, ((x3_1 ++ t113).size + 1) = x_ := ⟨_, rfl⟩; have c7b3 := c7b2; rw [hxc7_] at c7b3; (try simp [go_sem] at hxc7_); subst hxc7_)
   replace H := Own.bd H; obtain ⟨t114, A8, H⟩ := H
   replace H := Own.bd H; obtain ⟨t115, A9, H⟩ := H
   replace H := Own.ifn H; obtain ⟨c10, H⟩ := H
   have c10b0 := eq_true c10
   have c10b1 : decide (((x3_1 ++ t113) ++ (⟨#[46]⟩ : ByteArray)).size + t115.size ≤ 9223372036854775807) = true := decide_eq_true c10
   try have c10b2 : (9223372036854775807 < ((x3_1 ++ t113) ++ (⟨#[46]⟩ : ByteArray)).size + t115.size) = False := eq_false (Nat.not_lt.2 c10)
   try (obtain ⟨xc10_, hxc10_⟩ : ∃ x_ : Nat, (((x3_1 ++ t113) ++ (⟨#[46]⟩ : ByteArray)).size + t115.size) = x_ := ⟨_, rfl⟩; have c10b3 := c10b2; rw [hxc10_] at c10b3; (try simp [go_sem] at hxc10_); subst hxc10_)
   obtain rfl := Option.some.inj H
   go_wp2_with (first | ((with_reducible refine gate_callee (f := 43) rfl ?_); refine goesL_ (some 8) rfl rfl Tryd.func43 (by kernel_rfl) rfl #[.int .i64 a0] rfl Own.ha ?_; (with_reducible refine (impl_size.calls a0 t112 _ A4.out).mono ?_); rintro e w11 ⟨rfl, hb⟩; refine ⟨_, rfl, ?_⟩; replace HB := Own.bs hb; (try clear hb)) | ((with_reducible refine gate_callee (f := 31) rfl ?_); refine goesL_ (some 10) rfl rfl Tryd.func31 (by kernel_rfl) rfl #[.int .i64 (wrap64 (Int.tdiv t112 100))] rfl Own.ha ?_; (with_reducible refine (strconv_Itoa.calls (wrap64 (Int.tdiv t112 100)) t113 _ ?side1 A5.out).mono ?_); (case side1 => exact Own.gl HG.out); rintro e w12 ⟨rfl, hb⟩; refine ⟨_, rfl, ?_⟩; replace HB := Own.bs hb; (try clear hb)) | ((with_reducible refine gate_callee (f := 43) rfl ?_); refine goesL_ (some 14) rfl rfl Tryd.func43 (by kernel_rfl) rfl #[.int .i64 a0] rfl Own.ha ?_; (with_reducible refine (impl_size.calls a0 t114 _ A8.out).mono ?_); rintro e w13 ⟨rfl, hb⟩; refine ⟨_, rfl, ?_⟩; replace HB := Own.bs hb; (try clear hb)) | ((with_reducible refine gate_callee (f := 35) rfl ?_); refine goesL_ (some 16) rfl rfl Tryd.func35 (by kernel_rfl) rfl #[.int .i64 (Int.tmod t114 100), .int .i64 2] rfl Own.ha ?_; (with_reducible refine (impl_padded.calls kj1 (Int.tmod t114 100) 2 t115 _ ?side1 A9.out).mono ?_); (case side1 => exact Own.gl HG.out); rintro e w14 ⟨rfl, hb⟩; refine ⟨_, rfl, ?_⟩; replace HB := Own.bs hb; (try clear hb)))
   go_ret
   exact ⟨Own.rr, Own.bl⟩

/-! ### impl_ParseAmount: function 11 -/
def impl_ParseAmount.f (k : Nat) (a0 : ByteArray) : Option (Int × Bool) := if a0.size ≤ 1048576 then (if (Own.atoiF (Own.undot a0)).isSome = true then (impl_isAmount.f ((Own.atoiF (Own.undot a0)).getD 0)).bind fun b => (if b = true then (impl_amountText.f k ((Own.atoiF (Own.undot a0)).getD 0)).bind fun t => (if t.toList = a0.toList then some ((Own.atoiF (Own.undot a0)).getD 0, true) else some (0, false)) else some (0, false)) else some (0, false)) else none
theorem impl_ParseAmount.mono : ∀ a0 k, LeO (impl_ParseAmount.f k a0) (impl_ParseAmount.f (k + 1) a0) := by
 intro a0 k
 unfold impl_ParseAmount.f
 repeat' first
  | (with_reducible first | exact impl_amountText.mono _ _ | exact LeO.refl _ | exact LeO.none _ | refine LeO.ite ?_ ?_ | refine LeO.bind ?_ (fun _ => ?_))
set_option maxHeartbeats 8000000 in
set_option maxRecDepth 100000 in
theorem impl_ParseAmount.calls (k : Nat) (a0 : ByteArray) (r1 : Int) (r2 : Bool) (w : World) (hG : Own.Glob w) (h : impl_ParseAmount.f k a0 = some (r1, r2)) :
  Calls Tryd.prog 11 #[.string a0] w fun e w' => e = .returned (.tuple #[.int .i64 r1, .bool r2]) ∧ Below w.heap.size w w' := by
 have HB := Aside0.mk (Below.refl w.heap.size w)
 have HG := Aside0.mk hG
 clear hG
 unfold impl_ParseAmount.f at h
 replace h := Own.ifn h; obtain ⟨hs, h⟩ := h
 have HS := Aside0.mk hs
 clear hs
 cases hv : Own.atoiF (Own.undot a0) with
 | none =>
  have HV := Aside0.mk hv
  rw [hv] at h
  clear hv
  simp only [Option.isSome_none, Bool.false_eq_true, if_false] at h
  simp only [Option.some.injEq, Prod.mk.injEq] at h
  obtain ⟨rfl, rfl⟩ := h
  go_enter Tryd.func11, Tryd.ntmps11
  go_wp2_with (first | (go_at_call 25; (with_reducible refine (Own.undot_calls a0 HS.out _ (Own.gl HG.out)).mono ?_); rintro e w2 ⟨rfl, hb⟩; replace HB := Own.bs hb; (try clear hb)) | (go_at_call 13; (with_reducible refine (Own.atoi_none (Own.undot a0) (Nat.le_trans (Own.undot_size a0) HS.out) _ (Own.gl HG.out HB.out) HV.out).mono ?_); rintro e w3 ⟨⟨t, n, N, rfl⟩, hb⟩; replace HB := Own.bs hb; (try clear hb)))
  go_ret2
  exact ⟨Own.rr, Own.bl⟩
 | some v =>
  have HV := Aside0.mk hv
  rw [hv] at h
  clear hv
  simp only [Option.isSome_some, if_true, Option.getD_some] at h
  replace h := Own.bd h; obtain ⟨b, A1, h⟩ := h
  cases b with
  | false =>
   simp only [Bool.false_eq_true, if_false] at h
   simp only [Option.some.injEq, Prod.mk.injEq] at h
   obtain ⟨rfl, rfl⟩ := h
   go_enter Tryd.func11, Tryd.ntmps11
   go_wp2_with (first | (go_at_call 25; (with_reducible refine (Own.undot_calls a0 HS.out _ (Own.gl HG.out)).mono ?_); rintro e w2 ⟨rfl, hb⟩; replace HB := Own.bs hb; (try clear hb)) | (go_at_call 13; (with_reducible refine (Own.atoi_some (Own.undot a0) (Nat.le_trans (Own.undot_size a0) HS.out) _ (Own.gl HG.out HB.out) v HV.out).mono ?_); rintro e w3 ⟨rfl, hb⟩; replace HB := Own.bs hb; (try clear hb)) | (go_at_call 26; (with_reducible refine (impl_isAmount.calls v false _ A1.out).mono ?_); rintro e w4 ⟨rfl, ⟨nd, rfl⟩⟩))
   go_ret2
   exact ⟨Own.rr, Own.bl⟩
  | true =>
   simp only [if_true] at h
   replace h := Own.bd h; obtain ⟨t, A2, h⟩ := h
   by_cases c : t.toList = a0.toList
   ·
    rw [if_pos c] at h
    have cb0 : (t.toList == a0.toList) = true := beq_iff_eq.mpr c
    have cb1 : (t.toList != a0.toList) = false := bne_eq_false_iff_eq.mpr c
    clear c
    simp only [Option.some.injEq, Prod.mk.injEq] at h
    obtain ⟨rfl, rfl⟩ := h
    go_enter Tryd.func11, Tryd.ntmps11
    go_wp2_with (first | (go_at_call 25; (with_reducible refine (Own.undot_calls a0 HS.out _ (Own.gl HG.out)).mono ?_); rintro e w2 ⟨rfl, hb⟩; replace HB := Own.bs hb; (try clear hb)) | (go_at_call 13; (with_reducible refine (Own.atoi_some (Own.undot a0) (Nat.le_trans (Own.undot_size a0) HS.out) _ (Own.gl HG.out HB.out) v HV.out).mono ?_); rintro e w3 ⟨rfl, hb⟩; replace HB := Own.bs hb; (try clear hb)) | (go_at_call 26; (with_reducible refine (impl_isAmount.calls v true _ A1.out).mono ?_); rintro e w4 ⟨rfl, ⟨nd, rfl⟩⟩) | (go_at_call 27; (with_reducible refine (impl_amountText.calls k v t _ (Own.gl HG.out) A2.out).mono ?_); rintro e w5 ⟨rfl, hb⟩; replace HB := Own.bs hb; (try clear hb)))
    go_ret2
    exact ⟨Own.rr, Own.bl⟩
   ·
    rw [if_neg c] at h
    have cb0 : (t.toList == a0.toList) = false := beq_eq_false_iff_ne.mpr c
    have cb1 : (t.toList != a0.toList) = true := bne_iff_ne.mpr c
    clear c
    simp only [Option.some.injEq, Prod.mk.injEq] at h
    obtain ⟨rfl, rfl⟩ := h
    go_enter Tryd.func11, Tryd.ntmps11
    go_wp2_with (first | (go_at_call 25; (with_reducible refine (Own.undot_calls a0 HS.out _ (Own.gl HG.out)).mono ?_); rintro e w2 ⟨rfl, hb⟩; replace HB := Own.bs hb; (try clear hb)) | (go_at_call 13; (with_reducible refine (Own.atoi_some (Own.undot a0) (Nat.le_trans (Own.undot_size a0) HS.out) _ (Own.gl HG.out HB.out) v HV.out).mono ?_); rintro e w3 ⟨rfl, hb⟩; replace HB := Own.bs hb; (try clear hb)) | (go_at_call 26; (with_reducible refine (impl_isAmount.calls v true _ A1.out).mono ?_); rintro e w4 ⟨rfl, ⟨nd, rfl⟩⟩) | (go_at_call 27; (with_reducible refine (impl_amountText.calls k v t _ (Own.gl HG.out) A2.out).mono ?_); rintro e w5 ⟨rfl, hb⟩; replace HB := Own.bs hb; (try clear hb)))
    go_ret2
    exact ⟨Own.rr, Own.bl⟩


end Go.Proofs.YtoijhfngihjhiaaDoor.QFnExactParseAmount
