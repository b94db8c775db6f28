-- Written by a program of this session out of the translation; Lean checks it.
import Derived.Test.YtckopglnblcnoaaGreatDoorQFnExactRemoveClausex1
namespace Go.Proofs.YtckopglnblcnoaaGreatDoor.QFnExactRemoveClause
open Go.RowKit Go.Proofs.YtckopglnblcnoaaGreatDoorW.PrintWords Go.Proofs.YtckopglnblcnoaaGreatDoorW.PrintLast
attribute [local go_sem] Instr.field asAgg
set_option linter.unusedVariables false
set_option linter.unusedSimpArgs false
/-! ### spec_l5Sign: function 61 -/
def spec_l5Sign.f (a0 : Int) : Option (Bool) := if a0 ≥ 97 then (if a0 ≤ 122 then (some true) else (if a0 ≥ 48 then (some (decide (a0 ≤ 57))) else (some false))) else (if a0 ≥ 48 then (some (decide (a0 ≤ 57))) else (some false))
set_option maxHeartbeats 8000000 in
set_option maxRecDepth 100000 in
theorem spec_l5Sign.calls (a0 : Int) (r : Bool) (w : World) (h : spec_l5Sign.f a0 = some r) :
  Calls Tryz.prog 61 #[.int .u8 a0] w fun e w' => e = .returned (.bool r) ∧ Drawn0 w w' := by
 have H : (if a0 ≥ 97 then (if a0 ≤ 122 then (some true) else (if a0 ≥ 48 then (some (decide (a0 ≤ 57))) else (some false))) else (if a0 ≥ 48 then (some (decide (a0 ≤ 57))) else (some false))) = some r := h
 clear h
 by_cases c2 : a0 ≥ 97
 rotate_left
 ·
  rw [if_neg c2] at H
  have c2b0 : decide (97 ≤ a0) = false := decide_eq_false c2
  clear c2
  by_cases c5 : a0 ≥ 48
  ·
   rw [if_pos c5] at H
   have c5b0 : decide (48 ≤ a0) = true := decide_eq_true c5
   clear c5; obtain rfl := Option.some.inj H
   go_enter Tryz.func61, Tryz.ntmps61
   go_wp2
   go_ret
   exact ⟨by first | rfl | (simp; done) | (simp [*]; done), by repeat (first | exact Drawn0.refl _ | apply Drawn0.step)⟩
  rw [if_neg c5] at H
  have c5b0 : decide (48 ≤ a0) = false := decide_eq_false c5
  clear c5; obtain rfl := Option.some.inj H
  go_enter Tryz.func61, Tryz.ntmps61
  go_wp2
  go_ret
  exact ⟨by first | rfl | (simp; done) | (simp [*]; done), by repeat (first | exact Drawn0.refl _ | apply Drawn0.step)⟩
 rw [if_pos c2] at H
 have c2b0 : decide (97 ≤ a0) = true := decide_eq_true c2
 clear c2
 by_cases c3 : a0 ≤ 122
 ·
  rw [if_pos c3] at H; replace c3 := decide_eq_true c3; obtain rfl := Option.some.inj H
  go_enter Tryz.func61, Tryz.ntmps61
  go_wp2
  go_ret
  exact ⟨by first | rfl | (simp; done) | (simp [*]; done), by repeat (first | exact Drawn0.refl _ | apply Drawn0.step)⟩
 rw [if_neg c3] at H
 replace c3 := decide_eq_false c3
 by_cases c4 : a0 ≥ 48
 ·
  rw [if_pos c4] at H
  have c4b0 : decide (48 ≤ a0) = true := decide_eq_true c4
  clear c4; obtain rfl := Option.some.inj H
  go_enter Tryz.func61, Tryz.ntmps61
  go_wp2
  go_ret
  exact ⟨by first | rfl | (simp; done) | (simp [*]; done), by repeat (first | exact Drawn0.refl _ | apply Drawn0.step)⟩
 rw [if_neg c4] at H
 have c4b0 : decide (48 ≤ a0) = false := decide_eq_false c4
 clear c4
 obtain rfl := Option.some.inj H
 go_enter Tryz.func61, Tryz.ntmps61
 go_wp2
 go_ret
 exact ⟨by first | rfl | (simp; done) | (simp [*]; done), by repeat (first | exact Drawn0.refl _ | apply Drawn0.step)⟩
/-! ### spec_l5Name: function 47 -/
mutual
def spec_l5Name.j0 : Nat → ByteArray → Bool → Option (Bool)
 | 0, _, _ => none
 | k + 1, x0, x17 => if x17 = true then (some false) else (spec_l5Name.l0 k x0 0)
def spec_l5Name.l0 : Nat → ByteArray → Int → Option (Bool)
 | 0, _, _ => none
 | k + 1, x0, x3 => if x3 < (x0.size : Int) then (if 0 ≤ x3 then ((spec_l5Sign.f (bt x0 x3)).bind fun t116 => (if t116 = true then (spec_l5Name.l0 k x0 (wrap64 (x3 + 1))) else (some false))) else (none)) else (if x0.toList = ([116, 114, 117, 101] : List UInt8) then (some false) else (if x0.toList = ([102, 114, 111, 109] : List UInt8) then (some false) else (if x0.toList = ([110, 111, 116] : List UInt8) then (some false) else (if x0.toList = ([97, 110, 100] : List UInt8) then (some false) else (if x0.toList = ([111, 114] : List UInt8) then (some false) else (if x0.toList = ([98, 111, 116, 104] : List UInt8) then (some false) else (if x0.toList = ([101, 105, 116, 104, 101, 114] : List UInt8) then (some false) else (if x0.toList = ([105, 116] : List UInt8) then (some false) else (if x0.toList = ([105, 110] : List UInt8) then (some false) else (some true))))))))))
end
def spec_l5Name.f (k : Nat) (a0 : ByteArray) : Option (Bool) := (spec_l1In.f (a0.size : Int) 1 8).bind fun t115 => (if t115 = true then (if 0 < (a0.size : Int) then (if (bt a0 0) < 97 then (spec_l5Name.j0 k a0 true) else (spec_l5Name.j0 k a0 (decide ((bt a0 0) > 122)))) else (none)) else (spec_l5Name.j0 k a0 true))
theorem spec_l5Name.mono_l : ∀ k, (∀ y0 y1, LeO (spec_l5Name.j0 k y0 y1) (spec_l5Name.j0 (k + 1) y0 y1)) ∧ (∀ y0 y1, LeO (spec_l5Name.l0 k y0 y1) (spec_l5Name.l0 (k + 1) y0 y1))
 | 0 => ⟨fun _ _ r h => by simp [spec_l5Name.j0] at h, fun _ _ r h => by simp [spec_l5Name.l0] at h⟩
 | k + 1 => by
  obtain ⟨ih0, ih1⟩ := spec_l5Name.mono_l k
  refine ⟨?_, ?_⟩
  ·
   intro y0 y1; unfold spec_l5Name.j0
   repeat' first
   | (with_reducible first | exact ih0 _ _ | exact ih1 _ _ | exact LeO.refl _ | exact LeO.none _ | refine LeO.ite ?_ ?_ | refine LeO.bind ?_ (fun _ => ?_))
  ·
   intro y0 y1; unfold spec_l5Name.l0
   repeat' first
   | (with_reducible first | exact ih0 _ _ | exact ih1 _ _ | exact LeO.refl _ | exact LeO.none _ | refine LeO.ite ?_ ?_ | refine LeO.bind ?_ (fun _ => ?_))
theorem spec_l5Name.mono : ∀ a0 k, LeO (spec_l5Name.f k a0) (spec_l5Name.f (k + 1) a0) := by
 intro a0 k
 obtain ⟨ih0, ih1⟩ := spec_l5Name.mono_l k
 unfold spec_l5Name.f
 repeat' first
   | (with_reducible first | exact ih0 _ _ | exact ih1 _ _ | exact LeO.refl _ | exact LeO.none _ | refine LeO.ite ?_ ?_ | refine LeO.bind ?_ (fun _ => ?_))
set_option maxHeartbeats 8000000 in
set_option maxRecDepth 100000 in
theorem spec_l5Name.calls (k : Nat) (a0 : ByteArray) (r : Bool) (w : World) (h : spec_l5Name.f k a0 = some r) :
  Calls Tryz.prog 47 #[.string a0] w fun e w' => e = .returned (.bool r) ∧ Drawn0 w w' := by
 have H : ((spec_l1In.f (a0.size : Int) 1 8).bind fun t115 => (if t115 = true then (if 0 < (a0.size : Int) then (if (bt a0 0) < 97 then (spec_l5Name.j0 k a0 true) else (spec_l5Name.j0 k a0 (decide ((bt a0 0) > 122)))) else (none)) else (spec_l5Name.j0 k a0 true))) = some r := h
 clear h
 have HC2 := Aside0.mk H
 clear H
 go_enter Tryz.func47, Tryz.ntmps47
 go_upto_region 1 with (fail)
 go_cut [17] (fun v17 wc => ∃ (kq : Nat) (x17_1 : Bool), v17 = .bool x17_1 ∧ Aside0 (spec_l5Name.j0 kq a0 x17_1 = some r) ∧ Aside0 (kq ≤ k) ∧ Drawn0 w wc)
 case first =>
  have H := HC2.out; clear HC2
  replace H := Own.bd H; obtain ⟨t115, A3, H⟩ := H
  replace H := Own.ift H; obtain ⟨rfl, H⟩ | ⟨rfl, H⟩ := H
  ·
   have H' := Aside0.mk H; clear H
   go_wp2_with (first | ((with_reducible refine gate_callee (f := 30) rfl ?_); refine goesL_ (some 6) rfl rfl Tryz.func30 (by kernel_rfl) rfl #[.int .i64 (a0.size : Int), .int .i64 1, .int .i64 8] rfl Own.ha ?_; (with_reducible refine (spec_l1In.calls (a0.size : Int) 1 8 false _ A3.out).mono ?_); rintro e w' ⟨rfl, ⟨nd, rfl⟩⟩; refine ⟨_, rfl, ?_⟩))
   go_meet
   case rel => exact ⟨_, (true), Own.rs, H', ⟨by first | omega | exact Nat.le_refl _⟩, by repeat (first | exact Drawn0.refl _ | apply Drawn0.step)⟩
  replace H := Own.ifn H; obtain ⟨c5, H⟩ := H
  have c5b0 : decide (0 < (a0.size : Int)) = true := decide_eq_true c5
  have c5b1 : decide (0 < a0.size) = true := decide_eq_true (by omega)
  clear c5
  (first | rw [c5b0] | (simp only [i64_w, i32_w]; rw [c5b0]) | skip)
  by_cases c7 : (bt a0 0) < 97
  ·
   rw [if_pos c7] at H; replace c7 := decide_eq_true c7; have H' := Aside0.mk H; clear H
   go_wp2_with (first | ((with_reducible refine gate_callee (f := 30) rfl ?_); refine goesL_ (some 6) rfl rfl Tryz.func30 (by kernel_rfl) rfl #[.int .i64 (a0.size : Int), .int .i64 1, .int .i64 8] rfl Own.ha ?_; (with_reducible refine (spec_l1In.calls (a0.size : Int) 1 8 true _ A3.out).mono ?_); rintro e w' ⟨rfl, ⟨nd, rfl⟩⟩; refine ⟨_, rfl, ?_⟩; have p6 : 0 ≤ (0 : Int) := (by omega); have q6 : 0 < a0.size := (by have : (0 : Int) < (a0.size : Int) := Own.dp; omega); have hx6 : ∀ h : 0 < a0.size, ((a0[0]'h).toNat : Int) = bt a0 0 := bt_at a0 0; clear p6; have qi6 : (0 < (a0.size : Int)) = True := eq_true (Own.dp); replace q6 := eq_true q6))
   go_meet
   case rel => exact ⟨_, (true), Own.rs, H', ⟨by first | omega | exact Nat.le_refl _⟩, by repeat (first | exact Drawn0.refl _ | apply Drawn0.step)⟩
  rw [if_neg c7] at H; replace c7 := decide_eq_false c7; have H' := Aside0.mk H; clear H
  go_wp2_with (first | ((with_reducible refine gate_callee (f := 30) rfl ?_); refine goesL_ (some 6) rfl rfl Tryz.func30 (by kernel_rfl) rfl #[.int .i64 (a0.size : Int), .int .i64 1, .int .i64 8] rfl Own.ha ?_; (with_reducible refine (spec_l1In.calls (a0.size : Int) 1 8 true _ A3.out).mono ?_); rintro e w' ⟨rfl, ⟨nd, rfl⟩⟩; refine ⟨_, rfl, ?_⟩; have p6 : 0 ≤ (0 : Int) := (by omega); have q6 : 0 < a0.size := (by have : (0 : Int) < (a0.size : Int) := Own.dp; omega); have hx6 : ∀ h : 0 < a0.size, ((a0[0]'h).toNat : Int) = bt a0 0 := bt_at a0 0; clear p6; have qi6 : (0 < (a0.size : Int)) = True := eq_true (Own.dp); replace q6 := eq_true q6; have p8 : 0 ≤ (0 : Int) := (by omega); have q8 : 0 < a0.size := (by have : (0 : Int) < (a0.size : Int) := Own.dp; omega); have hx8 : ∀ h : 0 < a0.size, ((a0[0]'h).toNat : Int) = bt a0 0 := bt_at a0 0; clear p8; have qi8 : (0 < (a0.size : Int)) = True := eq_true (Own.dp); replace q8 := eq_true q8))
  go_meet
  case rel => exact ⟨_, (decide ((bt a0 0) > 122)), Own.rs, H', ⟨by first | omega | exact Nat.le_refl _⟩, by repeat (first | exact Drawn0.refl _ | apply Drawn0.step)⟩
 case rest =>
  clear HC2
  skip
  obtain ⟨kq, x17_1, rfl, HA, HJ1, ⟨mc1, rfl⟩⟩ := hcut
  cases kq with
  | zero => exact absurd HA.out (by simp [spec_l5Name.j0])
  | succ kj1 =>
   have H := HA.out; clear HA
   simp only [spec_l5Name.j0] at H
   replace H := Own.ifu H; obtain ⟨rfl, H⟩ | ⟨rfl, H⟩ := H
   ·
    obtain rfl := Option.some.inj H
    go_wp2
    go_ret
    exact ⟨by first | rfl | (simp; done) | (simp [*]; done), by repeat (first | exact Drawn0.refl _ | apply Drawn0.step)⟩
   have H' := Aside0.mk H; clear H
   go_wp2
   go_loopg [3] kj1 (fun kq v3 w' => ∃ (x3_2 : Int), v3 = .int .i64 x3_2 ∧ Aside0 (spec_l5Name.l0 kq a0 x3_2 = some r) ∧ Aside0 (kq ≤ kj1) ∧ Drawn0 w w')
   case atStart => exact ⟨(0), Own.rs, H', ⟨Nat.le_refl _⟩, by repeat (first | exact Drawn0.refl _ | apply Drawn0.step)⟩
   case round =>
    clear H'
    skip
    obtain ⟨x3_2, rfl, HA, HK2, ⟨m2, rfl⟩⟩ := hrel
    cases gk with
    | zero => exact absurd HA.out (by simp [spec_l5Name.l0])
    | succ k2 =>
     have H := HA.out; clear HA
     simp only [spec_l5Name.l0] at H
     by_cases c10 : x3_2 < (a0.size : Int)
     ·
      rw [if_pos c10] at H; replace c10 := decide_eq_true c10
      replace H := Own.ifd H; obtain ⟨c11, H⟩ := H
      replace H := Own.bd H; obtain ⟨t116, A13, H⟩ := H
      replace H := Own.ift H; obtain ⟨rfl, H⟩ | ⟨rfl, H⟩ := H
      ·
       obtain rfl := Option.some.inj H
       have p12 : 0 ≤ (x3_2 : Int) := Own.dp
       have q12 : x3_2 < (a0.size : Int) := Own.dp
       have hx12 := bt_at a0 x3_2; replace p12 := eq_true p12; replace q12 := eq_true q12
       go_wp2_with (first | ((with_reducible refine gate_callee (f := 61) rfl ?_); refine goesL_ (some 27) rfl rfl Tryz.func61 (by kernel_rfl) rfl #[.int .u8 (bt a0 x3_2)] rfl Own.ha ?_; (with_reducible refine (spec_l5Sign.calls (bt a0 x3_2) false _ A13.out).mono ?_); rintro e w' ⟨rfl, ⟨nd, rfl⟩⟩; refine ⟨_, rfl, ?_⟩))
       go_ret
       exact ⟨by first | rfl | (simp; done) | (simp [*]; done), by repeat (first | exact Drawn0.refl _ | apply Drawn0.step)⟩
      have H' := Aside0.mk H; clear H
      have p12 : 0 ≤ (x3_2 : Int) := Own.dp
      have q12 : x3_2 < (a0.size : Int) := Own.dp
      have hx12 := bt_at a0 x3_2; replace p12 := eq_true p12; replace q12 := eq_true q12
      go_wp2_with (first | ((with_reducible refine gate_callee (f := 61) rfl ?_); refine goesL_ (some 27) rfl rfl Tryz.func61 (by kernel_rfl) rfl #[.int .u8 (bt a0 x3_2)] rfl Own.ha ?_; (with_reducible refine (spec_l5Sign.calls (bt a0 x3_2) true _ A13.out).mono ?_); rintro e w' ⟨rfl, ⟨nd, rfl⟩⟩; refine ⟨_, rfl, ?_⟩))
      go_roundg k2
      case measure => have := HJ1.out; have := HK2.out; omega
      case rel => exact ⟨(wrap64 (x3_2 + 1)), Own.rs, H', ⟨by have := HJ1.out; have := HK2.out; omega⟩, by repeat (first | exact Drawn0.refl _ | apply Drawn0.step)⟩
     rw [if_neg c10] at H; replace c10 := decide_eq_false c10
     by_cases c15 : a0.toList = ([116, 114, 117, 101] : List UInt8)
     ·
      rw [if_pos c15] at H
      have c15b0 : (a0.toList == ([116, 114, 117, 101] : List UInt8)) = true := beq_iff_eq.mpr c15
      have c15b1 : (a0.toList != ([116, 114, 117, 101] : List UInt8)) = false := bne_eq_false_iff_eq.mpr c15
      clear c15; obtain rfl := Option.some.inj H
      go_wp2
      go_ret
      exact ⟨by first | rfl | (simp; done) | (simp [*]; done), by repeat (first | exact Drawn0.refl _ | apply Drawn0.step)⟩
     rw [if_neg c15] at H
     have c15b0 : (a0.toList == ([116, 114, 117, 101] : List UInt8)) = false := beq_eq_false_iff_ne.mpr c15
     have c15b1 : (a0.toList != ([116, 114, 117, 101] : List UInt8)) = true := bne_iff_ne.mpr c15
     by_cases c16 : a0.toList = ([102, 114, 111, 109] : List UInt8)
     ·
      rw [if_pos c16] at H
      have c16b0 : (a0.toList == ([102, 114, 111, 109] : List UInt8)) = true := beq_iff_eq.mpr c16
      have c16b1 : (a0.toList != ([102, 114, 111, 109] : List UInt8)) = false := bne_eq_false_iff_eq.mpr c16
      clear c16; obtain rfl := Option.some.inj H
      go_wp2
      go_ret
      exact ⟨by first | rfl | (simp; done) | (simp [*]; done), by repeat (first | exact Drawn0.refl _ | apply Drawn0.step)⟩
     rw [if_neg c16] at H
     have c16b0 : (a0.toList == ([102, 114, 111, 109] : List UInt8)) = false := beq_eq_false_iff_ne.mpr c16
     have c16b1 : (a0.toList != ([102, 114, 111, 109] : List UInt8)) = true := bne_iff_ne.mpr c16
     by_cases c17 : a0.toList = ([110, 111, 116] : List UInt8)
     ·
      rw [if_pos c17] at H
      have c17b0 : (a0.toList == ([110, 111, 116] : List UInt8)) = true := beq_iff_eq.mpr c17
      have c17b1 : (a0.toList != ([110, 111, 116] : List UInt8)) = false := bne_eq_false_iff_eq.mpr c17
      clear c17; obtain rfl := Option.some.inj H
      go_wp2
      go_ret
      exact ⟨by first | rfl | (simp; done) | (simp [*]; done), by repeat (first | exact Drawn0.refl _ | apply Drawn0.step)⟩
     rw [if_neg c17] at H
     have c17b0 : (a0.toList == ([110, 111, 116] : List UInt8)) = false := beq_eq_false_iff_ne.mpr c17
     have c17b1 : (a0.toList != ([110, 111, 116] : List UInt8)) = true := bne_iff_ne.mpr c17
     by_cases c18 : a0.toList = ([97, 110, 100] : List UInt8)
     ·
      rw [if_pos c18] at H
      have c18b0 : (a0.toList == ([97, 110, 100] : List UInt8)) = true := beq_iff_eq.mpr c18
      have c18b1 : (a0.toList != ([97, 110, 100] : List UInt8)) = false := bne_eq_false_iff_eq.mpr c18
      clear c18; obtain rfl := Option.some.inj H
      go_wp2
      go_ret
      exact ⟨by first | rfl | (simp; done) | (simp [*]; done), by repeat (first | exact Drawn0.refl _ | apply Drawn0.step)⟩
     rw [if_neg c18] at H
     have c18b0 : (a0.toList == ([97, 110, 100] : List UInt8)) = false := beq_eq_false_iff_ne.mpr c18
     have c18b1 : (a0.toList != ([97, 110, 100] : List UInt8)) = true := bne_iff_ne.mpr c18
     by_cases c19 : a0.toList = ([111, 114] : List UInt8)
     ·
      rw [if_pos c19] at H
      have c19b0 : (a0.toList == ([111, 114] : List UInt8)) = true := beq_iff_eq.mpr c19
      have c19b1 : (a0.toList != ([111, 114] : List UInt8)) = false := bne_eq_false_iff_eq.mpr c19
      clear c19; obtain rfl := Option.some.inj H
      go_wp2
      go_ret
      exact ⟨by first | rfl | (simp; done) | (simp [*]; done), by repeat (first | exact Drawn0.refl _ | apply Drawn0.step)⟩
     rw [if_neg c19] at H
     have c19b0 : (a0.toList == ([111, 114] : List UInt8)) = false := beq_eq_false_iff_ne.mpr c19
     have c19b1 : (a0.toList != ([111, 114] : List UInt8)) = true := bne_iff_ne.mpr c19
     by_cases c20 : a0.toList = ([98, 111, 116, 104] : List UInt8)
     ·
      rw [if_pos c20] at H
      have c20b0 : (a0.toList == ([98, 111, 116, 104] : List UInt8)) = true := beq_iff_eq.mpr c20
      have c20b1 : (a0.toList != ([98, 111, 116, 104] : List UInt8)) = false := bne_eq_false_iff_eq.mpr c20
      clear c20; obtain rfl := Option.some.inj H
      go_wp2
      go_ret
      exact ⟨by first | rfl | (simp; done) | (simp [*]; done), by repeat (first | exact Drawn0.refl _ | apply Drawn0.step)⟩
     rw [if_neg c20] at H
     have c20b0 : (a0.toList == ([98, 111, 116, 104] : List UInt8)) = false := beq_eq_false_iff_ne.mpr c20
     have c20b1 : (a0.toList != ([98, 111, 116, 104] : List UInt8)) = true := bne_iff_ne.mpr c20
     by_cases c21 : a0.toList = ([101, 105, 116, 104, 101, 114] : List UInt8)
     ·
      rw [if_pos c21] at H
      have c21b0 : (a0.toList == ([101, 105, 116, 104, 101, 114] : List UInt8)) = true := beq_iff_eq.mpr c21
      have c21b1 : (a0.toList != ([101, 105, 116, 104, 101, 114] : List UInt8)) = false := bne_eq_false_iff_eq.mpr c21
      clear c21; obtain rfl := Option.some.inj H
      go_wp2
      go_ret
      exact ⟨by first | rfl | (simp; done) | (simp [*]; done), by repeat (first | exact Drawn0.refl _ | apply Drawn0.step)⟩
     rw [if_neg c21] at H
     have c21b0 : (a0.toList == ([101, 105, 116, 104, 101, 114] : List UInt8)) = false := beq_eq_false_iff_ne.mpr c21
     have c21b1 : (a0.toList != ([101, 105, 116, 104, 101, 114] : List UInt8)) = true := bne_iff_ne.mpr c21
     by_cases c22 : a0.toList = ([105, 116] : List UInt8)
     ·
      rw [if_pos c22] at H
      have c22b0 : (a0.toList == ([105, 116] : List UInt8)) = true := beq_iff_eq.mpr c22
      have c22b1 : (a0.toList != ([105, 116] : List UInt8)) = false := bne_eq_false_iff_eq.mpr c22
      clear c22; obtain rfl := Option.some.inj H
      go_wp2
      go_ret
      exact ⟨by first | rfl | (simp; done) | (simp [*]; done), by repeat (first | exact Drawn0.refl _ | apply Drawn0.step)⟩
     rw [if_neg c22] at H
     have c22b0 : (a0.toList == ([105, 116] : List UInt8)) = false := beq_eq_false_iff_ne.mpr c22
     have c22b1 : (a0.toList != ([105, 116] : List UInt8)) = true := bne_iff_ne.mpr c22
     by_cases c23 : a0.toList = ([105, 110] : List UInt8)
     rotate_left
     ·
      rw [if_neg c23] at H
      have c23b0 : (a0.toList == ([105, 110] : List UInt8)) = false := beq_eq_false_iff_ne.mpr c23
      have c23b1 : (a0.toList != ([105, 110] : List UInt8)) = true := bne_iff_ne.mpr c23
      obtain rfl := Option.some.inj H
      go_wp2
      go_ret
      exact ⟨by first | rfl | (simp; done) | (simp [*]; done), by repeat (first | exact Drawn0.refl _ | apply Drawn0.step)⟩
     rw [if_pos c23] at H
     have c23b0 : (a0.toList == ([105, 110] : List UInt8)) = true := beq_iff_eq.mpr c23
     have c23b1 : (a0.toList != ([105, 110] : List UInt8)) = false := bne_eq_false_iff_eq.mpr c23
     clear c23; obtain rfl := Option.some.inj H
     go_wp2
     go_ret
     exact ⟨by first | rfl | (simp; done) | (simp [*]; done), by repeat (first | exact Drawn0.refl _ | apply Drawn0.step)⟩
/-! ### spec_l5Has: function 48 -/
def spec_l5Has.l0 : Nat → List ByteArray → ByteArray → Int → Option (Bool)
 | 0, _, _, _ => none
 | k + 1, x0, x1, x5 => if x5 < (x0.length : Int) then (if 0 ≤ x5 then (if (rdOf ByteArray.empty x0 x5).toList = x1.toList then (some true) else (spec_l5Has.l0 k x0 x1 (wrap64 (x5 + 1)))) else (none)) else (some false)
def spec_l5Has.f (k : Nat) (l0 : List ByteArray) (a1 : ByteArray) : Option (Bool) := spec_l5Has.l0 k l0 a1 0
set_option maxHeartbeats 8000000 in
set_option maxRecDepth 100000 in
theorem spec_l5Has.calls (k : Nat) (A0 : Option Addr) (c0 : Nat) (l0 : List ByteArray) (a1 : ByteArray) (r : Bool) (w : World) (hr0 : Kd.C Kd.string w A0 l0.length l0) (hc0 : l0.length ≤ c0) (h : spec_l5Has.f k l0 a1 = some r) :
  Calls Tryz.prog 48 #[.slice A0 l0.length c0, .string a1] w fun e w' => e = .returned (.bool r) ∧ Drawn0 w w' := by
 have HR0 := Aside0.mk hr0
 have HC0 := Aside0.mk hc0
 clear hr0 hc0
 have H : (spec_l5Has.l0 k l0 a1 0) = some r := h
 clear h
 have H' := Aside0.mk H
 clear H
 go_enter Tryz.func48, Tryz.ntmps48
 go_wp2
 go_loopg [5] k (fun kq v5 w' => ∃ (x5_1 : Int), v5 = .int .i64 x5_1 ∧ Aside0 (spec_l5Has.l0 kq l0 a1 x5_1 = some r) ∧ Aside0 (kq ≤ k) ∧ Drawn0 w w')
 case atStart => exact ⟨(0), Own.rs, H', ⟨Nat.le_refl _⟩, by repeat (first | exact Drawn0.refl _ | apply Drawn0.step)⟩
 case round =>
  clear H'; try clear p2
  obtain ⟨x5_1, rfl, HA, HK1, ⟨m1, rfl⟩⟩ := hrel
  cases gk with
  | zero => exact absurd HA.out (by simp [spec_l5Has.l0])
  | succ k1 =>
   have H := HA.out; clear HA
   simp only [spec_l5Has.l0] at H
   by_cases c3 : x5_1 < (l0.length : Int)
   rotate_left
   ·
    rw [if_neg c3] at H; replace c3 := decide_eq_false c3; obtain rfl := Option.some.inj H
    go_wp2
    go_ret
    exact ⟨by first | rfl | (simp; done) | (simp [*]; done), by repeat (first | exact Drawn0.refl _ | apply Drawn0.step)⟩
   rw [if_pos c3] at H; replace c3 := decide_eq_true c3
   replace H := Own.ifd H; obtain ⟨c4, H⟩ := H
   by_cases c5 : (rdOf ByteArray.empty l0 x5_1).toList = a1.toList
   ·
    rw [if_pos c5] at H
    have c5b0 : ((rdOf ByteArray.empty l0 x5_1).toList == a1.toList) = true := beq_iff_eq.mpr c5
    have c5b1 : ((rdOf ByteArray.empty l0 x5_1).toList != a1.toList) = false := bne_eq_false_iff_eq.mpr c5
    clear c5; obtain rfl := Option.some.inj H
    have p117 : 0 ≤ (x5_1 : Int) := Own.dp
    have q117 : x5_1 < (l0.length : Int) := Own.dp
    obtain ⟨ad117, e117, hx117_0⟩ := Kd.at_string HR0.out x5_1 p117 q117; cases e117; replace p117 := eq_true p117; replace q117 := eq_true q117
    go_wp2
    go_ret
    exact ⟨by first | rfl | (simp; done) | (simp [*]; done), by repeat (first | exact Drawn0.refl _ | apply Drawn0.step)⟩
   rw [if_neg c5] at H
   have c5b0 : ((rdOf ByteArray.empty l0 x5_1).toList == a1.toList) = false := beq_eq_false_iff_ne.mpr c5
   have c5b1 : ((rdOf ByteArray.empty l0 x5_1).toList != a1.toList) = true := bne_iff_ne.mpr c5
   have H' := Aside0.mk H; clear H
   have p117 : 0 ≤ (x5_1 : Int) := Own.dp
   have q117 : x5_1 < (l0.length : Int) := Own.dp
   obtain ⟨ad117, e117, hx117_0⟩ := Kd.at_string HR0.out x5_1 p117 q117; cases e117; replace p117 := eq_true p117; replace q117 := eq_true q117
   go_wp2
   go_roundg k1
   case measure => have := HK1.out; omega
   case rel => exact ⟨(wrap64 (x5_1 + 1)), Own.rs, H', ⟨by have := HK1.out; omega⟩, by repeat (first | exact Drawn0.refl _ | apply Drawn0.step)⟩
/-! ### spec_l6Parties: function 31 -/
def spec_l6Parties.l0 : Nat → Int → List ByteArray → List (S51) → Option (Bool)
 | 0, _, _, _ => none
 | k + 1, x3, x119000, x119001 => if x3 < (x119000.length : Int) then (if 0 ≤ x3 then ((spec_l5Name.f k (rdOf ByteArray.empty x119000 x3)).bind fun t121 => (if t121 = true then (if x3 ≤ (x119000.length : Int) then ((spec_l5Has.f k (x119000.take (x3 : Int).toNat) (rdOf ByteArray.empty x119000 x3)).bind fun t124 => (if t124 = true then (some false) else (spec_l6Parties.l0 k (wrap64 (x3 + 1)) x119000 x119001))) else (none)) else (some false))) else (none)) else ((spec_l1In.f (x119000.length : Int) 2 4).bind fun t119 => (some t119))
def spec_l6Parties.f (k : Nat) (l0_0 : List ByteArray) (l0_1 : List (S51)) : Option (Bool) := spec_l6Parties.l0 k 0 l0_0 l0_1
set_option maxHeartbeats 8000000 in
set_option maxRecDepth 100000 in
theorem spec_l6Parties.calls (k : Nat) (A0_0 : Option Addr) (c0_0 : Nat) (l0_0 : List ByteArray) (A0_1 : Option Addr) (c0_1 : Nat) (l0_1 : List (S51)) (r : Bool) (w : World) (hr0_0 : Kd.C Kd.string w A0_0 l0_0.length l0_0) (hc0_0 : l0_0.length ≤ c0_0) (hr0_1 : Kd.C k51 w A0_1 l0_1.length l0_1) (hc0_1 : l0_1.length ≤ c0_1) (h : spec_l6Parties.f k l0_0 l0_1 = some r) :
  Calls Tryz.prog 31 #[.agg #[.slice A0_0 l0_0.length c0_0, .slice A0_1 l0_1.length c0_1]] w fun e w' => e = .returned (.bool r) ∧ Below w.heap.size w w' := by
 have hu29 := Tryz.underlying29
 have HR0_0 := Aside0.mk hr0_0
 have HC0_0 := Aside0.mk hc0_0
 clear hr0_0 hc0_0
 have HR0_1 := Aside0.mk hr0_1
 have HC0_1 := Aside0.mk hc0_1
 clear hr0_1 hc0_1
 have HB := Aside0.mk (Below.refl w.heap.size w)
 have H : (spec_l6Parties.l0 k 0 l0_0 l0_1) = some r := h
 clear h
 have H' := Aside0.mk H
 clear H
 go_enter Tryz.func31, Tryz.ntmps31
 go_wp2_with (first | ((with_reducible refine gate_dst (N := 1) rfl ?_); refine Own.be (N := 1) (cs := #[.slice A0_0 l0_0.length c0_0, .slice A0_1 l0_1.length c0_1]) (t := 29) ?_; intro gb118 hg w2 hbox hb; have BK118 := Aside0.mk hbox; have GW118 := (Own.gs hg : Aside0 (w.heap.size ≤ gb118)); have GE118 := GW118; replace HB := Own.bs hb; clear hb hbox hg))
 repeat (go_quiet (first | ((with_reducible refine gate_dst (N := 1) rfl ?_); refine Own.be (N := 1) (cs := #[.slice A0_0 l0_0.length c0_0, .slice A0_1 l0_1.length c0_1]) (t := 29) ?_; intro gb118 hg w2 hbox hb; have BK118 := Aside0.mk hbox; have GW118 := (Own.gs hg : Aside0 (w.heap.size ≤ gb118)); have GE118 := GW118; replace HB := Own.bs hb; clear hb hbox hg)); try go_wp2_with (first | ((with_reducible refine gate_dst (N := 1) rfl ?_); refine Own.be (N := 1) (cs := #[.slice A0_0 l0_0.length c0_0, .slice A0_1 l0_1.length c0_1]) (t := 29) ?_; intro gb118 hg w2 hbox hb; have BK118 := Aside0.mk hbox; have GW118 := (Own.gs hg : Aside0 (w.heap.size ≤ gb118)); have GE118 := GW118; replace HB := Own.bs hb; clear hb hbox hg)))
 go_loopg [3] k (fun kq v3 w' => ∃ (x3_1 : Int), v3 = .int .i64 x3_1 ∧ Aside0 (spec_l6Parties.l0 kq x3_1 l0_0 l0_1 = some r) ∧ Aside0 (kq ≤ k) ∧ Aside0 (w'.heap[gb118]? = some (.cells #[(.slice A0_0 l0_0.length c0_0), (.slice A0_1 l0_1.length c0_1)] 29 (0, 0))) ∧ Aside0 (Below w.heap.size w w'))
 case atStart => exact ⟨(0), Own.rs, H', ⟨Nat.le_refl _⟩, ⟨Own.bk⟩, ⟨Own.bl⟩⟩
 case round =>
  clear H'; try clear p2
  obtain ⟨x3_1, rfl, HA, HK1, BK118, HB⟩ := hrel
  cases gk with
  | zero => exact absurd HA.out (by simp [spec_l6Parties.l0])
  | succ k1 =>
   have H := HA.out; clear HA
   simp only [spec_l6Parties.l0] at H
   by_cases c3 : x3_1 < (l0_0.length : Int)
   rotate_left
   ·
    rw [if_neg c3] at H; replace c3 := decide_eq_false c3
    replace H := Own.bd H; obtain ⟨t119, A16, H⟩ := H; obtain rfl := Option.some.inj H; obtain ⟨z17_0, z17_1, y17_0, y17_1⟩ := Own.box2 BK118.out
    go_wp2_with (first | (go_at_call 30; (with_reducible refine (spec_l1In.calls (l0_0.length : Int) 2 4 t119 _ A16.out).mono ?_); rintro e w' ⟨rfl, ⟨nd, rfl⟩⟩; (try first | exact ⟨rfl, _, World.drewN_drewN _ _ _⟩ | exact ⟨rfl, _, Eq.trans (World.drewN_drewN _ _ _) (congrArg (World.drewN _) (Nat.add_assoc _ _ _))⟩)))
    repeat (go_quiet (first | (go_at_call 30; (with_reducible refine (spec_l1In.calls (l0_0.length : Int) 2 4 t119 _ A16.out).mono ?_); rintro e w' ⟨rfl, ⟨nd, rfl⟩⟩; (try first | exact ⟨rfl, _, World.drewN_drewN _ _ _⟩ | exact ⟨rfl, _, Eq.trans (World.drewN_drewN _ _ _) (congrArg (World.drewN _) (Nat.add_assoc _ _ _))⟩))); try go_wp2_with (first | (go_at_call 30; (with_reducible refine (spec_l1In.calls (l0_0.length : Int) 2 4 t119 _ A16.out).mono ?_); rintro e w' ⟨rfl, ⟨nd, rfl⟩⟩; (try first | exact ⟨rfl, _, World.drewN_drewN _ _ _⟩ | exact ⟨rfl, _, Eq.trans (World.drewN_drewN _ _ _) (congrArg (World.drewN _) (Nat.add_assoc _ _ _))⟩))))
    go_ret
    exact ⟨Own.rr, Own.bl⟩
   rw [if_pos c3] at H; replace c3 := decide_eq_true c3
   replace H := Own.ifd H; obtain ⟨c4, H⟩ := H
   replace H := Own.bd H; obtain ⟨t121, A5, H⟩ := H
   replace H := Own.ift H; obtain ⟨rfl, H⟩ | ⟨rfl, H⟩ := H
   ·
    obtain rfl := Option.some.inj H; obtain ⟨z15_0, z15_1, y15_0, y15_1⟩ := Own.box2 BK118.out
    have p120 : 0 ≤ (x3_1 : Int) := Own.dp
    have q120 : x3_1 < (l0_0.length : Int) := Own.dp
    obtain ⟨ad120, e120, hx120_0⟩ := Kd.at_string HR0_0.out x3_1 p120 q120; cases e120; replace hx120_0 := Own.up HB.out hx120_0; replace p120 := eq_true p120; replace q120 := eq_true q120
    go_wp2_with (first | (go_at_call 47; (with_reducible refine (spec_l5Name.calls k1 (rdOf ByteArray.empty l0_0 x3_1) false _ A5.out).mono ?_); rintro e w' ⟨rfl, ⟨nd, rfl⟩⟩; (try first | exact ⟨rfl, _, World.drewN_drewN _ _ _⟩ | exact ⟨rfl, _, Eq.trans (World.drewN_drewN _ _ _) (congrArg (World.drewN _) (Nat.add_assoc _ _ _))⟩)))
    repeat (go_quiet (first | (go_at_call 47; (with_reducible refine (spec_l5Name.calls k1 (rdOf ByteArray.empty l0_0 x3_1) false _ A5.out).mono ?_); rintro e w' ⟨rfl, ⟨nd, rfl⟩⟩; (try first | exact ⟨rfl, _, World.drewN_drewN _ _ _⟩ | exact ⟨rfl, _, Eq.trans (World.drewN_drewN _ _ _) (congrArg (World.drewN _) (Nat.add_assoc _ _ _))⟩))); try go_wp2_with (first | (go_at_call 47; (with_reducible refine (spec_l5Name.calls k1 (rdOf ByteArray.empty l0_0 x3_1) false _ A5.out).mono ?_); rintro e w' ⟨rfl, ⟨nd, rfl⟩⟩; (try first | exact ⟨rfl, _, World.drewN_drewN _ _ _⟩ | exact ⟨rfl, _, Eq.trans (World.drewN_drewN _ _ _) (congrArg (World.drewN _) (Nat.add_assoc _ _ _))⟩))))
    go_ret
    exact ⟨Own.rr, Own.bl⟩
   have c7b0 := eq_true (Own.dp : 0 ≤ x3_1)
   replace H := Own.ifn H; obtain ⟨c8, H⟩ := H; have c8b0 := eq_true c8
   have c8b1 : decide (x3_1 ≤ (l0_0.length : Int)) = true := decide_eq_true c8
   clear c8
   replace H := Own.bd H; obtain ⟨t124, A9, H⟩ := H
   replace H := Own.ifu H; obtain ⟨rfl, H⟩ | ⟨rfl, H⟩ := H
   ·
    obtain rfl := Option.some.inj H; obtain ⟨z11_0, z11_1, y11_0, y11_1⟩ := Own.box2 BK118.out
    have p120 : 0 ≤ (x3_1 : Int) := Own.dp
    have q120 : x3_1 < (l0_0.length : Int) := Own.dp
    obtain ⟨ad120, e120, hx120_0⟩ := Kd.at_string HR0_0.out x3_1 p120 q120; cases e120; replace hx120_0 := Own.up HB.out hx120_0; replace p120 := eq_true p120; replace q120 := eq_true q120
    go_wp2_with (first | (go_at_call 47; (with_reducible refine (spec_l5Name.calls k1 (rdOf ByteArray.empty l0_0 x3_1) true _ A5.out).mono ?_); rintro e w' ⟨rfl, ⟨nd, rfl⟩⟩; (try first | exact ⟨rfl, _, World.drewN_drewN _ _ _⟩ | exact ⟨rfl, _, Eq.trans (World.drewN_drewN _ _ _) (congrArg (World.drewN _) (Nat.add_assoc _ _ _))⟩); obtain ⟨i012, hi012, _, hsz12, _⟩ := info_parts info9; obtain ⟨hcut12, hA12, hC12⟩ := print_take_of (P := Tryz.prog) Value.string (⟨#[]⟩ : ByteArray) 22 9 .i64 Tryz.underlying22 hi012 hsz12 (some ad120) c0_0 l0_0 x3_1 (Own.dp) (Own.dp) HC0_0.out; have HR122 := Aside0.mk (Kd.C_of_reads (h1 := fun _ => rfl) (hA12 _ (Kd.reads_of_C HR0_0.out))); have HC122 := Aside0.mk hC12; clear hA12 hC12 hi012 hsz12; have p123 : 0 ≤ (x3_1 : Int) := Own.dp; have q123 : x3_1 < (l0_0.length : Int) := Own.dp; obtain ⟨ad123, e123, hx123_0⟩ := Kd.at_string HR0_0.out x3_1 p123 q123; obtain rfl : ad120 = ad123 := (by injection e123); replace hx123_0 := Own.up HB.out hx123_0; replace p123 := eq_true p123; replace q123 := eq_true q123) | (go_at_call 48; (first | ((with_reducible refine (spec_l5Has.calls k1 _ _ (l0_0.take (x3_1 : Int).toNat) (rdOf ByteArray.empty l0_0 x3_1) true _ ?side1 ?side2 A9.out).mono ?_); (case side1 => exact Kd.C_below HR122.out Own.bl); (case side2 => exact HC122.out)) | (refine (Own.at_args ?argE (spec_l5Has.calls k1 _ _ (l0_0.take (x3_1 : Int).toNat) (rdOf ByteArray.empty l0_0 x3_1) true _ (Kd.C_below HR122.out Own.bl) HC122.out A9.out)).mono ?_; (case argE => rw [show (l0_0.take (x3_1 : Int).toNat).length = (x3_1 : Int).toNat from by have a_ : 0 ≤ (x3_1 : Int) := of_decide_eq_true (by assumption); have b_ : x3_1 ≤ (l0_0.length : Int) := of_decide_eq_true (by assumption); rw [List.length_take]; omega]))); rintro e w' ⟨rfl, ⟨nd, rfl⟩⟩; (try first | exact ⟨rfl, _, World.drewN_drewN _ _ _⟩ | exact ⟨rfl, _, Eq.trans (World.drewN_drewN _ _ _) (congrArg (World.drewN _) (Nat.add_assoc _ _ _))⟩)))
    repeat (go_quiet (first | (go_at_call 47; (with_reducible refine (spec_l5Name.calls k1 (rdOf ByteArray.empty l0_0 x3_1) true _ A5.out).mono ?_); rintro e w' ⟨rfl, ⟨nd, rfl⟩⟩; (try first | exact ⟨rfl, _, World.drewN_drewN _ _ _⟩ | exact ⟨rfl, _, Eq.trans (World.drewN_drewN _ _ _) (congrArg (World.drewN _) (Nat.add_assoc _ _ _))⟩); obtain ⟨i012, hi012, _, hsz12, _⟩ := info_parts info9; obtain ⟨hcut12, hA12, hC12⟩ := print_take_of (P := Tryz.prog) Value.string (⟨#[]⟩ : ByteArray) 22 9 .i64 Tryz.underlying22 hi012 hsz12 (some ad120) c0_0 l0_0 x3_1 (Own.dp) (Own.dp) HC0_0.out; have HR122 := Aside0.mk (Kd.C_of_reads (h1 := fun _ => rfl) (hA12 _ (Kd.reads_of_C HR0_0.out))); have HC122 := Aside0.mk hC12; clear hA12 hC12 hi012 hsz12; have p123 : 0 ≤ (x3_1 : Int) := Own.dp; have q123 : x3_1 < (l0_0.length : Int) := Own.dp; obtain ⟨ad123, e123, hx123_0⟩ := Kd.at_string HR0_0.out x3_1 p123 q123; obtain rfl : ad120 = ad123 := (by injection e123); replace hx123_0 := Own.up HB.out hx123_0; replace p123 := eq_true p123; replace q123 := eq_true q123) | (go_at_call 48; (first | ((with_reducible refine (spec_l5Has.calls k1 _ _ (l0_0.take (x3_1 : Int).toNat) (rdOf ByteArray.empty l0_0 x3_1) true _ ?side1 ?side2 A9.out).mono ?_); (case side1 => exact Kd.C_below HR122.out Own.bl); (case side2 => exact HC122.out)) | (refine (Own.at_args ?argE (spec_l5Has.calls k1 _ _ (l0_0.take (x3_1 : Int).toNat) (rdOf ByteArray.empty l0_0 x3_1) true _ (Kd.C_below HR122.out Own.bl) HC122.out A9.out)).mono ?_; (case argE => rw [show (l0_0.take (x3_1 : Int).toNat).length = (x3_1 : Int).toNat from by have a_ : 0 ≤ (x3_1 : Int) := of_decide_eq_true (by assumption); have b_ : x3_1 ≤ (l0_0.length : Int) := of_decide_eq_true (by assumption); rw [List.length_take]; omega]))); rintro e w' ⟨rfl, ⟨nd, rfl⟩⟩; (try first | exact ⟨rfl, _, World.drewN_drewN _ _ _⟩ | exact ⟨rfl, _, Eq.trans (World.drewN_drewN _ _ _) (congrArg (World.drewN _) (Nat.add_assoc _ _ _))⟩))); try go_wp2_with (first | (go_at_call 47; (with_reducible refine (spec_l5Name.calls k1 (rdOf ByteArray.empty l0_0 x3_1) true _ A5.out).mono ?_); rintro e w' ⟨rfl, ⟨nd, rfl⟩⟩; (try first | exact ⟨rfl, _, World.drewN_drewN _ _ _⟩ | exact ⟨rfl, _, Eq.trans (World.drewN_drewN _ _ _) (congrArg (World.drewN _) (Nat.add_assoc _ _ _))⟩); obtain ⟨i012, hi012, _, hsz12, _⟩ := info_parts info9; obtain ⟨hcut12, hA12, hC12⟩ := print_take_of (P := Tryz.prog) Value.string (⟨#[]⟩ : ByteArray) 22 9 .i64 Tryz.underlying22 hi012 hsz12 (some ad120) c0_0 l0_0 x3_1 (Own.dp) (Own.dp) HC0_0.out; have HR122 := Aside0.mk (Kd.C_of_reads (h1 := fun _ => rfl) (hA12 _ (Kd.reads_of_C HR0_0.out))); have HC122 := Aside0.mk hC12; clear hA12 hC12 hi012 hsz12; have p123 : 0 ≤ (x3_1 : Int) := Own.dp; have q123 : x3_1 < (l0_0.length : Int) := Own.dp; obtain ⟨ad123, e123, hx123_0⟩ := Kd.at_string HR0_0.out x3_1 p123 q123; obtain rfl : ad120 = ad123 := (by injection e123); replace hx123_0 := Own.up HB.out hx123_0; replace p123 := eq_true p123; replace q123 := eq_true q123) | (go_at_call 48; (first | ((with_reducible refine (spec_l5Has.calls k1 _ _ (l0_0.take (x3_1 : Int).toNat) (rdOf ByteArray.empty l0_0 x3_1) true _ ?side1 ?side2 A9.out).mono ?_); (case side1 => exact Kd.C_below HR122.out Own.bl); (case side2 => exact HC122.out)) | (refine (Own.at_args ?argE (spec_l5Has.calls k1 _ _ (l0_0.take (x3_1 : Int).toNat) (rdOf ByteArray.empty l0_0 x3_1) true _ (Kd.C_below HR122.out Own.bl) HC122.out A9.out)).mono ?_; (case argE => rw [show (l0_0.take (x3_1 : Int).toNat).length = (x3_1 : Int).toNat from by have a_ : 0 ≤ (x3_1 : Int) := of_decide_eq_true (by assumption); have b_ : x3_1 ≤ (l0_0.length : Int) := of_decide_eq_true (by assumption); rw [List.length_take]; omega]))); rintro e w' ⟨rfl, ⟨nd, rfl⟩⟩; (try first | exact ⟨rfl, _, World.drewN_drewN _ _ _⟩ | exact ⟨rfl, _, Eq.trans (World.drewN_drewN _ _ _) (congrArg (World.drewN _) (Nat.add_assoc _ _ _))⟩))))
    go_ret
    exact ⟨Own.rr, Own.bl⟩
   have H' := Aside0.mk H; clear H; obtain ⟨z13_0, z13_1, y13_0, y13_1⟩ := Own.box2 BK118.out
   have p120 : 0 ≤ (x3_1 : Int) := Own.dp
   have q120 : x3_1 < (l0_0.length : Int) := Own.dp
   obtain ⟨ad120, e120, hx120_0⟩ := Kd.at_string HR0_0.out x3_1 p120 q120; cases e120; replace hx120_0 := Own.up HB.out hx120_0; replace p120 := eq_true p120; replace q120 := eq_true q120
   go_wp2_with (first | (go_at_call 47; (with_reducible refine (spec_l5Name.calls k1 (rdOf ByteArray.empty l0_0 x3_1) true _ A5.out).mono ?_); rintro e w' ⟨rfl, ⟨nd, rfl⟩⟩; (try first | exact ⟨rfl, _, World.drewN_drewN _ _ _⟩ | exact ⟨rfl, _, Eq.trans (World.drewN_drewN _ _ _) (congrArg (World.drewN _) (Nat.add_assoc _ _ _))⟩); obtain ⟨i014, hi014, _, hsz14, _⟩ := info_parts info9; obtain ⟨hcut14, hA14, hC14⟩ := print_take_of (P := Tryz.prog) Value.string (⟨#[]⟩ : ByteArray) 22 9 .i64 Tryz.underlying22 hi014 hsz14 (some ad120) c0_0 l0_0 x3_1 (Own.dp) (Own.dp) HC0_0.out; have HR122 := Aside0.mk (Kd.C_of_reads (h1 := fun _ => rfl) (hA14 _ (Kd.reads_of_C HR0_0.out))); have HC122 := Aside0.mk hC14; clear hA14 hC14 hi014 hsz14; have p123 : 0 ≤ (x3_1 : Int) := Own.dp; have q123 : x3_1 < (l0_0.length : Int) := Own.dp; obtain ⟨ad123, e123, hx123_0⟩ := Kd.at_string HR0_0.out x3_1 p123 q123; obtain rfl : ad120 = ad123 := (by injection e123); replace hx123_0 := Own.up HB.out hx123_0; replace p123 := eq_true p123; replace q123 := eq_true q123) | (go_at_call 48; (first | ((with_reducible refine (spec_l5Has.calls k1 _ _ (l0_0.take (x3_1 : Int).toNat) (rdOf ByteArray.empty l0_0 x3_1) false _ ?side1 ?side2 A9.out).mono ?_); (case side1 => exact Kd.C_below HR122.out Own.bl); (case side2 => exact HC122.out)) | (refine (Own.at_args ?argE (spec_l5Has.calls k1 _ _ (l0_0.take (x3_1 : Int).toNat) (rdOf ByteArray.empty l0_0 x3_1) false _ (Kd.C_below HR122.out Own.bl) HC122.out A9.out)).mono ?_; (case argE => rw [show (l0_0.take (x3_1 : Int).toNat).length = (x3_1 : Int).toNat from by have a_ : 0 ≤ (x3_1 : Int) := of_decide_eq_true (by assumption); have b_ : x3_1 ≤ (l0_0.length : Int) := of_decide_eq_true (by assumption); rw [List.length_take]; omega]))); rintro e w' ⟨rfl, ⟨nd, rfl⟩⟩; (try first | exact ⟨rfl, _, World.drewN_drewN _ _ _⟩ | exact ⟨rfl, _, Eq.trans (World.drewN_drewN _ _ _) (congrArg (World.drewN _) (Nat.add_assoc _ _ _))⟩)))
   repeat (go_quiet (first | (go_at_call 47; (with_reducible refine (spec_l5Name.calls k1 (rdOf ByteArray.empty l0_0 x3_1) true _ A5.out).mono ?_); rintro e w' ⟨rfl, ⟨nd, rfl⟩⟩; (try first | exact ⟨rfl, _, World.drewN_drewN _ _ _⟩ | exact ⟨rfl, _, Eq.trans (World.drewN_drewN _ _ _) (congrArg (World.drewN _) (Nat.add_assoc _ _ _))⟩); obtain ⟨i014, hi014, _, hsz14, _⟩ := info_parts info9; obtain ⟨hcut14, hA14, hC14⟩ := print_take_of (P := Tryz.prog) Value.string (⟨#[]⟩ : ByteArray) 22 9 .i64 Tryz.underlying22 hi014 hsz14 (some ad120) c0_0 l0_0 x3_1 (Own.dp) (Own.dp) HC0_0.out; have HR122 := Aside0.mk (Kd.C_of_reads (h1 := fun _ => rfl) (hA14 _ (Kd.reads_of_C HR0_0.out))); have HC122 := Aside0.mk hC14; clear hA14 hC14 hi014 hsz14; have p123 : 0 ≤ (x3_1 : Int) := Own.dp; have q123 : x3_1 < (l0_0.length : Int) := Own.dp; obtain ⟨ad123, e123, hx123_0⟩ := Kd.at_string HR0_0.out x3_1 p123 q123; obtain rfl : ad120 = ad123 := (by injection e123); replace hx123_0 := Own.up HB.out hx123_0; replace p123 := eq_true p123; replace q123 := eq_true q123) | (go_at_call 48; (first | ((with_reducible refine (spec_l5Has.calls k1 _ _ (l0_0.take (x3_1 : Int).toNat) (rdOf ByteArray.empty l0_0 x3_1) false _ ?side1 ?side2 A9.out).mono ?_); (case side1 => exact Kd.C_below HR122.out Own.bl); (case side2 => exact HC122.out)) | (refine (Own.at_args ?argE (spec_l5Has.calls k1 _ _ (l0_0.take (x3_1 : Int).toNat) (rdOf ByteArray.empty l0_0 x3_1) false _ (Kd.C_below HR122.out Own.bl) HC122.out A9.out)).mono ?_; (case argE => rw [show (l0_0.take (x3_1 : Int).toNat).length = (x3_1 : Int).toNat from by have a_ : 0 ≤ (x3_1 : Int) := of_decide_eq_true (by assumption); have b_ : x3_1 ≤ (l0_0.length : Int) := of_decide_eq_true (by assumption); rw [List.length_take]; omega]))); rintro e w' ⟨rfl, ⟨nd, rfl⟩⟩; (try first | exact ⟨rfl, _, World.drewN_drewN _ _ _⟩ | exact ⟨rfl, _, Eq.trans (World.drewN_drewN _ _ _) (congrArg (World.drewN _) (Nat.add_assoc _ _ _))⟩))); try go_wp2_with (first | (go_at_call 47; (with_reducible refine (spec_l5Name.calls k1 (rdOf ByteArray.empty l0_0 x3_1) true _ A5.out).mono ?_); rintro e w' ⟨rfl, ⟨nd, rfl⟩⟩; (try first | exact ⟨rfl, _, World.drewN_drewN _ _ _⟩ | exact ⟨rfl, _, Eq.trans (World.drewN_drewN _ _ _) (congrArg (World.drewN _) (Nat.add_assoc _ _ _))⟩); obtain ⟨i014, hi014, _, hsz14, _⟩ := info_parts info9; obtain ⟨hcut14, hA14, hC14⟩ := print_take_of (P := Tryz.prog) Value.string (⟨#[]⟩ : ByteArray) 22 9 .i64 Tryz.underlying22 hi014 hsz14 (some ad120) c0_0 l0_0 x3_1 (Own.dp) (Own.dp) HC0_0.out; have HR122 := Aside0.mk (Kd.C_of_reads (h1 := fun _ => rfl) (hA14 _ (Kd.reads_of_C HR0_0.out))); have HC122 := Aside0.mk hC14; clear hA14 hC14 hi014 hsz14; have p123 : 0 ≤ (x3_1 : Int) := Own.dp; have q123 : x3_1 < (l0_0.length : Int) := Own.dp; obtain ⟨ad123, e123, hx123_0⟩ := Kd.at_string HR0_0.out x3_1 p123 q123; obtain rfl : ad120 = ad123 := (by injection e123); replace hx123_0 := Own.up HB.out hx123_0; replace p123 := eq_true p123; replace q123 := eq_true q123) | (go_at_call 48; (first | ((with_reducible refine (spec_l5Has.calls k1 _ _ (l0_0.take (x3_1 : Int).toNat) (rdOf ByteArray.empty l0_0 x3_1) false _ ?side1 ?side2 A9.out).mono ?_); (case side1 => exact Kd.C_below HR122.out Own.bl); (case side2 => exact HC122.out)) | (refine (Own.at_args ?argE (spec_l5Has.calls k1 _ _ (l0_0.take (x3_1 : Int).toNat) (rdOf ByteArray.empty l0_0 x3_1) false _ (Kd.C_below HR122.out Own.bl) HC122.out A9.out)).mono ?_; (case argE => rw [show (l0_0.take (x3_1 : Int).toNat).length = (x3_1 : Int).toNat from by have a_ : 0 ≤ (x3_1 : Int) := of_decide_eq_true (by assumption); have b_ : x3_1 ≤ (l0_0.length : Int) := of_decide_eq_true (by assumption); rw [List.length_take]; omega]))); rintro e w' ⟨rfl, ⟨nd, rfl⟩⟩; (try first | exact ⟨rfl, _, World.drewN_drewN _ _ _⟩ | exact ⟨rfl, _, Eq.trans (World.drewN_drewN _ _ _) (congrArg (World.drewN _) (Nat.add_assoc _ _ _))⟩))))
   go_roundg k1
   case measure => have := HK1.out; omega
   case rel => exact ⟨(wrap64 (x3_1 + 1)), Own.rs, H', ⟨by have := HK1.out; omega⟩, ⟨Own.bk⟩, ⟨Own.bl⟩⟩
/-! ### spec_l3Good: function 77 -/
def spec_l3Good.f (a0 : Int) : Option (Bool) := (spec_l1In.f a0 0 36524).bind fun t125 => (some t125)
set_option maxHeartbeats 8000000 in
set_option maxRecDepth 100000 in
theorem spec_l3Good.calls (a0 : Int) (r : Bool) (w : World) (h : spec_l3Good.f a0 = some r) :
  Calls Tryz.prog 77 #[.int .i64 a0] w fun e w' => e = .returned (.bool r) ∧ Drawn0 w w' := by
 have H : ((spec_l1In.f a0 0 36524).bind fun t125 => (some t125)) = some r := h
 clear h
 replace H := Own.bd H; obtain ⟨t125, A2, H⟩ := H
 obtain rfl := Option.some.inj H
 go_enter Tryz.func77, Tryz.ntmps77
 go_wp2_with (first | ((with_reducible refine gate_callee (f := 30) rfl ?_); refine goesL_ (some 4) rfl rfl Tryz.func30 (by kernel_rfl) rfl #[.int .i64 a0, .int .i64 0, .int .i64 36524] rfl Own.ha ?_; (with_reducible refine (spec_l1In.calls a0 0 36524 t125 _ A2.out).mono ?_); rintro e w' ⟨rfl, ⟨nd, rfl⟩⟩; refine ⟨_, rfl, ?_⟩))
 go_ret
 exact ⟨by first | rfl | (simp; done) | (simp [*]; done), by repeat (first | exact Drawn0.refl _ | apply Drawn0.step)⟩
end Go.Proofs.YtckopglnblcnoaaGreatDoor.QFnExactRemoveClause
