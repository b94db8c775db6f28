-- Written by a program of this session out of the translation; Lean checks it.
import Derived.Test.YtghcjheaicmpbaaGreatDoorQFnExactAddClausex2
namespace Go.Proofs.YtghcjheaicmpbaaGreatDoor.QFnExactAddClause
open Go.RowKit Go.Proofs.YtghcjheaicmpbaaGreatDoorW.PrintWords Go.Proofs.YtghcjheaicmpbaaGreatDoorW.PrintLast
attribute [local go_sem] Instr.field asAgg
set_option linter.unusedVariables false
set_option linter.unusedSimpArgs false
/-! ### spec_l5Name: function 52 -/
mutual
def spec_l5Name.j0 : Nat → ByteArray → Bool → Option (Bool)
 | 0, _, _ => none
 | k + 1, x0, x17 => if x17 = true then (some false) else (spec_l5Name.l0 k x0 0)
def spec_l5Name.l0 : Nat → ByteArray → Int → Option (Bool)
 | 0, _, _ => none
 | k + 1, x0, x3 => if x3 < (x0.size : Int) then (if 0 ≤ x3 then ((spec_l5Sign.f (bt x0 x3)).bind fun t147 => (if t147 = true then (spec_l5Name.l0 k x0 (wrap64 (x3 + 1))) else (some false))) else (none)) else (if x0.toList = ([116, 114, 117, 101] : List UInt8) then (some false) else (if x0.toList = ([102, 114, 111, 109] : List UInt8) then (some false) else (if x0.toList = ([110, 111, 116] : List UInt8) then (some false) else (if x0.toList = ([97, 110, 100] : List UInt8) then (some false) else (if x0.toList = ([111, 114] : List UInt8) then (some false) else (if x0.toList = ([98, 111, 116, 104] : List UInt8) then (some false) else (if x0.toList = ([101, 105, 116, 104, 101, 114] : List UInt8) then (some false) else (if x0.toList = ([105, 116] : List UInt8) then (some false) else (if x0.toList = ([105, 110] : List UInt8) then (some false) else (some true))))))))))
end
def spec_l5Name.f (k : Nat) (a0 : ByteArray) : Option (Bool) := (spec_l1In.f (a0.size : Int) 1 8).bind fun t146 => (if t146 = true then (if 0 < (a0.size : Int) then (if (bt a0 0) < 97 then (spec_l5Name.j0 k a0 true) else (spec_l5Name.j0 k a0 (decide ((bt a0 0) > 122)))) else (none)) else (spec_l5Name.j0 k a0 true))
theorem spec_l5Name.mono_l : ∀ k, (∀ y0 y1, LeO (spec_l5Name.j0 k y0 y1) (spec_l5Name.j0 (k + 1) y0 y1)) ∧ (∀ y0 y1, LeO (spec_l5Name.l0 k y0 y1) (spec_l5Name.l0 (k + 1) y0 y1))
 | 0 => ⟨fun _ _ r h => by simp [spec_l5Name.j0] at h, fun _ _ r h => by simp [spec_l5Name.l0] at h⟩
 | k + 1 => by
  obtain ⟨ih0, ih1⟩ := spec_l5Name.mono_l k
  refine ⟨?_, ?_⟩
  ·
   intro y0 y1; unfold spec_l5Name.j0
   repeat' first
   | (with_reducible first | exact ih0 _ _ | exact ih1 _ _ | exact LeO.refl _ | exact LeO.none _ | refine LeO.ite ?_ ?_ | refine LeO.bind ?_ (fun _ => ?_))
  ·
   intro y0 y1; unfold spec_l5Name.l0
   repeat' first
   | (with_reducible first | exact ih0 _ _ | exact ih1 _ _ | exact LeO.refl _ | exact LeO.none _ | refine LeO.ite ?_ ?_ | refine LeO.bind ?_ (fun _ => ?_))
theorem spec_l5Name.mono : ∀ a0 k, LeO (spec_l5Name.f k a0) (spec_l5Name.f (k + 1) a0) := by
 intro a0 k
 obtain ⟨ih0, ih1⟩ := spec_l5Name.mono_l k
 unfold spec_l5Name.f
 repeat' first
   | (with_reducible first | exact ih0 _ _ | exact ih1 _ _ | exact LeO.refl _ | exact LeO.none _ | refine LeO.ite ?_ ?_ | refine LeO.bind ?_ (fun _ => ?_))
set_option maxHeartbeats 8000000 in
set_option maxRecDepth 100000 in
theorem spec_l5Name.calls (k : Nat) (a0 : ByteArray) (r : Bool) (w : World) (h : spec_l5Name.f k a0 = some r) :
  Calls Tryz.prog 52 #[.string a0] w fun e w' => e = .returned (.bool r) ∧ Drawn0 w w' := by
 have H : ((spec_l1In.f (a0.size : Int) 1 8).bind fun t146 => (if t146 = true then (if 0 < (a0.size : Int) then (if (bt a0 0) < 97 then (spec_l5Name.j0 k a0 true) else (spec_l5Name.j0 k a0 (decide ((bt a0 0) > 122)))) else (none)) else (spec_l5Name.j0 k a0 true))) = some r := h
 clear h
 have HC2 := Aside0.mk H
 clear H
 go_enter Tryz.func52, Tryz.ntmps52
 go_upto_region 1 with (fail)
 go_cut [17] (fun v17 wc => ∃ (kq : Nat) (x17_1 : Bool), v17 = .bool x17_1 ∧ Aside0 (spec_l5Name.j0 kq a0 x17_1 = some r) ∧ Aside0 (kq ≤ k) ∧ Drawn0 w wc)
 case first =>
  have H := HC2.out; clear HC2
  replace H := Own.bd H; obtain ⟨t146, A3, H⟩ := H
  replace H := Own.ift H; obtain ⟨rfl, H⟩ | ⟨rfl, H⟩ := H
  ·
   have H' := Aside0.mk H; clear H
   go_wp2_with (first | ((with_reducible refine gate_callee (f := 36) rfl ?_); refine goesL_ (some 6) rfl rfl Tryz.func36 (by kernel_rfl) rfl #[.int .i64 (a0.size : Int), .int .i64 1, .int .i64 8] rfl Own.ha ?_; (with_reducible refine (spec_l1In.calls (a0.size : Int) 1 8 false _ A3.out).mono ?_); rintro e w' ⟨rfl, ⟨nd, rfl⟩⟩; refine ⟨_, rfl, ?_⟩))
   go_meet
   case rel => exact ⟨_, (true), Own.rs, H', ⟨by first | omega | exact Nat.le_refl _⟩, by repeat (first | exact Drawn0.refl _ | apply Drawn0.step)⟩
  replace H := Own.ifn H; obtain ⟨c5, H⟩ := H
  have c5b0 : decide (0 < (a0.size : Int)) = true := decide_eq_true c5
  have c5b1 : decide (0 < a0.size) = true := decide_eq_true (by omega)
  clear c5
  (first | rw [c5b0] | (simp only [i64_w, i32_w]; rw [c5b0]) | skip)
  by_cases c7 : (bt a0 0) < 97
  ·
   rw [if_pos c7] at H; replace c7 := decide_eq_true c7; have H' := Aside0.mk H; clear H
   go_wp2_with (first | ((with_reducible refine gate_callee (f := 36) rfl ?_); refine goesL_ (some 6) rfl rfl Tryz.func36 (by kernel_rfl) rfl #[.int .i64 (a0.size : Int), .int .i64 1, .int .i64 8] rfl Own.ha ?_; (with_reducible refine (spec_l1In.calls (a0.size : Int) 1 8 true _ A3.out).mono ?_); rintro e w' ⟨rfl, ⟨nd, rfl⟩⟩; refine ⟨_, rfl, ?_⟩; have p6 : 0 ≤ (0 : Int) := (by omega); have q6 : 0 < a0.size := (by have : (0 : Int) < (a0.size : Int) := Own.dp; omega); have hx6 : ∀ h : 0 < a0.size, ((a0[0]'h).toNat : Int) = bt a0 0 := bt_at a0 0; clear p6; have qi6 : (0 < (a0.size : Int)) = True := eq_true (Own.dp); replace q6 := eq_true q6))
   go_meet
   case rel => exact ⟨_, (true), Own.rs, H', ⟨by first | omega | exact Nat.le_refl _⟩, by repeat (first | exact Drawn0.refl _ | apply Drawn0.step)⟩
  rw [if_neg c7] at H; replace c7 := decide_eq_false c7; have H' := Aside0.mk H; clear H
  go_wp2_with (first | ((with_reducible refine gate_callee (f := 36) rfl ?_); refine goesL_ (some 6) rfl rfl Tryz.func36 (by kernel_rfl) rfl #[.int .i64 (a0.size : Int), .int .i64 1, .int .i64 8] rfl Own.ha ?_; (with_reducible refine (spec_l1In.calls (a0.size : Int) 1 8 true _ A3.out).mono ?_); rintro e w' ⟨rfl, ⟨nd, rfl⟩⟩; refine ⟨_, rfl, ?_⟩; have p6 : 0 ≤ (0 : Int) := (by omega); have q6 : 0 < a0.size := (by have : (0 : Int) < (a0.size : Int) := Own.dp; omega); have hx6 : ∀ h : 0 < a0.size, ((a0[0]'h).toNat : Int) = bt a0 0 := bt_at a0 0; clear p6; have qi6 : (0 < (a0.size : Int)) = True := eq_true (Own.dp); replace q6 := eq_true q6; have p8 : 0 ≤ (0 : Int) := (by omega); have q8 : 0 < a0.size := (by have : (0 : Int) < (a0.size : Int) := Own.dp; omega); have hx8 : ∀ h : 0 < a0.size, ((a0[0]'h).toNat : Int) = bt a0 0 := bt_at a0 0; clear p8; have qi8 : (0 < (a0.size : Int)) = True := eq_true (Own.dp); replace q8 := eq_true q8))
  go_meet
  case rel => exact ⟨_, (decide ((bt a0 0) > 122)), Own.rs, H', ⟨by first | omega | exact Nat.le_refl _⟩, by repeat (first | exact Drawn0.refl _ | apply Drawn0.step)⟩
 case rest =>
  clear HC2
  skip
  obtain ⟨kq, x17_1, rfl, HA, HJ1, ⟨mc1, rfl⟩⟩ := hcut
  cases kq with
  | zero => exact absurd HA.out (by simp [spec_l5Name.j0])
  | succ kj1 =>
   have H := HA.out; clear HA
   simp only [spec_l5Name.j0] at H
   replace H := Own.ifu H; obtain ⟨rfl, H⟩ | ⟨rfl, H⟩ := H
   ·
    obtain rfl := Option.some.inj H
    go_wp2
    go_ret
    exact ⟨by first | rfl | (simp; done) | (simp [*]; done), by repeat (first | exact Drawn0.refl _ | apply Drawn0.step)⟩
   have H' := Aside0.mk H; clear H
   go_wp2
   go_loopg [3] kj1 (fun kq v3 w' => ∃ (x3_2 : Int), v3 = .int .i64 x3_2 ∧ Aside0 (spec_l5Name.l0 kq a0 x3_2 = some r) ∧ Aside0 (kq ≤ kj1) ∧ Drawn0 w w')
   case atStart => exact ⟨(0), Own.rs, H', ⟨Nat.le_refl _⟩, by repeat (first | exact Drawn0.refl _ | apply Drawn0.step)⟩
   case round =>
    clear H'
    skip
    obtain ⟨x3_2, rfl, HA, HK2, ⟨m2, rfl⟩⟩ := hrel
    cases gk with
    | zero => exact absurd HA.out (by simp [spec_l5Name.l0])
    | succ k2 =>
     have H := HA.out; clear HA
     simp only [spec_l5Name.l0] at H
     by_cases c10 : x3_2 < (a0.size : Int)
     ·
      rw [if_pos c10] at H; replace c10 := decide_eq_true c10
      replace H := Own.ifd H; obtain ⟨c11, H⟩ := H
      replace H := Own.bd H; obtain ⟨t147, A13, H⟩ := H
      replace H := Own.ift H; obtain ⟨rfl, H⟩ | ⟨rfl, H⟩ := H
      ·
       obtain rfl := Option.some.inj H
       have p12 : 0 ≤ (x3_2 : Int) := Own.dp
       have q12 : x3_2 < (a0.size : Int) := Own.dp
       have hx12 := bt_at a0 x3_2; replace p12 := eq_true p12; replace q12 := eq_true q12
       go_wp2_with (first | ((with_reducible refine gate_callee (f := 63) rfl ?_); refine goesL_ (some 27) rfl rfl Tryz.func63 (by kernel_rfl) rfl #[.int .u8 (bt a0 x3_2)] rfl Own.ha ?_; (with_reducible refine (spec_l5Sign.calls (bt a0 x3_2) false _ A13.out).mono ?_); rintro e w' ⟨rfl, ⟨nd, rfl⟩⟩; refine ⟨_, rfl, ?_⟩))
       go_ret
       exact ⟨by first | rfl | (simp; done) | (simp [*]; done), by repeat (first | exact Drawn0.refl _ | apply Drawn0.step)⟩
      have H' := Aside0.mk H; clear H
      have p12 : 0 ≤ (x3_2 : Int) := Own.dp
      have q12 : x3_2 < (a0.size : Int) := Own.dp
      have hx12 := bt_at a0 x3_2; replace p12 := eq_true p12; replace q12 := eq_true q12
      go_wp2_with (first | ((with_reducible refine gate_callee (f := 63) rfl ?_); refine goesL_ (some 27) rfl rfl Tryz.func63 (by kernel_rfl) rfl #[.int .u8 (bt a0 x3_2)] rfl Own.ha ?_; (with_reducible refine (spec_l5Sign.calls (bt a0 x3_2) true _ A13.out).mono ?_); rintro e w' ⟨rfl, ⟨nd, rfl⟩⟩; refine ⟨_, rfl, ?_⟩))
      go_roundg k2
      case measure => have := HJ1.out; have := HK2.out; omega
      case rel => exact ⟨(wrap64 (x3_2 + 1)), Own.rs, H', ⟨by have := HJ1.out; have := HK2.out; omega⟩, by repeat (first | exact Drawn0.refl _ | apply Drawn0.step)⟩
     rw [if_neg c10] at H; replace c10 := decide_eq_false c10
     by_cases c15 : a0.toList = ([116, 114, 117, 101] : List UInt8)
     ·
      rw [if_pos c15] at H
      have c15b0 : (a0.toList == ([116, 114, 117, 101] : List UInt8)) = true := beq_iff_eq.mpr c15
      have c15b1 : (a0.toList != ([116, 114, 117, 101] : List UInt8)) = false := bne_eq_false_iff_eq.mpr c15
      clear c15; obtain rfl := Option.some.inj H
      go_wp2
      go_ret
      exact ⟨by first | rfl | (simp; done) | (simp [*]; done), by repeat (first | exact Drawn0.refl _ | apply Drawn0.step)⟩
     rw [if_neg c15] at H
     have c15b0 : (a0.toList == ([116, 114, 117, 101] : List UInt8)) = false := beq_eq_false_iff_ne.mpr c15
     have c15b1 : (a0.toList != ([116, 114, 117, 101] : List UInt8)) = true := bne_iff_ne.mpr c15
     by_cases c16 : a0.toList = ([102, 114, 111, 109] : List UInt8)
     ·
      rw [if_pos c16] at H
      have c16b0 : (a0.toList == ([102, 114, 111, 109] : List UInt8)) = true := beq_iff_eq.mpr c16
      have c16b1 : (a0.toList != ([102, 114, 111, 109] : List UInt8)) = false := bne_eq_false_iff_eq.mpr c16
      clear c16; obtain rfl := Option.some.inj H
      go_wp2
      go_ret
      exact ⟨by first | rfl | (simp; done) | (simp [*]; done), by repeat (first | exact Drawn0.refl _ | apply Drawn0.step)⟩
     rw [if_neg c16] at H
     have c16b0 : (a0.toList == ([102, 114, 111, 109] : List UInt8)) = false := beq_eq_false_iff_ne.mpr c16
     have c16b1 : (a0.toList != ([102, 114, 111, 109] : List UInt8)) = true := bne_iff_ne.mpr c16
     by_cases c17 : a0.toList = ([110, 111, 116] : List UInt8)
     ·
      rw [if_pos c17] at H
      have c17b0 : (a0.toList == ([110, 111, 116] : List UInt8)) = true := beq_iff_eq.mpr c17
      have c17b1 : (a0.toList != ([110, 111, 116] : List UInt8)) = false := bne_eq_false_iff_eq.mpr c17
      clear c17; obtain rfl := Option.some.inj H
      go_wp2
      go_ret
      exact ⟨by first | rfl | (simp; done) | (simp [*]; done), by repeat (first | exact Drawn0.refl _ | apply Drawn0.step)⟩
     rw [if_neg c17] at H
     have c17b0 : (a0.toList == ([110, 111, 116] : List UInt8)) = false := beq_eq_false_iff_ne.mpr c17
     have c17b1 : (a0.toList != ([110, 111, 116] : List UInt8)) = true := bne_iff_ne.mpr c17
     by_cases c18 : a0.toList = ([97, 110, 100] : List UInt8)
     ·
      rw [if_pos c18] at H
      have c18b0 : (a0.toList == ([97, 110, 100] : List UInt8)) = true := beq_iff_eq.mpr c18
      have c18b1 : (a0.toList != ([97, 110, 100] : List UInt8)) = false := bne_eq_false_iff_eq.mpr c18
      clear c18; obtain rfl := Option.some.inj H
      go_wp2
      go_ret
      exact ⟨by first | rfl | (simp; done) | (simp [*]; done), by repeat (first | exact Drawn0.refl _ | apply Drawn0.step)⟩
     rw [if_neg c18] at H
     have c18b0 : (a0.toList == ([97, 110, 100] : List UInt8)) = false := beq_eq_false_iff_ne.mpr c18
     have c18b1 : (a0.toList != ([97, 110, 100] : List UInt8)) = true := bne_iff_ne.mpr c18
     by_cases c19 : a0.toList = ([111, 114] : List UInt8)
     ·
      rw [if_pos c19] at H
      have c19b0 : (a0.toList == ([111, 114] : List UInt8)) = true := beq_iff_eq.mpr c19
      have c19b1 : (a0.toList != ([111, 114] : List UInt8)) = false := bne_eq_false_iff_eq.mpr c19
      clear c19; obtain rfl := Option.some.inj H
      go_wp2
      go_ret
      exact ⟨by first | rfl | (simp; done) | (simp [*]; done), by repeat (first | exact Drawn0.refl _ | apply Drawn0.step)⟩
     rw [if_neg c19] at H
     have c19b0 : (a0.toList == ([111, 114] : List UInt8)) = false := beq_eq_false_iff_ne.mpr c19
     have c19b1 : (a0.toList != ([111, 114] : List UInt8)) = true := bne_iff_ne.mpr c19
     by_cases c20 : a0.toList = ([98, 111, 116, 104] : List UInt8)
     ·
      rw [if_pos c20] at H
      have c20b0 : (a0.toList == ([98, 111, 116, 104] : List UInt8)) = true := beq_iff_eq.mpr c20
      have c20b1 : (a0.toList != ([98, 111, 116, 104] : List UInt8)) = false := bne_eq_false_iff_eq.mpr c20
      clear c20; obtain rfl := Option.some.inj H
      go_wp2
      go_ret
      exact ⟨by first | rfl | (simp; done) | (simp [*]; done), by repeat (first | exact Drawn0.refl _ | apply Drawn0.step)⟩
     rw [if_neg c20] at H
     have c20b0 : (a0.toList == ([98, 111, 116, 104] : List UInt8)) = false := beq_eq_false_iff_ne.mpr c20
     have c20b1 : (a0.toList != ([98, 111, 116, 104] : List UInt8)) = true := bne_iff_ne.mpr c20
     by_cases c21 : a0.toList = ([101, 105, 116, 104, 101, 114] : List UInt8)
     ·
      rw [if_pos c21] at H
      have c21b0 : (a0.toList == ([101, 105, 116, 104, 101, 114] : List UInt8)) = true := beq_iff_eq.mpr c21
      have c21b1 : (a0.toList != ([101, 105, 116, 104, 101, 114] : List UInt8)) = false := bne_eq_false_iff_eq.mpr c21
      clear c21; obtain rfl := Option.some.inj H
      go_wp2
      go_ret
      exact ⟨by first | rfl | (simp; done) | (simp [*]; done), by repeat (first | exact Drawn0.refl _ | apply Drawn0.step)⟩
     rw [if_neg c21] at H
     have c21b0 : (a0.toList == ([101, 105, 116, 104, 101, 114] : List UInt8)) = false := beq_eq_false_iff_ne.mpr c21
     have c21b1 : (a0.toList != ([101, 105, 116, 104, 101, 114] : List UInt8)) = true := bne_iff_ne.mpr c21
     by_cases c22 : a0.toList = ([105, 116] : List UInt8)
     ·
      rw [if_pos c22] at H
      have c22b0 : (a0.toList == ([105, 116] : List UInt8)) = true := beq_iff_eq.mpr c22
      have c22b1 : (a0.toList != ([105, 116] : List UInt8)) = false := bne_eq_false_iff_eq.mpr c22
      clear c22; obtain rfl := Option.some.inj H
      go_wp2
      go_ret
      exact ⟨by first | rfl | (simp; done) | (simp [*]; done), by repeat (first | exact Drawn0.refl _ | apply Drawn0.step)⟩
     rw [if_neg c22] at H
     have c22b0 : (a0.toList == ([105, 116] : List UInt8)) = false := beq_eq_false_iff_ne.mpr c22
     have c22b1 : (a0.toList != ([105, 116] : List UInt8)) = true := bne_iff_ne.mpr c22
     by_cases c23 : a0.toList = ([105, 110] : List UInt8)
     rotate_left
     ·
      rw [if_neg c23] at H
      have c23b0 : (a0.toList == ([105, 110] : List UInt8)) = false := beq_eq_false_iff_ne.mpr c23
      have c23b1 : (a0.toList != ([105, 110] : List UInt8)) = true := bne_iff_ne.mpr c23
      obtain rfl := Option.some.inj H
      go_wp2
      go_ret
      exact ⟨by first | rfl | (simp; done) | (simp [*]; done), by repeat (first | exact Drawn0.refl _ | apply Drawn0.step)⟩
     rw [if_pos c23] at H
     have c23b0 : (a0.toList == ([105, 110] : List UInt8)) = true := beq_iff_eq.mpr c23
     have c23b1 : (a0.toList != ([105, 110] : List UInt8)) = false := bne_eq_false_iff_eq.mpr c23
     clear c23; obtain rfl := Option.some.inj H
     go_wp2
     go_ret
     exact ⟨by first | rfl | (simp; done) | (simp [*]; done), by repeat (first | exact Drawn0.refl _ | apply Drawn0.step)⟩
/-! ### spec_l5Has: function 53 -/
def spec_l5Has.l0 : Nat → List ByteArray → ByteArray → Int → Option (Bool)
 | 0, _, _, _ => none
 | k + 1, x0, x1, x5 => if x5 < (x0.length : Int) then (if 0 ≤ x5 then (if (rdOf ByteArray.empty x0 x5).toList = x1.toList then (some true) else (spec_l5Has.l0 k x0 x1 (wrap64 (x5 + 1)))) else (none)) else (some false)
def spec_l5Has.f (k : Nat) (l0 : List ByteArray) (a1 : ByteArray) : Option (Bool) := spec_l5Has.l0 k l0 a1 0
set_option maxHeartbeats 8000000 in
set_option maxRecDepth 100000 in
theorem spec_l5Has.calls (k : Nat) (A0 : Option Addr) (c0 : Nat) (l0 : List ByteArray) (a1 : ByteArray) (r : Bool) (w : World) (hr0 : Kd.C Kd.string w A0 l0.length l0) (hc0 : l0.length ≤ c0) (h : spec_l5Has.f k l0 a1 = some r) :
  Calls Tryz.prog 53 #[.slice A0 l0.length c0, .string a1] w fun e w' => e = .returned (.bool r) ∧ Drawn0 w w' := by
 have HR0 := Aside0.mk hr0
 have HC0 := Aside0.mk hc0
 clear hr0 hc0
 have H : (spec_l5Has.l0 k l0 a1 0) = some r := h
 clear h
 have H' := Aside0.mk H
 clear H
 go_enter Tryz.func53, Tryz.ntmps53
 go_wp2
 go_loopg [5] k (fun kq v5 w' => ∃ (x5_1 : Int), v5 = .int .i64 x5_1 ∧ Aside0 (spec_l5Has.l0 kq l0 a1 x5_1 = some r) ∧ Aside0 (kq ≤ k) ∧ Drawn0 w w')
 case atStart => exact ⟨(0), Own.rs, H', ⟨Nat.le_refl _⟩, by repeat (first | exact Drawn0.refl _ | apply Drawn0.step)⟩
 case round =>
  clear H'; try clear p2
  obtain ⟨x5_1, rfl, HA, HK1, ⟨m1, rfl⟩⟩ := hrel
  cases gk with
  | zero => exact absurd HA.out (by simp [spec_l5Has.l0])
  | succ k1 =>
   have H := HA.out; clear HA
   simp only [spec_l5Has.l0] at H
   by_cases c3 : x5_1 < (l0.length : Int)
   rotate_left
   ·
    rw [if_neg c3] at H; replace c3 := decide_eq_false c3; obtain rfl := Option.some.inj H
    go_wp2
    go_ret
    exact ⟨by first | rfl | (simp; done) | (simp [*]; done), by repeat (first | exact Drawn0.refl _ | apply Drawn0.step)⟩
   rw [if_pos c3] at H; replace c3 := decide_eq_true c3
   replace H := Own.ifd H; obtain ⟨c4, H⟩ := H
   by_cases c5 : (rdOf ByteArray.empty l0 x5_1).toList = a1.toList
   ·
    rw [if_pos c5] at H
    have c5b0 : ((rdOf ByteArray.empty l0 x5_1).toList == a1.toList) = true := beq_iff_eq.mpr c5
    have c5b1 : ((rdOf ByteArray.empty l0 x5_1).toList != a1.toList) = false := bne_eq_false_iff_eq.mpr c5
    clear c5; obtain rfl := Option.some.inj H
    have p148 : 0 ≤ (x5_1 : Int) := Own.dp
    have q148 : x5_1 < (l0.length : Int) := Own.dp
    obtain ⟨ad148, e148, hx148_0⟩ := Kd.at_string HR0.out x5_1 p148 q148; cases e148; replace p148 := eq_true p148; replace q148 := eq_true q148
    go_wp2
    go_ret
    exact ⟨by first | rfl | (simp; done) | (simp [*]; done), by repeat (first | exact Drawn0.refl _ | apply Drawn0.step)⟩
   rw [if_neg c5] at H
   have c5b0 : ((rdOf ByteArray.empty l0 x5_1).toList == a1.toList) = false := beq_eq_false_iff_ne.mpr c5
   have c5b1 : ((rdOf ByteArray.empty l0 x5_1).toList != a1.toList) = true := bne_iff_ne.mpr c5
   have H' := Aside0.mk H; clear H
   have p148 : 0 ≤ (x5_1 : Int) := Own.dp
   have q148 : x5_1 < (l0.length : Int) := Own.dp
   obtain ⟨ad148, e148, hx148_0⟩ := Kd.at_string HR0.out x5_1 p148 q148; cases e148; replace p148 := eq_true p148; replace q148 := eq_true q148
   go_wp2
   go_roundg k1
   case measure => have := HK1.out; omega
   case rel => exact ⟨(wrap64 (x5_1 + 1)), Own.rs, H', ⟨by have := HK1.out; omega⟩, by repeat (first | exact Drawn0.refl _ | apply Drawn0.step)⟩
/-! ### spec_l6Parties: function 37 -/
def spec_l6Parties.l0 : Nat → Int → List ByteArray → List (S43) → Option (Bool)
 | 0, _, _, _ => none
 | k + 1, x3, x150000, x150001 => if x3 < (x150000.length : Int) then (if 0 ≤ x3 then ((spec_l5Name.f k (rdOf ByteArray.empty x150000 x3)).bind fun t152 => (if t152 = true then (if x3 ≤ (x150000.length : Int) then ((spec_l5Has.f k (x150000.take (x3 : Int).toNat) (rdOf ByteArray.empty x150000 x3)).bind fun t155 => (if t155 = true then (some false) else (spec_l6Parties.l0 k (wrap64 (x3 + 1)) x150000 x150001))) else (none)) else (some false))) else (none)) else ((spec_l1In.f (x150000.length : Int) 2 4).bind fun t150 => (some t150))
def spec_l6Parties.f (k : Nat) (l0_0 : List ByteArray) (l0_1 : List (S43)) : Option (Bool) := spec_l6Parties.l0 k 0 l0_0 l0_1
set_option maxHeartbeats 8000000 in
set_option maxRecDepth 100000 in
theorem spec_l6Parties.calls (k : Nat) (A0_0 : Option Addr) (c0_0 : Nat) (l0_0 : List ByteArray) (A0_1 : Option Addr) (c0_1 : Nat) (l0_1 : List (S43)) (r : Bool) (w : World) (hr0_0 : Kd.C Kd.string w A0_0 l0_0.length l0_0) (hc0_0 : l0_0.length ≤ c0_0) (hr0_1 : Kd.C k43 w A0_1 l0_1.length l0_1) (hc0_1 : l0_1.length ≤ c0_1) (h : spec_l6Parties.f k l0_0 l0_1 = some r) :
  Calls Tryz.prog 37 #[.agg #[.slice A0_0 l0_0.length c0_0, .slice A0_1 l0_1.length c0_1]] w fun e w' => e = .returned (.bool r) ∧ Below w.heap.size w w' := by
 have hu35 := Tryz.underlying35
 have HR0_0 := Aside0.mk hr0_0
 have HC0_0 := Aside0.mk hc0_0
 clear hr0_0 hc0_0
 have HR0_1 := Aside0.mk hr0_1
 have HC0_1 := Aside0.mk hc0_1
 clear hr0_1 hc0_1
 have HB := Aside0.mk (Below.refl w.heap.size w)
 have H : (spec_l6Parties.l0 k 0 l0_0 l0_1) = some r := h
 clear h
 have H' := Aside0.mk H
 clear H
 go_enter Tryz.func37, Tryz.ntmps37
 go_wp2_with (first | ((with_reducible refine gate_dst (N := 1) rfl ?_); refine Own.be (N := 1) (cs := #[.slice A0_0 l0_0.length c0_0, .slice A0_1 l0_1.length c0_1]) (t := 35) ?_; intro gb149 hg w2 hbox hb; have BK149 := Aside0.mk hbox; have GW149 := (Own.gs hg : Aside0 (w.heap.size ≤ gb149)); have GE149 := GW149; replace HB := Own.bs hb; clear hb hbox hg))
 repeat (go_quiet (first | ((with_reducible refine gate_dst (N := 1) rfl ?_); refine Own.be (N := 1) (cs := #[.slice A0_0 l0_0.length c0_0, .slice A0_1 l0_1.length c0_1]) (t := 35) ?_; intro gb149 hg w2 hbox hb; have BK149 := Aside0.mk hbox; have GW149 := (Own.gs hg : Aside0 (w.heap.size ≤ gb149)); have GE149 := GW149; replace HB := Own.bs hb; clear hb hbox hg)); try go_wp2_with (first | ((with_reducible refine gate_dst (N := 1) rfl ?_); refine Own.be (N := 1) (cs := #[.slice A0_0 l0_0.length c0_0, .slice A0_1 l0_1.length c0_1]) (t := 35) ?_; intro gb149 hg w2 hbox hb; have BK149 := Aside0.mk hbox; have GW149 := (Own.gs hg : Aside0 (w.heap.size ≤ gb149)); have GE149 := GW149; replace HB := Own.bs hb; clear hb hbox hg)))
 go_loopg [3] k (fun kq v3 w' => ∃ (x3_1 : Int), v3 = .int .i64 x3_1 ∧ Aside0 (spec_l6Parties.l0 kq x3_1 l0_0 l0_1 = some r) ∧ Aside0 (kq ≤ k) ∧ Aside0 (w'.heap[gb149]? = some (.cells #[(.slice A0_0 l0_0.length c0_0), (.slice A0_1 l0_1.length c0_1)] 35 (0, 0))) ∧ Aside0 (Below w.heap.size w w'))
 case atStart => exact ⟨(0), Own.rs, H', ⟨Nat.le_refl _⟩, ⟨Own.bk⟩, ⟨Own.bl⟩⟩
 case round =>
  clear H'; try clear p2
  obtain ⟨x3_1, rfl, HA, HK1, BK149, HB⟩ := hrel
  cases gk with
  | zero => exact absurd HA.out (by simp [spec_l6Parties.l0])
  | succ k1 =>
   have H := HA.out; clear HA
   simp only [spec_l6Parties.l0] at H
   by_cases c3 : x3_1 < (l0_0.length : Int)
   rotate_left
   ·
    rw [if_neg c3] at H; replace c3 := decide_eq_false c3
    replace H := Own.bd H; obtain ⟨t150, A16, H⟩ := H; obtain rfl := Option.some.inj H; obtain ⟨z17_0, z17_1, y17_0, y17_1⟩ := Own.box2 BK149.out
    go_wp2_with (first | (go_at_call 36; (with_reducible refine (spec_l1In.calls (l0_0.length : Int) 2 4 t150 _ A16.out).mono ?_); rintro e w' ⟨rfl, ⟨nd, rfl⟩⟩; (try first | exact ⟨rfl, _, World.drewN_drewN _ _ _⟩ | exact ⟨rfl, _, Eq.trans (World.drewN_drewN _ _ _) (congrArg (World.drewN _) (Nat.add_assoc _ _ _))⟩)))
    repeat (go_quiet (first | (go_at_call 36; (with_reducible refine (spec_l1In.calls (l0_0.length : Int) 2 4 t150 _ A16.out).mono ?_); rintro e w' ⟨rfl, ⟨nd, rfl⟩⟩; (try first | exact ⟨rfl, _, World.drewN_drewN _ _ _⟩ | exact ⟨rfl, _, Eq.trans (World.drewN_drewN _ _ _) (congrArg (World.drewN _) (Nat.add_assoc _ _ _))⟩))); try go_wp2_with (first | (go_at_call 36; (with_reducible refine (spec_l1In.calls (l0_0.length : Int) 2 4 t150 _ A16.out).mono ?_); rintro e w' ⟨rfl, ⟨nd, rfl⟩⟩; (try first | exact ⟨rfl, _, World.drewN_drewN _ _ _⟩ | exact ⟨rfl, _, Eq.trans (World.drewN_drewN _ _ _) (congrArg (World.drewN _) (Nat.add_assoc _ _ _))⟩))))
    go_ret
    exact ⟨Own.rr, Own.bl⟩
   rw [if_pos c3] at H; replace c3 := decide_eq_true c3
   replace H := Own.ifd H; obtain ⟨c4, H⟩ := H
   replace H := Own.bd H; obtain ⟨t152, A5, H⟩ := H
   replace H := Own.ift H; obtain ⟨rfl, H⟩ | ⟨rfl, H⟩ := H
   ·
    obtain rfl := Option.some.inj H; obtain ⟨z15_0, z15_1, y15_0, y15_1⟩ := Own.box2 BK149.out
    have p151 : 0 ≤ (x3_1 : Int) := Own.dp
    have q151 : x3_1 < (l0_0.length : Int) := Own.dp
    obtain ⟨ad151, e151, hx151_0⟩ := Kd.at_string HR0_0.out x3_1 p151 q151; cases e151; replace hx151_0 := Own.up HB.out hx151_0; replace p151 := eq_true p151; replace q151 := eq_true q151
    go_wp2_with (first | (go_at_call 52; (with_reducible refine (spec_l5Name.calls k1 (rdOf ByteArray.empty l0_0 x3_1) false _ A5.out).mono ?_); rintro e w' ⟨rfl, ⟨nd, rfl⟩⟩; (try first | exact ⟨rfl, _, World.drewN_drewN _ _ _⟩ | exact ⟨rfl, _, Eq.trans (World.drewN_drewN _ _ _) (congrArg (World.drewN _) (Nat.add_assoc _ _ _))⟩)))
    repeat (go_quiet (first | (go_at_call 52; (with_reducible refine (spec_l5Name.calls k1 (rdOf ByteArray.empty l0_0 x3_1) false _ A5.out).mono ?_); rintro e w' ⟨rfl, ⟨nd, rfl⟩⟩; (try first | exact ⟨rfl, _, World.drewN_drewN _ _ _⟩ | exact ⟨rfl, _, Eq.trans (World.drewN_drewN _ _ _) (congrArg (World.drewN _) (Nat.add_assoc _ _ _))⟩))); try go_wp2_with (first | (go_at_call 52; (with_reducible refine (spec_l5Name.calls k1 (rdOf ByteArray.empty l0_0 x3_1) false _ A5.out).mono ?_); rintro e w' ⟨rfl, ⟨nd, rfl⟩⟩; (try first | exact ⟨rfl, _, World.drewN_drewN _ _ _⟩ | exact ⟨rfl, _, Eq.trans (World.drewN_drewN _ _ _) (congrArg (World.drewN _) (Nat.add_assoc _ _ _))⟩))))
    go_ret
    exact ⟨Own.rr, Own.bl⟩
   have c7b0 := eq_true (Own.dp : 0 ≤ x3_1)
   replace H := Own.ifn H; obtain ⟨c8, H⟩ := H; have c8b0 := eq_true c8
   have c8b1 : decide (x3_1 ≤ (l0_0.length : Int)) = true := decide_eq_true c8
   clear c8
   replace H := Own.bd H; obtain ⟨t155, A9, H⟩ := H
   replace H := Own.ifu H; obtain ⟨rfl, H⟩ | ⟨rfl, H⟩ := H
   ·
    obtain rfl := Option.some.inj H; obtain ⟨z11_0, z11_1, y11_0, y11_1⟩ := Own.box2 BK149.out
    have p151 : 0 ≤ (x3_1 : Int) := Own.dp
    have q151 : x3_1 < (l0_0.length : Int) := Own.dp
    obtain ⟨ad151, e151, hx151_0⟩ := Kd.at_string HR0_0.out x3_1 p151 q151; cases e151; replace hx151_0 := Own.up HB.out hx151_0; replace p151 := eq_true p151; replace q151 := eq_true q151
    go_wp2_with (first | (go_at_call 52; (with_reducible refine (spec_l5Name.calls k1 (rdOf ByteArray.empty l0_0 x3_1) true _ A5.out).mono ?_); rintro e w' ⟨rfl, ⟨nd, rfl⟩⟩; (try first | exact ⟨rfl, _, World.drewN_drewN _ _ _⟩ | exact ⟨rfl, _, Eq.trans (World.drewN_drewN _ _ _) (congrArg (World.drewN _) (Nat.add_assoc _ _ _))⟩); obtain ⟨i012, hi012, _, hsz12, _⟩ := info_parts info9; obtain ⟨hcut12, hA12, hC12⟩ := print_take_of (P := Tryz.prog) Value.string (⟨#[]⟩ : ByteArray) 22 9 .i64 Tryz.underlying22 hi012 hsz12 (some ad151) c0_0 l0_0 x3_1 (Own.dp) (Own.dp) HC0_0.out; have HR153 := Aside0.mk (Kd.C_of_reads (h1 := fun _ => rfl) (hA12 _ (Kd.reads_of_C HR0_0.out))); have HC153 := Aside0.mk hC12; clear hA12 hC12 hi012 hsz12; have p154 : 0 ≤ (x3_1 : Int) := Own.dp; have q154 : x3_1 < (l0_0.length : Int) := Own.dp; obtain ⟨ad154, e154, hx154_0⟩ := Kd.at_string HR0_0.out x3_1 p154 q154; obtain rfl : ad151 = ad154 := (by injection e154); replace hx154_0 := Own.up HB.out hx154_0; replace p154 := eq_true p154; replace q154 := eq_true q154) | (go_at_call 53; (first | ((with_reducible refine (spec_l5Has.calls k1 _ _ (l0_0.take (x3_1 : Int).toNat) (rdOf ByteArray.empty l0_0 x3_1) true _ ?side1 ?side2 A9.out).mono ?_); (case side1 => exact Kd.C_below HR153.out Own.bl); (case side2 => exact HC153.out)) | (refine (Own.at_args ?argE (spec_l5Has.calls k1 _ _ (l0_0.take (x3_1 : Int).toNat) (rdOf ByteArray.empty l0_0 x3_1) true _ (Kd.C_below HR153.out Own.bl) HC153.out A9.out)).mono ?_; (case argE => rw [show (l0_0.take (x3_1 : Int).toNat).length = (x3_1 : Int).toNat from by have a_ : 0 ≤ (x3_1 : Int) := of_decide_eq_true (by assumption); have b_ : x3_1 ≤ (l0_0.length : Int) := of_decide_eq_true (by assumption); rw [List.length_take]; omega]))); rintro e w' ⟨rfl, ⟨nd, rfl⟩⟩; (try first | exact ⟨rfl, _, World.drewN_drewN _ _ _⟩ | exact ⟨rfl, _, Eq.trans (World.drewN_drewN _ _ _) (congrArg (World.drewN _) (Nat.add_assoc _ _ _))⟩)))
    repeat (go_quiet (first | (go_at_call 52; (with_reducible refine (spec_l5Name.calls k1 (rdOf ByteArray.empty l0_0 x3_1) true _ A5.out).mono ?_); rintro e w' ⟨rfl, ⟨nd, rfl⟩⟩; (try first | exact ⟨rfl, _, World.drewN_drewN _ _ _⟩ | exact ⟨rfl, _, Eq.trans (World.drewN_drewN _ _ _) (congrArg (World.drewN _) (Nat.add_assoc _ _ _))⟩); obtain ⟨i012, hi012, _, hsz12, _⟩ := info_parts info9; obtain ⟨hcut12, hA12, hC12⟩ := print_take_of (P := Tryz.prog) Value.string (⟨#[]⟩ : ByteArray) 22 9 .i64 Tryz.underlying22 hi012 hsz12 (some ad151) c0_0 l0_0 x3_1 (Own.dp) (Own.dp) HC0_0.out; have HR153 := Aside0.mk (Kd.C_of_reads (h1 := fun _ => rfl) (hA12 _ (Kd.reads_of_C HR0_0.out))); have HC153 := Aside0.mk hC12; clear hA12 hC12 hi012 hsz12; have p154 : 0 ≤ (x3_1 : Int) := Own.dp; have q154 : x3_1 < (l0_0.length : Int) := Own.dp; obtain ⟨ad154, e154, hx154_0⟩ := Kd.at_string HR0_0.out x3_1 p154 q154; obtain rfl : ad151 = ad154 := (by injection e154); replace hx154_0 := Own.up HB.out hx154_0; replace p154 := eq_true p154; replace q154 := eq_true q154) | (go_at_call 53; (first | ((with_reducible refine (spec_l5Has.calls k1 _ _ (l0_0.take (x3_1 : Int).toNat) (rdOf ByteArray.empty l0_0 x3_1) true _ ?side1 ?side2 A9.out).mono ?_); (case side1 => exact Kd.C_below HR153.out Own.bl); (case side2 => exact HC153.out)) | (refine (Own.at_args ?argE (spec_l5Has.calls k1 _ _ (l0_0.take (x3_1 : Int).toNat) (rdOf ByteArray.empty l0_0 x3_1) true _ (Kd.C_below HR153.out Own.bl) HC153.out A9.out)).mono ?_; (case argE => rw [show (l0_0.take (x3_1 : Int).toNat).length = (x3_1 : Int).toNat from by have a_ : 0 ≤ (x3_1 : Int) := of_decide_eq_true (by assumption); have b_ : x3_1 ≤ (l0_0.length : Int) := of_decide_eq_true (by assumption); rw [List.length_take]; omega]))); rintro e w' ⟨rfl, ⟨nd, rfl⟩⟩; (try first | exact ⟨rfl, _, World.drewN_drewN _ _ _⟩ | exact ⟨rfl, _, Eq.trans (World.drewN_drewN _ _ _) (congrArg (World.drewN _) (Nat.add_assoc _ _ _))⟩))); try go_wp2_with (first | (go_at_call 52; (with_reducible refine (spec_l5Name.calls k1 (rdOf ByteArray.empty l0_0 x3_1) true _ A5.out).mono ?_); rintro e w' ⟨rfl, ⟨nd, rfl⟩⟩; (try first | exact ⟨rfl, _, World.drewN_drewN _ _ _⟩ | exact ⟨rfl, _, Eq.trans (World.drewN_drewN _ _ _) (congrArg (World.drewN _) (Nat.add_assoc _ _ _))⟩); obtain ⟨i012, hi012, _, hsz12, _⟩ := info_parts info9; obtain ⟨hcut12, hA12, hC12⟩ := print_take_of (P := Tryz.prog) Value.string (⟨#[]⟩ : ByteArray) 22 9 .i64 Tryz.underlying22 hi012 hsz12 (some ad151) c0_0 l0_0 x3_1 (Own.dp) (Own.dp) HC0_0.out; have HR153 := Aside0.mk (Kd.C_of_reads (h1 := fun _ => rfl) (hA12 _ (Kd.reads_of_C HR0_0.out))); have HC153 := Aside0.mk hC12; clear hA12 hC12 hi012 hsz12; have p154 : 0 ≤ (x3_1 : Int) := Own.dp; have q154 : x3_1 < (l0_0.length : Int) := Own.dp; obtain ⟨ad154, e154, hx154_0⟩ := Kd.at_string HR0_0.out x3_1 p154 q154; obtain rfl : ad151 = ad154 := (by injection e154); replace hx154_0 := Own.up HB.out hx154_0; replace p154 := eq_true p154; replace q154 := eq_true q154) | (go_at_call 53; (first | ((with_reducible refine (spec_l5Has.calls k1 _ _ (l0_0.take (x3_1 : Int).toNat) (rdOf ByteArray.empty l0_0 x3_1) true _ ?side1 ?side2 A9.out).mono ?_); (case side1 => exact Kd.C_below HR153.out Own.bl); (case side2 => exact HC153.out)) | (refine (Own.at_args ?argE (spec_l5Has.calls k1 _ _ (l0_0.take (x3_1 : Int).toNat) (rdOf ByteArray.empty l0_0 x3_1) true _ (Kd.C_below HR153.out Own.bl) HC153.out A9.out)).mono ?_; (case argE => rw [show (l0_0.take (x3_1 : Int).toNat).length = (x3_1 : Int).toNat from by have a_ : 0 ≤ (x3_1 : Int) := of_decide_eq_true (by assumption); have b_ : x3_1 ≤ (l0_0.length : Int) := of_decide_eq_true (by assumption); rw [List.length_take]; omega]))); rintro e w' ⟨rfl, ⟨nd, rfl⟩⟩; (try first | exact ⟨rfl, _, World.drewN_drewN _ _ _⟩ | exact ⟨rfl, _, Eq.trans (World.drewN_drewN _ _ _) (congrArg (World.drewN _) (Nat.add_assoc _ _ _))⟩))))
    go_ret
    exact ⟨Own.rr, Own.bl⟩
   have H' := Aside0.mk H; clear H; obtain ⟨z13_0, z13_1, y13_0, y13_1⟩ := Own.box2 BK149.out
   have p151 : 0 ≤ (x3_1 : Int) := Own.dp
   have q151 : x3_1 < (l0_0.length : Int) := Own.dp
   obtain ⟨ad151, e151, hx151_0⟩ := Kd.at_string HR0_0.out x3_1 p151 q151; cases e151; replace hx151_0 := Own.up HB.out hx151_0; replace p151 := eq_true p151; replace q151 := eq_true q151
   go_wp2_with (first | (go_at_call 52; (with_reducible refine (spec_l5Name.calls k1 (rdOf ByteArray.empty l0_0 x3_1) true _ A5.out).mono ?_); rintro e w' ⟨rfl, ⟨nd, rfl⟩⟩; (try first | exact ⟨rfl, _, World.drewN_drewN _ _ _⟩ | exact ⟨rfl, _, Eq.trans (World.drewN_drewN _ _ _) (congrArg (World.drewN _) (Nat.add_assoc _ _ _))⟩); obtain ⟨i014, hi014, _, hsz14, _⟩ := info_parts info9; obtain ⟨hcut14, hA14, hC14⟩ := print_take_of (P := Tryz.prog) Value.string (⟨#[]⟩ : ByteArray) 22 9 .i64 Tryz.underlying22 hi014 hsz14 (some ad151) c0_0 l0_0 x3_1 (Own.dp) (Own.dp) HC0_0.out; have HR153 := Aside0.mk (Kd.C_of_reads (h1 := fun _ => rfl) (hA14 _ (Kd.reads_of_C HR0_0.out))); have HC153 := Aside0.mk hC14; clear hA14 hC14 hi014 hsz14; have p154 : 0 ≤ (x3_1 : Int) := Own.dp; have q154 : x3_1 < (l0_0.length : Int) := Own.dp; obtain ⟨ad154, e154, hx154_0⟩ := Kd.at_string HR0_0.out x3_1 p154 q154; obtain rfl : ad151 = ad154 := (by injection e154); replace hx154_0 := Own.up HB.out hx154_0; replace p154 := eq_true p154; replace q154 := eq_true q154) | (go_at_call 53; (first | ((with_reducible refine (spec_l5Has.calls k1 _ _ (l0_0.take (x3_1 : Int).toNat) (rdOf ByteArray.empty l0_0 x3_1) false _ ?side1 ?side2 A9.out).mono ?_); (case side1 => exact Kd.C_below HR153.out Own.bl); (case side2 => exact HC153.out)) | (refine (Own.at_args ?argE (spec_l5Has.calls k1 _ _ (l0_0.take (x3_1 : Int).toNat) (rdOf ByteArray.empty l0_0 x3_1) false _ (Kd.C_below HR153.out Own.bl) HC153.out A9.out)).mono ?_; (case argE => rw [show (l0_0.take (x3_1 : Int).toNat).length = (x3_1 : Int).toNat from by have a_ : 0 ≤ (x3_1 : Int) := of_decide_eq_true (by assumption); have b_ : x3_1 ≤ (l0_0.length : Int) := of_decide_eq_true (by assumption); rw [List.length_take]; omega]))); rintro e w' ⟨rfl, ⟨nd, rfl⟩⟩; (try first | exact ⟨rfl, _, World.drewN_drewN _ _ _⟩ | exact ⟨rfl, _, Eq.trans (World.drewN_drewN _ _ _) (congrArg (World.drewN _) (Nat.add_assoc _ _ _))⟩)))
   repeat (go_quiet (first | (go_at_call 52; (with_reducible refine (spec_l5Name.calls k1 (rdOf ByteArray.empty l0_0 x3_1) true _ A5.out).mono ?_); rintro e w' ⟨rfl, ⟨nd, rfl⟩⟩; (try first | exact ⟨rfl, _, World.drewN_drewN _ _ _⟩ | exact ⟨rfl, _, Eq.trans (World.drewN_drewN _ _ _) (congrArg (World.drewN _) (Nat.add_assoc _ _ _))⟩); obtain ⟨i014, hi014, _, hsz14, _⟩ := info_parts info9; obtain ⟨hcut14, hA14, hC14⟩ := print_take_of (P := Tryz.prog) Value.string (⟨#[]⟩ : ByteArray) 22 9 .i64 Tryz.underlying22 hi014 hsz14 (some ad151) c0_0 l0_0 x3_1 (Own.dp) (Own.dp) HC0_0.out; have HR153 := Aside0.mk (Kd.C_of_reads (h1 := fun _ => rfl) (hA14 _ (Kd.reads_of_C HR0_0.out))); have HC153 := Aside0.mk hC14; clear hA14 hC14 hi014 hsz14; have p154 : 0 ≤ (x3_1 : Int) := Own.dp; have q154 : x3_1 < (l0_0.length : Int) := Own.dp; obtain ⟨ad154, e154, hx154_0⟩ := Kd.at_string HR0_0.out x3_1 p154 q154; obtain rfl : ad151 = ad154 := (by injection e154); replace hx154_0 := Own.up HB.out hx154_0; replace p154 := eq_true p154; replace q154 := eq_true q154) | (go_at_call 53; (first | ((with_reducible refine (spec_l5Has.calls k1 _ _ (l0_0.take (x3_1 : Int).toNat) (rdOf ByteArray.empty l0_0 x3_1) false _ ?side1 ?side2 A9.out).mono ?_); (case side1 => exact Kd.C_below HR153.out Own.bl); (case side2 => exact HC153.out)) | (refine (Own.at_args ?argE (spec_l5Has.calls k1 _ _ (l0_0.take (x3_1 : Int).toNat) (rdOf ByteArray.empty l0_0 x3_1) false _ (Kd.C_below HR153.out Own.bl) HC153.out A9.out)).mono ?_; (case argE => rw [show (l0_0.take (x3_1 : Int).toNat).length = (x3_1 : Int).toNat from by have a_ : 0 ≤ (x3_1 : Int) := of_decide_eq_true (by assumption); have b_ : x3_1 ≤ (l0_0.length : Int) := of_decide_eq_true (by assumption); rw [List.length_take]; omega]))); rintro e w' ⟨rfl, ⟨nd, rfl⟩⟩; (try first | exact ⟨rfl, _, World.drewN_drewN _ _ _⟩ | exact ⟨rfl, _, Eq.trans (World.drewN_drewN _ _ _) (congrArg (World.drewN _) (Nat.add_assoc _ _ _))⟩))); try go_wp2_with (first | (go_at_call 52; (with_reducible refine (spec_l5Name.calls k1 (rdOf ByteArray.empty l0_0 x3_1) true _ A5.out).mono ?_); rintro e w' ⟨rfl, ⟨nd, rfl⟩⟩; (try first | exact ⟨rfl, _, World.drewN_drewN _ _ _⟩ | exact ⟨rfl, _, Eq.trans (World.drewN_drewN _ _ _) (congrArg (World.drewN _) (Nat.add_assoc _ _ _))⟩); obtain ⟨i014, hi014, _, hsz14, _⟩ := info_parts info9; obtain ⟨hcut14, hA14, hC14⟩ := print_take_of (P := Tryz.prog) Value.string (⟨#[]⟩ : ByteArray) 22 9 .i64 Tryz.underlying22 hi014 hsz14 (some ad151) c0_0 l0_0 x3_1 (Own.dp) (Own.dp) HC0_0.out; have HR153 := Aside0.mk (Kd.C_of_reads (h1 := fun _ => rfl) (hA14 _ (Kd.reads_of_C HR0_0.out))); have HC153 := Aside0.mk hC14; clear hA14 hC14 hi014 hsz14; have p154 : 0 ≤ (x3_1 : Int) := Own.dp; have q154 : x3_1 < (l0_0.length : Int) := Own.dp; obtain ⟨ad154, e154, hx154_0⟩ := Kd.at_string HR0_0.out x3_1 p154 q154; obtain rfl : ad151 = ad154 := (by injection e154); replace hx154_0 := Own.up HB.out hx154_0; replace p154 := eq_true p154; replace q154 := eq_true q154) | (go_at_call 53; (first | ((with_reducible refine (spec_l5Has.calls k1 _ _ (l0_0.take (x3_1 : Int).toNat) (rdOf ByteArray.empty l0_0 x3_1) false _ ?side1 ?side2 A9.out).mono ?_); (case side1 => exact Kd.C_below HR153.out Own.bl); (case side2 => exact HC153.out)) | (refine (Own.at_args ?argE (spec_l5Has.calls k1 _ _ (l0_0.take (x3_1 : Int).toNat) (rdOf ByteArray.empty l0_0 x3_1) false _ (Kd.C_below HR153.out Own.bl) HC153.out A9.out)).mono ?_; (case argE => rw [show (l0_0.take (x3_1 : Int).toNat).length = (x3_1 : Int).toNat from by have a_ : 0 ≤ (x3_1 : Int) := of_decide_eq_true (by assumption); have b_ : x3_1 ≤ (l0_0.length : Int) := of_decide_eq_true (by assumption); rw [List.length_take]; omega]))); rintro e w' ⟨rfl, ⟨nd, rfl⟩⟩; (try first | exact ⟨rfl, _, World.drewN_drewN _ _ _⟩ | exact ⟨rfl, _, Eq.trans (World.drewN_drewN _ _ _) (congrArg (World.drewN _) (Nat.add_assoc _ _ _))⟩))))
   go_roundg k1
   case measure => have := HK1.out; omega
   case rel => exact ⟨(wrap64 (x3_1 + 1)), Own.rs, H', ⟨by have := HK1.out; omega⟩, ⟨Own.bk⟩, ⟨Own.bl⟩⟩
/-! ### spec_l6Find: function 38 -/
def spec_l6Find.l0 : Nat → ByteArray → Int → List ByteArray → List (S43) → Option (Int)
 | 0, _, _, _, _ => none
 | k + 1, x1, x5, x157000, x157001 => if x5 < (x157001.length : Int) then (if 0 ≤ x5 then (if ((rd_T43 x157001 x5).f0).toList = x1.toList then (some x5) else (spec_l6Find.l0 k x1 (wrap64 (x5 + 1)) x157000 x157001)) else (none)) else (some (-1))
def spec_l6Find.f (k : Nat) (l0_0 : List ByteArray) (l0_1 : List (S43)) (a1 : ByteArray) : Option (Int) := spec_l6Find.l0 k a1 0 l0_0 l0_1
set_option maxHeartbeats 8000000 in
set_option maxRecDepth 100000 in
theorem spec_l6Find.calls (k : Nat) (A0_0 : Option Addr) (c0_0 : Nat) (l0_0 : List ByteArray) (A0_1 : Option Addr) (c0_1 : Nat) (l0_1 : List (S43)) (a1 : ByteArray) (r : Int) (w : World) (hr0_0 : Kd.C Kd.string w A0_0 l0_0.length l0_0) (hc0_0 : l0_0.length ≤ c0_0) (hr0_1 : Kd.C k43 w A0_1 l0_1.length l0_1) (hc0_1 : l0_1.length ≤ c0_1) (h : spec_l6Find.f k l0_0 l0_1 a1 = some r) :
  Calls Tryz.prog 38 #[.agg #[.slice A0_0 l0_0.length c0_0, .slice A0_1 l0_1.length c0_1], .string a1] w fun e w' => e = .returned (.int .i64 r) ∧ Below w.heap.size w w' := by
 have hu35 := Tryz.underlying35
 have HR0_0 := Aside0.mk hr0_0
 have HC0_0 := Aside0.mk hc0_0
 clear hr0_0 hc0_0
 have HR0_1 := Aside0.mk hr0_1
 have HC0_1 := Aside0.mk hc0_1
 clear hr0_1 hc0_1
 have HB := Aside0.mk (Below.refl w.heap.size w)
 have H : (spec_l6Find.l0 k a1 0 l0_0 l0_1) = some r := h
 clear h
 have H' := Aside0.mk H
 clear H
 go_enter Tryz.func38, Tryz.ntmps38
 go_wp2_with (first | ((with_reducible refine gate_dst (N := 2) rfl ?_); refine Own.be (N := 2) (cs := #[.slice A0_0 l0_0.length c0_0, .slice A0_1 l0_1.length c0_1]) (t := 35) ?_; intro gb156 hg w3 hbox hb; have BK156 := Aside0.mk hbox; have GW156 := (Own.gs hg : Aside0 (w.heap.size ≤ gb156)); have GE156 := GW156; replace HB := Own.bs hb; clear hb hbox hg))
 go_loopg [5] k (fun kq v5 w' => ∃ (x5_1 : Int), v5 = .int .i64 x5_1 ∧ Aside0 (spec_l6Find.l0 kq a1 x5_1 l0_0 l0_1 = some r) ∧ Aside0 (kq ≤ k) ∧ Aside0 (w'.heap[gb156]? = some (.cells #[(.slice A0_0 l0_0.length c0_0), (.slice A0_1 l0_1.length c0_1)] 35 (0, 0))) ∧ Aside0 (Below w.heap.size w w'))
 case atStart => exact ⟨(0), Own.rs, H', ⟨Nat.le_refl _⟩, ⟨Own.bk⟩, ⟨Own.bl⟩⟩
 case round =>
  clear H'; try clear p2; try clear c3
  obtain ⟨x5_1, rfl, HA, HK1, BK156, HB⟩ := hrel
  cases gk with
  | zero => exact absurd HA.out (by simp [spec_l6Find.l0])
  | succ k1 =>
   have H := HA.out; clear HA
   simp only [spec_l6Find.l0] at H
   by_cases c4 : x5_1 < (l0_1.length : Int)
   rotate_left
   ·
    rw [if_neg c4] at H; replace c4 := decide_eq_false c4; obtain rfl := Option.some.inj H; obtain ⟨z9_0, z9_1, y9_0, y9_1⟩ := Own.box2 BK156.out
    go_wp2
    go_ret
    exact ⟨Own.rr, Own.bl⟩
   rw [if_pos c4] at H; replace c4 := decide_eq_true c4
   replace H := Own.ifd H; obtain ⟨c5, H⟩ := H
   by_cases c6 : ((rd_T43 l0_1 x5_1).f0).toList = a1.toList
   ·
    rw [if_pos c6] at H
    have c6b0 : (((rd_T43 l0_1 x5_1).f0).toList == a1.toList) = true := beq_iff_eq.mpr c6
    have c6b1 : (((rd_T43 l0_1 x5_1).f0).toList != a1.toList) = false := bne_eq_false_iff_eq.mpr c6
    clear c6; obtain rfl := Option.some.inj H; obtain ⟨z7_0, z7_1, y7_0, y7_1⟩ := Own.box2 BK156.out
    have p157 : 0 ≤ (x5_1 : Int) := Own.dp
    have q157 : x5_1 < (l0_1.length : Int) := Own.dp
    obtain ⟨ad157, A157_9, c157_9, e157, hx157_0, hx157_1, hx157_2, hx157_3, hx157_4, hx157_5, hx157_6, hx157_7, hx157_8, hx157_9, hx157_10, hx157_11, hl157_9, hi157_9⟩ := at_T43 HR0_1.out x5_1 p157 q157; cases e157; replace hx157_0 := Own.up HB.out hx157_0; replace hx157_1 := Own.up HB.out hx157_1; replace hx157_2 := Own.up HB.out hx157_2; replace hx157_3 := Own.up HB.out hx157_3; replace hx157_4 := Own.up HB.out hx157_4; replace hx157_5 := Own.up HB.out hx157_5; replace hx157_6 := Own.up HB.out hx157_6; replace hx157_7 := Own.up HB.out hx157_7; replace hx157_8 := Own.up HB.out hx157_8; replace hx157_9 := Own.up HB.out hx157_9; replace hx157_10 := Own.up HB.out hx157_10; replace hx157_11 := Own.up HB.out hx157_11; have HR157_9 := Aside0.mk hi157_9; have HC157_9 := Aside0.mk hl157_9; clear hi157_9 hl157_9; replace p157 := eq_true p157; replace q157 := eq_true q157
    go_wp2
    go_ret
    exact ⟨Own.rr, Own.bl⟩
   rw [if_neg c6] at H
   have c6b0 : (((rd_T43 l0_1 x5_1).f0).toList == a1.toList) = false := beq_eq_false_iff_ne.mpr c6
   have c6b1 : (((rd_T43 l0_1 x5_1).f0).toList != a1.toList) = true := bne_iff_ne.mpr c6
   have H' := Aside0.mk H; clear H; obtain ⟨z8_0, z8_1, y8_0, y8_1⟩ := Own.box2 BK156.out
   have p157 : 0 ≤ (x5_1 : Int) := Own.dp
   have q157 : x5_1 < (l0_1.length : Int) := Own.dp
   obtain ⟨ad157, A157_9, c157_9, e157, hx157_0, hx157_1, hx157_2, hx157_3, hx157_4, hx157_5, hx157_6, hx157_7, hx157_8, hx157_9, hx157_10, hx157_11, hl157_9, hi157_9⟩ := at_T43 HR0_1.out x5_1 p157 q157; cases e157; replace hx157_0 := Own.up HB.out hx157_0; replace hx157_1 := Own.up HB.out hx157_1; replace hx157_2 := Own.up HB.out hx157_2; replace hx157_3 := Own.up HB.out hx157_3; replace hx157_4 := Own.up HB.out hx157_4; replace hx157_5 := Own.up HB.out hx157_5; replace hx157_6 := Own.up HB.out hx157_6; replace hx157_7 := Own.up HB.out hx157_7; replace hx157_8 := Own.up HB.out hx157_8; replace hx157_9 := Own.up HB.out hx157_9; replace hx157_10 := Own.up HB.out hx157_10; replace hx157_11 := Own.up HB.out hx157_11; have HR157_9 := Aside0.mk hi157_9; have HC157_9 := Aside0.mk hl157_9; clear hi157_9 hl157_9; replace p157 := eq_true p157; replace q157 := eq_true q157
   go_wp2
   go_roundg k1
   case measure => have := HK1.out; omega
   case rel => exact ⟨(wrap64 (x5_1 + 1)), Own.rs, H', ⟨by have := HK1.out; omega⟩, ⟨Own.bk⟩, ⟨Own.bl⟩⟩
/-! ### spec_l3Good: function 78 -/
def spec_l3Good.f (a0 : Int) : Option (Bool) := (spec_l1In.f a0 0 36524).bind fun t158 => (some t158)
set_option maxHeartbeats 8000000 in
set_option maxRecDepth 100000 in
theorem spec_l3Good.calls (a0 : Int) (r : Bool) (w : World) (h : spec_l3Good.f a0 = some r) :
  Calls Tryz.prog 78 #[.int .i64 a0] w fun e w' => e = .returned (.bool r) ∧ Drawn0 w w' := by
 have H : ((spec_l1In.f a0 0 36524).bind fun t158 => (some t158)) = some r := h
 clear h
 replace H := Own.bd H; obtain ⟨t158, A2, H⟩ := H
 obtain rfl := Option.some.inj H
 go_enter Tryz.func78, Tryz.ntmps78
 go_wp2_with (first | ((with_reducible refine gate_callee (f := 36) rfl ?_); refine goesL_ (some 4) rfl rfl Tryz.func36 (by kernel_rfl) rfl #[.int .i64 a0, .int .i64 0, .int .i64 36524] rfl Own.ha ?_; (with_reducible refine (spec_l1In.calls a0 0 36524 t158 _ A2.out).mono ?_); rintro e w' ⟨rfl, ⟨nd, rfl⟩⟩; refine ⟨_, rfl, ?_⟩))
 go_ret
 exact ⟨by first | rfl | (simp; done) | (simp [*]; done), by repeat (first | exact Drawn0.refl _ | apply Drawn0.step)⟩
end Go.Proofs.YtghcjheaicmpbaaGreatDoor.QFnExactAddClause
