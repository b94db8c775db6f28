-- Written by a program of this session out of the translation; Lean checks it.
import Derived.Test.YtckopglnblcnoaaGreatDoorQFnExactRemoveClausex10
namespace Go.Proofs.YtckopglnblcnoaaGreatDoor.QFnExactRemoveClause
open Go.RowKit Go.Proofs.YtckopglnblcnoaaGreatDoorW.PrintWords Go.Proofs.YtckopglnblcnoaaGreatDoorW.PrintLast
attribute [local go_sem] Instr.field asAgg
set_option linter.unusedVariables false
set_option linter.unusedSimpArgs false
/-! ### impl_IsValidName: function 65 -/
mutual
def impl_IsValidName.j0 : Nat → ByteArray → Bool → Option (Bool)
 | 0, _, _ => none
 | k + 1, x0, x18 => if x18 = true then (some false) else (impl_IsValidName.l0 k x0 (x0.size : Int) 0)
def impl_IsValidName.l0 : Nat → ByteArray → Int → Int → Option (Bool)
 | 0, _, _, _ => none
 | k + 1, x0, x20, x21 => if x21 < x20 then (if 0 ≤ x21 then (if x21 < (x0.size : Int) then (if (bt x0 x21) < 97 then (if (bt x0 x21) < 48 then (some false) else (if (bt x0 x21) > 57 then (some false) else (impl_IsValidName.l0 k x0 x20 (wrap64 (x21 + 1))))) else (if (bt x0 x21) > 122 then (if (bt x0 x21) < 48 then (some false) else (if (bt x0 x21) > 57 then (some false) else (impl_IsValidName.l0 k x0 x20 (wrap64 (x21 + 1))))) else (impl_IsValidName.l0 k x0 x20 (wrap64 (x21 + 1))))) else (none)) else (none)) else ((strings_Split.f (⟨#[116, 114, 117, 101, 32, 102, 114, 111, 109, 32, 110, 111, 116, 32, 97, 110, 100, 32, 111, 114, 32, 98, 111, 116, 104, 32, 101, 105, 116, 104, 101, 114, 32, 105, 116, 32, 105, 110]⟩ : ByteArray) (⟨#[32]⟩ : ByteArray)).bind fun t362 => ((slices_Contains_string_string.f k t362 x0).bind fun t365 => (some (!t365))))
end
def impl_IsValidName.f (k : Nat) (a0 : ByteArray) : Option (Bool) := (impl_within.f (a0.size : Int) 1 8).bind fun t361 => (if t361 = true then (if 0 < (a0.size : Int) then (if (bt a0 0) < 97 then (impl_IsValidName.j0 k a0 true) else (impl_IsValidName.j0 k a0 (decide ((bt a0 0) > 122)))) else (none)) else (impl_IsValidName.j0 k a0 true))
theorem impl_IsValidName.mono_l : ∀ k, (∀ y0 y1, LeO (impl_IsValidName.j0 k y0 y1) (impl_IsValidName.j0 (k + 1) y0 y1)) ∧ (∀ y0 y1 y2, LeO (impl_IsValidName.l0 k y0 y1 y2) (impl_IsValidName.l0 (k + 1) y0 y1 y2))
 | 0 => ⟨fun _ _ r h => by simp [impl_IsValidName.j0] at h, fun _ _ _ r h => by simp [impl_IsValidName.l0] at h⟩
 | k + 1 => by
  obtain ⟨ih0, ih1⟩ := impl_IsValidName.mono_l k
  refine ⟨?_, ?_⟩
  ·
   intro y0 y1; unfold impl_IsValidName.j0
   repeat' first
   | (with_reducible first | exact ih0 _ _ | exact ih1 _ _ _ | exact slices_Contains_string_string.mono _ _ _ | exact LeO.refl _ | exact LeO.none _ | refine LeO.ite ?_ ?_ | refine LeO.bind ?_ (fun _ => ?_))
  ·
   intro y0 y1 y2; unfold impl_IsValidName.l0
   repeat' first
   | (with_reducible first | exact ih0 _ _ | exact ih1 _ _ _ | exact slices_Contains_string_string.mono _ _ _ | exact LeO.refl _ | exact LeO.none _ | refine LeO.ite ?_ ?_ | refine LeO.bind ?_ (fun _ => ?_))
theorem impl_IsValidName.mono : ∀ a0 k, LeO (impl_IsValidName.f k a0) (impl_IsValidName.f (k + 1) a0) := by
 intro a0 k
 obtain ⟨ih0, ih1⟩ := impl_IsValidName.mono_l k
 unfold impl_IsValidName.f
 repeat' first
   | (with_reducible first | exact ih0 _ _ | exact ih1 _ _ _ | exact slices_Contains_string_string.mono _ _ _ | exact LeO.refl _ | exact LeO.none _ | refine LeO.ite ?_ ?_ | refine LeO.bind ?_ (fun _ => ?_))
set_option maxHeartbeats 8000000 in
set_option maxRecDepth 100000 in
theorem impl_IsValidName.calls (k : Nat) (a0 : ByteArray) (r : Bool) (w : World) (hG : Own.Glob w) (h : impl_IsValidName.f k a0 = some r) :
  Calls Tryz.prog 65 #[.string a0] w fun e w' => e = .returned (.bool r) ∧ Below w.heap.size w w' := by
 have HB := Aside0.mk (Below.refl w.heap.size w)
 have HG := Aside0.mk hG
 clear hG
 have H : ((impl_within.f (a0.size : Int) 1 8).bind fun t361 => (if t361 = true then (if 0 < (a0.size : Int) then (if (bt a0 0) < 97 then (impl_IsValidName.j0 k a0 true) else (impl_IsValidName.j0 k a0 (decide ((bt a0 0) > 122)))) else (none)) else (impl_IsValidName.j0 k a0 true))) = some r := h
 clear h
 have HC2 := Aside0.mk H
 clear H
 go_enter Tryz.func65, Tryz.ntmps65
 go_upto_region 1 with (fail)
 go_cut [18] (fun v18 wc => ∃ (kq : Nat) (x18_1 : Bool), v18 = .bool x18_1 ∧ Aside0 (impl_IsValidName.j0 kq a0 x18_1 = some r) ∧ Aside0 (kq ≤ k) ∧ Aside0 (Below w.heap.size w wc))
 case first =>
  have H := HC2.out; clear HC2
  replace H := Own.bd H; obtain ⟨t361, A3, H⟩ := H
  replace H := Own.ift H; obtain ⟨rfl, H⟩ | ⟨rfl, H⟩ := H
  ·
   have H' := Aside0.mk H; clear H
   go_wp2_with (first | ((with_reducible refine gate_callee (f := 56) rfl ?_); refine goesL_ (some 7) rfl rfl Tryz.func56 (by kernel_rfl) rfl #[.int .i64 (a0.size : Int), .int .i64 1, .int .i64 8] rfl Own.ha ?_; (with_reducible refine (impl_within.calls (a0.size : Int) 1 8 false _ A3.out).mono ?_); rintro e w' ⟨rfl, ⟨nd, rfl⟩⟩; refine ⟨_, rfl, ?_⟩))
   go_meet
   case rel => exact ⟨_, (true), Own.rs, H', ⟨by first | omega | exact Nat.le_refl _⟩, ⟨Own.bl⟩⟩
  replace H := Own.ifn H; obtain ⟨c5, H⟩ := H
  have c5b0 : decide (0 < (a0.size : Int)) = true := decide_eq_true c5
  have c5b1 : decide (0 < a0.size) = true := decide_eq_true (by omega)
  clear c5
  (first | rw [c5b0] | (simp only [i64_w, i32_w]; rw [c5b0]) | skip)
  by_cases c7 : (bt a0 0) < 97
  ·
   rw [if_pos c7] at H; replace c7 := decide_eq_true c7; have H' := Aside0.mk H; clear H
   go_wp2_with (first | ((with_reducible refine gate_callee (f := 56) rfl ?_); refine goesL_ (some 7) rfl rfl Tryz.func56 (by kernel_rfl) rfl #[.int .i64 (a0.size : Int), .int .i64 1, .int .i64 8] rfl Own.ha ?_; (with_reducible refine (impl_within.calls (a0.size : Int) 1 8 true _ A3.out).mono ?_); rintro e w' ⟨rfl, ⟨nd, rfl⟩⟩; refine ⟨_, rfl, ?_⟩; have p6 : 0 ≤ (0 : Int) := (by omega); have q6 : 0 < a0.size := (by have : (0 : Int) < (a0.size : Int) := Own.dp; omega); have hx6 : ∀ h : 0 < a0.size, ((a0[0]'h).toNat : Int) = bt a0 0 := bt_at a0 0; clear p6; have qi6 : (0 < (a0.size : Int)) = True := eq_true (Own.dp); replace q6 := eq_true q6))
   go_meet
   case rel => exact ⟨_, (true), Own.rs, H', ⟨by first | omega | exact Nat.le_refl _⟩, ⟨Own.bl⟩⟩
  rw [if_neg c7] at H; replace c7 := decide_eq_false c7; have H' := Aside0.mk H; clear H
  go_wp2_with (first | ((with_reducible refine gate_callee (f := 56) rfl ?_); refine goesL_ (some 7) rfl rfl Tryz.func56 (by kernel_rfl) rfl #[.int .i64 (a0.size : Int), .int .i64 1, .int .i64 8] rfl Own.ha ?_; (with_reducible refine (impl_within.calls (a0.size : Int) 1 8 true _ A3.out).mono ?_); rintro e w' ⟨rfl, ⟨nd, rfl⟩⟩; refine ⟨_, rfl, ?_⟩; have p6 : 0 ≤ (0 : Int) := (by omega); have q6 : 0 < a0.size := (by have : (0 : Int) < (a0.size : Int) := Own.dp; omega); have hx6 : ∀ h : 0 < a0.size, ((a0[0]'h).toNat : Int) = bt a0 0 := bt_at a0 0; clear p6; have qi6 : (0 < (a0.size : Int)) = True := eq_true (Own.dp); replace q6 := eq_true q6; have p8 : 0 ≤ (0 : Int) := (by omega); have q8 : 0 < a0.size := (by have : (0 : Int) < (a0.size : Int) := Own.dp; omega); have hx8 : ∀ h : 0 < a0.size, ((a0[0]'h).toNat : Int) = bt a0 0 := bt_at a0 0; clear p8; have qi8 : (0 < (a0.size : Int)) = True := eq_true (Own.dp); replace q8 := eq_true q8))
  go_meet
  case rel => exact ⟨_, (decide ((bt a0 0) > 122)), Own.rs, H', ⟨by first | omega | exact Nat.le_refl _⟩, ⟨Own.bl⟩⟩
 case rest =>
  clear HC2
  skip
  obtain ⟨kq, x18_1, rfl, HA, HJ1, HB⟩ := hcut
  cases kq with
  | zero => exact absurd HA.out (by simp [impl_IsValidName.j0])
  | succ kj1 =>
   have H := HA.out; clear HA
   simp only [impl_IsValidName.j0] at H
   replace H := Own.ifu H; obtain ⟨rfl, H⟩ | ⟨rfl, H⟩ := H
   ·
    obtain rfl := Option.some.inj H
    go_wp2
    go_ret
    exact ⟨Own.rr, Own.bl⟩
   have H' := Aside0.mk H; clear H
   go_wp2
   go_loopg [21] kj1 (fun kq v21 w' => ∃ (x21_2 : Int), v21 = .int .i64 x21_2 ∧ Aside0 (impl_IsValidName.l0 kq a0 (a0.size : Int) x21_2 = some r) ∧ Aside0 (kq ≤ kj1) ∧ Aside0 (Below w.heap.size w w'))
   case atStart => exact ⟨(0), Own.rs, H', ⟨Nat.le_refl _⟩, ⟨Own.bl⟩⟩
   case round =>
    clear H'
    skip
    obtain ⟨x21_2, rfl, HA, HK2, HB⟩ := hrel
    cases gk with
    | zero => exact absurd HA.out (by simp [impl_IsValidName.l0])
    | succ k2 =>
     have H := HA.out; clear HA
     simp only [impl_IsValidName.l0] at H
     by_cases c10 : x21_2 < (a0.size : Int)
     rotate_left
     ·
      rw [if_neg c10] at H; replace c10 := decide_eq_false c10
      replace H := Own.bd H; obtain ⟨t362, A20, H⟩ := H
      replace H := Own.bd H; obtain ⟨t365, A21, H⟩ := H; obtain rfl := Option.some.inj H
      go_wp2_with (first | ((with_reducible refine gate_callee (f := 72) rfl ?_); refine goesL_ (some 42) rfl rfl Tryz.func72 (by kernel_rfl) rfl #[.string (⟨#[116, 114, 117, 101, 32, 102, 114, 111, 109, 32, 110, 111, 116, 32, 97, 110, 100, 32, 111, 114, 32, 98, 111, 116, 104, 32, 101, 105, 116, 104, 101, 114, 32, 105, 116, 32, 105, 110]⟩ : ByteArray), .string (⟨#[32]⟩ : ByteArray)] rfl Own.ha ?_; (with_reducible refine (strings_Split.calls (⟨#[116, 114, 117, 101, 32, 102, 114, 111, 109, 32, 110, 111, 116, 32, 97, 110, 100, 32, 111, 114, 32, 98, 111, 116, 104, 32, 101, 105, 116, 104, 101, 114, 32, 105, 116, 32, 105, 110]⟩ : ByteArray) (⟨#[32]⟩ : ByteArray) t362 _ ?side1 A20.out).mono ?_); (case side1 => exact Own.gl HG.out); rintro e w22 ⟨v363, rfl, ho0, hb⟩; refine ⟨_, rfl, ?_⟩; have HO364 := Aside0.mk (Kd.R_lower ho0 (below_size Own.bl)); replace HB := Own.bs hb; (try clear hb); (try clear ho0); obtain ⟨Ao23, co23, eo23⟩ := Kd.R_slice HO364.out; subst eo23) | ((with_reducible refine gate_callee (f := 66) rfl ?_); refine goesL_ (some 44) rfl rfl Tryz.func66 (by kernel_rfl) rfl #[.slice Ao23 t362.length co23, .string a0] rfl Own.ha ?_; (with_reducible refine (slices_Contains_string_string.calls k2 _ _ t362 a0 t365 _ ?side1 ?side2 A21.out).mono ?_); (case side1 => repeat (first | exact (Kd.R_reads' HO364.out).2.2 | (with_reducible refine Kd.C_alloc ?_ _) | (with_reducible refine Kd.C_drewN ?_ _) | (with_reducible refine Kd.C_drew ?_))); (case side2 => exact (Kd.R_reads' HO364.out).2.1); rintro e w' ⟨rfl, ⟨nd, rfl⟩⟩; refine ⟨_, rfl, ?_⟩))
      go_ret
      exact ⟨Own.rr, Own.bl⟩
     rw [if_pos c10] at H; replace c10 := decide_eq_true c10
     replace H := Own.ifd H; obtain ⟨c11, H⟩ := H
     replace H := Own.ifd H; obtain ⟨c12, H⟩ := H
     by_cases c14 : (bt a0 x21_2) < 97
     ·
      rw [if_pos c14] at H; replace c14 := decide_eq_true c14
      by_cases c15 : (bt a0 x21_2) < 48
      ·
       rw [if_pos c15] at H; replace c15 := decide_eq_true c15; obtain rfl := Option.some.inj H
       have p13 : 0 ≤ (x21_2 : Int) := Own.dp
       have q13 : x21_2 < (a0.size : Int) := Own.dp
       have hx13 := bt_at a0 x21_2; replace p13 := eq_true p13; replace q13 := eq_true q13
       go_wp2
       go_ret
       exact ⟨Own.rr, Own.bl⟩
      rw [if_neg c15] at H; replace c15 := decide_eq_false c15
      by_cases c16 : (bt a0 x21_2) > 57
      ·
       rw [if_pos c16] at H
       have c16b0 : decide (57 < (bt a0 x21_2)) = true := decide_eq_true c16
       clear c16; obtain rfl := Option.some.inj H
       have p13 : 0 ≤ (x21_2 : Int) := Own.dp
       have q13 : x21_2 < (a0.size : Int) := Own.dp
       have hx13 := bt_at a0 x21_2; replace p13 := eq_true p13; replace q13 := eq_true q13
       go_wp2
       go_ret
       exact ⟨Own.rr, Own.bl⟩
      rw [if_neg c16] at H
      have c16b0 : decide (57 < (bt a0 x21_2)) = false := decide_eq_false c16
      clear c16; have H' := Aside0.mk H; clear H
      have p13 : 0 ≤ (x21_2 : Int) := Own.dp
      have q13 : x21_2 < (a0.size : Int) := Own.dp
      have hx13 := bt_at a0 x21_2; replace p13 := eq_true p13; replace q13 := eq_true q13
      go_wp2
      go_roundg k2
      case measure => have := HJ1.out; have := HK2.out; omega
      case rel => exact ⟨(wrap64 (x21_2 + 1)), Own.rs, H', ⟨by have := HJ1.out; have := HK2.out; omega⟩, ⟨Own.bl⟩⟩
     rw [if_neg c14] at H; replace c14 := decide_eq_false c14
     by_cases c17 : (bt a0 x21_2) > 122
     rotate_left
     ·
      rw [if_neg c17] at H
      have c17b0 : decide (122 < (bt a0 x21_2)) = false := decide_eq_false c17
      clear c17; have H' := Aside0.mk H; clear H
      have p13 : 0 ≤ (x21_2 : Int) := Own.dp
      have q13 : x21_2 < (a0.size : Int) := Own.dp
      have hx13 := bt_at a0 x21_2; replace p13 := eq_true p13; replace q13 := eq_true q13
      go_wp2
      go_roundg k2
      case measure => have := HJ1.out; have := HK2.out; omega
      case rel => exact ⟨(wrap64 (x21_2 + 1)), Own.rs, H', ⟨by have := HJ1.out; have := HK2.out; omega⟩, ⟨Own.bl⟩⟩
     rw [if_pos c17] at H
     have c17b0 : decide (122 < (bt a0 x21_2)) = true := decide_eq_true c17
     clear c17
     by_cases c18 : (bt a0 x21_2) < 48
     ·
      rw [if_pos c18] at H; replace c18 := decide_eq_true c18; obtain rfl := Option.some.inj H
      have p13 : 0 ≤ (x21_2 : Int) := Own.dp
      have q13 : x21_2 < (a0.size : Int) := Own.dp
      have hx13 := bt_at a0 x21_2; replace p13 := eq_true p13; replace q13 := eq_true q13
      go_wp2
      go_ret
      exact ⟨Own.rr, Own.bl⟩
     rw [if_neg c18] at H; replace c18 := decide_eq_false c18
     by_cases c19 : (bt a0 x21_2) > 57
     ·
      rw [if_pos c19] at H
      have c19b0 : decide (57 < (bt a0 x21_2)) = true := decide_eq_true c19
      clear c19; obtain rfl := Option.some.inj H
      have p13 : 0 ≤ (x21_2 : Int) := Own.dp
      have q13 : x21_2 < (a0.size : Int) := Own.dp
      have hx13 := bt_at a0 x21_2; replace p13 := eq_true p13; replace q13 := eq_true q13
      go_wp2
      go_ret
      exact ⟨Own.rr, Own.bl⟩
     rw [if_neg c19] at H
     have c19b0 : decide (57 < (bt a0 x21_2)) = false := decide_eq_false c19
     clear c19; have H' := Aside0.mk H; clear H
     have p13 : 0 ≤ (x21_2 : Int) := Own.dp
     have q13 : x21_2 < (a0.size : Int) := Own.dp
     have hx13 := bt_at a0 x21_2; replace p13 := eq_true p13; replace q13 := eq_true q13
     go_wp2
     go_roundg k2
     case measure => have := HJ1.out; have := HK2.out; omega
     case rel => exact ⟨(wrap64 (x21_2 + 1)), Own.rs, H', ⟨by have := HJ1.out; have := HK2.out; omega⟩, ⟨Own.bl⟩⟩
/-! ### impl_areParties: function 55 -/
def impl_areParties.l0 : Nat → List ByteArray → List ByteArray → Int → Int → Option (Bool)
 | 0, _, _, _, _ => none
 | k + 1, x0, x5, x6, x7 => if x7 < x6 then (if 0 ≤ x7 then (if x7 < (x5.length : Int) then ((impl_IsValidName.f k (rdOf ByteArray.empty x5 x7)).bind fun t368 => (if t368 = true then (if x7 ≤ (x0.length : Int) then ((slices_Contains_string_string.f k (x0.take (x7 : Int).toNat) (rdOf ByteArray.empty x5 x7)).bind fun t370 => (if t370 = true then (some false) else (impl_areParties.l0 k x0 x5 x6 (wrap64 (x7 + 1))))) else (none)) else (some false))) else (none)) else (none)) else ((impl_within.f (x0.length : Int) 2 4).bind fun t366 => (some t366))
def impl_areParties.f (k : Nat) (l0 : List ByteArray) : Option (Bool) := impl_areParties.l0 k l0 l0 (l0.length : Int) 0
set_option maxHeartbeats 8000000 in
set_option maxRecDepth 100000 in
theorem impl_areParties.calls (k : Nat) (A0 : Option Addr) (c0 : Nat) (l0 : List ByteArray) (r : Bool) (w : World) (hr0 : Kd.C Kd.string w A0 l0.length l0) (hc0 : l0.length ≤ c0) (hG : Own.Glob w) (h : impl_areParties.f k l0 = some r) :
  Calls Tryz.prog 55 #[.slice A0 l0.length c0] w fun e w' => e = .returned (.bool r) ∧ Below w.heap.size w w' := by
 have HR0 := Aside0.mk hr0
 have HC0 := Aside0.mk hc0
 clear hr0 hc0
 have HB := Aside0.mk (Below.refl w.heap.size w)
 have HG := Aside0.mk hG
 clear hG
 have H : (impl_areParties.l0 k l0 l0 (l0.length : Int) 0) = some r := h
 clear h
 have H' := Aside0.mk H
 clear H
 go_enter Tryz.func55, Tryz.ntmps55
 go_wp2
 go_loopg [7] k (fun kq v7 w' => ∃ (x7_1 : Int), v7 = .int .i64 x7_1 ∧ Aside0 (impl_areParties.l0 kq l0 l0 (l0.length : Int) x7_1 = some r) ∧ Aside0 (kq ≤ k) ∧ Aside0 (Below w.heap.size w w'))
 case atStart => exact ⟨(0), Own.rs, H', ⟨Nat.le_refl _⟩, ⟨Own.bl⟩⟩
 case round =>
  clear H'; obtain ⟨x7_1, rfl, HA, HK1, HB⟩ := hrel
  cases gk with
  | zero => exact absurd HA.out (by simp [impl_areParties.l0])
  | succ k1 =>
   have H := HA.out; clear HA
   simp only [impl_areParties.l0] at H
   by_cases c2 : x7_1 < (l0.length : Int)
   rotate_left
   ·
    rw [if_neg c2] at H; replace c2 := decide_eq_false c2
    replace H := Own.bd H; obtain ⟨t366, A16, H⟩ := H; obtain rfl := Option.some.inj H
    go_wp2_with (first | ((with_reducible refine gate_callee (f := 56) rfl ?_); refine goesL_ (some 25) rfl rfl Tryz.func56 (by kernel_rfl) rfl #[.int .i64 (l0.length : Int), .int .i64 2, .int .i64 4] rfl Own.ha ?_; (with_reducible refine (impl_within.calls (l0.length : Int) 2 4 t366 _ A16.out).mono ?_); rintro e w' ⟨rfl, ⟨nd, rfl⟩⟩; refine ⟨_, rfl, ?_⟩))
    go_ret
    exact ⟨Own.rr, Own.bl⟩
   rw [if_pos c2] at H; replace c2 := decide_eq_true c2
   replace H := Own.ifd H; obtain ⟨c3, H⟩ := H
   replace H := Own.ifd H; obtain ⟨c4, H⟩ := H
   replace H := Own.bd H; obtain ⟨t368, A5, H⟩ := H
   replace H := Own.ift H; obtain ⟨rfl, H⟩ | ⟨rfl, H⟩ := H
   ·
    obtain rfl := Option.some.inj H
    have p367 : 0 ≤ (x7_1 : Int) := Own.dp
    have q367 : x7_1 < (l0.length : Int) := Own.dp
    obtain ⟨ad367, e367, hx367_0⟩ := Kd.at_string HR0.out x7_1 p367 q367; cases e367; replace hx367_0 := Own.up HB.out hx367_0; replace p367 := eq_true p367; replace q367 := eq_true q367
    go_wp2_with (first | ((with_reducible refine gate_callee (f := 65) rfl ?_); refine goesL_ (some 13) rfl rfl Tryz.func65 (by kernel_rfl) rfl #[.string (rdOf ByteArray.empty l0 x7_1)] rfl Own.ha ?_; (with_reducible refine (impl_IsValidName.calls k1 (rdOf ByteArray.empty l0 x7_1) false _ ?side1 A5.out).mono ?_); (case side1 => exact Own.gl HG.out); rintro e w15 ⟨rfl, hb⟩; refine ⟨_, rfl, ?_⟩; replace HB := Own.bs hb; (try clear hb)))
    go_ret
    exact ⟨Own.rr, Own.bl⟩
   have c7b0 := eq_true (Own.dp : 0 ≤ x7_1)
   replace H := Own.ifn H; obtain ⟨c8, H⟩ := H; have c8b0 := eq_true c8
   have c8b1 : decide (x7_1 ≤ (l0.length : Int)) = true := decide_eq_true c8
   clear c8
   replace H := Own.bd H; obtain ⟨t370, A9, H⟩ := H
   replace H := Own.ifu H; obtain ⟨rfl, H⟩ | ⟨rfl, H⟩ := H
   ·
    obtain rfl := Option.some.inj H
    have p367 : 0 ≤ (x7_1 : Int) := Own.dp
    have q367 : x7_1 < (l0.length : Int) := Own.dp
    obtain ⟨ad367, e367, hx367_0⟩ := Kd.at_string HR0.out x7_1 p367 q367; cases e367; replace hx367_0 := Own.up HB.out hx367_0; replace p367 := eq_true p367; replace q367 := eq_true q367
    go_wp2_with (first | ((with_reducible refine gate_callee (f := 65) rfl ?_); refine goesL_ (some 13) rfl rfl Tryz.func65 (by kernel_rfl) rfl #[.string (rdOf ByteArray.empty l0 x7_1)] rfl Own.ha ?_; (with_reducible refine (impl_IsValidName.calls k1 (rdOf ByteArray.empty l0 x7_1) true _ ?side1 A5.out).mono ?_); (case side1 => exact Own.gl HG.out); rintro e w11 ⟨rfl, hb⟩; refine ⟨_, rfl, ?_⟩; replace HB := Own.bs hb; (try clear hb); obtain ⟨i012, hi012, _, hsz12, _⟩ := info_parts info9; obtain ⟨hcut12, hA12, hC12⟩ := print_take_of (P := Tryz.prog) Value.string (⟨#[]⟩ : ByteArray) 22 9 .i64 Tryz.underlying22 hi012 hsz12 (some ad367) c0 l0 x7_1 (Own.dp) (Own.dp) HC0.out; have HR369 := Aside0.mk (Kd.C_of_reads (h1 := fun _ => rfl) (hA12 _ (Kd.reads_of_C HR0.out))); have HC369 := Aside0.mk hC12; clear hA12 hC12 hi012 hsz12) | (go_at_call 66; (first | ((with_reducible refine (slices_Contains_string_string.calls k1 _ _ (l0.take (x7_1 : Int).toNat) (rdOf ByteArray.empty l0 x7_1) true _ ?side1 ?side2 A9.out).mono ?_); (case side1 => exact Kd.C_below HR369.out Own.bl); (case side2 => exact HC369.out)) | (refine (Own.at_args ?argE (slices_Contains_string_string.calls k1 _ _ (l0.take (x7_1 : Int).toNat) (rdOf ByteArray.empty l0 x7_1) true _ (Kd.C_below HR369.out Own.bl) HC369.out A9.out)).mono ?_; (case argE => rw [show (l0.take (x7_1 : Int).toNat).length = (x7_1 : Int).toNat from by have a_ : 0 ≤ (x7_1 : Int) := of_decide_eq_true (by assumption); have b_ : x7_1 ≤ (l0.length : Int) := of_decide_eq_true (by assumption); rw [List.length_take]; omega]))); rintro e w' ⟨rfl, ⟨nd, rfl⟩⟩))
    go_ret
    exact ⟨Own.rr, Own.bl⟩
   have H' := Aside0.mk H; clear H
   have p367 : 0 ≤ (x7_1 : Int) := Own.dp
   have q367 : x7_1 < (l0.length : Int) := Own.dp
   obtain ⟨ad367, e367, hx367_0⟩ := Kd.at_string HR0.out x7_1 p367 q367; cases e367; replace hx367_0 := Own.up HB.out hx367_0; replace p367 := eq_true p367; replace q367 := eq_true q367
   go_wp2_with (first | ((with_reducible refine gate_callee (f := 65) rfl ?_); refine goesL_ (some 13) rfl rfl Tryz.func65 (by kernel_rfl) rfl #[.string (rdOf ByteArray.empty l0 x7_1)] rfl Own.ha ?_; (with_reducible refine (impl_IsValidName.calls k1 (rdOf ByteArray.empty l0 x7_1) true _ ?side1 A5.out).mono ?_); (case side1 => exact Own.gl HG.out); rintro e w13 ⟨rfl, hb⟩; refine ⟨_, rfl, ?_⟩; replace HB := Own.bs hb; (try clear hb); obtain ⟨i014, hi014, _, hsz14, _⟩ := info_parts info9; obtain ⟨hcut14, hA14, hC14⟩ := print_take_of (P := Tryz.prog) Value.string (⟨#[]⟩ : ByteArray) 22 9 .i64 Tryz.underlying22 hi014 hsz14 (some ad367) c0 l0 x7_1 (Own.dp) (Own.dp) HC0.out; have HR369 := Aside0.mk (Kd.C_of_reads (h1 := fun _ => rfl) (hA14 _ (Kd.reads_of_C HR0.out))); have HC369 := Aside0.mk hC14; clear hA14 hC14 hi014 hsz14) | (go_at_call 66; (first | ((with_reducible refine (slices_Contains_string_string.calls k1 _ _ (l0.take (x7_1 : Int).toNat) (rdOf ByteArray.empty l0 x7_1) false _ ?side1 ?side2 A9.out).mono ?_); (case side1 => exact Kd.C_below HR369.out Own.bl); (case side2 => exact HC369.out)) | (refine (Own.at_args ?argE (slices_Contains_string_string.calls k1 _ _ (l0.take (x7_1 : Int).toNat) (rdOf ByteArray.empty l0 x7_1) false _ (Kd.C_below HR369.out Own.bl) HC369.out A9.out)).mono ?_; (case argE => rw [show (l0.take (x7_1 : Int).toNat).length = (x7_1 : Int).toNat from by have a_ : 0 ≤ (x7_1 : Int) := of_decide_eq_true (by assumption); have b_ : x7_1 ≤ (l0.length : Int) := of_decide_eq_true (by assumption); rw [List.length_take]; omega]))); rintro e w' ⟨rfl, ⟨nd, rfl⟩⟩))
   go_roundg k1
   case measure => have := HK1.out; omega
   case rel => exact ⟨(wrap64 (x7_1 + 1)), Own.rs, H', ⟨by have := HK1.out; omega⟩, ⟨Own.bl⟩⟩
/-! ### impl_isDay: function 79 -/
def impl_isDay.f (a0 : Int) : Option (Bool) := (impl_within.f a0 0 36524).bind fun t371 => (some t371)
set_option maxHeartbeats 8000000 in
set_option maxRecDepth 100000 in
theorem impl_isDay.calls (a0 : Int) (r : Bool) (w : World) (h : impl_isDay.f a0 = some r) :
  Calls Tryz.prog 79 #[.int .i64 a0] w fun e w' => e = .returned (.bool r) ∧ Drawn0 w w' := by
 have H : ((impl_within.f a0 0 36524).bind fun t371 => (some t371)) = some r := h
 clear h
 replace H := Own.bd H; obtain ⟨t371, A2, H⟩ := H
 obtain rfl := Option.some.inj H
 go_enter Tryz.func79, Tryz.ntmps79
 go_wp2_with (first | ((with_reducible refine gate_callee (f := 56) rfl ?_); refine goesL_ (some 4) rfl rfl Tryz.func56 (by kernel_rfl) rfl #[.int .i64 a0, .int .i64 0, .int .i64 36524] rfl Own.ha ?_; (with_reducible refine (impl_within.calls a0 0 36524 t371 _ A2.out).mono ?_); rintro e w' ⟨rfl, ⟨nd, rfl⟩⟩; refine ⟨_, rfl, ?_⟩))
 go_ret
 exact ⟨by first | rfl | (simp; done) | (simp [*]; done), by repeat (first | exact Drawn0.refl _ | apply Drawn0.step)⟩
end Go.Proofs.YtckopglnblcnoaaGreatDoor.QFnExactRemoveClause
