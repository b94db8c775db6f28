-- Written by a program of this session out of the translation; Lean checks it.
import Derived.Test.YtckopglnblcnoaaGreatDoorQFnExactRemoveClausex2
namespace Go.Proofs.YtckopglnblcnoaaGreatDoor.QFnExactRemoveClause
open Go.RowKit Go.Proofs.YtckopglnblcnoaaGreatDoorW.PrintWords Go.Proofs.YtckopglnblcnoaaGreatDoorW.PrintLast
attribute [local go_sem] Instr.field asAgg
set_option linter.unusedVariables false
set_option linter.unusedSimpArgs false
/-! ### spec_l5Form: function 71 -/
def spec_l5Form.f (k : Nat) (a0_0 : Int) (a0_1 : ByteArray) (a0_2 : Int) (l0_3 : List (S49)) : Option (Bool) := if a0_0 = 1 then (if (l0_3.length : Int) = 0 then (if a0_1.toList = ([] : List UInt8) then (some (a0_2 == 0)) else (some false)) else (some false)) else (if a0_0 = 2 then (if (l0_3.length : Int) = 0 then ((spec_l5Name.f k a0_1).bind fun t127 => (if t127 = true then (some (a0_2 == 0)) else (some false))) else (some false)) else (if a0_0 = 3 then (if (l0_3.length : Int) = 0 then (if a0_1.toList = ([] : List UInt8) then ((spec_l3Good.f a0_2).bind fun t128 => (some t128)) else (some false)) else (some false)) else (if a0_0 = 4 then (if (l0_3.length : Int) = 1 then (if a0_1.toList = ([] : List UInt8) then (some (a0_2 == 0)) else (some false)) else (some false)) else (if a0_0 = 5 then (if (l0_3.length : Int) = 2 then (if a0_1.toList = ([] : List UInt8) then (some (a0_2 == 0)) else (some false)) else (some false)) else (if a0_0 = 6 then (if (l0_3.length : Int) = 2 then (if a0_1.toList = ([] : List UInt8) then (some (a0_2 == 0)) else (some false)) else (some false)) else (some false))))))
set_option maxHeartbeats 8000000 in
set_option maxRecDepth 100000 in
theorem spec_l5Form.calls (k : Nat) (a0_0 : Int) (a0_1 : ByteArray) (a0_2 : Int) (A0_3 : Option Addr) (c0_3 : Nat) (l0_3 : List (S49)) (r : Bool) (w : World) (hr0_3 : Kd.C k49 w A0_3 l0_3.length l0_3) (hc0_3 : l0_3.length ≤ c0_3) (h : spec_l5Form.f k a0_0 a0_1 a0_2 l0_3 = some r) :
  Calls Tryz.prog 71 #[.agg #[.int .i64 a0_0, .string a0_1, .int .i64 a0_2, .slice A0_3 l0_3.length c0_3]] w fun e w' => e = .returned (.bool r) ∧ Below w.heap.size w w' := by
 have hu49 := Tryz.underlying49
 have HR0_3 := Aside0.mk hr0_3
 have HC0_3 := Aside0.mk hc0_3
 clear hr0_3 hc0_3
 have HB := Aside0.mk (Below.refl w.heap.size w)
 have H : (if a0_0 = 1 then (if (l0_3.length : Int) = 0 then (if a0_1.toList = ([] : List UInt8) then (some (a0_2 == 0)) else (some false)) else (some false)) else (if a0_0 = 2 then (if (l0_3.length : Int) = 0 then ((spec_l5Name.f k a0_1).bind fun t127 => (if t127 = true then (some (a0_2 == 0)) else (some false))) else (some false)) else (if a0_0 = 3 then (if (l0_3.length : Int) = 0 then (if a0_1.toList = ([] : List UInt8) then ((spec_l3Good.f a0_2).bind fun t128 => (some t128)) else (some false)) else (some false)) else (if a0_0 = 4 then (if (l0_3.length : Int) = 1 then (if a0_1.toList = ([] : List UInt8) then (some (a0_2 == 0)) else (some false)) else (some false)) else (if a0_0 = 5 then (if (l0_3.length : Int) = 2 then (if a0_1.toList = ([] : List UInt8) then (some (a0_2 == 0)) else (some false)) else (some false)) else (if a0_0 = 6 then (if (l0_3.length : Int) = 2 then (if a0_1.toList = ([] : List UInt8) then (some (a0_2 == 0)) else (some false)) else (some false)) else (some false))))))) = some r := h
 clear h
 have H' := Aside0.mk H
 clear H
 go_enter Tryz.func71, Tryz.ntmps71
 go_upto_region 1 with (first | ((with_reducible refine gate_dst (N := 1) rfl ?_); refine Own.be (N := 1) (cs := #[.int .i64 a0_0, .string a0_1, .int .i64 a0_2, .slice A0_3 l0_3.length c0_3]) (t := 49) ?_; intro gb126 hg w15 hbox hb; have BK126 := Aside0.mk hbox; have GW126 := (Own.gs hg : Aside0 (w.heap.size ≤ gb126)); have GE126 := GW126; replace HB := Own.bs hb; clear hb hbox hg; obtain ⟨z16_0, z16_1, z16_2, z16_3, y16_0, y16_1, y16_2, y16_3⟩ := Own.box4 BK126.out))
 have H := H'.out
 clear H'
 by_cases c2 : a0_0 = 1
 ·
  rw [if_pos c2] at H
  have c2b0 : (a0_0 == 1) = true := beq_iff_eq.mpr c2
  have c2b1 : (a0_0 != 1) = false := bne_eq_false_iff_eq.mpr c2
  clear c2
  by_cases c3 : (l0_3.length : Int) = 0
  rotate_left
  ·
   rw [if_neg c3] at H
   have c3b0 : ((l0_3.length : Int) == 0) = false := beq_eq_false_iff_ne.mpr c3
   have c3b1 : ((l0_3.length : Int) != 0) = true := bne_iff_ne.mpr c3
   have c3b2 : ¬ (l0_3 = []) := fun h_ => c3 (by rw [h_]; rfl)
   obtain rfl := Option.some.inj H
   go_wp2
   go_ret
   exact ⟨Own.rr, Own.bl⟩
  rw [if_pos c3] at H
  have c3b0 : ((l0_3.length : Int) == 0) = true := beq_iff_eq.mpr c3
  have c3b1 : ((l0_3.length : Int) != 0) = false := bne_eq_false_iff_eq.mpr c3
  clear c3
  by_cases c4 : a0_1.toList = ([] : List UInt8)
  rotate_left
  ·
   rw [if_neg c4] at H
   have c4b0 : (a0_1.toList == ([] : List UInt8)) = false := beq_eq_false_iff_ne.mpr c4
   have c4b1 : (a0_1.toList != ([] : List UInt8)) = true := bne_iff_ne.mpr c4
   obtain rfl := Option.some.inj H
   go_wp2
   go_ret
   exact ⟨Own.rr, Own.bl⟩
  rw [if_pos c4] at H
  have c4b0 : (a0_1.toList == ([] : List UInt8)) = true := beq_iff_eq.mpr c4
  have c4b1 : (a0_1.toList != ([] : List UInt8)) = false := bne_eq_false_iff_eq.mpr c4
  clear c4; obtain rfl := Option.some.inj H
  go_wp2
  go_ret
  exact ⟨Own.rr, Own.bl⟩
 rw [if_neg c2] at H
 have c2b0 : (a0_0 == 1) = false := beq_eq_false_iff_ne.mpr c2
 have c2b1 : (a0_0 != 1) = true := bne_iff_ne.mpr c2
 by_cases c11 : a0_0 = 2
 ·
  rw [if_pos c11] at H
  have c11b0 : (a0_0 == 2) = true := beq_iff_eq.mpr c11
  have c11b1 : (a0_0 != 2) = false := bne_eq_false_iff_eq.mpr c11
  clear c11
  by_cases c12 : (l0_3.length : Int) = 0
  rotate_left
  ·
   rw [if_neg c12] at H
   have c12b0 : ((l0_3.length : Int) == 0) = false := beq_eq_false_iff_ne.mpr c12
   have c12b1 : ((l0_3.length : Int) != 0) = true := bne_iff_ne.mpr c12
   have c12b2 : ¬ (l0_3 = []) := fun h_ => c12 (by rw [h_]; rfl)
   obtain rfl := Option.some.inj H
   go_wp2
   go_ret
   exact ⟨Own.rr, Own.bl⟩
  rw [if_pos c12] at H
  have c12b0 : ((l0_3.length : Int) == 0) = true := beq_iff_eq.mpr c12
  have c12b1 : ((l0_3.length : Int) != 0) = false := bne_eq_false_iff_eq.mpr c12
  clear c12
  replace H := Own.bd H; obtain ⟨t127, A13, H⟩ := H
  replace H := Own.ifu H; obtain ⟨rfl, H⟩ | ⟨rfl, H⟩ := H
  ·
   obtain rfl := Option.some.inj H
   go_wp2_with (first | (go_at_call 47; (with_reducible refine (spec_l5Name.calls k a0_1 true _ A13.out).mono ?_); rintro e w' ⟨rfl, ⟨nd, rfl⟩⟩))
   go_ret
   exact ⟨Own.rr, Own.bl⟩
  obtain rfl := Option.some.inj H
  go_wp2_with (first | (go_at_call 47; (with_reducible refine (spec_l5Name.calls k a0_1 false _ A13.out).mono ?_); rintro e w' ⟨rfl, ⟨nd, rfl⟩⟩))
  go_ret
  exact ⟨Own.rr, Own.bl⟩
 rw [if_neg c11] at H
 have c11b0 : (a0_0 == 2) = false := beq_eq_false_iff_ne.mpr c11
 have c11b1 : (a0_0 != 2) = true := bne_iff_ne.mpr c11
 by_cases c21 : a0_0 = 3
 ·
  rw [if_pos c21] at H
  have c21b0 : (a0_0 == 3) = true := beq_iff_eq.mpr c21
  have c21b1 : (a0_0 != 3) = false := bne_eq_false_iff_eq.mpr c21
  clear c21
  by_cases c22 : (l0_3.length : Int) = 0
  rotate_left
  ·
   rw [if_neg c22] at H
   have c22b0 : ((l0_3.length : Int) == 0) = false := beq_eq_false_iff_ne.mpr c22
   have c22b1 : ((l0_3.length : Int) != 0) = true := bne_iff_ne.mpr c22
   have c22b2 : ¬ (l0_3 = []) := fun h_ => c22 (by rw [h_]; rfl)
   obtain rfl := Option.some.inj H
   go_wp2
   go_ret
   exact ⟨Own.rr, Own.bl⟩
  rw [if_pos c22] at H
  have c22b0 : ((l0_3.length : Int) == 0) = true := beq_iff_eq.mpr c22
  have c22b1 : ((l0_3.length : Int) != 0) = false := bne_eq_false_iff_eq.mpr c22
  clear c22
  by_cases c23 : a0_1.toList = ([] : List UInt8)
  rotate_left
  ·
   rw [if_neg c23] at H
   have c23b0 : (a0_1.toList == ([] : List UInt8)) = false := beq_eq_false_iff_ne.mpr c23
   have c23b1 : (a0_1.toList != ([] : List UInt8)) = true := bne_iff_ne.mpr c23
   obtain rfl := Option.some.inj H
   go_wp2
   go_ret
   exact ⟨Own.rr, Own.bl⟩
  rw [if_pos c23] at H
  have c23b0 : (a0_1.toList == ([] : List UInt8)) = true := beq_iff_eq.mpr c23
  have c23b1 : (a0_1.toList != ([] : List UInt8)) = false := bne_eq_false_iff_eq.mpr c23
  clear c23
  replace H := Own.bd H; obtain ⟨t128, A24, H⟩ := H; obtain rfl := Option.some.inj H
  go_wp2_with (first | (go_at_call 77; (with_reducible refine (spec_l3Good.calls a0_2 t128 _ A24.out).mono ?_); rintro e w' ⟨rfl, ⟨nd, rfl⟩⟩))
  go_ret
  exact ⟨Own.rr, Own.bl⟩
 rw [if_neg c21] at H
 have c21b0 : (a0_0 == 3) = false := beq_eq_false_iff_ne.mpr c21
 have c21b1 : (a0_0 != 3) = true := bne_iff_ne.mpr c21
 by_cases c31 : a0_0 = 4
 ·
  rw [if_pos c31] at H
  have c31b0 : (a0_0 == 4) = true := beq_iff_eq.mpr c31
  have c31b1 : (a0_0 != 4) = false := bne_eq_false_iff_eq.mpr c31
  clear c31
  by_cases c32 : (l0_3.length : Int) = 1
  rotate_left
  ·
   rw [if_neg c32] at H
   have c32b0 : ((l0_3.length : Int) == 1) = false := beq_eq_false_iff_ne.mpr c32
   have c32b1 : ((l0_3.length : Int) != 1) = true := bne_iff_ne.mpr c32
   obtain rfl := Option.some.inj H
   go_wp2
   go_ret
   exact ⟨Own.rr, Own.bl⟩
  rw [if_pos c32] at H
  have c32b0 : ((l0_3.length : Int) == 1) = true := beq_iff_eq.mpr c32
  have c32b1 : ((l0_3.length : Int) != 1) = false := bne_eq_false_iff_eq.mpr c32
  clear c32
  by_cases c33 : a0_1.toList = ([] : List UInt8)
  rotate_left
  ·
   rw [if_neg c33] at H
   have c33b0 : (a0_1.toList == ([] : List UInt8)) = false := beq_eq_false_iff_ne.mpr c33
   have c33b1 : (a0_1.toList != ([] : List UInt8)) = true := bne_iff_ne.mpr c33
   obtain rfl := Option.some.inj H
   go_wp2
   go_ret
   exact ⟨Own.rr, Own.bl⟩
  rw [if_pos c33] at H
  have c33b0 : (a0_1.toList == ([] : List UInt8)) = true := beq_iff_eq.mpr c33
  have c33b1 : (a0_1.toList != ([] : List UInt8)) = false := bne_eq_false_iff_eq.mpr c33
  clear c33; obtain rfl := Option.some.inj H
  go_wp2
  go_ret
  exact ⟨Own.rr, Own.bl⟩
 rw [if_neg c31] at H
 have c31b0 : (a0_0 == 4) = false := beq_eq_false_iff_ne.mpr c31
 have c31b1 : (a0_0 != 4) = true := bne_iff_ne.mpr c31
 by_cases c40 : a0_0 = 5
 ·
  rw [if_pos c40] at H
  have c40b0 : (a0_0 == 5) = true := beq_iff_eq.mpr c40
  have c40b1 : (a0_0 != 5) = false := bne_eq_false_iff_eq.mpr c40
  clear c40
  by_cases c41 : (l0_3.length : Int) = 2
  rotate_left
  ·
   rw [if_neg c41] at H
   have c41b0 : ((l0_3.length : Int) == 2) = false := beq_eq_false_iff_ne.mpr c41
   have c41b1 : ((l0_3.length : Int) != 2) = true := bne_iff_ne.mpr c41
   obtain rfl := Option.some.inj H
   go_wp2
   go_ret
   exact ⟨Own.rr, Own.bl⟩
  rw [if_pos c41] at H
  have c41b0 : ((l0_3.length : Int) == 2) = true := beq_iff_eq.mpr c41
  have c41b1 : ((l0_3.length : Int) != 2) = false := bne_eq_false_iff_eq.mpr c41
  clear c41
  by_cases c42 : a0_1.toList = ([] : List UInt8)
  rotate_left
  ·
   rw [if_neg c42] at H
   have c42b0 : (a0_1.toList == ([] : List UInt8)) = false := beq_eq_false_iff_ne.mpr c42
   have c42b1 : (a0_1.toList != ([] : List UInt8)) = true := bne_iff_ne.mpr c42
   obtain rfl := Option.some.inj H
   go_wp2
   go_ret
   exact ⟨Own.rr, Own.bl⟩
  rw [if_pos c42] at H
  have c42b0 : (a0_1.toList == ([] : List UInt8)) = true := beq_iff_eq.mpr c42
  have c42b1 : (a0_1.toList != ([] : List UInt8)) = false := bne_eq_false_iff_eq.mpr c42
  clear c42; obtain rfl := Option.some.inj H
  go_wp2
  go_ret
  exact ⟨Own.rr, Own.bl⟩
 rw [if_neg c40] at H
 have c40b0 : (a0_0 == 5) = false := beq_eq_false_iff_ne.mpr c40
 have c40b1 : (a0_0 != 5) = true := bne_iff_ne.mpr c40
 by_cases c49 : a0_0 = 6
 rotate_left
 ·
  rw [if_neg c49] at H
  have c49b0 : (a0_0 == 6) = false := beq_eq_false_iff_ne.mpr c49
  have c49b1 : (a0_0 != 6) = true := bne_iff_ne.mpr c49
  obtain rfl := Option.some.inj H
  go_wp2
  go_ret
  exact ⟨Own.rr, Own.bl⟩
 rw [if_pos c49] at H
 have c49b0 : (a0_0 == 6) = true := beq_iff_eq.mpr c49
 have c49b1 : (a0_0 != 6) = false := bne_eq_false_iff_eq.mpr c49
 clear c49
 by_cases c50 : (l0_3.length : Int) = 2
 rotate_left
 ·
  rw [if_neg c50] at H
  have c50b0 : ((l0_3.length : Int) == 2) = false := beq_eq_false_iff_ne.mpr c50
  have c50b1 : ((l0_3.length : Int) != 2) = true := bne_iff_ne.mpr c50
  obtain rfl := Option.some.inj H
  go_wp2
  go_ret
  exact ⟨Own.rr, Own.bl⟩
 rw [if_pos c50] at H
 have c50b0 : ((l0_3.length : Int) == 2) = true := beq_iff_eq.mpr c50
 have c50b1 : ((l0_3.length : Int) != 2) = false := bne_eq_false_iff_eq.mpr c50
 clear c50
 by_cases c51 : a0_1.toList = ([] : List UInt8)
 rotate_left
 ·
  rw [if_neg c51] at H
  have c51b0 : (a0_1.toList == ([] : List UInt8)) = false := beq_eq_false_iff_ne.mpr c51
  have c51b1 : (a0_1.toList != ([] : List UInt8)) = true := bne_iff_ne.mpr c51
  obtain rfl := Option.some.inj H
  go_wp2
  go_ret
  exact ⟨Own.rr, Own.bl⟩
 rw [if_pos c51] at H
 have c51b0 : (a0_1.toList == ([] : List UInt8)) = true := beq_iff_eq.mpr c51
 have c51b1 : (a0_1.toList != ([] : List UInt8)) = false := bne_eq_false_iff_eq.mpr c51
 clear c51
 obtain rfl := Option.some.inj H
 go_wp2
 go_ret
 exact ⟨Own.rr, Own.bl⟩
/-! ### spec_l5Forms: function 62 -/
mutual
def spec_l5Forms.l0 : Nat → Int → Int → ByteArray → Int → List (S49) → Option (Bool)
 | 0, _, _, _, _, _ => none
 | k + 1, x3, x130000, x130001, x130002, x130003 => if x3 < (x130003.length : Int) then (if 0 ≤ x3 then ((spec_l5Forms.f k ((rd_T49 x130003 x3).f0) ((rd_T49 x130003 x3).f1) ((rd_T49 x130003 x3).f2) ((rd_T49 x130003 x3).f3)).bind fun t132 => (if t132 = true then (spec_l5Forms.l0 k (wrap64 (x3 + 1)) x130000 x130001 x130002 x130003) else (some false))) else (none)) else (some true)
def spec_l5Forms.f : Nat → Int → ByteArray → Int → List (S49) → Option (Bool)
 | 0, _, _, _, _ => none
 | k + 1, a0_0, a0_1, a0_2, l0_3 => (spec_l5Form.f k a0_0 a0_1 a0_2 l0_3).bind fun t130 => (if t130 = true then (spec_l5Forms.l0 k 0 a0_0 a0_1 a0_2 l0_3) else (some false))
end
set_option maxHeartbeats 8000000 in
set_option maxRecDepth 100000 in
theorem spec_l5Forms.calls (k : Nat) : ∀ (a0_0 : Int) (a0_1 : ByteArray) (a0_2 : Int) (A0_3 : Option Addr) (c0_3 : Nat) (l0_3 : List (S49)) (r : Bool) (w : World) (hr0_3 : Kd.C k49 w A0_3 l0_3.length l0_3) (hc0_3 : l0_3.length ≤ c0_3) (h : spec_l5Forms.f k a0_0 a0_1 a0_2 l0_3 = some r),
  Calls Tryz.prog 62 #[.agg #[.int .i64 a0_0, .string a0_1, .int .i64 a0_2, .slice A0_3 l0_3.length c0_3]] w fun e w' => e = .returned (.bool r) ∧ Below w.heap.size w w' := by
 induction k using Nat.strongRecOn with
 | _ k ih =>
 intro a0_0 a0_1 a0_2 A0_3 c0_3 l0_3 r w hr0_3 hc0_3 h
 cases k with
 | zero => exact absurd h (by simp [spec_l5Forms.f])
 | succ k =>
 simp only [spec_l5Forms.f] at h
 have hu49 := Tryz.underlying49
 have HR0_3 := Aside0.mk hr0_3
 have HC0_3 := Aside0.mk hc0_3
 clear hr0_3 hc0_3
 have HB := Aside0.mk (Below.refl w.heap.size w)
 have H : ((spec_l5Form.f k a0_0 a0_1 a0_2 l0_3).bind fun t130 => (if t130 = true then (spec_l5Forms.l0 k 0 a0_0 a0_1 a0_2 l0_3) else (some false))) = some r := h
 clear h
 replace H := Own.bd H; obtain ⟨t130, A2, H⟩ := H
 replace H := Own.ift H; obtain ⟨rfl, H⟩ | ⟨rfl, H⟩ := H
 ·
  obtain rfl := Option.some.inj H
  go_enter Tryz.func62, Tryz.ntmps62
  go_wp2_with (first | ((with_reducible refine gate_dst (N := 1) rfl ?_); refine Own.be (N := 1) (cs := #[.int .i64 a0_0, .string a0_1, .int .i64 a0_2, .slice A0_3 l0_3.length c0_3]) (t := 49) ?_; intro gb129 hg w16 hbox hb; have BK129 := Aside0.mk hbox; have GW129 := (Own.gs hg : Aside0 (w.heap.size ≤ gb129)); have GE129 := GW129; replace HB := Own.bs hb; clear hb hbox hg; obtain ⟨z17_0, z17_1, z17_2, z17_3, y17_0, y17_1, y17_2, y17_3⟩ := Own.box4 BK129.out) | ((with_reducible refine gate_callee (f := 71) rfl ?_); refine goesL_ (some 5) rfl rfl Tryz.func71 (by kernel_rfl) rfl #[.agg #[.int .i64 a0_0, .string a0_1, .int .i64 a0_2, .slice A0_3 l0_3.length c0_3]] rfl Own.ha ?_; (with_reducible refine (spec_l5Form.calls k a0_0 a0_1 a0_2 _ _ l0_3 false _ ?side1 ?side2 A2.out).mono ?_); (case side1 => exact Kd.C_below HR0_3.out Own.bl); (case side2 => exact HC0_3.out); rintro e w18 ⟨rfl, hb⟩; refine ⟨_, rfl, ?_⟩; replace BK129 := Own.bb BK129.out hb; replace HB := Own.bs hb; (try clear hb)))
  go_ret
  exact ⟨Own.rr, Own.bl⟩
 have H' := Aside0.mk H
 clear H
 go_enter Tryz.func62, Tryz.ntmps62
 go_wp2_with (first | ((with_reducible refine gate_dst (N := 1) rfl ?_); refine Own.be (N := 1) (cs := #[.int .i64 a0_0, .string a0_1, .int .i64 a0_2, .slice A0_3 l0_3.length c0_3]) (t := 49) ?_; intro gb129 hg w4 hbox hb; have BK129 := Aside0.mk hbox; have GW129 := (Own.gs hg : Aside0 (w.heap.size ≤ gb129)); have GE129 := GW129; replace HB := Own.bs hb; clear hb hbox hg; obtain ⟨z5_0, z5_1, z5_2, z5_3, y5_0, y5_1, y5_2, y5_3⟩ := Own.box4 BK129.out) | ((with_reducible refine gate_callee (f := 71) rfl ?_); refine goesL_ (some 5) rfl rfl Tryz.func71 (by kernel_rfl) rfl #[.agg #[.int .i64 a0_0, .string a0_1, .int .i64 a0_2, .slice A0_3 l0_3.length c0_3]] rfl Own.ha ?_; (with_reducible refine (spec_l5Form.calls k a0_0 a0_1 a0_2 _ _ l0_3 true _ ?side1 ?side2 A2.out).mono ?_); (case side1 => exact Kd.C_below HR0_3.out Own.bl); (case side2 => exact HC0_3.out); rintro e w6 ⟨rfl, hb⟩; refine ⟨_, rfl, ?_⟩; replace BK129 := Own.bb BK129.out hb; replace HB := Own.bs hb; (try clear hb)))
 go_loopg [3] k (fun kq v3 w' => ∃ (x3_1 : Int), v3 = .int .i64 x3_1 ∧ Aside0 (spec_l5Forms.l0 kq x3_1 a0_0 a0_1 a0_2 l0_3 = some r) ∧ Aside0 (kq ≤ k) ∧ Aside0 (w'.heap[gb129]? = some (.cells #[.int .i64 a0_0, .string a0_1, .int .i64 a0_2, (.slice A0_3 l0_3.length c0_3)] 49 (0, 0))) ∧ Aside0 (Below w.heap.size w w'))
 case atStart => exact ⟨(0), Own.rs, H', ⟨Nat.le_refl _⟩, ⟨Own.bk⟩, ⟨Own.bl⟩⟩
 case round =>
  clear H'; try clear z5_0 z5_1 z5_2 z5_3 y5_0 y5_1 y5_2 y5_3
  obtain ⟨x3_1, rfl, HA, HK1, BK129, HB⟩ := hrel
  cases gk with
  | zero => exact absurd HA.out (by simp [spec_l5Forms.l0])
  | succ k1 =>
   have H := HA.out; clear HA
   simp only [spec_l5Forms.l0] at H
   by_cases c7 : x3_1 < (l0_3.length : Int)
   rotate_left
   ·
    rw [if_neg c7] at H; replace c7 := decide_eq_false c7; obtain rfl := Option.some.inj H; obtain ⟨z15_0, z15_1, z15_2, z15_3, y15_0, y15_1, y15_2, y15_3⟩ := Own.box4 BK129.out
    go_wp2
    go_ret
    exact ⟨Own.rr, Own.bl⟩
   rw [if_pos c7] at H; replace c7 := decide_eq_true c7
   replace H := Own.ifd H; obtain ⟨c8, H⟩ := H
   replace H := Own.bd H; obtain ⟨t132, A9, H⟩ := H
   replace H := Own.ift H; obtain ⟨rfl, H⟩ | ⟨rfl, H⟩ := H
   ·
    obtain rfl := Option.some.inj H; obtain ⟨z13_0, z13_1, z13_2, z13_3, y13_0, y13_1, y13_2, y13_3⟩ := Own.box4 BK129.out
    have p131 : 0 ≤ (x3_1 : Int) := Own.dp
    have q131 : x3_1 < (l0_3.length : Int) := Own.dp
    obtain ⟨ad131, A131_3, c131_3, e131, hx131_0, hx131_1, hx131_2, hx131_3, hl131_3, hi131_3⟩ := at_T49 HR0_3.out x3_1 p131 q131; cases e131; replace hx131_0 := Own.up HB.out hx131_0; replace hx131_1 := Own.up HB.out hx131_1; replace hx131_2 := Own.up HB.out hx131_2; replace hx131_3 := Own.up HB.out hx131_3; have HR131_3 := Aside0.mk hi131_3; have HC131_3 := Aside0.mk hl131_3; clear hi131_3 hl131_3; replace p131 := eq_true p131; replace q131 := eq_true q131
    go_wp2_with (first | ((with_reducible refine gate_callee (f := 62) rfl ?_); refine goesL_ (some 19) rfl rfl Tryz.func62 (by kernel_rfl) rfl #[.agg #[.int .i64 ((rd_T49 l0_3 x3_1).f0), .string ((rd_T49 l0_3 x3_1).f1), .int .i64 ((rd_T49 l0_3 x3_1).f2), .slice A131_3 ((rd_T49 l0_3 x3_1).f3).length c131_3]] rfl Own.ha ?_; (with_reducible refine (ih k1 (by have := HK1.out; omega) ((rd_T49 l0_3 x3_1).f0) ((rd_T49 l0_3 x3_1).f1) ((rd_T49 l0_3 x3_1).f2) _ _ ((rd_T49 l0_3 x3_1).f3) false _ ?side1 ?side2 A9.out).mono ?_); (case side1 => exact Kd.C_below HR131_3.out Own.bl); (case side2 => exact HC131_3.out); rintro e w14 ⟨rfl, hb⟩; refine ⟨_, rfl, ?_⟩; replace BK129 := Own.bb BK129.out hb; replace HB := Own.bs hb; (try clear hb)))
    go_ret
    exact ⟨Own.rr, Own.bl⟩
   have H' := Aside0.mk H; clear H; obtain ⟨z11_0, z11_1, z11_2, z11_3, y11_0, y11_1, y11_2, y11_3⟩ := Own.box4 BK129.out
   have p131 : 0 ≤ (x3_1 : Int) := Own.dp
   have q131 : x3_1 < (l0_3.length : Int) := Own.dp
   obtain ⟨ad131, A131_3, c131_3, e131, hx131_0, hx131_1, hx131_2, hx131_3, hl131_3, hi131_3⟩ := at_T49 HR0_3.out x3_1 p131 q131; cases e131; replace hx131_0 := Own.up HB.out hx131_0; replace hx131_1 := Own.up HB.out hx131_1; replace hx131_2 := Own.up HB.out hx131_2; replace hx131_3 := Own.up HB.out hx131_3; have HR131_3 := Aside0.mk hi131_3; have HC131_3 := Aside0.mk hl131_3; clear hi131_3 hl131_3; replace p131 := eq_true p131; replace q131 := eq_true q131
   go_wp2_with (first | ((with_reducible refine gate_callee (f := 62) rfl ?_); refine goesL_ (some 19) rfl rfl Tryz.func62 (by kernel_rfl) rfl #[.agg #[.int .i64 ((rd_T49 l0_3 x3_1).f0), .string ((rd_T49 l0_3 x3_1).f1), .int .i64 ((rd_T49 l0_3 x3_1).f2), .slice A131_3 ((rd_T49 l0_3 x3_1).f3).length c131_3]] rfl Own.ha ?_; (with_reducible refine (ih k1 (by have := HK1.out; omega) ((rd_T49 l0_3 x3_1).f0) ((rd_T49 l0_3 x3_1).f1) ((rd_T49 l0_3 x3_1).f2) _ _ ((rd_T49 l0_3 x3_1).f3) true _ ?side1 ?side2 A9.out).mono ?_); (case side1 => exact Kd.C_below HR131_3.out Own.bl); (case side2 => exact HC131_3.out); rintro e w12 ⟨rfl, hb⟩; refine ⟨_, rfl, ?_⟩; replace BK129 := Own.bb BK129.out hb; replace HB := Own.bs hb; (try clear hb)))
   go_roundg k1
   case measure => have := HK1.out; omega
   case rel => exact ⟨(wrap64 (x3_1 + 1)), Own.rs, H', ⟨by have := HK1.out; omega⟩, ⟨Own.bk⟩, ⟨Own.bl⟩⟩
/-! ### spec_l5Size: function 63 -/
mutual
def spec_l5Size.l0 : Nat → Int → Int → Int → ByteArray → Int → List (S49) → Option (Int)
 | 0, _, _, _, _, _, _ => none
 | k + 1, x3, x4, x134000, x134001, x134002, x134003 => if x4 < (x134003.length : Int) then (if 0 ≤ x4 then ((spec_l5Size.f k ((rd_T49 x134003 x4).f0) ((rd_T49 x134003 x4).f1) ((rd_T49 x134003 x4).f2) ((rd_T49 x134003 x4).f3)).bind fun t135 => (spec_l5Size.l0 k (wrap64 (x3 + t135)) (wrap64 (x4 + 1)) x134000 x134001 x134002 x134003)) else (none)) else (some x3)
def spec_l5Size.f : Nat → Int → ByteArray → Int → List (S49) → Option (Int)
 | 0, _, _, _, _ => none
 | k + 1, a0_0, a0_1, a0_2, l0_3 => spec_l5Size.l0 k 1 0 a0_0 a0_1 a0_2 l0_3
end
set_option maxHeartbeats 8000000 in
set_option maxRecDepth 100000 in
theorem spec_l5Size.calls (k : Nat) : ∀ (a0_0 : Int) (a0_1 : ByteArray) (a0_2 : Int) (A0_3 : Option Addr) (c0_3 : Nat) (l0_3 : List (S49)) (r : Int) (w : World) (hr0_3 : Kd.C k49 w A0_3 l0_3.length l0_3) (hc0_3 : l0_3.length ≤ c0_3) (h : spec_l5Size.f k a0_0 a0_1 a0_2 l0_3 = some r),
  Calls Tryz.prog 63 #[.agg #[.int .i64 a0_0, .string a0_1, .int .i64 a0_2, .slice A0_3 l0_3.length c0_3]] w fun e w' => e = .returned (.int .i64 r) ∧ Below w.heap.size w w' := by
 induction k using Nat.strongRecOn with
 | _ k ih =>
 intro a0_0 a0_1 a0_2 A0_3 c0_3 l0_3 r w hr0_3 hc0_3 h
 cases k with
 | zero => exact absurd h (by simp [spec_l5Size.f])
 | succ k =>
 simp only [spec_l5Size.f] at h
 have hu49 := Tryz.underlying49
 have HR0_3 := Aside0.mk hr0_3
 have HC0_3 := Aside0.mk hc0_3
 clear hr0_3 hc0_3
 have HB := Aside0.mk (Below.refl w.heap.size w)
 have H : (spec_l5Size.l0 k 1 0 a0_0 a0_1 a0_2 l0_3) = some r := h
 clear h
 have H' := Aside0.mk H
 clear H
 go_enter Tryz.func63, Tryz.ntmps63
 go_wp2_with (first | ((with_reducible refine gate_dst (N := 1) rfl ?_); refine Own.be (N := 1) (cs := #[.int .i64 a0_0, .string a0_1, .int .i64 a0_2, .slice A0_3 l0_3.length c0_3]) (t := 49) ?_; intro gb133 hg w2 hbox hb; have BK133 := Aside0.mk hbox; have GW133 := (Own.gs hg : Aside0 (w.heap.size ≤ gb133)); have GE133 := GW133; replace HB := Own.bs hb; clear hb hbox hg))
 go_loopg [3, 4] k (fun kq v3 v4 w' => ∃ (x3_1 : Int) (x4_1 : Int), v3 = .int .i64 x3_1 ∧ v4 = .int .i64 x4_1 ∧ Aside0 (spec_l5Size.l0 kq x3_1 x4_1 a0_0 a0_1 a0_2 l0_3 = some r) ∧ Aside0 (kq ≤ k) ∧ Aside0 (w'.heap[gb133]? = some (.cells #[.int .i64 a0_0, .string a0_1, .int .i64 a0_2, (.slice A0_3 l0_3.length c0_3)] 49 (0, 0))) ∧ Aside0 (Below w.heap.size w w'))
 case atStart => exact ⟨(1), (0), Own.rs, Own.rs, H', ⟨Nat.le_refl _⟩, ⟨Own.bk⟩, ⟨Own.bl⟩⟩
 case round =>
  clear H'; try clear p2
  obtain ⟨x3_1, x4_1, rfl, rfl, HA, HK1, BK133, HB⟩ := hrel
  cases gk with
  | zero => exact absurd HA.out (by simp [spec_l5Size.l0])
  | succ k1 =>
   have H := HA.out; clear HA
   simp only [spec_l5Size.l0] at H
   by_cases c3 : x4_1 < (l0_3.length : Int)
   rotate_left
   ·
    rw [if_neg c3] at H; replace c3 := decide_eq_false c3; obtain rfl := Option.some.inj H; obtain ⟨z8_0, z8_1, z8_2, z8_3, y8_0, y8_1, y8_2, y8_3⟩ := Own.box4 BK133.out
    go_wp2
    go_ret
    exact ⟨Own.rr, Own.bl⟩
   rw [if_pos c3] at H; replace c3 := decide_eq_true c3
   replace H := Own.ifd H; obtain ⟨c4, H⟩ := H
   replace H := Own.bd H; obtain ⟨t135, A5, H⟩ := H; have H' := Aside0.mk H; clear H; obtain ⟨z6_0, z6_1, z6_2, z6_3, y6_0, y6_1, y6_2, y6_3⟩ := Own.box4 BK133.out
   have p134 : 0 ≤ (x4_1 : Int) := Own.dp
   have q134 : x4_1 < (l0_3.length : Int) := Own.dp
   obtain ⟨ad134, A134_3, c134_3, e134, hx134_0, hx134_1, hx134_2, hx134_3, hl134_3, hi134_3⟩ := at_T49 HR0_3.out x4_1 p134 q134; cases e134; replace hx134_0 := Own.up HB.out hx134_0; replace hx134_1 := Own.up HB.out hx134_1; replace hx134_2 := Own.up HB.out hx134_2; replace hx134_3 := Own.up HB.out hx134_3; have HR134_3 := Aside0.mk hi134_3; have HC134_3 := Aside0.mk hl134_3; clear hi134_3 hl134_3; replace p134 := eq_true p134; replace q134 := eq_true q134
   go_wp2_with (first | ((with_reducible refine gate_callee (f := 63) rfl ?_); refine goesL_ (some 18) rfl rfl Tryz.func63 (by kernel_rfl) rfl #[.agg #[.int .i64 ((rd_T49 l0_3 x4_1).f0), .string ((rd_T49 l0_3 x4_1).f1), .int .i64 ((rd_T49 l0_3 x4_1).f2), .slice A134_3 ((rd_T49 l0_3 x4_1).f3).length c134_3]] rfl Own.ha ?_; (with_reducible refine (ih k1 (by have := HK1.out; omega) ((rd_T49 l0_3 x4_1).f0) ((rd_T49 l0_3 x4_1).f1) ((rd_T49 l0_3 x4_1).f2) _ _ ((rd_T49 l0_3 x4_1).f3) t135 _ ?side1 ?side2 A5.out).mono ?_); (case side1 => exact Kd.C_below HR134_3.out Own.bl); (case side2 => exact HC134_3.out); rintro e w7 ⟨rfl, hb⟩; refine ⟨_, rfl, ?_⟩; replace BK133 := Own.bb BK133.out hb; replace HB := Own.bs hb; (try clear hb)))
   go_roundg k1
   case measure => have := HK1.out; omega
   case rel => exact ⟨(wrap64 (x3_1 + t135)), (wrap64 (x4_1 + 1)), Own.rs, Own.rs, H', ⟨by have := HK1.out; omega⟩, ⟨Own.bk⟩, ⟨Own.bl⟩⟩
/-! ### spec_l5Good: function 49 -/
def spec_l5Good.f (k : Nat) (a0_0 : Int) (a0_1 : ByteArray) (a0_2 : Int) (l0_3 : List (S49)) : Option (Bool) := (spec_l5Forms.f k a0_0 a0_1 a0_2 l0_3).bind fun t137 => (if t137 = true then ((spec_l5Size.f k a0_0 a0_1 a0_2 l0_3).bind fun t138 => (some (decide (t138 ≤ 15)))) else (some false))
set_option maxHeartbeats 8000000 in
set_option maxRecDepth 100000 in
theorem spec_l5Good.calls (k : Nat) (a0_0 : Int) (a0_1 : ByteArray) (a0_2 : Int) (A0_3 : Option Addr) (c0_3 : Nat) (l0_3 : List (S49)) (r : Bool) (w : World) (hr0_3 : Kd.C k49 w A0_3 l0_3.length l0_3) (hc0_3 : l0_3.length ≤ c0_3) (h : spec_l5Good.f k a0_0 a0_1 a0_2 l0_3 = some r) :
  Calls Tryz.prog 49 #[.agg #[.int .i64 a0_0, .string a0_1, .int .i64 a0_2, .slice A0_3 l0_3.length c0_3]] w fun e w' => e = .returned (.bool r) ∧ Below w.heap.size w w' := by
 have hu49 := Tryz.underlying49
 have HR0_3 := Aside0.mk hr0_3
 have HC0_3 := Aside0.mk hc0_3
 clear hr0_3 hc0_3
 have HB := Aside0.mk (Below.refl w.heap.size w)
 have H : ((spec_l5Forms.f k a0_0 a0_1 a0_2 l0_3).bind fun t137 => (if t137 = true then ((spec_l5Size.f k a0_0 a0_1 a0_2 l0_3).bind fun t138 => (some (decide (t138 ≤ 15)))) else (some false))) = some r := h
 clear h
 replace H := Own.bd H; obtain ⟨t137, A2, H⟩ := H
 replace H := Own.ifu H; obtain ⟨rfl, H⟩ | ⟨rfl, H⟩ := H
 ·
  replace H := Own.bd H; obtain ⟨t138, A4, H⟩ := H; obtain rfl := Option.some.inj H
  go_enter Tryz.func49, Tryz.ntmps49
  go_wp2_with (first | ((with_reducible refine gate_dst (N := 1) rfl ?_); refine Own.be (N := 1) (cs := #[.int .i64 a0_0, .string a0_1, .int .i64 a0_2, .slice A0_3 l0_3.length c0_3]) (t := 49) ?_; intro gb136 hg w5 hbox hb; have BK136 := Aside0.mk hbox; have GW136 := (Own.gs hg : Aside0 (w.heap.size ≤ gb136)); have GE136 := GW136; replace HB := Own.bs hb; clear hb hbox hg; obtain ⟨z6_0, z6_1, z6_2, z6_3, y6_0, y6_1, y6_2, y6_3⟩ := Own.box4 BK136.out) | ((with_reducible refine gate_callee (f := 62) rfl ?_); refine goesL_ (some 4) rfl rfl Tryz.func62 (by kernel_rfl) rfl #[.agg #[.int .i64 a0_0, .string a0_1, .int .i64 a0_2, .slice A0_3 l0_3.length c0_3]] rfl Own.ha ?_; (with_reducible refine (spec_l5Forms.calls k a0_0 a0_1 a0_2 _ _ l0_3 true _ ?side1 ?side2 A2.out).mono ?_); (case side1 => exact Kd.C_below HR0_3.out Own.bl); (case side2 => exact HC0_3.out); rintro e w7 ⟨rfl, hb⟩; refine ⟨_, rfl, ?_⟩; replace BK136 := Own.bb BK136.out hb; replace HB := Own.bs hb; (try clear hb); obtain ⟨z8_0, z8_1, z8_2, z8_3, y8_0, y8_1, y8_2, y8_3⟩ := Own.box4 BK136.out) | (go_at_call 63; (with_reducible refine (spec_l5Size.calls k a0_0 a0_1 a0_2 _ _ l0_3 t138 _ ?side1 ?side2 A4.out).mono ?_); (case side1 => exact Kd.C_below HR0_3.out Own.bl); (case side2 => exact HC0_3.out); rintro e w9 ⟨rfl, hb⟩; replace BK136 := Own.bb BK136.out hb; replace HB := Own.bs hb; (try clear hb)))
  go_ret
  exact ⟨Own.rr, Own.bl⟩
 obtain rfl := Option.some.inj H
 go_enter Tryz.func49, Tryz.ntmps49
 go_wp2_with (first | ((with_reducible refine gate_dst (N := 1) rfl ?_); refine Own.be (N := 1) (cs := #[.int .i64 a0_0, .string a0_1, .int .i64 a0_2, .slice A0_3 l0_3.length c0_3]) (t := 49) ?_; intro gb136 hg w10 hbox hb; have BK136 := Aside0.mk hbox; have GW136 := (Own.gs hg : Aside0 (w.heap.size ≤ gb136)); have GE136 := GW136; replace HB := Own.bs hb; clear hb hbox hg; obtain ⟨z11_0, z11_1, z11_2, z11_3, y11_0, y11_1, y11_2, y11_3⟩ := Own.box4 BK136.out) | ((with_reducible refine gate_callee (f := 62) rfl ?_); refine goesL_ (some 4) rfl rfl Tryz.func62 (by kernel_rfl) rfl #[.agg #[.int .i64 a0_0, .string a0_1, .int .i64 a0_2, .slice A0_3 l0_3.length c0_3]] rfl Own.ha ?_; (with_reducible refine (spec_l5Forms.calls k a0_0 a0_1 a0_2 _ _ l0_3 false _ ?side1 ?side2 A2.out).mono ?_); (case side1 => exact Kd.C_below HR0_3.out Own.bl); (case side2 => exact HC0_3.out); rintro e w12 ⟨rfl, hb⟩; refine ⟨_, rfl, ?_⟩; replace BK136 := Own.bb BK136.out hb; replace HB := Own.bs hb; (try clear hb)))
 go_ret
 exact ⟨Own.rr, Own.bl⟩
end Go.Proofs.YtckopglnblcnoaaGreatDoor.QFnExactRemoveClause
