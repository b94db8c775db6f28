-- Written by a program of this session out of the translation; Lean checks it.
import Derived.Test.YtghcjheaicmpbaaGreatDoorQFnExactAddClausex3
namespace Go.Proofs.YtghcjheaicmpbaaGreatDoor.QFnExactAddClause
open Go.RowKit Go.Proofs.YtghcjheaicmpbaaGreatDoorW.PrintWords Go.Proofs.YtghcjheaicmpbaaGreatDoorW.PrintLast
attribute [local go_sem] Instr.field asAgg
set_option linter.unusedVariables false
set_option linter.unusedSimpArgs false
/-! ### spec_l5Form: function 73 -/
def spec_l5Form.f (k : Nat) (a0_0 : Int) (a0_1 : ByteArray) (a0_2 : Int) (l0_3 : List (S41)) : Option (Bool) := if a0_0 = 1 then (if (l0_3.length : Int) = 0 then (if a0_1.toList = ([] : List UInt8) then (some (a0_2 == 0)) else (some false)) else (some false)) else (if a0_0 = 2 then (if (l0_3.length : Int) = 0 then ((spec_l5Name.f k a0_1).bind fun t160 => (if t160 = true then (some (a0_2 == 0)) else (some false))) else (some false)) else (if a0_0 = 3 then (if (l0_3.length : Int) = 0 then (if a0_1.toList = ([] : List UInt8) then ((spec_l3Good.f a0_2).bind fun t161 => (some t161)) else (some false)) else (some false)) else (if a0_0 = 4 then (if (l0_3.length : Int) = 1 then (if a0_1.toList = ([] : List UInt8) then (some (a0_2 == 0)) else (some false)) else (some false)) else (if a0_0 = 5 then (if (l0_3.length : Int) = 2 then (if a0_1.toList = ([] : List UInt8) then (some (a0_2 == 0)) else (some false)) else (some false)) else (if a0_0 = 6 then (if (l0_3.length : Int) = 2 then (if a0_1.toList = ([] : List UInt8) then (some (a0_2 == 0)) else (some false)) else (some false)) else (some false))))))
set_option maxHeartbeats 8000000 in
set_option maxRecDepth 100000 in
theorem spec_l5Form.calls (k : Nat) (a0_0 : Int) (a0_1 : ByteArray) (a0_2 : Int) (A0_3 : Option Addr) (c0_3 : Nat) (l0_3 : List (S41)) (r : Bool) (w : World) (hr0_3 : Kd.C k41 w A0_3 l0_3.length l0_3) (hc0_3 : l0_3.length ≤ c0_3) (h : spec_l5Form.f k a0_0 a0_1 a0_2 l0_3 = some r) :
  Calls Tryz.prog 73 #[.agg #[.int .i64 a0_0, .string a0_1, .int .i64 a0_2, .slice A0_3 l0_3.length c0_3]] w fun e w' => e = .returned (.bool r) ∧ Below w.heap.size w w' := by
 have hu41 := Tryz.underlying41
 have HR0_3 := Aside0.mk hr0_3
 have HC0_3 := Aside0.mk hc0_3
 clear hr0_3 hc0_3
 have HB := Aside0.mk (Below.refl w.heap.size w)
 have H : (if a0_0 = 1 then (if (l0_3.length : Int) = 0 then (if a0_1.toList = ([] : List UInt8) then (some (a0_2 == 0)) else (some false)) else (some false)) else (if a0_0 = 2 then (if (l0_3.length : Int) = 0 then ((spec_l5Name.f k a0_1).bind fun t160 => (if t160 = true then (some (a0_2 == 0)) else (some false))) else (some false)) else (if a0_0 = 3 then (if (l0_3.length : Int) = 0 then (if a0_1.toList = ([] : List UInt8) then ((spec_l3Good.f a0_2).bind fun t161 => (some t161)) else (some false)) else (some false)) else (if a0_0 = 4 then (if (l0_3.length : Int) = 1 then (if a0_1.toList = ([] : List UInt8) then (some (a0_2 == 0)) else (some false)) else (some false)) else (if a0_0 = 5 then (if (l0_3.length : Int) = 2 then (if a0_1.toList = ([] : List UInt8) then (some (a0_2 == 0)) else (some false)) else (some false)) else (if a0_0 = 6 then (if (l0_3.length : Int) = 2 then (if a0_1.toList = ([] : List UInt8) then (some (a0_2 == 0)) else (some false)) else (some false)) else (some false))))))) = some r := h
 clear h
 have H' := Aside0.mk H
 clear H
 go_enter Tryz.func73, Tryz.ntmps73
 go_upto_region 1 with (first | ((with_reducible refine gate_dst (N := 1) rfl ?_); refine Own.be (N := 1) (cs := #[.int .i64 a0_0, .string a0_1, .int .i64 a0_2, .slice A0_3 l0_3.length c0_3]) (t := 41) ?_; intro gb159 hg w15 hbox hb; have BK159 := Aside0.mk hbox; have GW159 := (Own.gs hg : Aside0 (w.heap.size ≤ gb159)); have GE159 := GW159; replace HB := Own.bs hb; clear hb hbox hg; obtain ⟨z16_0, z16_1, z16_2, z16_3, y16_0, y16_1, y16_2, y16_3⟩ := Own.box4 BK159.out))
 have H := H'.out
 clear H'
 by_cases c2 : a0_0 = 1
 ·
  rw [if_pos c2] at H
  have c2b0 : (a0_0 == 1) = true := beq_iff_eq.mpr c2
  have c2b1 : (a0_0 != 1) = false := bne_eq_false_iff_eq.mpr c2
  clear c2
  by_cases c3 : (l0_3.length : Int) = 0
  rotate_left
  ·
   rw [if_neg c3] at H
   have c3b0 : ((l0_3.length : Int) == 0) = false := beq_eq_false_iff_ne.mpr c3
   have c3b1 : ((l0_3.length : Int) != 0) = true := bne_iff_ne.mpr c3
   have c3b2 : ¬ (l0_3 = []) := fun h_ => c3 (by rw [h_]; rfl)
   obtain rfl := Option.some.inj H
   go_wp2
   go_ret
   exact ⟨Own.rr, Own.bl⟩
  rw [if_pos c3] at H
  have c3b0 : ((l0_3.length : Int) == 0) = true := beq_iff_eq.mpr c3
  have c3b1 : ((l0_3.length : Int) != 0) = false := bne_eq_false_iff_eq.mpr c3
  clear c3
  by_cases c4 : a0_1.toList = ([] : List UInt8)
  rotate_left
  ·
   rw [if_neg c4] at H
   have c4b0 : (a0_1.toList == ([] : List UInt8)) = false := beq_eq_false_iff_ne.mpr c4
   have c4b1 : (a0_1.toList != ([] : List UInt8)) = true := bne_iff_ne.mpr c4
   obtain rfl := Option.some.inj H
   go_wp2
   go_ret
   exact ⟨Own.rr, Own.bl⟩
  rw [if_pos c4] at H
  have c4b0 : (a0_1.toList == ([] : List UInt8)) = true := beq_iff_eq.mpr c4
  have c4b1 : (a0_1.toList != ([] : List UInt8)) = false := bne_eq_false_iff_eq.mpr c4
  clear c4; obtain rfl := Option.some.inj H
  go_wp2
  go_ret
  exact ⟨Own.rr, Own.bl⟩
 rw [if_neg c2] at H
 have c2b0 : (a0_0 == 1) = false := beq_eq_false_iff_ne.mpr c2
 have c2b1 : (a0_0 != 1) = true := bne_iff_ne.mpr c2
 by_cases c11 : a0_0 = 2
 ·
  rw [if_pos c11] at H
  have c11b0 : (a0_0 == 2) = true := beq_iff_eq.mpr c11
  have c11b1 : (a0_0 != 2) = false := bne_eq_false_iff_eq.mpr c11
  clear c11
  by_cases c12 : (l0_3.length : Int) = 0
  rotate_left
  ·
   rw [if_neg c12] at H
   have c12b0 : ((l0_3.length : Int) == 0) = false := beq_eq_false_iff_ne.mpr c12
   have c12b1 : ((l0_3.length : Int) != 0) = true := bne_iff_ne.mpr c12
   have c12b2 : ¬ (l0_3 = []) := fun h_ => c12 (by rw [h_]; rfl)
   obtain rfl := Option.some.inj H
   go_wp2
   go_ret
   exact ⟨Own.rr, Own.bl⟩
  rw [if_pos c12] at H
  have c12b0 : ((l0_3.length : Int) == 0) = true := beq_iff_eq.mpr c12
  have c12b1 : ((l0_3.length : Int) != 0) = false := bne_eq_false_iff_eq.mpr c12
  clear c12
  replace H := Own.bd H; obtain ⟨t160, A13, H⟩ := H
  replace H := Own.ifu H; obtain ⟨rfl, H⟩ | ⟨rfl, H⟩ := H
  ·
   obtain rfl := Option.some.inj H
   go_wp2_with (first | (go_at_call 52; (with_reducible refine (spec_l5Name.calls k a0_1 true _ A13.out).mono ?_); rintro e w' ⟨rfl, ⟨nd, rfl⟩⟩))
   go_ret
   exact ⟨Own.rr, Own.bl⟩
  obtain rfl := Option.some.inj H
  go_wp2_with (first | (go_at_call 52; (with_reducible refine (spec_l5Name.calls k a0_1 false _ A13.out).mono ?_); rintro e w' ⟨rfl, ⟨nd, rfl⟩⟩))
  go_ret
  exact ⟨Own.rr, Own.bl⟩
 rw [if_neg c11] at H
 have c11b0 : (a0_0 == 2) = false := beq_eq_false_iff_ne.mpr c11
 have c11b1 : (a0_0 != 2) = true := bne_iff_ne.mpr c11
 by_cases c21 : a0_0 = 3
 ·
  rw [if_pos c21] at H
  have c21b0 : (a0_0 == 3) = true := beq_iff_eq.mpr c21
  have c21b1 : (a0_0 != 3) = false := bne_eq_false_iff_eq.mpr c21
  clear c21
  by_cases c22 : (l0_3.length : Int) = 0
  rotate_left
  ·
   rw [if_neg c22] at H
   have c22b0 : ((l0_3.length : Int) == 0) = false := beq_eq_false_iff_ne.mpr c22
   have c22b1 : ((l0_3.length : Int) != 0) = true := bne_iff_ne.mpr c22
   have c22b2 : ¬ (l0_3 = []) := fun h_ => c22 (by rw [h_]; rfl)
   obtain rfl := Option.some.inj H
   go_wp2
   go_ret
   exact ⟨Own.rr, Own.bl⟩
  rw [if_pos c22] at H
  have c22b0 : ((l0_3.length : Int) == 0) = true := beq_iff_eq.mpr c22
  have c22b1 : ((l0_3.length : Int) != 0) = false := bne_eq_false_iff_eq.mpr c22
  clear c22
  by_cases c23 : a0_1.toList = ([] : List UInt8)
  rotate_left
  ·
   rw [if_neg c23] at H
   have c23b0 : (a0_1.toList == ([] : List UInt8)) = false := beq_eq_false_iff_ne.mpr c23
   have c23b1 : (a0_1.toList != ([] : List UInt8)) = true := bne_iff_ne.mpr c23
   obtain rfl := Option.some.inj H
   go_wp2
   go_ret
   exact ⟨Own.rr, Own.bl⟩
  rw [if_pos c23] at H
  have c23b0 : (a0_1.toList == ([] : List UInt8)) = true := beq_iff_eq.mpr c23
  have c23b1 : (a0_1.toList != ([] : List UInt8)) = false := bne_eq_false_iff_eq.mpr c23
  clear c23
  replace H := Own.bd H; obtain ⟨t161, A24, H⟩ := H; obtain rfl := Option.some.inj H
  go_wp2_with (first | (go_at_call 78; (with_reducible refine (spec_l3Good.calls a0_2 t161 _ A24.out).mono ?_); rintro e w' ⟨rfl, ⟨nd, rfl⟩⟩))
  go_ret
  exact ⟨Own.rr, Own.bl⟩
 rw [if_neg c21] at H
 have c21b0 : (a0_0 == 3) = false := beq_eq_false_iff_ne.mpr c21
 have c21b1 : (a0_0 != 3) = true := bne_iff_ne.mpr c21
 by_cases c31 : a0_0 = 4
 ·
  rw [if_pos c31] at H
  have c31b0 : (a0_0 == 4) = true := beq_iff_eq.mpr c31
  have c31b1 : (a0_0 != 4) = false := bne_eq_false_iff_eq.mpr c31
  clear c31
  by_cases c32 : (l0_3.length : Int) = 1
  rotate_left
  ·
   rw [if_neg c32] at H
   have c32b0 : ((l0_3.length : Int) == 1) = false := beq_eq_false_iff_ne.mpr c32
   have c32b1 : ((l0_3.length : Int) != 1) = true := bne_iff_ne.mpr c32
   obtain rfl := Option.some.inj H
   go_wp2
   go_ret
   exact ⟨Own.rr, Own.bl⟩
  rw [if_pos c32] at H
  have c32b0 : ((l0_3.length : Int) == 1) = true := beq_iff_eq.mpr c32
  have c32b1 : ((l0_3.length : Int) != 1) = false := bne_eq_false_iff_eq.mpr c32
  clear c32
  by_cases c33 : a0_1.toList = ([] : List UInt8)
  rotate_left
  ·
   rw [if_neg c33] at H
   have c33b0 : (a0_1.toList == ([] : List UInt8)) = false := beq_eq_false_iff_ne.mpr c33
   have c33b1 : (a0_1.toList != ([] : List UInt8)) = true := bne_iff_ne.mpr c33
   obtain rfl := Option.some.inj H
   go_wp2
   go_ret
   exact ⟨Own.rr, Own.bl⟩
  rw [if_pos c33] at H
  have c33b0 : (a0_1.toList == ([] : List UInt8)) = true := beq_iff_eq.mpr c33
  have c33b1 : (a0_1.toList != ([] : List UInt8)) = false := bne_eq_false_iff_eq.mpr c33
  clear c33; obtain rfl := Option.some.inj H
  go_wp2
  go_ret
  exact ⟨Own.rr, Own.bl⟩
 rw [if_neg c31] at H
 have c31b0 : (a0_0 == 4) = false := beq_eq_false_iff_ne.mpr c31
 have c31b1 : (a0_0 != 4) = true := bne_iff_ne.mpr c31
 by_cases c40 : a0_0 = 5
 ·
  rw [if_pos c40] at H
  have c40b0 : (a0_0 == 5) = true := beq_iff_eq.mpr c40
  have c40b1 : (a0_0 != 5) = false := bne_eq_false_iff_eq.mpr c40
  clear c40
  by_cases c41 : (l0_3.length : Int) = 2
  rotate_left
  ·
   rw [if_neg c41] at H
   have c41b0 : ((l0_3.length : Int) == 2) = false := beq_eq_false_iff_ne.mpr c41
   have c41b1 : ((l0_3.length : Int) != 2) = true := bne_iff_ne.mpr c41
   obtain rfl := Option.some.inj H
   go_wp2
   go_ret
   exact ⟨Own.rr, Own.bl⟩
  rw [if_pos c41] at H
  have c41b0 : ((l0_3.length : Int) == 2) = true := beq_iff_eq.mpr c41
  have c41b1 : ((l0_3.length : Int) != 2) = false := bne_eq_false_iff_eq.mpr c41
  clear c41
  by_cases c42 : a0_1.toList = ([] : List UInt8)
  rotate_left
  ·
   rw [if_neg c42] at H
   have c42b0 : (a0_1.toList == ([] : List UInt8)) = false := beq_eq_false_iff_ne.mpr c42
   have c42b1 : (a0_1.toList != ([] : List UInt8)) = true := bne_iff_ne.mpr c42
   obtain rfl := Option.some.inj H
   go_wp2
   go_ret
   exact ⟨Own.rr, Own.bl⟩
  rw [if_pos c42] at H
  have c42b0 : (a0_1.toList == ([] : List UInt8)) = true := beq_iff_eq.mpr c42
  have c42b1 : (a0_1.toList != ([] : List UInt8)) = false := bne_eq_false_iff_eq.mpr c42
  clear c42; obtain rfl := Option.some.inj H
  go_wp2
  go_ret
  exact ⟨Own.rr, Own.bl⟩
 rw [if_neg c40] at H
 have c40b0 : (a0_0 == 5) = false := beq_eq_false_iff_ne.mpr c40
 have c40b1 : (a0_0 != 5) = true := bne_iff_ne.mpr c40
 by_cases c49 : a0_0 = 6
 rotate_left
 ·
  rw [if_neg c49] at H
  have c49b0 : (a0_0 == 6) = false := beq_eq_false_iff_ne.mpr c49
  have c49b1 : (a0_0 != 6) = true := bne_iff_ne.mpr c49
  obtain rfl := Option.some.inj H
  go_wp2
  go_ret
  exact ⟨Own.rr, Own.bl⟩
 rw [if_pos c49] at H
 have c49b0 : (a0_0 == 6) = true := beq_iff_eq.mpr c49
 have c49b1 : (a0_0 != 6) = false := bne_eq_false_iff_eq.mpr c49
 clear c49
 by_cases c50 : (l0_3.length : Int) = 2
 rotate_left
 ·
  rw [if_neg c50] at H
  have c50b0 : ((l0_3.length : Int) == 2) = false := beq_eq_false_iff_ne.mpr c50
  have c50b1 : ((l0_3.length : Int) != 2) = true := bne_iff_ne.mpr c50
  obtain rfl := Option.some.inj H
  go_wp2
  go_ret
  exact ⟨Own.rr, Own.bl⟩
 rw [if_pos c50] at H
 have c50b0 : ((l0_3.length : Int) == 2) = true := beq_iff_eq.mpr c50
 have c50b1 : ((l0_3.length : Int) != 2) = false := bne_eq_false_iff_eq.mpr c50
 clear c50
 by_cases c51 : a0_1.toList = ([] : List UInt8)
 rotate_left
 ·
  rw [if_neg c51] at H
  have c51b0 : (a0_1.toList == ([] : List UInt8)) = false := beq_eq_false_iff_ne.mpr c51
  have c51b1 : (a0_1.toList != ([] : List UInt8)) = true := bne_iff_ne.mpr c51
  obtain rfl := Option.some.inj H
  go_wp2
  go_ret
  exact ⟨Own.rr, Own.bl⟩
 rw [if_pos c51] at H
 have c51b0 : (a0_1.toList == ([] : List UInt8)) = true := beq_iff_eq.mpr c51
 have c51b1 : (a0_1.toList != ([] : List UInt8)) = false := bne_eq_false_iff_eq.mpr c51
 clear c51
 obtain rfl := Option.some.inj H
 go_wp2
 go_ret
 exact ⟨Own.rr, Own.bl⟩
/-! ### spec_l5Forms: function 64 -/
mutual
def spec_l5Forms.l0 : Nat → Int → Int → ByteArray → Int → List (S41) → Option (Bool)
 | 0, _, _, _, _, _ => none
 | k + 1, x3, x163000, x163001, x163002, x163003 => if x3 < (x163003.length : Int) then (if 0 ≤ x3 then ((spec_l5Forms.f k ((rd_T41 x163003 x3).f0) ((rd_T41 x163003 x3).f1) ((rd_T41 x163003 x3).f2) ((rd_T41 x163003 x3).f3)).bind fun t165 => (if t165 = true then (spec_l5Forms.l0 k (wrap64 (x3 + 1)) x163000 x163001 x163002 x163003) else (some false))) else (none)) else (some true)
def spec_l5Forms.f : Nat → Int → ByteArray → Int → List (S41) → Option (Bool)
 | 0, _, _, _, _ => none
 | k + 1, a0_0, a0_1, a0_2, l0_3 => (spec_l5Form.f k a0_0 a0_1 a0_2 l0_3).bind fun t163 => (if t163 = true then (spec_l5Forms.l0 k 0 a0_0 a0_1 a0_2 l0_3) else (some false))
end
set_option maxHeartbeats 8000000 in
set_option maxRecDepth 100000 in
theorem spec_l5Forms.calls (k : Nat) : ∀ (a0_0 : Int) (a0_1 : ByteArray) (a0_2 : Int) (A0_3 : Option Addr) (c0_3 : Nat) (l0_3 : List (S41)) (r : Bool) (w : World) (hr0_3 : Kd.C k41 w A0_3 l0_3.length l0_3) (hc0_3 : l0_3.length ≤ c0_3) (h : spec_l5Forms.f k a0_0 a0_1 a0_2 l0_3 = some r),
  Calls Tryz.prog 64 #[.agg #[.int .i64 a0_0, .string a0_1, .int .i64 a0_2, .slice A0_3 l0_3.length c0_3]] w fun e w' => e = .returned (.bool r) ∧ Below w.heap.size w w' := by
 induction k using Nat.strongRecOn with
 | _ k ih =>
 intro a0_0 a0_1 a0_2 A0_3 c0_3 l0_3 r w hr0_3 hc0_3 h
 cases k with
 | zero => exact absurd h (by simp [spec_l5Forms.f])
 | succ k =>
 simp only [spec_l5Forms.f] at h
 have hu41 := Tryz.underlying41
 have HR0_3 := Aside0.mk hr0_3
 have HC0_3 := Aside0.mk hc0_3
 clear hr0_3 hc0_3
 have HB := Aside0.mk (Below.refl w.heap.size w)
 have H : ((spec_l5Form.f k a0_0 a0_1 a0_2 l0_3).bind fun t163 => (if t163 = true then (spec_l5Forms.l0 k 0 a0_0 a0_1 a0_2 l0_3) else (some false))) = some r := h
 clear h
 replace H := Own.bd H; obtain ⟨t163, A2, H⟩ := H
 replace H := Own.ift H; obtain ⟨rfl, H⟩ | ⟨rfl, H⟩ := H
 ·
  obtain rfl := Option.some.inj H
  go_enter Tryz.func64, Tryz.ntmps64
  go_wp2_with (first | ((with_reducible refine gate_dst (N := 1) rfl ?_); refine Own.be (N := 1) (cs := #[.int .i64 a0_0, .string a0_1, .int .i64 a0_2, .slice A0_3 l0_3.length c0_3]) (t := 41) ?_; intro gb162 hg w16 hbox hb; have BK162 := Aside0.mk hbox; have GW162 := (Own.gs hg : Aside0 (w.heap.size ≤ gb162)); have GE162 := GW162; replace HB := Own.bs hb; clear hb hbox hg; obtain ⟨z17_0, z17_1, z17_2, z17_3, y17_0, y17_1, y17_2, y17_3⟩ := Own.box4 BK162.out) | ((with_reducible refine gate_callee (f := 73) rfl ?_); refine goesL_ (some 5) rfl rfl Tryz.func73 (by kernel_rfl) rfl #[.agg #[.int .i64 a0_0, .string a0_1, .int .i64 a0_2, .slice A0_3 l0_3.length c0_3]] rfl Own.ha ?_; (with_reducible refine (spec_l5Form.calls k a0_0 a0_1 a0_2 _ _ l0_3 false _ ?side1 ?side2 A2.out).mono ?_); (case side1 => exact Kd.C_below HR0_3.out Own.bl); (case side2 => exact HC0_3.out); rintro e w18 ⟨rfl, hb⟩; refine ⟨_, rfl, ?_⟩; replace BK162 := Own.bb BK162.out hb; replace HB := Own.bs hb; (try clear hb)))
  go_ret
  exact ⟨Own.rr, Own.bl⟩
 have H' := Aside0.mk H
 clear H
 go_enter Tryz.func64, Tryz.ntmps64
 go_wp2_with (first | ((with_reducible refine gate_dst (N := 1) rfl ?_); refine Own.be (N := 1) (cs := #[.int .i64 a0_0, .string a0_1, .int .i64 a0_2, .slice A0_3 l0_3.length c0_3]) (t := 41) ?_; intro gb162 hg w4 hbox hb; have BK162 := Aside0.mk hbox; have GW162 := (Own.gs hg : Aside0 (w.heap.size ≤ gb162)); have GE162 := GW162; replace HB := Own.bs hb; clear hb hbox hg; obtain ⟨z5_0, z5_1, z5_2, z5_3, y5_0, y5_1, y5_2, y5_3⟩ := Own.box4 BK162.out) | ((with_reducible refine gate_callee (f := 73) rfl ?_); refine goesL_ (some 5) rfl rfl Tryz.func73 (by kernel_rfl) rfl #[.agg #[.int .i64 a0_0, .string a0_1, .int .i64 a0_2, .slice A0_3 l0_3.length c0_3]] rfl Own.ha ?_; (with_reducible refine (spec_l5Form.calls k a0_0 a0_1 a0_2 _ _ l0_3 true _ ?side1 ?side2 A2.out).mono ?_); (case side1 => exact Kd.C_below HR0_3.out Own.bl); (case side2 => exact HC0_3.out); rintro e w6 ⟨rfl, hb⟩; refine ⟨_, rfl, ?_⟩; replace BK162 := Own.bb BK162.out hb; replace HB := Own.bs hb; (try clear hb)))
 go_loopg [3] k (fun kq v3 w' => ∃ (x3_1 : Int), v3 = .int .i64 x3_1 ∧ Aside0 (spec_l5Forms.l0 kq x3_1 a0_0 a0_1 a0_2 l0_3 = some r) ∧ Aside0 (kq ≤ k) ∧ Aside0 (w'.heap[gb162]? = some (.cells #[.int .i64 a0_0, .string a0_1, .int .i64 a0_2, (.slice A0_3 l0_3.length c0_3)] 41 (0, 0))) ∧ Aside0 (Below w.heap.size w w'))
 case atStart => exact ⟨(0), Own.rs, H', ⟨Nat.le_refl _⟩, ⟨Own.bk⟩, ⟨Own.bl⟩⟩
 case round =>
  clear H'; try clear z5_0 z5_1 z5_2 z5_3 y5_0 y5_1 y5_2 y5_3
  obtain ⟨x3_1, rfl, HA, HK1, BK162, HB⟩ := hrel
  cases gk with
  | zero => exact absurd HA.out (by simp [spec_l5Forms.l0])
  | succ k1 =>
   have H := HA.out; clear HA
   simp only [spec_l5Forms.l0] at H
   by_cases c7 : x3_1 < (l0_3.length : Int)
   rotate_left
   ·
    rw [if_neg c7] at H; replace c7 := decide_eq_false c7; obtain rfl := Option.some.inj H; obtain ⟨z15_0, z15_1, z15_2, z15_3, y15_0, y15_1, y15_2, y15_3⟩ := Own.box4 BK162.out
    go_wp2
    go_ret
    exact ⟨Own.rr, Own.bl⟩
   rw [if_pos c7] at H; replace c7 := decide_eq_true c7
   replace H := Own.ifd H; obtain ⟨c8, H⟩ := H
   replace H := Own.bd H; obtain ⟨t165, A9, H⟩ := H
   replace H := Own.ift H; obtain ⟨rfl, H⟩ | ⟨rfl, H⟩ := H
   ·
    obtain rfl := Option.some.inj H; obtain ⟨z13_0, z13_1, z13_2, z13_3, y13_0, y13_1, y13_2, y13_3⟩ := Own.box4 BK162.out
    have p164 : 0 ≤ (x3_1 : Int) := Own.dp
    have q164 : x3_1 < (l0_3.length : Int) := Own.dp
    obtain ⟨ad164, A164_3, c164_3, e164, hx164_0, hx164_1, hx164_2, hx164_3, hl164_3, hi164_3⟩ := at_T41 HR0_3.out x3_1 p164 q164; cases e164; replace hx164_0 := Own.up HB.out hx164_0; replace hx164_1 := Own.up HB.out hx164_1; replace hx164_2 := Own.up HB.out hx164_2; replace hx164_3 := Own.up HB.out hx164_3; have HR164_3 := Aside0.mk hi164_3; have HC164_3 := Aside0.mk hl164_3; clear hi164_3 hl164_3; replace p164 := eq_true p164; replace q164 := eq_true q164
    go_wp2_with (first | ((with_reducible refine gate_callee (f := 64) rfl ?_); refine goesL_ (some 19) rfl rfl Tryz.func64 (by kernel_rfl) rfl #[.agg #[.int .i64 ((rd_T41 l0_3 x3_1).f0), .string ((rd_T41 l0_3 x3_1).f1), .int .i64 ((rd_T41 l0_3 x3_1).f2), .slice A164_3 ((rd_T41 l0_3 x3_1).f3).length c164_3]] rfl Own.ha ?_; (with_reducible refine (ih k1 (by have := HK1.out; omega) ((rd_T41 l0_3 x3_1).f0) ((rd_T41 l0_3 x3_1).f1) ((rd_T41 l0_3 x3_1).f2) _ _ ((rd_T41 l0_3 x3_1).f3) false _ ?side1 ?side2 A9.out).mono ?_); (case side1 => exact Kd.C_below HR164_3.out Own.bl); (case side2 => exact HC164_3.out); rintro e w14 ⟨rfl, hb⟩; refine ⟨_, rfl, ?_⟩; replace BK162 := Own.bb BK162.out hb; replace HB := Own.bs hb; (try clear hb)))
    go_ret
    exact ⟨Own.rr, Own.bl⟩
   have H' := Aside0.mk H; clear H; obtain ⟨z11_0, z11_1, z11_2, z11_3, y11_0, y11_1, y11_2, y11_3⟩ := Own.box4 BK162.out
   have p164 : 0 ≤ (x3_1 : Int) := Own.dp
   have q164 : x3_1 < (l0_3.length : Int) := Own.dp
   obtain ⟨ad164, A164_3, c164_3, e164, hx164_0, hx164_1, hx164_2, hx164_3, hl164_3, hi164_3⟩ := at_T41 HR0_3.out x3_1 p164 q164; cases e164; replace hx164_0 := Own.up HB.out hx164_0; replace hx164_1 := Own.up HB.out hx164_1; replace hx164_2 := Own.up HB.out hx164_2; replace hx164_3 := Own.up HB.out hx164_3; have HR164_3 := Aside0.mk hi164_3; have HC164_3 := Aside0.mk hl164_3; clear hi164_3 hl164_3; replace p164 := eq_true p164; replace q164 := eq_true q164
   go_wp2_with (first | ((with_reducible refine gate_callee (f := 64) rfl ?_); refine goesL_ (some 19) rfl rfl Tryz.func64 (by kernel_rfl) rfl #[.agg #[.int .i64 ((rd_T41 l0_3 x3_1).f0), .string ((rd_T41 l0_3 x3_1).f1), .int .i64 ((rd_T41 l0_3 x3_1).f2), .slice A164_3 ((rd_T41 l0_3 x3_1).f3).length c164_3]] rfl Own.ha ?_; (with_reducible refine (ih k1 (by have := HK1.out; omega) ((rd_T41 l0_3 x3_1).f0) ((rd_T41 l0_3 x3_1).f1) ((rd_T41 l0_3 x3_1).f2) _ _ ((rd_T41 l0_3 x3_1).f3) true _ ?side1 ?side2 A9.out).mono ?_); (case side1 => exact Kd.C_below HR164_3.out Own.bl); (case side2 => exact HC164_3.out); rintro e w12 ⟨rfl, hb⟩; refine ⟨_, rfl, ?_⟩; replace BK162 := Own.bb BK162.out hb; replace HB := Own.bs hb; (try clear hb)))
   go_roundg k1
   case measure => have := HK1.out; omega
   case rel => exact ⟨(wrap64 (x3_1 + 1)), Own.rs, H', ⟨by have := HK1.out; omega⟩, ⟨Own.bk⟩, ⟨Own.bl⟩⟩
/-! ### spec_l5Size: function 65 -/
mutual
def spec_l5Size.l0 : Nat → Int → Int → Int → ByteArray → Int → List (S41) → Option (Int)
 | 0, _, _, _, _, _, _ => none
 | k + 1, x3, x4, x167000, x167001, x167002, x167003 => if x4 < (x167003.length : Int) then (if 0 ≤ x4 then ((spec_l5Size.f k ((rd_T41 x167003 x4).f0) ((rd_T41 x167003 x4).f1) ((rd_T41 x167003 x4).f2) ((rd_T41 x167003 x4).f3)).bind fun t168 => (spec_l5Size.l0 k (wrap64 (x3 + t168)) (wrap64 (x4 + 1)) x167000 x167001 x167002 x167003)) else (none)) else (some x3)
def spec_l5Size.f : Nat → Int → ByteArray → Int → List (S41) → Option (Int)
 | 0, _, _, _, _ => none
 | k + 1, a0_0, a0_1, a0_2, l0_3 => spec_l5Size.l0 k 1 0 a0_0 a0_1 a0_2 l0_3
end
set_option maxHeartbeats 8000000 in
set_option maxRecDepth 100000 in
theorem spec_l5Size.calls (k : Nat) : ∀ (a0_0 : Int) (a0_1 : ByteArray) (a0_2 : Int) (A0_3 : Option Addr) (c0_3 : Nat) (l0_3 : List (S41)) (r : Int) (w : World) (hr0_3 : Kd.C k41 w A0_3 l0_3.length l0_3) (hc0_3 : l0_3.length ≤ c0_3) (h : spec_l5Size.f k a0_0 a0_1 a0_2 l0_3 = some r),
  Calls Tryz.prog 65 #[.agg #[.int .i64 a0_0, .string a0_1, .int .i64 a0_2, .slice A0_3 l0_3.length c0_3]] w fun e w' => e = .returned (.int .i64 r) ∧ Below w.heap.size w w' := by
 induction k using Nat.strongRecOn with
 | _ k ih =>
 intro a0_0 a0_1 a0_2 A0_3 c0_3 l0_3 r w hr0_3 hc0_3 h
 cases k with
 | zero => exact absurd h (by simp [spec_l5Size.f])
 | succ k =>
 simp only [spec_l5Size.f] at h
 have hu41 := Tryz.underlying41
 have HR0_3 := Aside0.mk hr0_3
 have HC0_3 := Aside0.mk hc0_3
 clear hr0_3 hc0_3
 have HB := Aside0.mk (Below.refl w.heap.size w)
 have H : (spec_l5Size.l0 k 1 0 a0_0 a0_1 a0_2 l0_3) = some r := h
 clear h
 have H' := Aside0.mk H
 clear H
 go_enter Tryz.func65, Tryz.ntmps65
 go_wp2_with (first | ((with_reducible refine gate_dst (N := 1) rfl ?_); refine Own.be (N := 1) (cs := #[.int .i64 a0_0, .string a0_1, .int .i64 a0_2, .slice A0_3 l0_3.length c0_3]) (t := 41) ?_; intro gb166 hg w2 hbox hb; have BK166 := Aside0.mk hbox; have GW166 := (Own.gs hg : Aside0 (w.heap.size ≤ gb166)); have GE166 := GW166; replace HB := Own.bs hb; clear hb hbox hg))
 go_loopg [3, 4] k (fun kq v3 v4 w' => ∃ (x3_1 : Int) (x4_1 : Int), v3 = .int .i64 x3_1 ∧ v4 = .int .i64 x4_1 ∧ Aside0 (spec_l5Size.l0 kq x3_1 x4_1 a0_0 a0_1 a0_2 l0_3 = some r) ∧ Aside0 (kq ≤ k) ∧ Aside0 (w'.heap[gb166]? = some (.cells #[.int .i64 a0_0, .string a0_1, .int .i64 a0_2, (.slice A0_3 l0_3.length c0_3)] 41 (0, 0))) ∧ Aside0 (Below w.heap.size w w'))
 case atStart => exact ⟨(1), (0), Own.rs, Own.rs, H', ⟨Nat.le_refl _⟩, ⟨Own.bk⟩, ⟨Own.bl⟩⟩
 case round =>
  clear H'; try clear p2
  obtain ⟨x3_1, x4_1, rfl, rfl, HA, HK1, BK166, HB⟩ := hrel
  cases gk with
  | zero => exact absurd HA.out (by simp [spec_l5Size.l0])
  | succ k1 =>
   have H := HA.out; clear HA
   simp only [spec_l5Size.l0] at H
   by_cases c3 : x4_1 < (l0_3.length : Int)
   rotate_left
   ·
    rw [if_neg c3] at H; replace c3 := decide_eq_false c3; obtain rfl := Option.some.inj H; obtain ⟨z8_0, z8_1, z8_2, z8_3, y8_0, y8_1, y8_2, y8_3⟩ := Own.box4 BK166.out
    go_wp2
    go_ret
    exact ⟨Own.rr, Own.bl⟩
   rw [if_pos c3] at H; replace c3 := decide_eq_true c3
   replace H := Own.ifd H; obtain ⟨c4, H⟩ := H
   replace H := Own.bd H; obtain ⟨t168, A5, H⟩ := H; have H' := Aside0.mk H; clear H; obtain ⟨z6_0, z6_1, z6_2, z6_3, y6_0, y6_1, y6_2, y6_3⟩ := Own.box4 BK166.out
   have p167 : 0 ≤ (x4_1 : Int) := Own.dp
   have q167 : x4_1 < (l0_3.length : Int) := Own.dp
   obtain ⟨ad167, A167_3, c167_3, e167, hx167_0, hx167_1, hx167_2, hx167_3, hl167_3, hi167_3⟩ := at_T41 HR0_3.out x4_1 p167 q167; cases e167; replace hx167_0 := Own.up HB.out hx167_0; replace hx167_1 := Own.up HB.out hx167_1; replace hx167_2 := Own.up HB.out hx167_2; replace hx167_3 := Own.up HB.out hx167_3; have HR167_3 := Aside0.mk hi167_3; have HC167_3 := Aside0.mk hl167_3; clear hi167_3 hl167_3; replace p167 := eq_true p167; replace q167 := eq_true q167
   go_wp2_with (first | ((with_reducible refine gate_callee (f := 65) rfl ?_); refine goesL_ (some 18) rfl rfl Tryz.func65 (by kernel_rfl) rfl #[.agg #[.int .i64 ((rd_T41 l0_3 x4_1).f0), .string ((rd_T41 l0_3 x4_1).f1), .int .i64 ((rd_T41 l0_3 x4_1).f2), .slice A167_3 ((rd_T41 l0_3 x4_1).f3).length c167_3]] rfl Own.ha ?_; (with_reducible refine (ih k1 (by have := HK1.out; omega) ((rd_T41 l0_3 x4_1).f0) ((rd_T41 l0_3 x4_1).f1) ((rd_T41 l0_3 x4_1).f2) _ _ ((rd_T41 l0_3 x4_1).f3) t168 _ ?side1 ?side2 A5.out).mono ?_); (case side1 => exact Kd.C_below HR167_3.out Own.bl); (case side2 => exact HC167_3.out); rintro e w7 ⟨rfl, hb⟩; refine ⟨_, rfl, ?_⟩; replace BK166 := Own.bb BK166.out hb; replace HB := Own.bs hb; (try clear hb)))
   go_roundg k1
   case measure => have := HK1.out; omega
   case rel => exact ⟨(wrap64 (x3_1 + t168)), (wrap64 (x4_1 + 1)), Own.rs, Own.rs, H', ⟨by have := HK1.out; omega⟩, ⟨Own.bk⟩, ⟨Own.bl⟩⟩
/-! ### spec_l5Good: function 54 -/
def spec_l5Good.f (k : Nat) (a0_0 : Int) (a0_1 : ByteArray) (a0_2 : Int) (l0_3 : List (S41)) : Option (Bool) := (spec_l5Forms.f k a0_0 a0_1 a0_2 l0_3).bind fun t170 => (if t170 = true then ((spec_l5Size.f k a0_0 a0_1 a0_2 l0_3).bind fun t171 => (some (decide (t171 ≤ 15)))) else (some false))
set_option maxHeartbeats 8000000 in
set_option maxRecDepth 100000 in
theorem spec_l5Good.calls (k : Nat) (a0_0 : Int) (a0_1 : ByteArray) (a0_2 : Int) (A0_3 : Option Addr) (c0_3 : Nat) (l0_3 : List (S41)) (r : Bool) (w : World) (hr0_3 : Kd.C k41 w A0_3 l0_3.length l0_3) (hc0_3 : l0_3.length ≤ c0_3) (h : spec_l5Good.f k a0_0 a0_1 a0_2 l0_3 = some r) :
  Calls Tryz.prog 54 #[.agg #[.int .i64 a0_0, .string a0_1, .int .i64 a0_2, .slice A0_3 l0_3.length c0_3]] w fun e w' => e = .returned (.bool r) ∧ Below w.heap.size w w' := by
 have hu41 := Tryz.underlying41
 have HR0_3 := Aside0.mk hr0_3
 have HC0_3 := Aside0.mk hc0_3
 clear hr0_3 hc0_3
 have HB := Aside0.mk (Below.refl w.heap.size w)
 have H : ((spec_l5Forms.f k a0_0 a0_1 a0_2 l0_3).bind fun t170 => (if t170 = true then ((spec_l5Size.f k a0_0 a0_1 a0_2 l0_3).bind fun t171 => (some (decide (t171 ≤ 15)))) else (some false))) = some r := h
 clear h
 replace H := Own.bd H; obtain ⟨t170, A2, H⟩ := H
 replace H := Own.ifu H; obtain ⟨rfl, H⟩ | ⟨rfl, H⟩ := H
 ·
  replace H := Own.bd H; obtain ⟨t171, A4, H⟩ := H; obtain rfl := Option.some.inj H
  go_enter Tryz.func54, Tryz.ntmps54
  go_wp2_with (first | ((with_reducible refine gate_dst (N := 1) rfl ?_); refine Own.be (N := 1) (cs := #[.int .i64 a0_0, .string a0_1, .int .i64 a0_2, .slice A0_3 l0_3.length c0_3]) (t := 41) ?_; intro gb169 hg w5 hbox hb; have BK169 := Aside0.mk hbox; have GW169 := (Own.gs hg : Aside0 (w.heap.size ≤ gb169)); have GE169 := GW169; replace HB := Own.bs hb; clear hb hbox hg; obtain ⟨z6_0, z6_1, z6_2, z6_3, y6_0, y6_1, y6_2, y6_3⟩ := Own.box4 BK169.out) | ((with_reducible refine gate_callee (f := 64) rfl ?_); refine goesL_ (some 4) rfl rfl Tryz.func64 (by kernel_rfl) rfl #[.agg #[.int .i64 a0_0, .string a0_1, .int .i64 a0_2, .slice A0_3 l0_3.length c0_3]] rfl Own.ha ?_; (with_reducible refine (spec_l5Forms.calls k a0_0 a0_1 a0_2 _ _ l0_3 true _ ?side1 ?side2 A2.out).mono ?_); (case side1 => exact Kd.C_below HR0_3.out Own.bl); (case side2 => exact HC0_3.out); rintro e w7 ⟨rfl, hb⟩; refine ⟨_, rfl, ?_⟩; replace BK169 := Own.bb BK169.out hb; replace HB := Own.bs hb; (try clear hb); obtain ⟨z8_0, z8_1, z8_2, z8_3, y8_0, y8_1, y8_2, y8_3⟩ := Own.box4 BK169.out) | (go_at_call 65; (with_reducible refine (spec_l5Size.calls k a0_0 a0_1 a0_2 _ _ l0_3 t171 _ ?side1 ?side2 A4.out).mono ?_); (case side1 => exact Kd.C_below HR0_3.out Own.bl); (case side2 => exact HC0_3.out); rintro e w9 ⟨rfl, hb⟩; replace BK169 := Own.bb BK169.out hb; replace HB := Own.bs hb; (try clear hb)))
  go_ret
  exact ⟨Own.rr, Own.bl⟩
 obtain rfl := Option.some.inj H
 go_enter Tryz.func54, Tryz.ntmps54
 go_wp2_with (first | ((with_reducible refine gate_dst (N := 1) rfl ?_); refine Own.be (N := 1) (cs := #[.int .i64 a0_0, .string a0_1, .int .i64 a0_2, .slice A0_3 l0_3.length c0_3]) (t := 41) ?_; intro gb169 hg w10 hbox hb; have BK169 := Aside0.mk hbox; have GW169 := (Own.gs hg : Aside0 (w.heap.size ≤ gb169)); have GE169 := GW169; replace HB := Own.bs hb; clear hb hbox hg; obtain ⟨z11_0, z11_1, z11_2, z11_3, y11_0, y11_1, y11_2, y11_3⟩ := Own.box4 BK169.out) | ((with_reducible refine gate_callee (f := 64) rfl ?_); refine goesL_ (some 4) rfl rfl Tryz.func64 (by kernel_rfl) rfl #[.agg #[.int .i64 a0_0, .string a0_1, .int .i64 a0_2, .slice A0_3 l0_3.length c0_3]] rfl Own.ha ?_; (with_reducible refine (spec_l5Forms.calls k a0_0 a0_1 a0_2 _ _ l0_3 false _ ?side1 ?side2 A2.out).mono ?_); (case side1 => exact Kd.C_below HR0_3.out Own.bl); (case side2 => exact HC0_3.out); rintro e w12 ⟨rfl, hb⟩; refine ⟨_, rfl, ?_⟩; replace BK169 := Own.bb BK169.out hb; replace HB := Own.bs hb; (try clear hb)))
 go_ret
 exact ⟨Own.rr, Own.bl⟩
end Go.Proofs.YtghcjheaicmpbaaGreatDoor.QFnExactAddClause
