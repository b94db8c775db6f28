-- Written by a program of this session out of the translation; Lean checks it.
import Derived.Test.YtnpenfficbdlmaaDoorQFnExactSimplifyConditionx0
import Derived.Test.YtnpenfficbdlmaaDoorQFnExactSimplifyConditionx1
namespace Go.Proofs.YtnpenfficbdlmaaDoor.QFnExactSimplifyCondition
open Go.RowKit Go.Proofs.YtnpenfficbdlmaaDoorW.PrintWords Go.Proofs.YtnpenfficbdlmaaDoorW.PrintLast Go.Proofs.YtnpenfficbdlmaaDoorW.PrintMore
attribute [local go_sem] Instr.field asAgg Own.str_leq Own.str_gtr Own.str_geq
attribute [local go_sem] max2_int min2_int max_two min_two max_three min_three max_four min_four   -- for this text's walks alone
set_option linter.unusedVariables false
set_option linter.unusedSimpArgs false

/-! ### spec_l5Form: function 42 -/
def spec_l5Form.f (k : Nat) (a0_0 : Int) (a0_1 : ByteArray) (a0_2 : Int) (l0_3 : List (S28)) : Option (Bool) := if a0_0 = 1 then (if (l0_3.length : Int) = 0 then (if a0_1.toList = ([] : List UInt8) then (some (a0_2 == 0)) else (some false)) else (some false)) else (if a0_0 = 2 then (if (l0_3.length : Int) = 0 then ((spec_l5Name.f k a0_1).bind fun t109 => (if t109 = true then (some (a0_2 == 0)) else (some false))) else (some false)) else (if a0_0 = 3 then (if (l0_3.length : Int) = 0 then (if a0_1.toList = ([] : List UInt8) then ((spec_l3Good.f a0_2).bind fun t110 => (some t110)) else (some false)) else (some false)) else (if a0_0 = 4 then (if (l0_3.length : Int) = 1 then (if a0_1.toList = ([] : List UInt8) then (some (a0_2 == 0)) else (some false)) else (some false)) else (if a0_0 = 5 then (if (l0_3.length : Int) = 2 then (if a0_1.toList = ([] : List UInt8) then (some (a0_2 == 0)) else (some false)) else (some false)) else (if a0_0 = 6 then (if (l0_3.length : Int) = 2 then (if a0_1.toList = ([] : List UInt8) then (some (a0_2 == 0)) else (some false)) else (some false)) else (some false))))))
theorem spec_l5Form.mono : ∀ a0 a1 a2 a3 k, LeO (spec_l5Form.f k a0 a1 a2 a3) (spec_l5Form.f (k + 1) a0 a1 a2 a3) := by
 intro a0 a1 a2 a3 k
 unfold spec_l5Form.f
 repeat' first
   | (with_reducible first | exact spec_l5Name.mono _ _ | exact LeO.refl _ | exact LeO.none _ | refine LeO.ite ?_ ?_ | refine LeO.bind ?_ (fun _ => ?_))
set_option maxHeartbeats 8000000 in
set_option maxRecDepth 100000 in
theorem spec_l5Form.calls (k : Nat) (a0_0 : Int) (a0_1 : ByteArray) (a0_2 : Int) (A0_3 : Option Addr) (c0_3 : Nat) (l0_3 : List (S28)) (r : Bool) (w : World) (hr0_3 : Kd.C k28 w A0_3 l0_3.length l0_3) (hc0_3 : l0_3.length ≤ c0_3) (h : spec_l5Form.f k a0_0 a0_1 a0_2 l0_3 = some r) :
  Calls Tryd.prog 42 #[.agg #[.int .i64 a0_0, .string a0_1, .int .i64 a0_2, .slice A0_3 l0_3.length c0_3]] w fun e w' => e = .returned (.bool r) ∧ Below w.heap.size w w' := by
 have hu28 := Tryd.underlying28
 have HR0_3 := Aside0.mk hr0_3
 have HC0_3 := Aside0.mk hc0_3
 clear hr0_3 hc0_3
 have HB := Aside0.mk (Below.refl w.heap.size w)
 have H : (if a0_0 = 1 then (if (l0_3.length : Int) = 0 then (if a0_1.toList = ([] : List UInt8) then (some (a0_2 == 0)) else (some false)) else (some false)) else (if a0_0 = 2 then (if (l0_3.length : Int) = 0 then ((spec_l5Name.f k a0_1).bind fun t109 => (if t109 = true then (some (a0_2 == 0)) else (some false))) else (some false)) else (if a0_0 = 3 then (if (l0_3.length : Int) = 0 then (if a0_1.toList = ([] : List UInt8) then ((spec_l3Good.f a0_2).bind fun t110 => (some t110)) else (some false)) else (some false)) else (if a0_0 = 4 then (if (l0_3.length : Int) = 1 then (if a0_1.toList = ([] : List UInt8) then (some (a0_2 == 0)) else (some false)) else (some false)) else (if a0_0 = 5 then (if (l0_3.length : Int) = 2 then (if a0_1.toList = ([] : List UInt8) then (some (a0_2 == 0)) else (some false)) else (some false)) else (if a0_0 = 6 then (if (l0_3.length : Int) = 2 then (if a0_1.toList = ([] : List UInt8) then (some (a0_2 == 0)) else (some false)) else (some false)) else (some false))))))) = some r := h
 clear h
 by_cases c2 : a0_0 = 1
 ·
  rw [if_pos c2] at H
  have c2b0 : (a0_0 == 1) = true := beq_iff_eq.mpr c2
  have c2b1 : (a0_0 != 1) = false := bne_eq_false_iff_eq.mpr c2
  clear c2
  by_cases c3 : (l0_3.length : Int) = 0
  rotate_left
  ·
   rw [if_neg c3] at H
   have c3b0 : ((l0_3.length : Int) == 0) = false := beq_eq_false_iff_ne.mpr c3
   have c3b1 : ((l0_3.length : Int) != 0) = true := bne_iff_ne.mpr c3
   have c3b2 : ¬ (l0_3 = []) := fun h_ => c3 (by rw [h_]; rfl)
   obtain rfl := Option.some.inj H
   go_enter Tryd.func42, Tryd.ntmps42
   go_wp2_with (first | ((with_reducible refine gate_dst (N := 1) rfl ?_); refine Own.be (N := 1) (cs := #[.int .i64 a0_0, .string a0_1, .int .i64 a0_2, .slice A0_3 l0_3.length c0_3]) (t := 28) ?_; intro gb108 hg w9 hbox hb; have BK108 := Aside0.mk hbox; have GW108 := (Own.gs hg : Aside0 (w.heap.size ≤ gb108)); have GE108 := GW108; replace HB := Own.bs hb; clear hb hbox hg; obtain ⟨z10_0, z10_1, z10_2, z10_3, y10_0, y10_1, y10_2, y10_3⟩ := Own.box4 BK108.out))
   go_ret
   exact ⟨Own.rr, Own.bl⟩
  rw [if_pos c3] at H
  have c3b0 : ((l0_3.length : Int) == 0) = true := beq_iff_eq.mpr c3
  have c3b1 : ((l0_3.length : Int) != 0) = false := bne_eq_false_iff_eq.mpr c3
  clear c3
  by_cases c4 : a0_1.toList = ([] : List UInt8)
  rotate_left
  ·
   rw [if_neg c4] at H
   have c4b0 : (a0_1.toList == ([] : List UInt8)) = false := beq_eq_false_iff_ne.mpr c4
   have c4b1 : (a0_1.toList != ([] : List UInt8)) = true := bne_iff_ne.mpr c4
   obtain rfl := Option.some.inj H
   go_enter Tryd.func42, Tryd.ntmps42
   go_wp2_with (first | ((with_reducible refine gate_dst (N := 1) rfl ?_); refine Own.be (N := 1) (cs := #[.int .i64 a0_0, .string a0_1, .int .i64 a0_2, .slice A0_3 l0_3.length c0_3]) (t := 28) ?_; intro gb108 hg w7 hbox hb; have BK108 := Aside0.mk hbox; have GW108 := (Own.gs hg : Aside0 (w.heap.size ≤ gb108)); have GE108 := GW108; replace HB := Own.bs hb; clear hb hbox hg; obtain ⟨z8_0, z8_1, z8_2, z8_3, y8_0, y8_1, y8_2, y8_3⟩ := Own.box4 BK108.out))
   go_ret
   exact ⟨Own.rr, Own.bl⟩
  rw [if_pos c4] at H
  have c4b0 : (a0_1.toList == ([] : List UInt8)) = true := beq_iff_eq.mpr c4
  have c4b1 : (a0_1.toList != ([] : List UInt8)) = false := bne_eq_false_iff_eq.mpr c4
  clear c4
  obtain rfl := Option.some.inj H
  go_enter Tryd.func42, Tryd.ntmps42
  go_wp2_with (first | ((with_reducible refine gate_dst (N := 1) rfl ?_); refine Own.be (N := 1) (cs := #[.int .i64 a0_0, .string a0_1, .int .i64 a0_2, .slice A0_3 l0_3.length c0_3]) (t := 28) ?_; intro gb108 hg w5 hbox hb; have BK108 := Aside0.mk hbox; have GW108 := (Own.gs hg : Aside0 (w.heap.size ≤ gb108)); have GE108 := GW108; replace HB := Own.bs hb; clear hb hbox hg; obtain ⟨z6_0, z6_1, z6_2, z6_3, y6_0, y6_1, y6_2, y6_3⟩ := Own.box4 BK108.out))
  go_ret
  exact ⟨Own.rr, Own.bl⟩
 rw [if_neg c2] at H
 have c2b0 : (a0_0 == 1) = false := beq_eq_false_iff_ne.mpr c2
 have c2b1 : (a0_0 != 1) = true := bne_iff_ne.mpr c2
 by_cases c11 : a0_0 = 2
 ·
  rw [if_pos c11] at H
  have c11b0 : (a0_0 == 2) = true := beq_iff_eq.mpr c11
  have c11b1 : (a0_0 != 2) = false := bne_eq_false_iff_eq.mpr c11
  clear c11
  by_cases c12 : (l0_3.length : Int) = 0
  rotate_left
  ·
   rw [if_neg c12] at H
   have c12b0 : ((l0_3.length : Int) == 0) = false := beq_eq_false_iff_ne.mpr c12
   have c12b1 : ((l0_3.length : Int) != 0) = true := bne_iff_ne.mpr c12
   have c12b2 : ¬ (l0_3 = []) := fun h_ => c12 (by rw [h_]; rfl)
   obtain rfl := Option.some.inj H
   go_enter Tryd.func42, Tryd.ntmps42
   go_wp2_with (first | ((with_reducible refine gate_dst (N := 1) rfl ?_); refine Own.be (N := 1) (cs := #[.int .i64 a0_0, .string a0_1, .int .i64 a0_2, .slice A0_3 l0_3.length c0_3]) (t := 28) ?_; intro gb108 hg w19 hbox hb; have BK108 := Aside0.mk hbox; have GW108 := (Own.gs hg : Aside0 (w.heap.size ≤ gb108)); have GE108 := GW108; replace HB := Own.bs hb; clear hb hbox hg; obtain ⟨z20_0, z20_1, z20_2, z20_3, y20_0, y20_1, y20_2, y20_3⟩ := Own.box4 BK108.out))
   go_ret
   exact ⟨Own.rr, Own.bl⟩
  rw [if_pos c12] at H
  have c12b0 : ((l0_3.length : Int) == 0) = true := beq_iff_eq.mpr c12
  have c12b1 : ((l0_3.length : Int) != 0) = false := bne_eq_false_iff_eq.mpr c12
  clear c12
  replace H := Own.bd H; obtain ⟨t109, A13, H⟩ := H
  replace H := Own.ifu H; obtain ⟨rfl, H⟩ | ⟨rfl, H⟩ := H
  ·
   obtain rfl := Option.some.inj H
   go_enter Tryd.func42, Tryd.ntmps42
   go_wp2_with (first | ((with_reducible refine gate_dst (N := 1) rfl ?_); refine Own.be (N := 1) (cs := #[.int .i64 a0_0, .string a0_1, .int .i64 a0_2, .slice A0_3 l0_3.length c0_3]) (t := 28) ?_; intro gb108 hg w15 hbox hb; have BK108 := Aside0.mk hbox; have GW108 := (Own.gs hg : Aside0 (w.heap.size ≤ gb108)); have GE108 := GW108; replace HB := Own.bs hb; clear hb hbox hg; obtain ⟨z16_0, z16_1, z16_2, z16_3, y16_0, y16_1, y16_2, y16_3⟩ := Own.box4 BK108.out) | (go_at_call 51; (with_reducible refine (spec_l5Name.calls k a0_1 true _ A13.out).mono ?_); rintro e w' ⟨rfl, ⟨nd, rfl⟩⟩))
   go_ret
   exact ⟨Own.rr, Own.bl⟩
  obtain rfl := Option.some.inj H
  go_enter Tryd.func42, Tryd.ntmps42
  go_wp2_with (first | ((with_reducible refine gate_dst (N := 1) rfl ?_); refine Own.be (N := 1) (cs := #[.int .i64 a0_0, .string a0_1, .int .i64 a0_2, .slice A0_3 l0_3.length c0_3]) (t := 28) ?_; intro gb108 hg w17 hbox hb; have BK108 := Aside0.mk hbox; have GW108 := (Own.gs hg : Aside0 (w.heap.size ≤ gb108)); have GE108 := GW108; replace HB := Own.bs hb; clear hb hbox hg; obtain ⟨z18_0, z18_1, z18_2, z18_3, y18_0, y18_1, y18_2, y18_3⟩ := Own.box4 BK108.out) | (go_at_call 51; (with_reducible refine (spec_l5Name.calls k a0_1 false _ A13.out).mono ?_); rintro e w' ⟨rfl, ⟨nd, rfl⟩⟩))
  go_ret
  exact ⟨Own.rr, Own.bl⟩
 rw [if_neg c11] at H
 have c11b0 : (a0_0 == 2) = false := beq_eq_false_iff_ne.mpr c11
 have c11b1 : (a0_0 != 2) = true := bne_iff_ne.mpr c11
 by_cases c21 : a0_0 = 3
 ·
  rw [if_pos c21] at H
  have c21b0 : (a0_0 == 3) = true := beq_iff_eq.mpr c21
  have c21b1 : (a0_0 != 3) = false := bne_eq_false_iff_eq.mpr c21
  clear c21
  by_cases c22 : (l0_3.length : Int) = 0
  rotate_left
  ·
   rw [if_neg c22] at H
   have c22b0 : ((l0_3.length : Int) == 0) = false := beq_eq_false_iff_ne.mpr c22
   have c22b1 : ((l0_3.length : Int) != 0) = true := bne_iff_ne.mpr c22
   have c22b2 : ¬ (l0_3 = []) := fun h_ => c22 (by rw [h_]; rfl)
   obtain rfl := Option.some.inj H
   go_enter Tryd.func42, Tryd.ntmps42
   go_wp2_with (first | ((with_reducible refine gate_dst (N := 1) rfl ?_); refine Own.be (N := 1) (cs := #[.int .i64 a0_0, .string a0_1, .int .i64 a0_2, .slice A0_3 l0_3.length c0_3]) (t := 28) ?_; intro gb108 hg w29 hbox hb; have BK108 := Aside0.mk hbox; have GW108 := (Own.gs hg : Aside0 (w.heap.size ≤ gb108)); have GE108 := GW108; replace HB := Own.bs hb; clear hb hbox hg; obtain ⟨z30_0, z30_1, z30_2, z30_3, y30_0, y30_1, y30_2, y30_3⟩ := Own.box4 BK108.out))
   go_ret
   exact ⟨Own.rr, Own.bl⟩
  rw [if_pos c22] at H
  have c22b0 : ((l0_3.length : Int) == 0) = true := beq_iff_eq.mpr c22
  have c22b1 : ((l0_3.length : Int) != 0) = false := bne_eq_false_iff_eq.mpr c22
  clear c22
  by_cases c23 : a0_1.toList = ([] : List UInt8)
  rotate_left
  ·
   rw [if_neg c23] at H
   have c23b0 : (a0_1.toList == ([] : List UInt8)) = false := beq_eq_false_iff_ne.mpr c23
   have c23b1 : (a0_1.toList != ([] : List UInt8)) = true := bne_iff_ne.mpr c23
   obtain rfl := Option.some.inj H
   go_enter Tryd.func42, Tryd.ntmps42
   go_wp2_with (first | ((with_reducible refine gate_dst (N := 1) rfl ?_); refine Own.be (N := 1) (cs := #[.int .i64 a0_0, .string a0_1, .int .i64 a0_2, .slice A0_3 l0_3.length c0_3]) (t := 28) ?_; intro gb108 hg w27 hbox hb; have BK108 := Aside0.mk hbox; have GW108 := (Own.gs hg : Aside0 (w.heap.size ≤ gb108)); have GE108 := GW108; replace HB := Own.bs hb; clear hb hbox hg; obtain ⟨z28_0, z28_1, z28_2, z28_3, y28_0, y28_1, y28_2, y28_3⟩ := Own.box4 BK108.out))
   go_ret
   exact ⟨Own.rr, Own.bl⟩
  rw [if_pos c23] at H
  have c23b0 : (a0_1.toList == ([] : List UInt8)) = true := beq_iff_eq.mpr c23
  have c23b1 : (a0_1.toList != ([] : List UInt8)) = false := bne_eq_false_iff_eq.mpr c23
  clear c23
  replace H := Own.bd H; obtain ⟨t110, A24, H⟩ := H
  obtain rfl := Option.some.inj H
  go_enter Tryd.func42, Tryd.ntmps42
  go_wp2_with (first | ((with_reducible refine gate_dst (N := 1) rfl ?_); refine Own.be (N := 1) (cs := #[.int .i64 a0_0, .string a0_1, .int .i64 a0_2, .slice A0_3 l0_3.length c0_3]) (t := 28) ?_; intro gb108 hg w25 hbox hb; have BK108 := Aside0.mk hbox; have GW108 := (Own.gs hg : Aside0 (w.heap.size ≤ gb108)); have GE108 := GW108; replace HB := Own.bs hb; clear hb hbox hg; obtain ⟨z26_0, z26_1, z26_2, z26_3, y26_0, y26_1, y26_2, y26_3⟩ := Own.box4 BK108.out) | (go_at_call 52; (with_reducible refine (spec_l3Good.calls a0_2 t110 _ A24.out).mono ?_); rintro e w' ⟨rfl, ⟨nd, rfl⟩⟩))
  go_ret
  exact ⟨Own.rr, Own.bl⟩
 rw [if_neg c21] at H
 have c21b0 : (a0_0 == 3) = false := beq_eq_false_iff_ne.mpr c21
 have c21b1 : (a0_0 != 3) = true := bne_iff_ne.mpr c21
 by_cases c31 : a0_0 = 4
 ·
  rw [if_pos c31] at H
  have c31b0 : (a0_0 == 4) = true := beq_iff_eq.mpr c31
  have c31b1 : (a0_0 != 4) = false := bne_eq_false_iff_eq.mpr c31
  clear c31
  by_cases c32 : (l0_3.length : Int) = 1
  rotate_left
  ·
   rw [if_neg c32] at H
   have c32b0 : ((l0_3.length : Int) == 1) = false := beq_eq_false_iff_ne.mpr c32
   have c32b1 : ((l0_3.length : Int) != 1) = true := bne_iff_ne.mpr c32
   obtain rfl := Option.some.inj H
   go_enter Tryd.func42, Tryd.ntmps42
   go_wp2_with (first | ((with_reducible refine gate_dst (N := 1) rfl ?_); refine Own.be (N := 1) (cs := #[.int .i64 a0_0, .string a0_1, .int .i64 a0_2, .slice A0_3 l0_3.length c0_3]) (t := 28) ?_; intro gb108 hg w38 hbox hb; have BK108 := Aside0.mk hbox; have GW108 := (Own.gs hg : Aside0 (w.heap.size ≤ gb108)); have GE108 := GW108; replace HB := Own.bs hb; clear hb hbox hg; obtain ⟨z39_0, z39_1, z39_2, z39_3, y39_0, y39_1, y39_2, y39_3⟩ := Own.box4 BK108.out))
   go_ret
   exact ⟨Own.rr, Own.bl⟩
  rw [if_pos c32] at H
  have c32b0 : ((l0_3.length : Int) == 1) = true := beq_iff_eq.mpr c32
  have c32b1 : ((l0_3.length : Int) != 1) = false := bne_eq_false_iff_eq.mpr c32
  clear c32
  by_cases c33 : a0_1.toList = ([] : List UInt8)
  rotate_left
  ·
   rw [if_neg c33] at H
   have c33b0 : (a0_1.toList == ([] : List UInt8)) = false := beq_eq_false_iff_ne.mpr c33
   have c33b1 : (a0_1.toList != ([] : List UInt8)) = true := bne_iff_ne.mpr c33
   obtain rfl := Option.some.inj H
   go_enter Tryd.func42, Tryd.ntmps42
   go_wp2_with (first | ((with_reducible refine gate_dst (N := 1) rfl ?_); refine Own.be (N := 1) (cs := #[.int .i64 a0_0, .string a0_1, .int .i64 a0_2, .slice A0_3 l0_3.length c0_3]) (t := 28) ?_; intro gb108 hg w36 hbox hb; have BK108 := Aside0.mk hbox; have GW108 := (Own.gs hg : Aside0 (w.heap.size ≤ gb108)); have GE108 := GW108; replace HB := Own.bs hb; clear hb hbox hg; obtain ⟨z37_0, z37_1, z37_2, z37_3, y37_0, y37_1, y37_2, y37_3⟩ := Own.box4 BK108.out))
   go_ret
   exact ⟨Own.rr, Own.bl⟩
  rw [if_pos c33] at H
  have c33b0 : (a0_1.toList == ([] : List UInt8)) = true := beq_iff_eq.mpr c33
  have c33b1 : (a0_1.toList != ([] : List UInt8)) = false := bne_eq_false_iff_eq.mpr c33
  clear c33
  obtain rfl := Option.some.inj H
  go_enter Tryd.func42, Tryd.ntmps42
  go_wp2_with (first | ((with_reducible refine gate_dst (N := 1) rfl ?_); refine Own.be (N := 1) (cs := #[.int .i64 a0_0, .string a0_1, .int .i64 a0_2, .slice A0_3 l0_3.length c0_3]) (t := 28) ?_; intro gb108 hg w34 hbox hb; have BK108 := Aside0.mk hbox; have GW108 := (Own.gs hg : Aside0 (w.heap.size ≤ gb108)); have GE108 := GW108; replace HB := Own.bs hb; clear hb hbox hg; obtain ⟨z35_0, z35_1, z35_2, z35_3, y35_0, y35_1, y35_2, y35_3⟩ := Own.box4 BK108.out))
  go_ret
  exact ⟨Own.rr, Own.bl⟩
 rw [if_neg c31] at H
 have c31b0 : (a0_0 == 4) = false := beq_eq_false_iff_ne.mpr c31
 have c31b1 : (a0_0 != 4) = true := bne_iff_ne.mpr c31
 by_cases c40 : a0_0 = 5
 ·
  rw [if_pos c40] at H
  have c40b0 : (a0_0 == 5) = true := beq_iff_eq.mpr c40
  have c40b1 : (a0_0 != 5) = false := bne_eq_false_iff_eq.mpr c40
  clear c40
  by_cases c41 : (l0_3.length : Int) = 2
  rotate_left
  ·
   rw [if_neg c41] at H
   have c41b0 : ((l0_3.length : Int) == 2) = false := beq_eq_false_iff_ne.mpr c41
   have c41b1 : ((l0_3.length : Int) != 2) = true := bne_iff_ne.mpr c41
   obtain rfl := Option.some.inj H
   go_enter Tryd.func42, Tryd.ntmps42
   go_wp2_with (first | ((with_reducible refine gate_dst (N := 1) rfl ?_); refine Own.be (N := 1) (cs := #[.int .i64 a0_0, .string a0_1, .int .i64 a0_2, .slice A0_3 l0_3.length c0_3]) (t := 28) ?_; intro gb108 hg w47 hbox hb; have BK108 := Aside0.mk hbox; have GW108 := (Own.gs hg : Aside0 (w.heap.size ≤ gb108)); have GE108 := GW108; replace HB := Own.bs hb; clear hb hbox hg; obtain ⟨z48_0, z48_1, z48_2, z48_3, y48_0, y48_1, y48_2, y48_3⟩ := Own.box4 BK108.out))
   go_ret
   exact ⟨Own.rr, Own.bl⟩
  rw [if_pos c41] at H
  have c41b0 : ((l0_3.length : Int) == 2) = true := beq_iff_eq.mpr c41
  have c41b1 : ((l0_3.length : Int) != 2) = false := bne_eq_false_iff_eq.mpr c41
  clear c41
  by_cases c42 : a0_1.toList = ([] : List UInt8)
  rotate_left
  ·
   rw [if_neg c42] at H
   have c42b0 : (a0_1.toList == ([] : List UInt8)) = false := beq_eq_false_iff_ne.mpr c42
   have c42b1 : (a0_1.toList != ([] : List UInt8)) = true := bne_iff_ne.mpr c42
   obtain rfl := Option.some.inj H
   go_enter Tryd.func42, Tryd.ntmps42
   go_wp2_with (first | ((with_reducible refine gate_dst (N := 1) rfl ?_); refine Own.be (N := 1) (cs := #[.int .i64 a0_0, .string a0_1, .int .i64 a0_2, .slice A0_3 l0_3.length c0_3]) (t := 28) ?_; intro gb108 hg w45 hbox hb; have BK108 := Aside0.mk hbox; have GW108 := (Own.gs hg : Aside0 (w.heap.size ≤ gb108)); have GE108 := GW108; replace HB := Own.bs hb; clear hb hbox hg; obtain ⟨z46_0, z46_1, z46_2, z46_3, y46_0, y46_1, y46_2, y46_3⟩ := Own.box4 BK108.out))
   go_ret
   exact ⟨Own.rr, Own.bl⟩
  rw [if_pos c42] at H
  have c42b0 : (a0_1.toList == ([] : List UInt8)) = true := beq_iff_eq.mpr c42
  have c42b1 : (a0_1.toList != ([] : List UInt8)) = false := bne_eq_false_iff_eq.mpr c42
  clear c42
  obtain rfl := Option.some.inj H
  go_enter Tryd.func42, Tryd.ntmps42
  go_wp2_with (first | ((with_reducible refine gate_dst (N := 1) rfl ?_); refine Own.be (N := 1) (cs := #[.int .i64 a0_0, .string a0_1, .int .i64 a0_2, .slice A0_3 l0_3.length c0_3]) (t := 28) ?_; intro gb108 hg w43 hbox hb; have BK108 := Aside0.mk hbox; have GW108 := (Own.gs hg : Aside0 (w.heap.size ≤ gb108)); have GE108 := GW108; replace HB := Own.bs hb; clear hb hbox hg; obtain ⟨z44_0, z44_1, z44_2, z44_3, y44_0, y44_1, y44_2, y44_3⟩ := Own.box4 BK108.out))
  go_ret
  exact ⟨Own.rr, Own.bl⟩
 rw [if_neg c40] at H
 have c40b0 : (a0_0 == 5) = false := beq_eq_false_iff_ne.mpr c40
 have c40b1 : (a0_0 != 5) = true := bne_iff_ne.mpr c40
 by_cases c49 : a0_0 = 6
 rotate_left
 ·
  rw [if_neg c49] at H
  have c49b0 : (a0_0 == 6) = false := beq_eq_false_iff_ne.mpr c49
  have c49b1 : (a0_0 != 6) = true := bne_iff_ne.mpr c49
  obtain rfl := Option.some.inj H
  go_enter Tryd.func42, Tryd.ntmps42
  go_wp2_with (first | ((with_reducible refine gate_dst (N := 1) rfl ?_); refine Own.be (N := 1) (cs := #[.int .i64 a0_0, .string a0_1, .int .i64 a0_2, .slice A0_3 l0_3.length c0_3]) (t := 28) ?_; intro gb108 hg w58 hbox hb; have BK108 := Aside0.mk hbox; have GW108 := (Own.gs hg : Aside0 (w.heap.size ≤ gb108)); have GE108 := GW108; replace HB := Own.bs hb; clear hb hbox hg; obtain ⟨z59_0, z59_1, z59_2, z59_3, y59_0, y59_1, y59_2, y59_3⟩ := Own.box4 BK108.out))
  go_ret
  exact ⟨Own.rr, Own.bl⟩
 rw [if_pos c49] at H
 have c49b0 : (a0_0 == 6) = true := beq_iff_eq.mpr c49
 have c49b1 : (a0_0 != 6) = false := bne_eq_false_iff_eq.mpr c49
 clear c49
 by_cases c50 : (l0_3.length : Int) = 2
 rotate_left
 ·
  rw [if_neg c50] at H
  have c50b0 : ((l0_3.length : Int) == 2) = false := beq_eq_false_iff_ne.mpr c50
  have c50b1 : ((l0_3.length : Int) != 2) = true := bne_iff_ne.mpr c50
  obtain rfl := Option.some.inj H
  go_enter Tryd.func42, Tryd.ntmps42
  go_wp2_with (first | ((with_reducible refine gate_dst (N := 1) rfl ?_); refine Own.be (N := 1) (cs := #[.int .i64 a0_0, .string a0_1, .int .i64 a0_2, .slice A0_3 l0_3.length c0_3]) (t := 28) ?_; intro gb108 hg w56 hbox hb; have BK108 := Aside0.mk hbox; have GW108 := (Own.gs hg : Aside0 (w.heap.size ≤ gb108)); have GE108 := GW108; replace HB := Own.bs hb; clear hb hbox hg; obtain ⟨z57_0, z57_1, z57_2, z57_3, y57_0, y57_1, y57_2, y57_3⟩ := Own.box4 BK108.out))
  go_ret
  exact ⟨Own.rr, Own.bl⟩
 rw [if_pos c50] at H
 have c50b0 : ((l0_3.length : Int) == 2) = true := beq_iff_eq.mpr c50
 have c50b1 : ((l0_3.length : Int) != 2) = false := bne_eq_false_iff_eq.mpr c50
 clear c50
 by_cases c51 : a0_1.toList = ([] : List UInt8)
 rotate_left
 ·
  rw [if_neg c51] at H
  have c51b0 : (a0_1.toList == ([] : List UInt8)) = false := beq_eq_false_iff_ne.mpr c51
  have c51b1 : (a0_1.toList != ([] : List UInt8)) = true := bne_iff_ne.mpr c51
  obtain rfl := Option.some.inj H
  go_enter Tryd.func42, Tryd.ntmps42
  go_wp2_with (first | ((with_reducible refine gate_dst (N := 1) rfl ?_); refine Own.be (N := 1) (cs := #[.int .i64 a0_0, .string a0_1, .int .i64 a0_2, .slice A0_3 l0_3.length c0_3]) (t := 28) ?_; intro gb108 hg w54 hbox hb; have BK108 := Aside0.mk hbox; have GW108 := (Own.gs hg : Aside0 (w.heap.size ≤ gb108)); have GE108 := GW108; replace HB := Own.bs hb; clear hb hbox hg; obtain ⟨z55_0, z55_1, z55_2, z55_3, y55_0, y55_1, y55_2, y55_3⟩ := Own.box4 BK108.out))
  go_ret
  exact ⟨Own.rr, Own.bl⟩
 rw [if_pos c51] at H
 have c51b0 : (a0_1.toList == ([] : List UInt8)) = true := beq_iff_eq.mpr c51
 have c51b1 : (a0_1.toList != ([] : List UInt8)) = false := bne_eq_false_iff_eq.mpr c51
 clear c51
 obtain rfl := Option.some.inj H
 go_enter Tryd.func42, Tryd.ntmps42
 go_wp2_with (first | ((with_reducible refine gate_dst (N := 1) rfl ?_); refine Own.be (N := 1) (cs := #[.int .i64 a0_0, .string a0_1, .int .i64 a0_2, .slice A0_3 l0_3.length c0_3]) (t := 28) ?_; intro gb108 hg w52 hbox hb; have BK108 := Aside0.mk hbox; have GW108 := (Own.gs hg : Aside0 (w.heap.size ≤ gb108)); have GE108 := GW108; replace HB := Own.bs hb; clear hb hbox hg; obtain ⟨z53_0, z53_1, z53_2, z53_3, y53_0, y53_1, y53_2, y53_3⟩ := Own.box4 BK108.out))
 go_ret
 exact ⟨Own.rr, Own.bl⟩

/-! ### spec_l5Forms: function 31 -/
mutual
def spec_l5Forms.l0 : Nat → Int → Int → ByteArray → Int → List (S28) → Option (Bool)
 | 0, _, _, _, _, _ => none
 | k + 1, x3, x112000, x112001, x112002, x112003 => if x3 < (x112003.length : Int) then (if 0 ≤ x3 then ((spec_l5Forms.f k ((rd_T28 x112003 x3).f0) ((rd_T28 x112003 x3).f1) ((rd_T28 x112003 x3).f2) ((rd_T28 x112003 x3).f3)).bind fun t114 => (if t114 = true then (spec_l5Forms.l0 k (wrap64 (x3 + 1)) x112000 x112001 x112002 x112003) else (some false))) else (none)) else (some true)
def spec_l5Forms.f : Nat → Int → ByteArray → Int → List (S28) → Option (Bool)
 | 0, _, _, _, _ => none
 | k + 1, a0_0, a0_1, a0_2, l0_3 => (spec_l5Form.f k a0_0 a0_1 a0_2 l0_3).bind fun t112 => (if t112 = true then (spec_l5Forms.l0 k 0 a0_0 a0_1 a0_2 l0_3) else (some false))
end
theorem spec_l5Forms.mono_l : ∀ k, (∀ y0 y1 y2 y3, LeO (spec_l5Forms.f k y0 y1 y2 y3) (spec_l5Forms.f (k + 1) y0 y1 y2 y3)) ∧ (∀ y0 y1 y2 y3 y4, LeO (spec_l5Forms.l0 k y0 y1 y2 y3 y4) (spec_l5Forms.l0 (k + 1) y0 y1 y2 y3 y4))
 | 0 => ⟨fun _ _ _ _ r h => by simp [spec_l5Forms.f] at h, fun _ _ _ _ _ r h => by simp [spec_l5Forms.l0] at h⟩
 | k + 1 => by
  obtain ⟨ih0, ih1⟩ := spec_l5Forms.mono_l k
  refine ⟨?_, ?_⟩
  ·
   intro y0 y1 y2 y3
   unfold spec_l5Forms.f
   repeat' first
   | (with_reducible first | exact ih0 _ _ _ _ | exact ih1 _ _ _ _ _ | exact spec_l5Form.mono _ _ _ _ _ | exact LeO.refl _ | exact LeO.none _ | refine LeO.ite ?_ ?_ | refine LeO.bind ?_ (fun _ => ?_))
  ·
   intro y0 y1 y2 y3 y4
   unfold spec_l5Forms.l0
   repeat' first
   | (with_reducible first | exact ih0 _ _ _ _ | exact ih1 _ _ _ _ _ | exact spec_l5Form.mono _ _ _ _ _ | exact LeO.refl _ | exact LeO.none _ | refine LeO.ite ?_ ?_ | refine LeO.bind ?_ (fun _ => ?_))
theorem spec_l5Forms.mono : ∀ a0 a1 a2 a3 k, LeO (spec_l5Forms.f k a0 a1 a2 a3) (spec_l5Forms.f (k + 1) a0 a1 a2 a3) := by
 intro a0 a1 a2 a3 k
 obtain ⟨ih0, ih1⟩ := spec_l5Forms.mono_l k
 exact ih0 a0 a1 a2 a3
set_option maxHeartbeats 8000000 in
set_option maxRecDepth 100000 in
theorem spec_l5Forms.calls (k : Nat) : ∀ (a0_0 : Int) (a0_1 : ByteArray) (a0_2 : Int) (A0_3 : Option Addr) (c0_3 : Nat) (l0_3 : List (S28)) (r : Bool) (w : World) (hr0_3 : Kd.C k28 w A0_3 l0_3.length l0_3) (hc0_3 : l0_3.length ≤ c0_3) (h : spec_l5Forms.f k a0_0 a0_1 a0_2 l0_3 = some r),
  Calls Tryd.prog 31 #[.agg #[.int .i64 a0_0, .string a0_1, .int .i64 a0_2, .slice A0_3 l0_3.length c0_3]] w fun e w' => e = .returned (.bool r) ∧ Below w.heap.size w w' := by
 induction k using Nat.strongRecOn with
 | _ k ih =>
 intro a0_0 a0_1 a0_2 A0_3 c0_3 l0_3 r w hr0_3 hc0_3 h
 cases k with
 | zero => exact absurd h (by simp [spec_l5Forms.f])
 | succ k =>
 simp only [spec_l5Forms.f] at h
 have hu28 := Tryd.underlying28
 have HR0_3 := Aside0.mk hr0_3
 have HC0_3 := Aside0.mk hc0_3
 clear hr0_3 hc0_3
 have HB := Aside0.mk (Below.refl w.heap.size w)
 have H : ((spec_l5Form.f k a0_0 a0_1 a0_2 l0_3).bind fun t112 => (if t112 = true then (spec_l5Forms.l0 k 0 a0_0 a0_1 a0_2 l0_3) else (some false))) = some r := h
 clear h
 replace H := Own.bd H; obtain ⟨t112, A2, H⟩ := H
 replace H := Own.ift H; obtain ⟨rfl, H⟩ | ⟨rfl, H⟩ := H
 ·
  obtain rfl := Option.some.inj H
  go_enter Tryd.func31, Tryd.ntmps31
  go_wp2_with (first | ((with_reducible refine gate_dst (N := 1) rfl ?_); refine Own.be (N := 1) (cs := #[.int .i64 a0_0, .string a0_1, .int .i64 a0_2, .slice A0_3 l0_3.length c0_3]) (t := 28) ?_; intro gb111 hg w16 hbox hb; have BK111 := Aside0.mk hbox; have GW111 := (Own.gs hg : Aside0 (w.heap.size ≤ gb111)); have GE111 := GW111; replace HB := Own.bs hb; clear hb hbox hg; obtain ⟨z17_0, z17_1, z17_2, z17_3, y17_0, y17_1, y17_2, y17_3⟩ := Own.box4 BK111.out) | ((with_reducible refine gate_callee (f := 42) rfl ?_); refine goesL_ (some 5) rfl rfl Tryd.func42 (by kernel_rfl) rfl #[.agg #[.int .i64 a0_0, .string a0_1, .int .i64 a0_2, .slice A0_3 l0_3.length c0_3]] rfl Own.ha ?_; (with_reducible refine (spec_l5Form.calls k a0_0 a0_1 a0_2 _ _ l0_3 false _ ?side1 ?side2 A2.out).mono ?_); (case side1 => exact Kd.C_below HR0_3.out Own.bl); (case side2 => exact HC0_3.out); rintro e w18 ⟨rfl, hb⟩; refine ⟨_, rfl, ?_⟩; replace BK111 := Own.bb BK111.out hb; replace HB := Own.bs hb; (try clear hb)))
  go_ret
  exact ⟨Own.rr, Own.bl⟩
 have H' := Aside0.mk H
 clear H
 go_enter Tryd.func31, Tryd.ntmps31
 go_wp2_with (first | ((with_reducible refine gate_dst (N := 1) rfl ?_); refine Own.be (N := 1) (cs := #[.int .i64 a0_0, .string a0_1, .int .i64 a0_2, .slice A0_3 l0_3.length c0_3]) (t := 28) ?_; intro gb111 hg w4 hbox hb; have BK111 := Aside0.mk hbox; have GW111 := (Own.gs hg : Aside0 (w.heap.size ≤ gb111)); have GE111 := GW111; replace HB := Own.bs hb; clear hb hbox hg; obtain ⟨z5_0, z5_1, z5_2, z5_3, y5_0, y5_1, y5_2, y5_3⟩ := Own.box4 BK111.out) | ((with_reducible refine gate_callee (f := 42) rfl ?_); refine goesL_ (some 5) rfl rfl Tryd.func42 (by kernel_rfl) rfl #[.agg #[.int .i64 a0_0, .string a0_1, .int .i64 a0_2, .slice A0_3 l0_3.length c0_3]] rfl Own.ha ?_; (with_reducible refine (spec_l5Form.calls k a0_0 a0_1 a0_2 _ _ l0_3 true _ ?side1 ?side2 A2.out).mono ?_); (case side1 => exact Kd.C_below HR0_3.out Own.bl); (case side2 => exact HC0_3.out); rintro e w6 ⟨rfl, hb⟩; refine ⟨_, rfl, ?_⟩; replace BK111 := Own.bb BK111.out hb; replace HB := Own.bs hb; (try clear hb)))
 go_loopg [3] k (fun kq v3 w' => ∃ (x3_1 : Int), v3 = .int .i64 x3_1 ∧ Aside0 (spec_l5Forms.l0 kq x3_1 a0_0 a0_1 a0_2 l0_3 = some r) ∧ Aside0 (kq ≤ k) ∧ Aside0 (w'.heap[gb111]? = some (.cells #[.int .i64 a0_0, .string a0_1, .int .i64 a0_2, (.slice A0_3 l0_3.length c0_3)] 28 (0, 0))) ∧ Aside0 (Below w.heap.size w w'))
 case atStart => exact ⟨(0), Own.rs, H', ⟨Nat.le_refl _⟩, ⟨Own.bk⟩, ⟨Own.bl⟩⟩
 case round =>
  clear H'
  try clear p2; try clear c3; try clear c4; try clear z5_0 z5_1 z5_2 z5_3 y5_0 y5_1 y5_2 y5_3
  obtain ⟨x3_1, rfl, HA, HK1, BK111, HB⟩ := hrel
  cases gk with
  | zero => exact absurd HA.out (by simp [spec_l5Forms.l0])
  | succ k1 =>
   have H := HA.out
   clear HA
   simp only [spec_l5Forms.l0] at H
   by_cases c7 : x3_1 < (l0_3.length : Int)
   rotate_left
   ·
    rw [if_neg c7] at H
    replace c7 := decide_eq_false c7
    obtain rfl := Option.some.inj H
    obtain ⟨z15_0, z15_1, z15_2, z15_3, y15_0, y15_1, y15_2, y15_3⟩ := Own.box4 BK111.out
    go_wp2
    go_ret
    exact ⟨Own.rr, Own.bl⟩
   rw [if_pos c7] at H
   replace c7 := decide_eq_true c7
   replace H := Own.ifd H; obtain ⟨c8, H⟩ := H
   replace H := Own.bd H; obtain ⟨t114, A9, H⟩ := H
   replace H := Own.ift H; obtain ⟨rfl, H⟩ | ⟨rfl, H⟩ := H
   ·
    obtain rfl := Option.some.inj H
    obtain ⟨z13_0, z13_1, z13_2, z13_3, y13_0, y13_1, y13_2, y13_3⟩ := Own.box4 BK111.out
    have p113 : 0 ≤ (x3_1 : Int) := Own.dp
    have q113 : x3_1 < (l0_3.length : Int) := Own.dp
    obtain ⟨ad113, A113_3, c113_3, e113, hx113_0, hx113_1, hx113_2, hx113_3, hl113_3, hi113_3⟩ := at_T28 HR0_3.out x3_1 p113 q113
    cases e113
    replace hx113_0 := Own.up HB.out hx113_0
    replace hx113_1 := Own.up HB.out hx113_1
    replace hx113_2 := Own.up HB.out hx113_2
    replace hx113_3 := Own.up HB.out hx113_3
    have HR113_3 := Aside0.mk hi113_3
    have HC113_3 := Aside0.mk hl113_3
    clear hi113_3 hl113_3
    replace p113 := eq_true p113
    replace q113 := eq_true q113
    go_wp2_with (first | ((with_reducible refine gate_callee (f := 31) rfl ?_); refine goesL_ (some 19) rfl rfl Tryd.func31 (by kernel_rfl) rfl #[.agg #[.int .i64 ((rd_T28 l0_3 x3_1).f0), .string ((rd_T28 l0_3 x3_1).f1), .int .i64 ((rd_T28 l0_3 x3_1).f2), .slice A113_3 ((rd_T28 l0_3 x3_1).f3).length c113_3]] rfl Own.ha ?_; (with_reducible refine (ih k1 (by have := HK1.out; omega) ((rd_T28 l0_3 x3_1).f0) ((rd_T28 l0_3 x3_1).f1) ((rd_T28 l0_3 x3_1).f2) _ _ ((rd_T28 l0_3 x3_1).f3) false _ ?side1 ?side2 A9.out).mono ?_); (case side1 => exact Kd.C_below HR113_3.out Own.bl); (case side2 => exact HC113_3.out); rintro e w14 ⟨rfl, hb⟩; refine ⟨_, rfl, ?_⟩; replace BK111 := Own.bb BK111.out hb; replace HB := Own.bs hb; (try clear hb)))
    go_ret
    exact ⟨Own.rr, Own.bl⟩
   have H' := Aside0.mk H
   clear H
   obtain ⟨z11_0, z11_1, z11_2, z11_3, y11_0, y11_1, y11_2, y11_3⟩ := Own.box4 BK111.out
   have p113 : 0 ≤ (x3_1 : Int) := Own.dp
   have q113 : x3_1 < (l0_3.length : Int) := Own.dp
   obtain ⟨ad113, A113_3, c113_3, e113, hx113_0, hx113_1, hx113_2, hx113_3, hl113_3, hi113_3⟩ := at_T28 HR0_3.out x3_1 p113 q113
   cases e113
   replace hx113_0 := Own.up HB.out hx113_0
   replace hx113_1 := Own.up HB.out hx113_1
   replace hx113_2 := Own.up HB.out hx113_2
   replace hx113_3 := Own.up HB.out hx113_3
   have HR113_3 := Aside0.mk hi113_3
   have HC113_3 := Aside0.mk hl113_3
   clear hi113_3 hl113_3
   replace p113 := eq_true p113
   replace q113 := eq_true q113
   go_wp2_with (first | ((with_reducible refine gate_callee (f := 31) rfl ?_); refine goesL_ (some 19) rfl rfl Tryd.func31 (by kernel_rfl) rfl #[.agg #[.int .i64 ((rd_T28 l0_3 x3_1).f0), .string ((rd_T28 l0_3 x3_1).f1), .int .i64 ((rd_T28 l0_3 x3_1).f2), .slice A113_3 ((rd_T28 l0_3 x3_1).f3).length c113_3]] rfl Own.ha ?_; (with_reducible refine (ih k1 (by have := HK1.out; omega) ((rd_T28 l0_3 x3_1).f0) ((rd_T28 l0_3 x3_1).f1) ((rd_T28 l0_3 x3_1).f2) _ _ ((rd_T28 l0_3 x3_1).f3) true _ ?side1 ?side2 A9.out).mono ?_); (case side1 => exact Kd.C_below HR113_3.out Own.bl); (case side2 => exact HC113_3.out); rintro e w12 ⟨rfl, hb⟩; refine ⟨_, rfl, ?_⟩; replace BK111 := Own.bb BK111.out hb; replace HB := Own.bs hb; (try clear hb)))
   go_roundg k1
   case measure => have := HK1.out; omega
   case rel => exact ⟨(wrap64 (x3_1 + 1)), Own.rs, H', ⟨by have := HK1.out; omega⟩, ⟨Own.bk⟩, ⟨Own.bl⟩⟩

/-! ### spec_l5Size: function 32 -/
mutual
def spec_l5Size.l0 : Nat → Int → Int → Int → ByteArray → Int → List (S28) → Option (Int)
 | 0, _, _, _, _, _, _ => none
 | k + 1, x3, x4, x116000, x116001, x116002, x116003 => if x4 < (x116003.length : Int) then (if 0 ≤ x4 then ((spec_l5Size.f k ((rd_T28 x116003 x4).f0) ((rd_T28 x116003 x4).f1) ((rd_T28 x116003 x4).f2) ((rd_T28 x116003 x4).f3)).bind fun t117 => (spec_l5Size.l0 k (wrap64 (x3 + t117)) (wrap64 (x4 + 1)) x116000 x116001 x116002 x116003)) else (none)) else (some x3)
def spec_l5Size.f : Nat → Int → ByteArray → Int → List (S28) → Option (Int)
 | 0, _, _, _, _ => none
 | k + 1, a0_0, a0_1, a0_2, l0_3 => spec_l5Size.l0 k 1 0 a0_0 a0_1 a0_2 l0_3
end
theorem spec_l5Size.mono_l : ∀ k, (∀ y0 y1 y2 y3, LeO (spec_l5Size.f k y0 y1 y2 y3) (spec_l5Size.f (k + 1) y0 y1 y2 y3)) ∧ (∀ y0 y1 y2 y3 y4 y5, LeO (spec_l5Size.l0 k y0 y1 y2 y3 y4 y5) (spec_l5Size.l0 (k + 1) y0 y1 y2 y3 y4 y5))
 | 0 => ⟨fun _ _ _ _ r h => by simp [spec_l5Size.f] at h, fun _ _ _ _ _ _ r h => by simp [spec_l5Size.l0] at h⟩
 | k + 1 => by
  obtain ⟨ih0, ih1⟩ := spec_l5Size.mono_l k
  refine ⟨?_, ?_⟩
  ·
   intro y0 y1 y2 y3
   unfold spec_l5Size.f
   repeat' first
   | (with_reducible first | exact ih0 _ _ _ _ | exact ih1 _ _ _ _ _ _ | exact LeO.refl _ | exact LeO.none _ | refine LeO.ite ?_ ?_ | refine LeO.bind ?_ (fun _ => ?_))
  ·
   intro y0 y1 y2 y3 y4 y5
   unfold spec_l5Size.l0
   repeat' first
   | (with_reducible first | exact ih0 _ _ _ _ | exact ih1 _ _ _ _ _ _ | exact LeO.refl _ | exact LeO.none _ | refine LeO.ite ?_ ?_ | refine LeO.bind ?_ (fun _ => ?_))
theorem spec_l5Size.mono : ∀ a0 a1 a2 a3 k, LeO (spec_l5Size.f k a0 a1 a2 a3) (spec_l5Size.f (k + 1) a0 a1 a2 a3) := by
 intro a0 a1 a2 a3 k
 obtain ⟨ih0, ih1⟩ := spec_l5Size.mono_l k
 exact ih0 a0 a1 a2 a3
set_option maxHeartbeats 8000000 in
set_option maxRecDepth 100000 in
theorem spec_l5Size.calls (k : Nat) : ∀ (a0_0 : Int) (a0_1 : ByteArray) (a0_2 : Int) (A0_3 : Option Addr) (c0_3 : Nat) (l0_3 : List (S28)) (r : Int) (w : World) (hr0_3 : Kd.C k28 w A0_3 l0_3.length l0_3) (hc0_3 : l0_3.length ≤ c0_3) (h : spec_l5Size.f k a0_0 a0_1 a0_2 l0_3 = some r),
  Calls Tryd.prog 32 #[.agg #[.int .i64 a0_0, .string a0_1, .int .i64 a0_2, .slice A0_3 l0_3.length c0_3]] w fun e w' => e = .returned (.int .i64 r) ∧ Below w.heap.size w w' := by
 induction k using Nat.strongRecOn with
 | _ k ih =>
 intro a0_0 a0_1 a0_2 A0_3 c0_3 l0_3 r w hr0_3 hc0_3 h
 cases k with
 | zero => exact absurd h (by simp [spec_l5Size.f])
 | succ k =>
 simp only [spec_l5Size.f] at h
 have hu28 := Tryd.underlying28
 have HR0_3 := Aside0.mk hr0_3
 have HC0_3 := Aside0.mk hc0_3
 clear hr0_3 hc0_3
 have HB := Aside0.mk (Below.refl w.heap.size w)
 have H : (spec_l5Size.l0 k 1 0 a0_0 a0_1 a0_2 l0_3) = some r := h
 clear h
 have H' := Aside0.mk H
 clear H
 go_enter Tryd.func32, Tryd.ntmps32
 go_wp2_with (first | ((with_reducible refine gate_dst (N := 1) rfl ?_); refine Own.be (N := 1) (cs := #[.int .i64 a0_0, .string a0_1, .int .i64 a0_2, .slice A0_3 l0_3.length c0_3]) (t := 28) ?_; intro gb115 hg w2 hbox hb; have BK115 := Aside0.mk hbox; have GW115 := (Own.gs hg : Aside0 (w.heap.size ≤ gb115)); have GE115 := GW115; replace HB := Own.bs hb; clear hb hbox hg))
 go_loopg [3, 4] k (fun kq v3 v4 w' => ∃ (x3_1 : Int) (x4_1 : Int), v3 = .int .i64 x3_1 ∧ v4 = .int .i64 x4_1 ∧ Aside0 (spec_l5Size.l0 kq x3_1 x4_1 a0_0 a0_1 a0_2 l0_3 = some r) ∧ Aside0 (kq ≤ k) ∧ Aside0 (w'.heap[gb115]? = some (.cells #[.int .i64 a0_0, .string a0_1, .int .i64 a0_2, (.slice A0_3 l0_3.length c0_3)] 28 (0, 0))) ∧ Aside0 (Below w.heap.size w w'))
 case atStart => exact ⟨(1), (0), Own.rs, Own.rs, H', ⟨Nat.le_refl _⟩, ⟨Own.bk⟩, ⟨Own.bl⟩⟩
 case round =>
  clear H'
  try clear p2
  obtain ⟨x3_1, x4_1, rfl, rfl, HA, HK1, BK115, HB⟩ := hrel
  cases gk with
  | zero => exact absurd HA.out (by simp [spec_l5Size.l0])
  | succ k1 =>
   have H := HA.out
   clear HA
   simp only [spec_l5Size.l0] at H
   by_cases c3 : x4_1 < (l0_3.length : Int)
   rotate_left
   ·
    rw [if_neg c3] at H
    replace c3 := decide_eq_false c3
    obtain rfl := Option.some.inj H
    obtain ⟨z8_0, z8_1, z8_2, z8_3, y8_0, y8_1, y8_2, y8_3⟩ := Own.box4 BK115.out
    go_wp2
    go_ret
    exact ⟨Own.rr, Own.bl⟩
   rw [if_pos c3] at H
   replace c3 := decide_eq_true c3
   replace H := Own.ifd H; obtain ⟨c4, H⟩ := H
   replace H := Own.bd H; obtain ⟨t117, A5, H⟩ := H
   have H' := Aside0.mk H
   clear H
   obtain ⟨z6_0, z6_1, z6_2, z6_3, y6_0, y6_1, y6_2, y6_3⟩ := Own.box4 BK115.out
   have p116 : 0 ≤ (x4_1 : Int) := Own.dp
   have q116 : x4_1 < (l0_3.length : Int) := Own.dp
   obtain ⟨ad116, A116_3, c116_3, e116, hx116_0, hx116_1, hx116_2, hx116_3, hl116_3, hi116_3⟩ := at_T28 HR0_3.out x4_1 p116 q116
   cases e116
   replace hx116_0 := Own.up HB.out hx116_0
   replace hx116_1 := Own.up HB.out hx116_1
   replace hx116_2 := Own.up HB.out hx116_2
   replace hx116_3 := Own.up HB.out hx116_3
   have HR116_3 := Aside0.mk hi116_3
   have HC116_3 := Aside0.mk hl116_3
   clear hi116_3 hl116_3
   replace p116 := eq_true p116
   replace q116 := eq_true q116
   go_wp2_with (first | ((with_reducible refine gate_callee (f := 32) rfl ?_); refine goesL_ (some 18) rfl rfl Tryd.func32 (by kernel_rfl) rfl #[.agg #[.int .i64 ((rd_T28 l0_3 x4_1).f0), .string ((rd_T28 l0_3 x4_1).f1), .int .i64 ((rd_T28 l0_3 x4_1).f2), .slice A116_3 ((rd_T28 l0_3 x4_1).f3).length c116_3]] rfl Own.ha ?_; (with_reducible refine (ih k1 (by have := HK1.out; omega) ((rd_T28 l0_3 x4_1).f0) ((rd_T28 l0_3 x4_1).f1) ((rd_T28 l0_3 x4_1).f2) _ _ ((rd_T28 l0_3 x4_1).f3) t117 _ ?side1 ?side2 A5.out).mono ?_); (case side1 => exact Kd.C_below HR116_3.out Own.bl); (case side2 => exact HC116_3.out); rintro e w7 ⟨rfl, hb⟩; refine ⟨_, rfl, ?_⟩; replace BK115 := Own.bb BK115.out hb; replace HB := Own.bs hb; (try clear hb)))
   go_roundg k1
   case measure => have := HK1.out; omega
   case rel => exact ⟨(wrap64 (x3_1 + t117)), (wrap64 (x4_1 + 1)), Own.rs, Own.rs, H', ⟨by have := HK1.out; omega⟩, ⟨Own.bk⟩, ⟨Own.bl⟩⟩

/-! ### spec_l5Good: function 18 -/
def spec_l5Good.f (k : Nat) (a0_0 : Int) (a0_1 : ByteArray) (a0_2 : Int) (l0_3 : List (S28)) : Option (Bool) := (spec_l5Forms.f k a0_0 a0_1 a0_2 l0_3).bind fun t119 => (if t119 = true then ((spec_l5Size.f k a0_0 a0_1 a0_2 l0_3).bind fun t120 => (some (decide (t120 ≤ 15)))) else (some false))
theorem spec_l5Good.mono : ∀ a0 a1 a2 a3 k, LeO (spec_l5Good.f k a0 a1 a2 a3) (spec_l5Good.f (k + 1) a0 a1 a2 a3) := by
 intro a0 a1 a2 a3 k
 unfold spec_l5Good.f
 repeat' first
   | (with_reducible first | exact spec_l5Forms.mono _ _ _ _ _ | exact spec_l5Size.mono _ _ _ _ _ | exact LeO.refl _ | exact LeO.none _ | refine LeO.ite ?_ ?_ | refine LeO.bind ?_ (fun _ => ?_))
set_option maxHeartbeats 8000000 in
set_option maxRecDepth 100000 in
theorem spec_l5Good.calls (k : Nat) (a0_0 : Int) (a0_1 : ByteArray) (a0_2 : Int) (A0_3 : Option Addr) (c0_3 : Nat) (l0_3 : List (S28)) (r : Bool) (w : World) (hr0_3 : Kd.C k28 w A0_3 l0_3.length l0_3) (hc0_3 : l0_3.length ≤ c0_3) (h : spec_l5Good.f k a0_0 a0_1 a0_2 l0_3 = some r) :
  Calls Tryd.prog 18 #[.agg #[.int .i64 a0_0, .string a0_1, .int .i64 a0_2, .slice A0_3 l0_3.length c0_3]] w fun e w' => e = .returned (.bool r) ∧ Below w.heap.size w w' := by
 have hu28 := Tryd.underlying28
 have HR0_3 := Aside0.mk hr0_3
 have HC0_3 := Aside0.mk hc0_3
 clear hr0_3 hc0_3
 have HB := Aside0.mk (Below.refl w.heap.size w)
 have H : ((spec_l5Forms.f k a0_0 a0_1 a0_2 l0_3).bind fun t119 => (if t119 = true then ((spec_l5Size.f k a0_0 a0_1 a0_2 l0_3).bind fun t120 => (some (decide (t120 ≤ 15)))) else (some false))) = some r := h
 clear h
 replace H := Own.bd H; obtain ⟨t119, A2, H⟩ := H
 replace H := Own.ifu H; obtain ⟨rfl, H⟩ | ⟨rfl, H⟩ := H
 ·
  replace H := Own.bd H; obtain ⟨t120, A4, H⟩ := H
  obtain rfl := Option.some.inj H
  go_enter Tryd.func18, Tryd.ntmps18
  go_wp2_with (first | ((with_reducible refine gate_dst (N := 1) rfl ?_); refine Own.be (N := 1) (cs := #[.int .i64 a0_0, .string a0_1, .int .i64 a0_2, .slice A0_3 l0_3.length c0_3]) (t := 28) ?_; intro gb118 hg w5 hbox hb; have BK118 := Aside0.mk hbox; have GW118 := (Own.gs hg : Aside0 (w.heap.size ≤ gb118)); have GE118 := GW118; replace HB := Own.bs hb; clear hb hbox hg; obtain ⟨z6_0, z6_1, z6_2, z6_3, y6_0, y6_1, y6_2, y6_3⟩ := Own.box4 BK118.out) | ((with_reducible refine gate_callee (f := 31) rfl ?_); refine goesL_ (some 4) rfl rfl Tryd.func31 (by kernel_rfl) rfl #[.agg #[.int .i64 a0_0, .string a0_1, .int .i64 a0_2, .slice A0_3 l0_3.length c0_3]] rfl Own.ha ?_; (with_reducible refine (spec_l5Forms.calls k a0_0 a0_1 a0_2 _ _ l0_3 true _ ?side1 ?side2 A2.out).mono ?_); (case side1 => exact Kd.C_below HR0_3.out Own.bl); (case side2 => exact HC0_3.out); rintro e w7 ⟨rfl, hb⟩; refine ⟨_, rfl, ?_⟩; replace BK118 := Own.bb BK118.out hb; replace HB := Own.bs hb; (try clear hb); obtain ⟨z8_0, z8_1, z8_2, z8_3, y8_0, y8_1, y8_2, y8_3⟩ := Own.box4 BK118.out) | (go_at_call 32; (with_reducible refine (spec_l5Size.calls k a0_0 a0_1 a0_2 _ _ l0_3 t120 _ ?side1 ?side2 A4.out).mono ?_); (case side1 => exact Kd.C_below HR0_3.out Own.bl); (case side2 => exact HC0_3.out); rintro e w9 ⟨rfl, hb⟩; replace BK118 := Own.bb BK118.out hb; replace HB := Own.bs hb; (try clear hb)))
  go_ret
  exact ⟨Own.rr, Own.bl⟩
 obtain rfl := Option.some.inj H
 go_enter Tryd.func18, Tryd.ntmps18
 go_wp2_with (first | ((with_reducible refine gate_dst (N := 1) rfl ?_); refine Own.be (N := 1) (cs := #[.int .i64 a0_0, .string a0_1, .int .i64 a0_2, .slice A0_3 l0_3.length c0_3]) (t := 28) ?_; intro gb118 hg w10 hbox hb; have BK118 := Aside0.mk hbox; have GW118 := (Own.gs hg : Aside0 (w.heap.size ≤ gb118)); have GE118 := GW118; replace HB := Own.bs hb; clear hb hbox hg; obtain ⟨z11_0, z11_1, z11_2, z11_3, y11_0, y11_1, y11_2, y11_3⟩ := Own.box4 BK118.out) | ((with_reducible refine gate_callee (f := 31) rfl ?_); refine goesL_ (some 4) rfl rfl Tryd.func31 (by kernel_rfl) rfl #[.agg #[.int .i64 a0_0, .string a0_1, .int .i64 a0_2, .slice A0_3 l0_3.length c0_3]] rfl Own.ha ?_; (with_reducible refine (spec_l5Forms.calls k a0_0 a0_1 a0_2 _ _ l0_3 false _ ?side1 ?side2 A2.out).mono ?_); (case side1 => exact Kd.C_below HR0_3.out Own.bl); (case side2 => exact HC0_3.out); rintro e w12 ⟨rfl, hb⟩; refine ⟨_, rfl, ?_⟩; replace BK118 := Own.bb BK118.out hb; replace HB := Own.bs hb; (try clear hb)))
 go_ret
 exact ⟨Own.rr, Own.bl⟩

/-! ### spec_l5Never: function 43 -/
def spec_l5Never.f (a0_0 : Int) (a0_1 : ByteArray) (a0_2 : Int) (l0_3 : List (S28)) : Option (Bool) := if a0_0 = 4 then (if 0 < (l0_3.length : Int) then (some (((rd_T28 l0_3 0).f0) == 1)) else (none)) else (some false)
set_option maxHeartbeats 8000000 in
set_option maxRecDepth 100000 in
theorem spec_l5Never.calls (a0_0 : Int) (a0_1 : ByteArray) (a0_2 : Int) (A0_3 : Option Addr) (c0_3 : Nat) (l0_3 : List (S28)) (r : Bool) (w : World) (hr0_3 : Kd.C k28 w A0_3 l0_3.length l0_3) (hc0_3 : l0_3.length ≤ c0_3) (h : spec_l5Never.f a0_0 a0_1 a0_2 l0_3 = some r) :
  Calls Tryd.prog 43 #[.agg #[.int .i64 a0_0, .string a0_1, .int .i64 a0_2, .slice A0_3 l0_3.length c0_3]] w fun e w' => e = .returned (.bool r) ∧ Below w.heap.size w w' := by
 have hu28 := Tryd.underlying28
 have HR0_3 := Aside0.mk hr0_3
 have HC0_3 := Aside0.mk hc0_3
 clear hr0_3 hc0_3
 have HB := Aside0.mk (Below.refl w.heap.size w)
 have H : (if a0_0 = 4 then (if 0 < (l0_3.length : Int) then (some (((rd_T28 l0_3 0).f0) == 1)) else (none)) else (some false)) = some r := h
 clear h
 by_cases c2 : a0_0 = 4
 rotate_left
 ·
  rw [if_neg c2] at H
  have c2b0 : (a0_0 == 4) = false := beq_eq_false_iff_ne.mpr c2
  have c2b1 : (a0_0 != 4) = true := bne_iff_ne.mpr c2
  obtain rfl := Option.some.inj H
  go_enter Tryd.func43, Tryd.ntmps43
  go_wp2_with (first | ((with_reducible refine gate_dst (N := 1) rfl ?_); refine Own.be (N := 1) (cs := #[.int .i64 a0_0, .string a0_1, .int .i64 a0_2, .slice A0_3 l0_3.length c0_3]) (t := 28) ?_; intro gb121 hg w6 hbox hb; have BK121 := Aside0.mk hbox; have GW121 := (Own.gs hg : Aside0 (w.heap.size ≤ gb121)); have GE121 := GW121; replace HB := Own.bs hb; clear hb hbox hg; obtain ⟨z7_0, z7_1, z7_2, z7_3, y7_0, y7_1, y7_2, y7_3⟩ := Own.box4 BK121.out))
  go_ret
  exact ⟨Own.rr, Own.bl⟩
 rw [if_pos c2] at H
 have c2b0 : (a0_0 == 4) = true := beq_iff_eq.mpr c2
 have c2b1 : (a0_0 != 4) = false := bne_eq_false_iff_eq.mpr c2
 clear c2
 replace H := Own.ifn H; obtain ⟨c3, H⟩ := H
 have c3b0 : decide (0 < (l0_3.length : Int)) = true := decide_eq_true c3
 have c3b1 : decide (0 < l0_3.length) = true := decide_eq_true (by omega)
 clear c3
 obtain rfl := Option.some.inj H
 go_enter Tryd.func43, Tryd.ntmps43
 go_wp2_with (first | ((with_reducible refine gate_dst (N := 1) rfl ?_); refine Own.be (N := 1) (cs := #[.int .i64 a0_0, .string a0_1, .int .i64 a0_2, .slice A0_3 l0_3.length c0_3]) (t := 28) ?_; intro gb121 hg w4 hbox hb; have BK121 := Aside0.mk hbox; have GW121 := (Own.gs hg : Aside0 (w.heap.size ≤ gb121)); have GE121 := GW121; replace HB := Own.bs hb; clear hb hbox hg; obtain ⟨z5_0, z5_1, z5_2, z5_3, y5_0, y5_1, y5_2, y5_3⟩ := Own.box4 BK121.out; have p122 : 0 ≤ (0 : Int) := (by omega); have q122 : 0 < (l0_3.length : Int) := Own.dp; obtain ⟨ad122, A122_3, c122_3, e122, hx122_0, hx122_1, hx122_2, hx122_3, hl122_3, hi122_3⟩ := at_T28 HR0_3.out 0 p122 q122; cases e122; have qi122 : (0 < l0_3.length) = True := eq_true (by omega); (try rw [show ((0 : Int)).toNat = 0 from rfl] at hx122_0); (try rw [show 0 * 4 = 0 from rfl] at hx122_0); (try rw [Addr.add_zero'] at hx122_0); (try rw [show ((0 : Int)).toNat = 0 from rfl] at hx122_1); (try rw [show 0 * 4 = 0 from rfl] at hx122_1); (try rw [Addr.add_zero'] at hx122_1); (try rw [show ((0 : Int)).toNat = 0 from rfl] at hx122_2); (try rw [show 0 * 4 = 0 from rfl] at hx122_2); (try rw [Addr.add_zero'] at hx122_2); (try rw [show ((0 : Int)).toNat = 0 from rfl] at hx122_3); (try rw [show 0 * 4 = 0 from rfl] at hx122_3); (try rw [Addr.add_zero'] at hx122_3); replace hx122_0 := Own.up HB.out hx122_0; replace hx122_1 := Own.up HB.out hx122_1; replace hx122_2 := Own.up HB.out hx122_2; replace hx122_3 := Own.up HB.out hx122_3; have HR122_3 := Aside0.mk hi122_3; have HC122_3 := Aside0.mk hl122_3; clear hi122_3 hl122_3; replace p122 := eq_true p122; replace q122 := eq_true q122))
 go_ret
 exact ⟨Own.rr, Own.bl⟩

end Go.Proofs.YtnpenfficbdlmaaDoor.QFnExactSimplifyCondition
