-- Written by a program of this session out of the translation; Lean checks it.
import Derived.Test.YtnpenfficbdlmaaDoorQFnExactSimplifyConditionx0
import Derived.Test.YtnpenfficbdlmaaDoorQFnExactSimplifyConditionx7
namespace Go.Proofs.YtnpenfficbdlmaaDoor.QFnExactSimplifyCondition
open Go.RowKit Go.Proofs.YtnpenfficbdlmaaDoorW.PrintWords Go.Proofs.YtnpenfficbdlmaaDoorW.PrintLast Go.Proofs.YtnpenfficbdlmaaDoorW.PrintMore
attribute [local go_sem] Instr.field asAgg Own.str_leq Own.str_gtr Own.str_geq
attribute [local go_sem] max2_int min2_int max_two min_two max_three min_three max_four min_four   -- for this text's walks alone
set_option linter.unusedVariables false
set_option linter.unusedSimpArgs false

/-! ### impl_IsValidCondition: function 21 -/
def impl_IsValidCondition.f (k : Nat) (a0_0 : Int) (a0_1 : ByteArray) (a0_2 : Int) (l0_3 : List (S28)) : Option (Bool) := (impl_countCondition.f k a0_0 a0_1 a0_2 l0_3 0).bind fun t241 => (some (decide (t241 > 0)))
theorem impl_IsValidCondition.mono : ∀ a0 a1 a2 a3 k, LeO (impl_IsValidCondition.f k a0 a1 a2 a3) (impl_IsValidCondition.f (k + 1) a0 a1 a2 a3) := by
 intro a0 a1 a2 a3 k
 unfold impl_IsValidCondition.f
 repeat' first
   | (with_reducible first | exact impl_countCondition.mono _ _ _ _ _ _ | exact LeO.refl _ | exact LeO.none _ | refine LeO.ite ?_ ?_ | refine LeO.bind ?_ (fun _ => ?_))
set_option maxHeartbeats 8000000 in
set_option maxRecDepth 100000 in
theorem impl_IsValidCondition.calls (k : Nat) (a0_0 : Int) (a0_1 : ByteArray) (a0_2 : Int) (A0_3 : Option Addr) (c0_3 : Nat) (l0_3 : List (S28)) (r : Bool) (w : World) (hr0_3 : Kd.C k28 w A0_3 l0_3.length l0_3) (hc0_3 : l0_3.length ≤ c0_3) (hG : Own.Glob w) (h : impl_IsValidCondition.f k a0_0 a0_1 a0_2 l0_3 = some r) :
  Calls Tryd.prog 21 #[.agg #[.int .i64 a0_0, .string a0_1, .int .i64 a0_2, .slice A0_3 l0_3.length c0_3]] w fun e w' => e = .returned (.bool r) ∧ Below w.heap.size w w' := by
 have hu28 := Tryd.underlying28
 have HR0_3 := Aside0.mk hr0_3
 have HC0_3 := Aside0.mk hc0_3
 clear hr0_3 hc0_3
 have HB := Aside0.mk (Below.refl w.heap.size w)
 have HG := Aside0.mk hG
 clear hG
 have H : ((impl_countCondition.f k a0_0 a0_1 a0_2 l0_3 0).bind fun t241 => (some (decide (t241 > 0)))) = some r := h
 clear h
 replace H := Own.bd H; obtain ⟨t241, A2, H⟩ := H
 obtain rfl := Option.some.inj H
 go_enter Tryd.func21, Tryd.ntmps21
 go_wp2_with (first | ((with_reducible refine gate_dst (N := 1) rfl ?_); refine Own.be (N := 1) (cs := #[.int .i64 a0_0, .string a0_1, .int .i64 a0_2, .slice A0_3 l0_3.length c0_3]) (t := 28) ?_; intro gb240 hg w3 hbox hb; have BK240 := Aside0.mk hbox; have GW240 := (Own.gs hg : Aside0 (w.heap.size ≤ gb240)); have GE240 := GW240; replace HB := Own.bs hb; clear hb hbox hg; obtain ⟨z4_0, z4_1, z4_2, z4_3, y4_0, y4_1, y4_2, y4_3⟩ := Own.box4 BK240.out) | ((with_reducible refine gate_callee (f := 35) rfl ?_); refine goesL_ (some 4) rfl rfl Tryd.func35 (by kernel_rfl) rfl #[.agg #[.int .i64 a0_0, .string a0_1, .int .i64 a0_2, .slice A0_3 l0_3.length c0_3], .int .i64 0] rfl Own.ha ?_; (with_reducible refine (impl_countCondition.calls k a0_0 a0_1 a0_2 _ _ l0_3 0 t241 _ ?side1 ?side2 ?side3 A2.out).mono ?_); (case side1 => exact Kd.C_below HR0_3.out Own.bl); (case side2 => exact HC0_3.out); (case side3 => exact Own.gl HG.out); rintro e w5 ⟨rfl, hb⟩; refine ⟨_, rfl, ?_⟩; replace BK240 := Own.bb BK240.out hb; replace HB := Own.bs hb; (try clear hb)))
 go_ret
 exact ⟨Own.rr, Own.bl⟩

/-! ### impl_isAlways: function 36 -/
def impl_isAlways.f (a0_0 : Int) (a0_1 : ByteArray) (a0_2 : Int) (l0_3 : List (S28)) : Option (Bool) := some (a0_0 == 1)
set_option maxHeartbeats 8000000 in
set_option maxRecDepth 100000 in
theorem impl_isAlways.calls (a0_0 : Int) (a0_1 : ByteArray) (a0_2 : Int) (A0_3 : Option Addr) (c0_3 : Nat) (l0_3 : List (S28)) (r : Bool) (w : World) (hr0_3 : Kd.C k28 w A0_3 l0_3.length l0_3) (hc0_3 : l0_3.length ≤ c0_3) (h : impl_isAlways.f a0_0 a0_1 a0_2 l0_3 = some r) :
  Calls Tryd.prog 36 #[.agg #[.int .i64 a0_0, .string a0_1, .int .i64 a0_2, .slice A0_3 l0_3.length c0_3]] w fun e w' => e = .returned (.bool r) ∧ Below w.heap.size w w' := by
 have hu28 := Tryd.underlying28
 have HR0_3 := Aside0.mk hr0_3
 have HC0_3 := Aside0.mk hc0_3
 clear hr0_3 hc0_3
 have HB := Aside0.mk (Below.refl w.heap.size w)
 have H : (some (a0_0 == 1)) = some r := h
 clear h
 obtain rfl := Option.some.inj H
 go_enter Tryd.func36, Tryd.ntmps36
 go_wp2_with (first | ((with_reducible refine gate_dst (N := 1) rfl ?_); refine Own.be (N := 1) (cs := #[.int .i64 a0_0, .string a0_1, .int .i64 a0_2, .slice A0_3 l0_3.length c0_3]) (t := 28) ?_; intro gb255 hg w2 hbox hb; have BK255 := Aside0.mk hbox; have GW255 := (Own.gs hg : Aside0 (w.heap.size ≤ gb255)); have GE255 := GW255; replace HB := Own.bs hb; clear hb hbox hg; obtain ⟨z3_0, z3_1, z3_2, z3_3, y3_0, y3_1, y3_2, y3_3⟩ := Own.box4 BK255.out))
 go_ret
 exact ⟨Own.rr, Own.bl⟩

/-! ### impl_isNever: function 37 -/
def impl_isNever.f (a0_0 : Int) (a0_1 : ByteArray) (a0_2 : Int) (l0_3 : List (S28)) : Option (Bool) := if a0_0 = 4 then (if 0 < (l0_3.length : Int) then (some (((rd_T28 l0_3 0).f0) == 1)) else (none)) else (some false)
set_option maxHeartbeats 8000000 in
set_option maxRecDepth 100000 in
theorem impl_isNever.calls (a0_0 : Int) (a0_1 : ByteArray) (a0_2 : Int) (A0_3 : Option Addr) (c0_3 : Nat) (l0_3 : List (S28)) (r : Bool) (w : World) (hr0_3 : Kd.C k28 w A0_3 l0_3.length l0_3) (hc0_3 : l0_3.length ≤ c0_3) (h : impl_isNever.f a0_0 a0_1 a0_2 l0_3 = some r) :
  Calls Tryd.prog 37 #[.agg #[.int .i64 a0_0, .string a0_1, .int .i64 a0_2, .slice A0_3 l0_3.length c0_3]] w fun e w' => e = .returned (.bool r) ∧ Below w.heap.size w w' := by
 have hu28 := Tryd.underlying28
 have HR0_3 := Aside0.mk hr0_3
 have HC0_3 := Aside0.mk hc0_3
 clear hr0_3 hc0_3
 have HB := Aside0.mk (Below.refl w.heap.size w)
 have H : (if a0_0 = 4 then (if 0 < (l0_3.length : Int) then (some (((rd_T28 l0_3 0).f0) == 1)) else (none)) else (some false)) = some r := h
 clear h
 by_cases c2 : a0_0 = 4
 rotate_left
 ·
  rw [if_neg c2] at H
  have c2b0 : (a0_0 == 4) = false := beq_eq_false_iff_ne.mpr c2
  have c2b1 : (a0_0 != 4) = true := bne_iff_ne.mpr c2
  obtain rfl := Option.some.inj H
  go_enter Tryd.func37, Tryd.ntmps37
  go_wp2_with (first | ((with_reducible refine gate_dst (N := 1) rfl ?_); refine Own.be (N := 1) (cs := #[.int .i64 a0_0, .string a0_1, .int .i64 a0_2, .slice A0_3 l0_3.length c0_3]) (t := 28) ?_; intro gb256 hg w6 hbox hb; have BK256 := Aside0.mk hbox; have GW256 := (Own.gs hg : Aside0 (w.heap.size ≤ gb256)); have GE256 := GW256; replace HB := Own.bs hb; clear hb hbox hg; obtain ⟨z7_0, z7_1, z7_2, z7_3, y7_0, y7_1, y7_2, y7_3⟩ := Own.box4 BK256.out))
  go_ret
  exact ⟨Own.rr, Own.bl⟩
 rw [if_pos c2] at H
 have c2b0 : (a0_0 == 4) = true := beq_iff_eq.mpr c2
 have c2b1 : (a0_0 != 4) = false := bne_eq_false_iff_eq.mpr c2
 clear c2
 replace H := Own.ifn H; obtain ⟨c3, H⟩ := H
 have c3b0 : decide (0 < (l0_3.length : Int)) = true := decide_eq_true c3
 have c3b1 : decide (0 < l0_3.length) = true := decide_eq_true (by omega)
 clear c3
 obtain rfl := Option.some.inj H
 go_enter Tryd.func37, Tryd.ntmps37
 go_wp2_with (first | ((with_reducible refine gate_dst (N := 1) rfl ?_); refine Own.be (N := 1) (cs := #[.int .i64 a0_0, .string a0_1, .int .i64 a0_2, .slice A0_3 l0_3.length c0_3]) (t := 28) ?_; intro gb256 hg w4 hbox hb; have BK256 := Aside0.mk hbox; have GW256 := (Own.gs hg : Aside0 (w.heap.size ≤ gb256)); have GE256 := GW256; replace HB := Own.bs hb; clear hb hbox hg; obtain ⟨z5_0, z5_1, z5_2, z5_3, y5_0, y5_1, y5_2, y5_3⟩ := Own.box4 BK256.out; have p257 : 0 ≤ (0 : Int) := (by omega); have q257 : 0 < (l0_3.length : Int) := Own.dp; obtain ⟨ad257, A257_3, c257_3, e257, hx257_0, hx257_1, hx257_2, hx257_3, hl257_3, hi257_3⟩ := at_T28 HR0_3.out 0 p257 q257; cases e257; have qi257 : (0 < l0_3.length) = True := eq_true (by omega); (try rw [show ((0 : Int)).toNat = 0 from rfl] at hx257_0); (try rw [show 0 * 4 = 0 from rfl] at hx257_0); (try rw [Addr.add_zero'] at hx257_0); (try rw [show ((0 : Int)).toNat = 0 from rfl] at hx257_1); (try rw [show 0 * 4 = 0 from rfl] at hx257_1); (try rw [Addr.add_zero'] at hx257_1); (try rw [show ((0 : Int)).toNat = 0 from rfl] at hx257_2); (try rw [show 0 * 4 = 0 from rfl] at hx257_2); (try rw [Addr.add_zero'] at hx257_2); (try rw [show ((0 : Int)).toNat = 0 from rfl] at hx257_3); (try rw [show 0 * 4 = 0 from rfl] at hx257_3); (try rw [Addr.add_zero'] at hx257_3); replace hx257_0 := Own.up HB.out hx257_0; replace hx257_1 := Own.up HB.out hx257_1; replace hx257_2 := Own.up HB.out hx257_2; replace hx257_3 := Own.up HB.out hx257_3; have HR257_3 := Aside0.mk hi257_3; have HC257_3 := Aside0.mk hl257_3; clear hi257_3 hl257_3; replace p257 := eq_true p257; replace q257 := eq_true q257))
 go_ret
 exact ⟨Own.rr, Own.bl⟩

/-! ### impl_sameCondition: function 38 -/
/-! ### impl_Condition: function 48 -/
mutual
def impl_sameCondition.f : Nat → Int → ByteArray → Int → List (S28) → Int → ByteArray → Int → List (S28) → Option (Bool)
 | 0, _, _, _, _, _, _, _, _ => none
 | k + 1, a0_0, a0_1, a0_2, l0_3, a1_0, a1_1, a1_2, l1_3 => if a0_0 = a1_0 then (if a0_1.toList = a1_1.toList then (if a0_2 = a1_2 then ((impl_Condition.f k l0_3 l1_3).bind fun t260 => (some t260)) else (some false)) else (some false)) else (some false)
def impl_Condition.l0 : Nat → List (S28) → List (S28) → Int → Int → Option (Bool)
 | 0, _, _, _, _ => none
 | k + 1, x1, x15, x16, x17 => if x17 < x16 then (if 0 ≤ x17 then (if x17 < (x15.length : Int) then (if x17 < (x1.length : Int) then ((impl_sameCondition.f k ((rd_T28 x15 x17).f0) ((rd_T28 x15 x17).f1) ((rd_T28 x15 x17).f2) ((rd_T28 x15 x17).f3) ((rd_T28 x1 x17).f0) ((rd_T28 x1 x17).f1) ((rd_T28 x1 x17).f2) ((rd_T28 x1 x17).f3)).bind fun t265 => (if t265 = true then (impl_Condition.l0 k x1 x15 x16 (wrap64 (x17 + 1))) else (some false))) else (none)) else (none)) else (none)) else (some true)
def impl_Condition.f : Nat → List (S28) → List (S28) → Option (Bool)
 | 0, _, _ => none
 | k + 1, l0, l1 => if (l0.length : Int) = (l1.length : Int) then (impl_Condition.l0 k l1 l0 (l0.length : Int) 0) else (some false)
end
theorem impl_sameCondition.mono_l : ∀ k, (∀ y0 y1 y2 y3 y4 y5 y6 y7, LeO (impl_sameCondition.f k y0 y1 y2 y3 y4 y5 y6 y7) (impl_sameCondition.f (k + 1) y0 y1 y2 y3 y4 y5 y6 y7)) ∧ (∀ y0 y1, LeO (impl_Condition.f k y0 y1) (impl_Condition.f (k + 1) y0 y1)) ∧ (∀ y0 y1 y2 y3, LeO (impl_Condition.l0 k y0 y1 y2 y3) (impl_Condition.l0 (k + 1) y0 y1 y2 y3))
 | 0 => ⟨fun _ _ _ _ _ _ _ _ r h => by simp [impl_sameCondition.f] at h, fun _ _ r h => by simp [impl_Condition.f] at h, fun _ _ _ _ r h => by simp [impl_Condition.l0] at h⟩
 | k + 1 => by
  obtain ⟨ih0, ih1, ih2⟩ := impl_sameCondition.mono_l k
  refine ⟨?_, ?_, ?_⟩
  ·
   intro y0 y1 y2 y3 y4 y5 y6 y7
   unfold impl_sameCondition.f
   repeat' first
   | (with_reducible first | exact ih0 _ _ _ _ _ _ _ _ | exact ih1 _ _ | exact ih2 _ _ _ _ | exact LeO.refl _ | exact LeO.none _ | refine LeO.ite ?_ ?_ | refine LeO.bind ?_ (fun _ => ?_))
  ·
   intro y0 y1
   unfold impl_Condition.f
   repeat' first
   | (with_reducible first | exact ih0 _ _ _ _ _ _ _ _ | exact ih1 _ _ | exact ih2 _ _ _ _ | exact LeO.refl _ | exact LeO.none _ | refine LeO.ite ?_ ?_ | refine LeO.bind ?_ (fun _ => ?_))
  ·
   intro y0 y1 y2 y3
   unfold impl_Condition.l0
   repeat' first
   | (with_reducible first | exact ih0 _ _ _ _ _ _ _ _ | exact ih1 _ _ | exact ih2 _ _ _ _ | exact LeO.refl _ | exact LeO.none _ | refine LeO.ite ?_ ?_ | refine LeO.bind ?_ (fun _ => ?_))
theorem impl_sameCondition.mono : ∀ a0 a1 a2 a3 a4 a5 a6 a7 k, LeO (impl_sameCondition.f k a0 a1 a2 a3 a4 a5 a6 a7) (impl_sameCondition.f (k + 1) a0 a1 a2 a3 a4 a5 a6 a7) := by
 intro a0 a1 a2 a3 a4 a5 a6 a7 k
 obtain ⟨ih0, ih1, ih2⟩ := impl_sameCondition.mono_l k
 exact ih0 a0 a1 a2 a3 a4 a5 a6 a7
theorem impl_Condition.mono : ∀ a0 a1 k, LeO (impl_Condition.f k a0 a1) (impl_Condition.f (k + 1) a0 a1) := by
 intro a0 a1 k
 obtain ⟨ih0, ih1, ih2⟩ := impl_sameCondition.mono_l k
 exact ih1 a0 a1

set_option maxHeartbeats 8000000 in
set_option maxRecDepth 100000 in
theorem impl_sameCondition.callsI (k : Nat) (ih_38 : ∀ m_, m_ < k → ∀ (a0_0 : Int) (a0_1 : ByteArray) (a0_2 : Int) (A0_3 : Option Addr) (c0_3 : Nat) (l0_3 : List (S28)) (a1_0 : Int) (a1_1 : ByteArray) (a1_2 : Int) (A1_3 : Option Addr) (c1_3 : Nat) (l1_3 : List (S28)) (r : Bool) (w : World) (hr0_3 : Kd.C k28 w A0_3 l0_3.length l0_3) (hc0_3 : l0_3.length ≤ c0_3) (hr1_3 : Kd.C k28 w A1_3 l1_3.length l1_3) (hc1_3 : l1_3.length ≤ c1_3) (h : impl_sameCondition.f m_ a0_0 a0_1 a0_2 l0_3 a1_0 a1_1 a1_2 l1_3 = some r),
  Calls Tryd.prog 38 #[.agg #[.int .i64 a0_0, .string a0_1, .int .i64 a0_2, .slice A0_3 l0_3.length c0_3], .agg #[.int .i64 a1_0, .string a1_1, .int .i64 a1_2, .slice A1_3 l1_3.length c1_3]] w fun e w' => e = .returned (.bool r) ∧ Below w.heap.size w w') (ih_48 : ∀ m_, m_ < k → ∀ (A0 : Option Addr) (c0 : Nat) (l0 : List (S28)) (A1 : Option Addr) (c1 : Nat) (l1 : List (S28))  (r : Bool) (w : World) (hr0 : Kd.C k28 w A0 l0.length l0) (hc0 : l0.length ≤ c0) (hr1 : Kd.C k28 w A1 l1.length l1) (hc1 : l1.length ≤ c1) (h : impl_Condition.f m_ l0 l1 = some r),
  Calls Tryd.prog 48 #[.slice A0 l0.length c0, .slice A1 l1.length c1, .func (.func 38) #[] #[]] w fun e w' => e = .returned (.bool r) ∧ Below w.heap.size w w') : ∀ (a0_0 : Int) (a0_1 : ByteArray) (a0_2 : Int) (A0_3 : Option Addr) (c0_3 : Nat) (l0_3 : List (S28)) (a1_0 : Int) (a1_1 : ByteArray) (a1_2 : Int) (A1_3 : Option Addr) (c1_3 : Nat) (l1_3 : List (S28)) (r : Bool) (w : World) (hr0_3 : Kd.C k28 w A0_3 l0_3.length l0_3) (hc0_3 : l0_3.length ≤ c0_3) (hr1_3 : Kd.C k28 w A1_3 l1_3.length l1_3) (hc1_3 : l1_3.length ≤ c1_3) (h : impl_sameCondition.f k a0_0 a0_1 a0_2 l0_3 a1_0 a1_1 a1_2 l1_3 = some r),
  Calls Tryd.prog 38 #[.agg #[.int .i64 a0_0, .string a0_1, .int .i64 a0_2, .slice A0_3 l0_3.length c0_3], .agg #[.int .i64 a1_0, .string a1_1, .int .i64 a1_2, .slice A1_3 l1_3.length c1_3]] w fun e w' => e = .returned (.bool r) ∧ Below w.heap.size w w' := by
 intro a0_0 a0_1 a0_2 A0_3 c0_3 l0_3 a1_0 a1_1 a1_2 A1_3 c1_3 l1_3 r w hr0_3 hc0_3 hr1_3 hc1_3 h
 cases k with
 | zero => exact absurd h (by simp [impl_sameCondition.f])
 | succ k =>
 simp only [impl_sameCondition.f] at h
 have hu28 := Tryd.underlying28
 have HR0_3 := Aside0.mk hr0_3
 have HC0_3 := Aside0.mk hc0_3
 clear hr0_3 hc0_3
 have HR1_3 := Aside0.mk hr1_3
 have HC1_3 := Aside0.mk hc1_3
 clear hr1_3 hc1_3
 have HB := Aside0.mk (Below.refl w.heap.size w)
 have H : (if a0_0 = a1_0 then (if a0_1.toList = a1_1.toList then (if a0_2 = a1_2 then ((impl_Condition.f k l0_3 l1_3).bind fun t260 => (some t260)) else (some false)) else (some false)) else (some false)) = some r := h
 clear h
 by_cases c3 : a0_0 = a1_0
 rotate_left
 ·
  rw [if_neg c3] at H
  have c3b0 : (a0_0 == a1_0) = false := beq_eq_false_iff_ne.mpr c3
  have c3b1 : (a0_0 != a1_0) = true := bne_iff_ne.mpr c3
  obtain rfl := Option.some.inj H
  go_enter Tryd.func38, Tryd.ntmps38
  go_wp2_with (first | ((with_reducible refine gate_dst (N := 2) rfl ?_); refine Own.be (N := 2) (cs := #[.int .i64 a0_0, .string a0_1, .int .i64 a0_2, .slice A0_3 l0_3.length c0_3]) (t := 28) ?_; intro gb258 hg w23 hbox hb; have BK258 := Aside0.mk hbox; have GW258 := (Own.gs hg : Aside0 (w.heap.size ≤ gb258)); have GE258 := GW258; replace HB := Own.bs hb; clear hb hbox hg) | ((with_reducible refine gate_dst (N := 3) rfl ?_); refine Own.be (N := 3) (cs := #[.int .i64 a1_0, .string a1_1, .int .i64 a1_2, .slice A1_3 l1_3.length c1_3]) (t := 28) ?_; intro gb259 hg w24 hbox hb; have BK259 := Aside0.mk hbox; have GW259 := (Own.gs hg : Aside0 (w.heap.size ≤ gb259)); have GE259 := GW259; have NB258_259 := Own.nl hg BK258.out; have NB259_258 := Aside0.mk NB258_259.out.symm; replace BK258 := Own.bb BK258.out hb; replace HB := Own.bs hb; clear hb hbox hg; have hnb25 := NB258_259.out; have hnc25 := NB259_258.out; obtain ⟨z26_0, z26_1, z26_2, z26_3, y26_0, y26_1, y26_2, y26_3⟩ := Own.box4 BK258.out; obtain ⟨z27_0, z27_1, z27_2, z27_3, y27_0, y27_1, y27_2, y27_3⟩ := Own.box4 BK259.out))
  go_ret
  exact ⟨Own.rr, Own.bl⟩
 rw [if_pos c3] at H
 have c3b0 : (a0_0 == a1_0) = true := beq_iff_eq.mpr c3
 have c3b1 : (a0_0 != a1_0) = false := bne_eq_false_iff_eq.mpr c3
 clear c3
 by_cases c4 : a0_1.toList = a1_1.toList
 rotate_left
 ·
  rw [if_neg c4] at H
  have c4b0 : (a0_1.toList == a1_1.toList) = false := beq_eq_false_iff_ne.mpr c4
  have c4b1 : (a0_1.toList != a1_1.toList) = true := bne_iff_ne.mpr c4
  obtain rfl := Option.some.inj H
  go_enter Tryd.func38, Tryd.ntmps38
  go_wp2_with (first | ((with_reducible refine gate_dst (N := 2) rfl ?_); refine Own.be (N := 2) (cs := #[.int .i64 a0_0, .string a0_1, .int .i64 a0_2, .slice A0_3 l0_3.length c0_3]) (t := 28) ?_; intro gb258 hg w18 hbox hb; have BK258 := Aside0.mk hbox; have GW258 := (Own.gs hg : Aside0 (w.heap.size ≤ gb258)); have GE258 := GW258; replace HB := Own.bs hb; clear hb hbox hg) | ((with_reducible refine gate_dst (N := 3) rfl ?_); refine Own.be (N := 3) (cs := #[.int .i64 a1_0, .string a1_1, .int .i64 a1_2, .slice A1_3 l1_3.length c1_3]) (t := 28) ?_; intro gb259 hg w19 hbox hb; have BK259 := Aside0.mk hbox; have GW259 := (Own.gs hg : Aside0 (w.heap.size ≤ gb259)); have GE259 := GW259; have NB258_259 := Own.nl hg BK258.out; have NB259_258 := Aside0.mk NB258_259.out.symm; replace BK258 := Own.bb BK258.out hb; replace HB := Own.bs hb; clear hb hbox hg; have hnb20 := NB258_259.out; have hnc20 := NB259_258.out; obtain ⟨z21_0, z21_1, z21_2, z21_3, y21_0, y21_1, y21_2, y21_3⟩ := Own.box4 BK258.out; obtain ⟨z22_0, z22_1, z22_2, z22_3, y22_0, y22_1, y22_2, y22_3⟩ := Own.box4 BK259.out))
  go_ret
  exact ⟨Own.rr, Own.bl⟩
 rw [if_pos c4] at H
 have c4b0 : (a0_1.toList == a1_1.toList) = true := beq_iff_eq.mpr c4
 have c4b1 : (a0_1.toList != a1_1.toList) = false := bne_eq_false_iff_eq.mpr c4
 clear c4
 by_cases c5 : a0_2 = a1_2
 rotate_left
 ·
  rw [if_neg c5] at H
  have c5b0 : (a0_2 == a1_2) = false := beq_eq_false_iff_ne.mpr c5
  have c5b1 : (a0_2 != a1_2) = true := bne_iff_ne.mpr c5
  obtain rfl := Option.some.inj H
  go_enter Tryd.func38, Tryd.ntmps38
  go_wp2_with (first | ((with_reducible refine gate_dst (N := 2) rfl ?_); refine Own.be (N := 2) (cs := #[.int .i64 a0_0, .string a0_1, .int .i64 a0_2, .slice A0_3 l0_3.length c0_3]) (t := 28) ?_; intro gb258 hg w13 hbox hb; have BK258 := Aside0.mk hbox; have GW258 := (Own.gs hg : Aside0 (w.heap.size ≤ gb258)); have GE258 := GW258; replace HB := Own.bs hb; clear hb hbox hg) | ((with_reducible refine gate_dst (N := 3) rfl ?_); refine Own.be (N := 3) (cs := #[.int .i64 a1_0, .string a1_1, .int .i64 a1_2, .slice A1_3 l1_3.length c1_3]) (t := 28) ?_; intro gb259 hg w14 hbox hb; have BK259 := Aside0.mk hbox; have GW259 := (Own.gs hg : Aside0 (w.heap.size ≤ gb259)); have GE259 := GW259; have NB258_259 := Own.nl hg BK258.out; have NB259_258 := Aside0.mk NB258_259.out.symm; replace BK258 := Own.bb BK258.out hb; replace HB := Own.bs hb; clear hb hbox hg; have hnb15 := NB258_259.out; have hnc15 := NB259_258.out; obtain ⟨z16_0, z16_1, z16_2, z16_3, y16_0, y16_1, y16_2, y16_3⟩ := Own.box4 BK258.out; obtain ⟨z17_0, z17_1, z17_2, z17_3, y17_0, y17_1, y17_2, y17_3⟩ := Own.box4 BK259.out))
  go_ret
  exact ⟨Own.rr, Own.bl⟩
 rw [if_pos c5] at H
 have c5b0 : (a0_2 == a1_2) = true := beq_iff_eq.mpr c5
 have c5b1 : (a0_2 != a1_2) = false := bne_eq_false_iff_eq.mpr c5
 clear c5
 replace H := Own.bd H; obtain ⟨t260, A6, H⟩ := H
 obtain rfl := Option.some.inj H
 go_enter Tryd.func38, Tryd.ntmps38
 go_wp2_with (first | ((with_reducible refine gate_dst (N := 2) rfl ?_); refine Own.be (N := 2) (cs := #[.int .i64 a0_0, .string a0_1, .int .i64 a0_2, .slice A0_3 l0_3.length c0_3]) (t := 28) ?_; intro gb258 hg w7 hbox hb; have BK258 := Aside0.mk hbox; have GW258 := (Own.gs hg : Aside0 (w.heap.size ≤ gb258)); have GE258 := GW258; replace HB := Own.bs hb; clear hb hbox hg) | ((with_reducible refine gate_dst (N := 3) rfl ?_); refine Own.be (N := 3) (cs := #[.int .i64 a1_0, .string a1_1, .int .i64 a1_2, .slice A1_3 l1_3.length c1_3]) (t := 28) ?_; intro gb259 hg w8 hbox hb; have BK259 := Aside0.mk hbox; have GW259 := (Own.gs hg : Aside0 (w.heap.size ≤ gb259)); have GE259 := GW259; have NB258_259 := Own.nl hg BK258.out; have NB259_258 := Aside0.mk NB258_259.out.symm; replace BK258 := Own.bb BK258.out hb; replace HB := Own.bs hb; clear hb hbox hg; have hnb9 := NB258_259.out; have hnc9 := NB259_258.out; obtain ⟨z10_0, z10_1, z10_2, z10_3, y10_0, y10_1, y10_2, y10_3⟩ := Own.box4 BK258.out; obtain ⟨z11_0, z11_1, z11_2, z11_3, y11_0, y11_1, y11_2, y11_3⟩ := Own.box4 BK259.out) | (go_at_call 48; (with_reducible refine (ih_48 k (by omega) _ _ l0_3 _ _ l1_3  t260 _ ?side1 ?side2 ?side3 ?side4 A6.out).mono ?_); (case side1 => exact Kd.C_below HR0_3.out Own.bl); (case side2 => exact HC0_3.out); (case side3 => exact Kd.C_below HR1_3.out Own.bl); (case side4 => exact HC1_3.out); rintro e w12 ⟨rfl, hb⟩; replace BK258 := Own.bb BK258.out hb; replace BK259 := Own.bb BK259.out hb; replace HB := Own.bs hb; (try clear hb)))
 go_ret
 exact ⟨Own.rr, Own.bl⟩


set_option maxHeartbeats 8000000 in
set_option maxRecDepth 100000 in
theorem impl_Condition.callsI (k : Nat) (ih_38 : ∀ m_, m_ < k → ∀ (a0_0 : Int) (a0_1 : ByteArray) (a0_2 : Int) (A0_3 : Option Addr) (c0_3 : Nat) (l0_3 : List (S28)) (a1_0 : Int) (a1_1 : ByteArray) (a1_2 : Int) (A1_3 : Option Addr) (c1_3 : Nat) (l1_3 : List (S28)) (r : Bool) (w : World) (hr0_3 : Kd.C k28 w A0_3 l0_3.length l0_3) (hc0_3 : l0_3.length ≤ c0_3) (hr1_3 : Kd.C k28 w A1_3 l1_3.length l1_3) (hc1_3 : l1_3.length ≤ c1_3) (h : impl_sameCondition.f m_ a0_0 a0_1 a0_2 l0_3 a1_0 a1_1 a1_2 l1_3 = some r),
  Calls Tryd.prog 38 #[.agg #[.int .i64 a0_0, .string a0_1, .int .i64 a0_2, .slice A0_3 l0_3.length c0_3], .agg #[.int .i64 a1_0, .string a1_1, .int .i64 a1_2, .slice A1_3 l1_3.length c1_3]] w fun e w' => e = .returned (.bool r) ∧ Below w.heap.size w w') (ih_48 : ∀ m_, m_ < k → ∀ (A0 : Option Addr) (c0 : Nat) (l0 : List (S28)) (A1 : Option Addr) (c1 : Nat) (l1 : List (S28))  (r : Bool) (w : World) (hr0 : Kd.C k28 w A0 l0.length l0) (hc0 : l0.length ≤ c0) (hr1 : Kd.C k28 w A1 l1.length l1) (hc1 : l1.length ≤ c1) (h : impl_Condition.f m_ l0 l1 = some r),
  Calls Tryd.prog 48 #[.slice A0 l0.length c0, .slice A1 l1.length c1, .func (.func 38) #[] #[]] w fun e w' => e = .returned (.bool r) ∧ Below w.heap.size w w') : ∀ (A0 : Option Addr) (c0 : Nat) (l0 : List (S28)) (A1 : Option Addr) (c1 : Nat) (l1 : List (S28))  (r : Bool) (w : World) (hr0 : Kd.C k28 w A0 l0.length l0) (hc0 : l0.length ≤ c0) (hr1 : Kd.C k28 w A1 l1.length l1) (hc1 : l1.length ≤ c1) (h : impl_Condition.f k l0 l1 = some r),
  Calls Tryd.prog 48 #[.slice A0 l0.length c0, .slice A1 l1.length c1, .func (.func 38) #[] #[]] w fun e w' => e = .returned (.bool r) ∧ Below w.heap.size w w' := by
 intro A0 c0 l0 A1 c1 l1 r w hr0 hc0 hr1 hc1 h
 cases k with
 | zero => exact absurd h (by simp [impl_Condition.f])
 | succ k =>
 simp only [impl_Condition.f] at h
 have hu28 := Tryd.underlying28
 have HR0 := Aside0.mk hr0
 have HC0 := Aside0.mk hc0
 clear hr0 hc0
 have HR1 := Aside0.mk hr1
 have HC1 := Aside0.mk hc1
 clear hr1 hc1
 have HB := Aside0.mk (Below.refl w.heap.size w)
 have H : (if (l0.length : Int) = (l1.length : Int) then (impl_Condition.l0 k l1 l0 (l0.length : Int) 0) else (some false)) = some r := h
 clear h
 by_cases c4 : (l0.length : Int) = (l1.length : Int)
 rotate_left
 ·
  rw [if_neg c4] at H
  have c4b0 : ((l0.length : Int) == (l1.length : Int)) = false := beq_eq_false_iff_ne.mpr c4
  have c4b1 : ((l0.length : Int) != (l1.length : Int)) = true := bne_iff_ne.mpr c4
  have c4b2 : (l0.length == l1.length) = false := by first | simpa using c4 | (simp at c4 ⊢; omega)
  obtain rfl := Option.some.inj H
  go_enter Tryd.func48, Tryd.ntmps48
  go_wp2
  go_ret
  exact ⟨Own.rr, Own.bl⟩
 rw [if_pos c4] at H
 have c4b0 : ((l0.length : Int) == (l1.length : Int)) = true := beq_iff_eq.mpr c4
 have c4b1 : ((l0.length : Int) != (l1.length : Int)) = false := bne_eq_false_iff_eq.mpr c4
 have c4b2 : (l0.length == l1.length) = true := by first | simpa using c4 | (simp at c4 ⊢; omega)
 clear c4
 have H' := Aside0.mk H
 clear H
 go_enter Tryd.func48, Tryd.ntmps48
 go_wp2
 go_loopg [17] k (fun kq v17 w' => ∃ (x17_1 : Int), v17 = .int .i64 x17_1 ∧ Aside0 (impl_Condition.l0 kq l1 l0 (l0.length : Int) x17_1 = some r) ∧ Aside0 (kq ≤ k) ∧ Aside0 (Below w.heap.size w w'))
 case atStart => exact ⟨(0), Own.rs, H', ⟨Nat.le_refl _⟩, ⟨Own.bl⟩⟩
 case round =>
  clear H'
  try clear c1; try clear p2; try clear c4; try clear c4b0; try clear c4b1; try clear c4b2
  obtain ⟨x17_1, rfl, HA, HK1, HB⟩ := hrel
  cases gk with
  | zero => exact absurd HA.out (by simp [impl_Condition.l0])
  | succ k1 =>
   have H := HA.out
   clear HA
   simp only [impl_Condition.l0] at H
   by_cases c5 : x17_1 < (l0.length : Int)
   rotate_left
   ·
    rw [if_neg c5] at H
    replace c5 := decide_eq_false c5
    obtain rfl := Option.some.inj H
    go_wp2
    go_ret
    exact ⟨Own.rr, Own.bl⟩
   rw [if_pos c5] at H
   replace c5 := decide_eq_true c5
   replace H := Own.ifd H; obtain ⟨c6, H⟩ := H
   replace H := Own.ifd H; obtain ⟨c7, H⟩ := H
   replace H := Own.ifd H; obtain ⟨c8, H⟩ := H
   replace H := Own.bd H; obtain ⟨t265, A9, H⟩ := H
   replace H := Own.ift H; obtain ⟨rfl, H⟩ | ⟨rfl, H⟩ := H
   ·
    obtain rfl := Option.some.inj H
    have p261 : 0 ≤ (x17_1 : Int) := Own.dp
    have q261 : x17_1 < (l0.length : Int) := Own.dp
    obtain ⟨ad261, A261_3, c261_3, e261, hx261_0, hx261_1, hx261_2, hx261_3, hl261_3, hi261_3⟩ := at_T28 HR0.out x17_1 p261 q261
    cases e261
    replace hx261_0 := Own.up HB.out hx261_0
    replace hx261_1 := Own.up HB.out hx261_1
    replace hx261_2 := Own.up HB.out hx261_2
    replace hx261_3 := Own.up HB.out hx261_3
    have HR261_3 := Aside0.mk hi261_3
    have HC261_3 := Aside0.mk hl261_3
    clear hi261_3 hl261_3
    replace p261 := eq_true p261
    replace q261 := eq_true q261
    go_wp2_with (first | ((with_reducible refine gate_dst (N := 8) rfl ?_); refine Own.be (N := 8) (cs := #[.int .i64 0, .string (⟨#[]⟩ : ByteArray), .int .i64 0, .slice none 0 0]) (t := 28) ?_; intro gb262 hg w18 hbox hb; have BK262 := Aside0.mk hbox; have GW262 := (Own.gs hg : Aside0 (w.heap.size ≤ gb262)); have GE262 := GW262; replace HB := Own.bs hb; clear hb hbox hg; obtain ⟨z19_0, z19_1, z19_2, z19_3, y19_0, y19_1, y19_2, y19_3⟩ := Own.box4 BK262.out; have p263 : 0 ≤ (x17_1 : Int) := Own.dp; have q263 : x17_1 < (l1.length : Int) := Own.dp; obtain ⟨ad263, A263_3, c263_3, e263, hx263_0, hx263_1, hx263_2, hx263_3, hl263_3, hi263_3⟩ := at_T28 HR1.out x17_1 p263 q263; cases e263; have hn263_0 : ad263.block ≠ gb262 := Nat.ne_of_lt (Nat.lt_of_lt_of_le (by have := World.block_lt_of_cell? _ _ hx263_0; first | rwa [add_block] at this | exact this) GW262.out); have hn263_1 : ad263.block ≠ gb262 := Nat.ne_of_lt (Nat.lt_of_lt_of_le (by have := World.block_lt_of_cell? _ _ hx263_0; first | rwa [add_block] at this | exact this) GW262.out); have hn263_2 : ad263.block ≠ gb262 := Nat.ne_of_lt (Nat.lt_of_lt_of_le (by have := World.block_lt_of_cell? _ _ hx263_0; first | rwa [add_block] at this | exact this) GW262.out); have hn263_3 : ad263.block ≠ gb262 := Nat.ne_of_lt (Nat.lt_of_lt_of_le (by have := World.block_lt_of_cell? _ _ hx263_0; first | rwa [add_block] at this | exact this) GW262.out); replace hx263_0 := Own.up HB.out hx263_0; replace hx263_1 := Own.up HB.out hx263_1; replace hx263_2 := Own.up HB.out hx263_2; replace hx263_3 := Own.up HB.out hx263_3; have HR263_3 := Aside0.mk hi263_3; have HC263_3 := Aside0.mk hl263_3; clear hi263_3 hl263_3; replace hx263_0 := (cell_far (p := ⟨gb262, 0, none⟩) (by first | (rw [add_block]; exact hn263_0) | (show (Addr.add _ _).block ≠ _; rw [add_block]; exact hn263_0) | exact hn263_0) (.int .i64 ((rd_T28 l0 x17_1).f0))).trans hx263_0; replace hx263_1 := (cell_far (p := ⟨gb262, 0, none⟩) (by first | (rw [add_block]; exact hn263_0) | (show (Addr.add _ _).block ≠ _; rw [add_block]; exact hn263_0) | exact hn263_0) (.int .i64 ((rd_T28 l0 x17_1).f0))).trans hx263_1; replace hx263_2 := (cell_far (p := ⟨gb262, 0, none⟩) (by first | (rw [add_block]; exact hn263_0) | (show (Addr.add _ _).block ≠ _; rw [add_block]; exact hn263_0) | exact hn263_0) (.int .i64 ((rd_T28 l0 x17_1).f0))).trans hx263_2; replace hx263_3 := (cell_far (p := ⟨gb262, 0, none⟩) (by first | (rw [add_block]; exact hn263_0) | (show (Addr.add _ _).block ≠ _; rw [add_block]; exact hn263_0) | exact hn263_0) (.int .i64 ((rd_T28 l0 x17_1).f0))).trans hx263_3; replace hx263_0 := (cell_far (p := ⟨gb262, 1, none⟩) (by first | (rw [add_block]; exact hn263_1) | (show (Addr.add _ _).block ≠ _; rw [add_block]; exact hn263_1) | exact hn263_1) (.string ((rd_T28 l0 x17_1).f1))).trans hx263_0; replace hx263_1 := (cell_far (p := ⟨gb262, 1, none⟩) (by first | (rw [add_block]; exact hn263_1) | (show (Addr.add _ _).block ≠ _; rw [add_block]; exact hn263_1) | exact hn263_1) (.string ((rd_T28 l0 x17_1).f1))).trans hx263_1; replace hx263_2 := (cell_far (p := ⟨gb262, 1, none⟩) (by first | (rw [add_block]; exact hn263_1) | (show (Addr.add _ _).block ≠ _; rw [add_block]; exact hn263_1) | exact hn263_1) (.string ((rd_T28 l0 x17_1).f1))).trans hx263_2; replace hx263_3 := (cell_far (p := ⟨gb262, 1, none⟩) (by first | (rw [add_block]; exact hn263_1) | (show (Addr.add _ _).block ≠ _; rw [add_block]; exact hn263_1) | exact hn263_1) (.string ((rd_T28 l0 x17_1).f1))).trans hx263_3; replace hx263_0 := (cell_far (p := ⟨gb262, 2, none⟩) (by first | (rw [add_block]; exact hn263_2) | (show (Addr.add _ _).block ≠ _; rw [add_block]; exact hn263_2) | exact hn263_2) (.int .i64 ((rd_T28 l0 x17_1).f2))).trans hx263_0; replace hx263_1 := (cell_far (p := ⟨gb262, 2, none⟩) (by first | (rw [add_block]; exact hn263_2) | (show (Addr.add _ _).block ≠ _; rw [add_block]; exact hn263_2) | exact hn263_2) (.int .i64 ((rd_T28 l0 x17_1).f2))).trans hx263_1; replace hx263_2 := (cell_far (p := ⟨gb262, 2, none⟩) (by first | (rw [add_block]; exact hn263_2) | (show (Addr.add _ _).block ≠ _; rw [add_block]; exact hn263_2) | exact hn263_2) (.int .i64 ((rd_T28 l0 x17_1).f2))).trans hx263_2; replace hx263_3 := (cell_far (p := ⟨gb262, 2, none⟩) (by first | (rw [add_block]; exact hn263_2) | (show (Addr.add _ _).block ≠ _; rw [add_block]; exact hn263_2) | exact hn263_2) (.int .i64 ((rd_T28 l0 x17_1).f2))).trans hx263_3; replace hx263_0 := (cell_far (p := ⟨gb262, 3, none⟩) (by first | (rw [add_block]; exact hn263_3) | (show (Addr.add _ _).block ≠ _; rw [add_block]; exact hn263_3) | exact hn263_3) (.slice A261_3 ((rd_T28 l0 x17_1).f3).length c261_3)).trans hx263_0; replace hx263_1 := (cell_far (p := ⟨gb262, 3, none⟩) (by first | (rw [add_block]; exact hn263_3) | (show (Addr.add _ _).block ≠ _; rw [add_block]; exact hn263_3) | exact hn263_3) (.slice A261_3 ((rd_T28 l0 x17_1).f3).length c261_3)).trans hx263_1; replace hx263_2 := (cell_far (p := ⟨gb262, 3, none⟩) (by first | (rw [add_block]; exact hn263_3) | (show (Addr.add _ _).block ≠ _; rw [add_block]; exact hn263_3) | exact hn263_3) (.slice A261_3 ((rd_T28 l0 x17_1).f3).length c261_3)).trans hx263_2; replace hx263_3 := (cell_far (p := ⟨gb262, 3, none⟩) (by first | (rw [add_block]; exact hn263_3) | (show (Addr.add _ _).block ≠ _; rw [add_block]; exact hn263_3) | exact hn263_3) (.slice A261_3 ((rd_T28 l0 x17_1).f3).length c261_3)).trans hx263_3; clear hn263_0; clear hn263_1; clear hn263_2; clear hn263_3; replace p263 := eq_true p263; replace q263 := eq_true q263) | ((with_reducible refine gate_dst (N := 9) rfl ?_); refine Own.be (N := 9) (cs := #[.int .i64 0, .string (⟨#[]⟩ : ByteArray), .int .i64 0, .slice none 0 0]) (t := 28) ?_; intro gb264 hg w20 hbox hb; have BK264 := Aside0.mk hbox; have GW264 := (Own.gs hg : Aside0 (w.heap.size ≤ gb264)); have GE264 := GW264; have NB262_264 := Aside0.mk ((by rw [hg]; exact Nat.ne_of_lt (blk_lt (g := gb262) (o := .cells #[.int .i64 ((rd_T28 l0 x17_1).f0), .string ((rd_T28 l0 x17_1).f1), .int .i64 ((rd_T28 l0 x17_1).f2), .slice A261_3 ((rd_T28 l0 x17_1).f3).length c261_3] 28 (0, 0)) (by (with_reducible repeat (first | refine blk_drewN ?_ _ | refine blk_drew ?_ | refine blk_alloc ?_ _)); with_reducible exact Own.put4 BK262.out)) : gb262 ≠ gb264)); have NB264_262 := Aside0.mk ((by rw [hg]; exact Nat.ne_of_gt (blk_lt (g := gb262) (o := .cells #[.int .i64 ((rd_T28 l0 x17_1).f0), .string ((rd_T28 l0 x17_1).f1), .int .i64 ((rd_T28 l0 x17_1).f2), .slice A261_3 ((rd_T28 l0 x17_1).f3).length c261_3] 28 (0, 0)) (by (with_reducible repeat (first | refine blk_drewN ?_ _ | refine blk_drew ?_ | refine blk_alloc ?_ _)); with_reducible exact Own.put4 BK262.out)) : gb264 ≠ gb262)); replace BK262 := Aside0.mk (blk_below (g := gb262) (o := .cells #[.int .i64 ((rd_T28 l0 x17_1).f0), .string ((rd_T28 l0 x17_1).f1), .int .i64 ((rd_T28 l0 x17_1).f2), .slice A261_3 ((rd_T28 l0 x17_1).f3).length c261_3] 28 (0, 0)) (by (with_reducible repeat (first | refine blk_drewN ?_ _ | refine blk_drew ?_ | refine blk_alloc ?_ _)); with_reducible exact Own.put4 BK262.out) hb); replace HB := Own.bs hb; clear hb hbox hg; have hnb21 := NB264_262.out; have hnc21 := NB262_264.out; obtain ⟨z22_0, z22_1, z22_2, z22_3, y22_0, y22_1, y22_2, y22_3⟩ := Own.box4 BK264.out; obtain ⟨z23_0, z23_1, z23_2, z23_3, y23_0, y23_1, y23_2, y23_3⟩ := Own.box4 BK262.out) | ((with_reducible refine Own.gateT_ (t := 26) rfl ?_); refine Own.goesT_ (some 29) rfl rfl Tryd.func38 (by kernel_rfl) rfl #[.agg #[.int .i64 ((rd_T28 l0 x17_1).f0), .string ((rd_T28 l0 x17_1).f1), .int .i64 ((rd_T28 l0 x17_1).f2), .slice A261_3 ((rd_T28 l0 x17_1).f3).length c261_3], .agg #[.int .i64 ((rd_T28 l1 x17_1).f0), .string ((rd_T28 l1 x17_1).f1), .int .i64 ((rd_T28 l1 x17_1).f2), .slice A263_3 ((rd_T28 l1 x17_1).f3).length c263_3]] rfl Own.ha ?_; (with_reducible refine (ih_38 k1 (by have := HK1.out; omega) ((rd_T28 l0 x17_1).f0) ((rd_T28 l0 x17_1).f1) ((rd_T28 l0 x17_1).f2) _ _ ((rd_T28 l0 x17_1).f3) ((rd_T28 l1 x17_1).f0) ((rd_T28 l1 x17_1).f1) ((rd_T28 l1 x17_1).f2) _ _ ((rd_T28 l1 x17_1).f3) false _ ?side1 ?side2 ?side3 ?side4 A9.out).mono ?_); (case side1 => exact Kd.C_below HR261_3.out Own.bl); (case side2 => exact HC261_3.out); (case side3 => exact Kd.C_below HR263_3.out Own.bl); (case side4 => exact HC263_3.out); rintro e w24 ⟨rfl, hb⟩; refine ⟨_, rfl, ?_⟩; replace BK262 := Own.bb BK262.out hb; replace BK264 := Aside0.mk (blk_below (g := gb264) (o := .cells #[.int .i64 ((rd_T28 l1 x17_1).f0), .string ((rd_T28 l1 x17_1).f1), .int .i64 ((rd_T28 l1 x17_1).f2), .slice A263_3 ((rd_T28 l1 x17_1).f3).length c263_3] 28 (0, 0)) (by (with_reducible repeat (first | refine blk_drewN ?_ _ | refine blk_drew ?_ | refine blk_alloc ?_ _)); with_reducible exact Own.put4 BK264.out) hb); replace HB := Own.bs hb; (try clear hb)))
    go_ret
    exact ⟨Own.rr, Own.bl⟩
   have H' := Aside0.mk H
   clear H
   have p261 : 0 ≤ (x17_1 : Int) := Own.dp
   have q261 : x17_1 < (l0.length : Int) := Own.dp
   obtain ⟨ad261, A261_3, c261_3, e261, hx261_0, hx261_1, hx261_2, hx261_3, hl261_3, hi261_3⟩ := at_T28 HR0.out x17_1 p261 q261
   cases e261
   replace hx261_0 := Own.up HB.out hx261_0
   replace hx261_1 := Own.up HB.out hx261_1
   replace hx261_2 := Own.up HB.out hx261_2
   replace hx261_3 := Own.up HB.out hx261_3
   have HR261_3 := Aside0.mk hi261_3
   have HC261_3 := Aside0.mk hl261_3
   clear hi261_3 hl261_3
   replace p261 := eq_true p261
   replace q261 := eq_true q261
   go_wp2_with (first | ((with_reducible refine gate_dst (N := 8) rfl ?_); refine Own.be (N := 8) (cs := #[.int .i64 0, .string (⟨#[]⟩ : ByteArray), .int .i64 0, .slice none 0 0]) (t := 28) ?_; intro gb262 hg w11 hbox hb; have BK262 := Aside0.mk hbox; have GW262 := (Own.gs hg : Aside0 (w.heap.size ≤ gb262)); have GE262 := GW262; replace HB := Own.bs hb; clear hb hbox hg; obtain ⟨z12_0, z12_1, z12_2, z12_3, y12_0, y12_1, y12_2, y12_3⟩ := Own.box4 BK262.out; have p263 : 0 ≤ (x17_1 : Int) := Own.dp; have q263 : x17_1 < (l1.length : Int) := Own.dp; obtain ⟨ad263, A263_3, c263_3, e263, hx263_0, hx263_1, hx263_2, hx263_3, hl263_3, hi263_3⟩ := at_T28 HR1.out x17_1 p263 q263; cases e263; have hn263_0 : ad263.block ≠ gb262 := Nat.ne_of_lt (Nat.lt_of_lt_of_le (by have := World.block_lt_of_cell? _ _ hx263_0; first | rwa [add_block] at this | exact this) GW262.out); have hn263_1 : ad263.block ≠ gb262 := Nat.ne_of_lt (Nat.lt_of_lt_of_le (by have := World.block_lt_of_cell? _ _ hx263_0; first | rwa [add_block] at this | exact this) GW262.out); have hn263_2 : ad263.block ≠ gb262 := Nat.ne_of_lt (Nat.lt_of_lt_of_le (by have := World.block_lt_of_cell? _ _ hx263_0; first | rwa [add_block] at this | exact this) GW262.out); have hn263_3 : ad263.block ≠ gb262 := Nat.ne_of_lt (Nat.lt_of_lt_of_le (by have := World.block_lt_of_cell? _ _ hx263_0; first | rwa [add_block] at this | exact this) GW262.out); replace hx263_0 := Own.up HB.out hx263_0; replace hx263_1 := Own.up HB.out hx263_1; replace hx263_2 := Own.up HB.out hx263_2; replace hx263_3 := Own.up HB.out hx263_3; have HR263_3 := Aside0.mk hi263_3; have HC263_3 := Aside0.mk hl263_3; clear hi263_3 hl263_3; replace hx263_0 := (cell_far (p := ⟨gb262, 0, none⟩) (by first | (rw [add_block]; exact hn263_0) | (show (Addr.add _ _).block ≠ _; rw [add_block]; exact hn263_0) | exact hn263_0) (.int .i64 ((rd_T28 l0 x17_1).f0))).trans hx263_0; replace hx263_1 := (cell_far (p := ⟨gb262, 0, none⟩) (by first | (rw [add_block]; exact hn263_0) | (show (Addr.add _ _).block ≠ _; rw [add_block]; exact hn263_0) | exact hn263_0) (.int .i64 ((rd_T28 l0 x17_1).f0))).trans hx263_1; replace hx263_2 := (cell_far (p := ⟨gb262, 0, none⟩) (by first | (rw [add_block]; exact hn263_0) | (show (Addr.add _ _).block ≠ _; rw [add_block]; exact hn263_0) | exact hn263_0) (.int .i64 ((rd_T28 l0 x17_1).f0))).trans hx263_2; replace hx263_3 := (cell_far (p := ⟨gb262, 0, none⟩) (by first | (rw [add_block]; exact hn263_0) | (show (Addr.add _ _).block ≠ _; rw [add_block]; exact hn263_0) | exact hn263_0) (.int .i64 ((rd_T28 l0 x17_1).f0))).trans hx263_3; replace hx263_0 := (cell_far (p := ⟨gb262, 1, none⟩) (by first | (rw [add_block]; exact hn263_1) | (show (Addr.add _ _).block ≠ _; rw [add_block]; exact hn263_1) | exact hn263_1) (.string ((rd_T28 l0 x17_1).f1))).trans hx263_0; replace hx263_1 := (cell_far (p := ⟨gb262, 1, none⟩) (by first | (rw [add_block]; exact hn263_1) | (show (Addr.add _ _).block ≠ _; rw [add_block]; exact hn263_1) | exact hn263_1) (.string ((rd_T28 l0 x17_1).f1))).trans hx263_1; replace hx263_2 := (cell_far (p := ⟨gb262, 1, none⟩) (by first | (rw [add_block]; exact hn263_1) | (show (Addr.add _ _).block ≠ _; rw [add_block]; exact hn263_1) | exact hn263_1) (.string ((rd_T28 l0 x17_1).f1))).trans hx263_2; replace hx263_3 := (cell_far (p := ⟨gb262, 1, none⟩) (by first | (rw [add_block]; exact hn263_1) | (show (Addr.add _ _).block ≠ _; rw [add_block]; exact hn263_1) | exact hn263_1) (.string ((rd_T28 l0 x17_1).f1))).trans hx263_3; replace hx263_0 := (cell_far (p := ⟨gb262, 2, none⟩) (by first | (rw [add_block]; exact hn263_2) | (show (Addr.add _ _).block ≠ _; rw [add_block]; exact hn263_2) | exact hn263_2) (.int .i64 ((rd_T28 l0 x17_1).f2))).trans hx263_0; replace hx263_1 := (cell_far (p := ⟨gb262, 2, none⟩) (by first | (rw [add_block]; exact hn263_2) | (show (Addr.add _ _).block ≠ _; rw [add_block]; exact hn263_2) | exact hn263_2) (.int .i64 ((rd_T28 l0 x17_1).f2))).trans hx263_1; replace hx263_2 := (cell_far (p := ⟨gb262, 2, none⟩) (by first | (rw [add_block]; exact hn263_2) | (show (Addr.add _ _).block ≠ _; rw [add_block]; exact hn263_2) | exact hn263_2) (.int .i64 ((rd_T28 l0 x17_1).f2))).trans hx263_2; replace hx263_3 := (cell_far (p := ⟨gb262, 2, none⟩) (by first | (rw [add_block]; exact hn263_2) | (show (Addr.add _ _).block ≠ _; rw [add_block]; exact hn263_2) | exact hn263_2) (.int .i64 ((rd_T28 l0 x17_1).f2))).trans hx263_3; replace hx263_0 := (cell_far (p := ⟨gb262, 3, none⟩) (by first | (rw [add_block]; exact hn263_3) | (show (Addr.add _ _).block ≠ _; rw [add_block]; exact hn263_3) | exact hn263_3) (.slice A261_3 ((rd_T28 l0 x17_1).f3).length c261_3)).trans hx263_0; replace hx263_1 := (cell_far (p := ⟨gb262, 3, none⟩) (by first | (rw [add_block]; exact hn263_3) | (show (Addr.add _ _).block ≠ _; rw [add_block]; exact hn263_3) | exact hn263_3) (.slice A261_3 ((rd_T28 l0 x17_1).f3).length c261_3)).trans hx263_1; replace hx263_2 := (cell_far (p := ⟨gb262, 3, none⟩) (by first | (rw [add_block]; exact hn263_3) | (show (Addr.add _ _).block ≠ _; rw [add_block]; exact hn263_3) | exact hn263_3) (.slice A261_3 ((rd_T28 l0 x17_1).f3).length c261_3)).trans hx263_2; replace hx263_3 := (cell_far (p := ⟨gb262, 3, none⟩) (by first | (rw [add_block]; exact hn263_3) | (show (Addr.add _ _).block ≠ _; rw [add_block]; exact hn263_3) | exact hn263_3) (.slice A261_3 ((rd_T28 l0 x17_1).f3).length c261_3)).trans hx263_3; clear hn263_0; clear hn263_1; clear hn263_2; clear hn263_3; replace p263 := eq_true p263; replace q263 := eq_true q263) | ((with_reducible refine gate_dst (N := 9) rfl ?_); refine Own.be (N := 9) (cs := #[.int .i64 0, .string (⟨#[]⟩ : ByteArray), .int .i64 0, .slice none 0 0]) (t := 28) ?_; intro gb264 hg w13 hbox hb; have BK264 := Aside0.mk hbox; have GW264 := (Own.gs hg : Aside0 (w.heap.size ≤ gb264)); have GE264 := GW264; have NB262_264 := Aside0.mk ((by rw [hg]; exact Nat.ne_of_lt (blk_lt (g := gb262) (o := .cells #[.int .i64 ((rd_T28 l0 x17_1).f0), .string ((rd_T28 l0 x17_1).f1), .int .i64 ((rd_T28 l0 x17_1).f2), .slice A261_3 ((rd_T28 l0 x17_1).f3).length c261_3] 28 (0, 0)) (by (with_reducible repeat (first | refine blk_drewN ?_ _ | refine blk_drew ?_ | refine blk_alloc ?_ _)); with_reducible exact Own.put4 BK262.out)) : gb262 ≠ gb264)); have NB264_262 := Aside0.mk ((by rw [hg]; exact Nat.ne_of_gt (blk_lt (g := gb262) (o := .cells #[.int .i64 ((rd_T28 l0 x17_1).f0), .string ((rd_T28 l0 x17_1).f1), .int .i64 ((rd_T28 l0 x17_1).f2), .slice A261_3 ((rd_T28 l0 x17_1).f3).length c261_3] 28 (0, 0)) (by (with_reducible repeat (first | refine blk_drewN ?_ _ | refine blk_drew ?_ | refine blk_alloc ?_ _)); with_reducible exact Own.put4 BK262.out)) : gb264 ≠ gb262)); replace BK262 := Aside0.mk (blk_below (g := gb262) (o := .cells #[.int .i64 ((rd_T28 l0 x17_1).f0), .string ((rd_T28 l0 x17_1).f1), .int .i64 ((rd_T28 l0 x17_1).f2), .slice A261_3 ((rd_T28 l0 x17_1).f3).length c261_3] 28 (0, 0)) (by (with_reducible repeat (first | refine blk_drewN ?_ _ | refine blk_drew ?_ | refine blk_alloc ?_ _)); with_reducible exact Own.put4 BK262.out) hb); replace HB := Own.bs hb; clear hb hbox hg; have hnb14 := NB264_262.out; have hnc14 := NB262_264.out; obtain ⟨z15_0, z15_1, z15_2, z15_3, y15_0, y15_1, y15_2, y15_3⟩ := Own.box4 BK264.out; obtain ⟨z16_0, z16_1, z16_2, z16_3, y16_0, y16_1, y16_2, y16_3⟩ := Own.box4 BK262.out) | ((with_reducible refine Own.gateT_ (t := 26) rfl ?_); refine Own.goesT_ (some 29) rfl rfl Tryd.func38 (by kernel_rfl) rfl #[.agg #[.int .i64 ((rd_T28 l0 x17_1).f0), .string ((rd_T28 l0 x17_1).f1), .int .i64 ((rd_T28 l0 x17_1).f2), .slice A261_3 ((rd_T28 l0 x17_1).f3).length c261_3], .agg #[.int .i64 ((rd_T28 l1 x17_1).f0), .string ((rd_T28 l1 x17_1).f1), .int .i64 ((rd_T28 l1 x17_1).f2), .slice A263_3 ((rd_T28 l1 x17_1).f3).length c263_3]] rfl Own.ha ?_; (with_reducible refine (ih_38 k1 (by have := HK1.out; omega) ((rd_T28 l0 x17_1).f0) ((rd_T28 l0 x17_1).f1) ((rd_T28 l0 x17_1).f2) _ _ ((rd_T28 l0 x17_1).f3) ((rd_T28 l1 x17_1).f0) ((rd_T28 l1 x17_1).f1) ((rd_T28 l1 x17_1).f2) _ _ ((rd_T28 l1 x17_1).f3) true _ ?side1 ?side2 ?side3 ?side4 A9.out).mono ?_); (case side1 => exact Kd.C_below HR261_3.out Own.bl); (case side2 => exact HC261_3.out); (case side3 => exact Kd.C_below HR263_3.out Own.bl); (case side4 => exact HC263_3.out); rintro e w17 ⟨rfl, hb⟩; refine ⟨_, rfl, ?_⟩; replace BK262 := Own.bb BK262.out hb; replace BK264 := Aside0.mk (blk_below (g := gb264) (o := .cells #[.int .i64 ((rd_T28 l1 x17_1).f0), .string ((rd_T28 l1 x17_1).f1), .int .i64 ((rd_T28 l1 x17_1).f2), .slice A263_3 ((rd_T28 l1 x17_1).f3).length c263_3] 28 (0, 0)) (by (with_reducible repeat (first | refine blk_drewN ?_ _ | refine blk_drew ?_ | refine blk_alloc ?_ _)); with_reducible exact Own.put4 BK264.out) hb); replace HB := Own.bs hb; (try clear hb)))
   go_roundg k1
   case measure => have := HK1.out; omega
   case rel => exact ⟨(wrap64 (x17_1 + 1)), Own.rs, H', ⟨by have := HK1.out; omega⟩, ⟨Own.bl⟩⟩

theorem impl_sameCondition.callsG (k : Nat) : (∀ (a0_0 : Int) (a0_1 : ByteArray) (a0_2 : Int) (A0_3 : Option Addr) (c0_3 : Nat) (l0_3 : List (S28)) (a1_0 : Int) (a1_1 : ByteArray) (a1_2 : Int) (A1_3 : Option Addr) (c1_3 : Nat) (l1_3 : List (S28)) (r : Bool) (w : World) (hr0_3 : Kd.C k28 w A0_3 l0_3.length l0_3) (hc0_3 : l0_3.length ≤ c0_3) (hr1_3 : Kd.C k28 w A1_3 l1_3.length l1_3) (hc1_3 : l1_3.length ≤ c1_3) (h : impl_sameCondition.f k a0_0 a0_1 a0_2 l0_3 a1_0 a1_1 a1_2 l1_3 = some r),
  Calls Tryd.prog 38 #[.agg #[.int .i64 a0_0, .string a0_1, .int .i64 a0_2, .slice A0_3 l0_3.length c0_3], .agg #[.int .i64 a1_0, .string a1_1, .int .i64 a1_2, .slice A1_3 l1_3.length c1_3]] w fun e w' => e = .returned (.bool r) ∧ Below w.heap.size w w') ∧
 (∀ (A0 : Option Addr) (c0 : Nat) (l0 : List (S28)) (A1 : Option Addr) (c1 : Nat) (l1 : List (S28))  (r : Bool) (w : World) (hr0 : Kd.C k28 w A0 l0.length l0) (hc0 : l0.length ≤ c0) (hr1 : Kd.C k28 w A1 l1.length l1) (hc1 : l1.length ≤ c1) (h : impl_Condition.f k l0 l1 = some r),
  Calls Tryd.prog 48 #[.slice A0 l0.length c0, .slice A1 l1.length c1, .func (.func 38) #[] #[]] w fun e w' => e = .returned (.bool r) ∧ Below w.heap.size w w') := by
 induction k using Nat.strongRecOn with
 | _ k ih => exact ⟨impl_sameCondition.callsI k (fun m_ hm_ => (ih m_ hm_).1) (fun m_ hm_ => (ih m_ hm_).2), impl_Condition.callsI k (fun m_ hm_ => (ih m_ hm_).1) (fun m_ hm_ => (ih m_ hm_).2)⟩
theorem impl_sameCondition.calls (k : Nat) : (∀ (a0_0 : Int) (a0_1 : ByteArray) (a0_2 : Int) (A0_3 : Option Addr) (c0_3 : Nat) (l0_3 : List (S28)) (a1_0 : Int) (a1_1 : ByteArray) (a1_2 : Int) (A1_3 : Option Addr) (c1_3 : Nat) (l1_3 : List (S28)) (r : Bool) (w : World) (hr0_3 : Kd.C k28 w A0_3 l0_3.length l0_3) (hc0_3 : l0_3.length ≤ c0_3) (hr1_3 : Kd.C k28 w A1_3 l1_3.length l1_3) (hc1_3 : l1_3.length ≤ c1_3) (h : impl_sameCondition.f k a0_0 a0_1 a0_2 l0_3 a1_0 a1_1 a1_2 l1_3 = some r),
  Calls Tryd.prog 38 #[.agg #[.int .i64 a0_0, .string a0_1, .int .i64 a0_2, .slice A0_3 l0_3.length c0_3], .agg #[.int .i64 a1_0, .string a1_1, .int .i64 a1_2, .slice A1_3 l1_3.length c1_3]] w fun e w' => e = .returned (.bool r) ∧ Below w.heap.size w w') := (impl_sameCondition.callsG k).1
theorem impl_Condition.calls (k : Nat) : (∀ (A0 : Option Addr) (c0 : Nat) (l0 : List (S28)) (A1 : Option Addr) (c1 : Nat) (l1 : List (S28))  (r : Bool) (w : World) (hr0 : Kd.C k28 w A0 l0.length l0) (hc0 : l0.length ≤ c0) (hr1 : Kd.C k28 w A1 l1.length l1) (hc1 : l1.length ≤ c1) (h : impl_Condition.f k l0 l1 = some r),
  Calls Tryd.prog 48 #[.slice A0 l0.length c0, .slice A1 l1.length c1, .func (.func 38) #[] #[]] w fun e w' => e = .returned (.bool r) ∧ Below w.heap.size w w') := (impl_sameCondition.callsG k).2

-- NOT PRINTED: function 23 (impl_simplified)

-- NOT PRINTED: function 8 (impl_SimplifyCondition)
end Go.Proofs.YtnpenfficbdlmaaDoor.QFnExactSimplifyCondition
