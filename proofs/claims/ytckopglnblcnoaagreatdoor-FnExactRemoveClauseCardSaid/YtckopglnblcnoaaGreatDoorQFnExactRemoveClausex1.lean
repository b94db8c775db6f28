-- Written by a program of this session out of the translation; Lean checks it.
import Derived.Test.YtckopglnblcnoaaGreatDoorQFnExactRemoveClausex0
namespace Go.Proofs.YtckopglnblcnoaaGreatDoor.QFnExactRemoveClause
open Go.RowKit Go.Proofs.YtckopglnblcnoaaGreatDoorW.PrintWords Go.Proofs.YtckopglnblcnoaaGreatDoorW.PrintLast
attribute [local go_sem] Instr.field asAgg
set_option linter.unusedVariables false
set_option linter.unusedSimpArgs false
/-! ### laws_szStringS: function 11 -/
def laws_szStringS.l0 : Nat → List ByteArray → Int → Int → Option (Int)
 | 0, _, _, _ => none
 | k + 1, x0, x1, x5 => if x5 < (x0.length : Int) then (if 0 ≤ x5 then (if (wrap64 (x1 - ((rdOf ByteArray.empty x0 x5).size : Int))) < 0 then (some (-1)) else (laws_szStringS.l0 k x0 (wrap64 (x1 - ((rdOf ByteArray.empty x0 x5).size : Int))) (wrap64 (x5 + 1)))) else (none)) else (some x1)
def laws_szStringS.f (k : Nat) (l0 : List ByteArray) (a1 : Int) : Option (Int) := if (wrap64 (a1 - (l0.length : Int))) < 0 then (some (-1)) else (laws_szStringS.l0 k l0 (wrap64 (a1 - (l0.length : Int))) 0)
set_option maxHeartbeats 8000000 in
set_option maxRecDepth 100000 in
theorem laws_szStringS.calls (k : Nat) (A0 : Option Addr) (c0 : Nat) (l0 : List ByteArray) (a1 : Int) (r : Int) (w : World) (hr0 : Kd.C Kd.string w A0 l0.length l0) (hc0 : l0.length ≤ c0) (h : laws_szStringS.f k l0 a1 = some r) :
  Calls Tryz.prog 11 #[.slice A0 l0.length c0, .int .i64 a1] w fun e w' => e = .returned (.int .i64 r) ∧ Drawn0 w w' := by
 have HR0 := Aside0.mk hr0
 have HC0 := Aside0.mk hc0
 clear hr0 hc0
 have H : (if (wrap64 (a1 - (l0.length : Int))) < 0 then (some (-1)) else (laws_szStringS.l0 k l0 (wrap64 (a1 - (l0.length : Int))) 0)) = some r := h
 clear h
 by_cases c3 : (wrap64 (a1 - (l0.length : Int))) < 0
 ·
  rw [if_pos c3] at H; replace c3 := decide_eq_true c3; obtain rfl := Option.some.inj H
  go_enter Tryz.func11, Tryz.ntmps11
  go_wp2
  go_ret
  exact ⟨by first | rfl | (simp; done) | (simp [*]; done), by repeat (first | exact Drawn0.refl _ | apply Drawn0.step)⟩
 rw [if_neg c3] at H
 replace c3 := decide_eq_false c3
 have H' := Aside0.mk H
 clear H
 go_enter Tryz.func11, Tryz.ntmps11
 go_wp2
 go_loopg [1, 5] k (fun kq v1 v5 w' => ∃ (x1_1 : Int) (x5_1 : Int), v1 = .int .i64 x1_1 ∧ v5 = .int .i64 x5_1 ∧ Aside0 (laws_szStringS.l0 kq l0 x1_1 x5_1 = some r) ∧ Aside0 (kq ≤ k) ∧ Drawn0 w w')
 case atStart => exact ⟨(wrap64 (a1 - (l0.length : Int))), (0), Own.rs, Own.rs, H', ⟨Nat.le_refl _⟩, by repeat (first | exact Drawn0.refl _ | apply Drawn0.step)⟩
 case round =>
  clear H'; try clear c3
  obtain ⟨x1_1, x5_1, rfl, rfl, HA, HK1, ⟨m1, rfl⟩⟩ := hrel
  cases gk with
  | zero => exact absurd HA.out (by simp [laws_szStringS.l0])
  | succ k1 =>
   have H := HA.out; clear HA
   simp only [laws_szStringS.l0] at H
   by_cases c4 : x5_1 < (l0.length : Int)
   rotate_left
   ·
    rw [if_neg c4] at H; replace c4 := decide_eq_false c4; obtain rfl := Option.some.inj H
    go_wp2
    go_ret
    exact ⟨by first | rfl | (simp; done) | (simp [*]; done), by repeat (first | exact Drawn0.refl _ | apply Drawn0.step)⟩
   rw [if_pos c4] at H; replace c4 := decide_eq_true c4
   replace H := Own.ifd H; obtain ⟨c5, H⟩ := H
   by_cases c6 : (wrap64 (x1_1 - ((rdOf ByteArray.empty l0 x5_1).size : Int))) < 0
   ·
    rw [if_pos c6] at H; replace c6 := decide_eq_true c6; obtain rfl := Option.some.inj H
    have p101 : 0 ≤ (x5_1 : Int) := Own.dp
    have q101 : x5_1 < (l0.length : Int) := Own.dp
    obtain ⟨ad101, e101, hx101_0⟩ := Kd.at_string HR0.out x5_1 p101 q101; cases e101; replace p101 := eq_true p101; replace q101 := eq_true q101
    go_wp2
    go_ret
    exact ⟨by first | rfl | (simp; done) | (simp [*]; done), by repeat (first | exact Drawn0.refl _ | apply Drawn0.step)⟩
   rw [if_neg c6] at H; replace c6 := decide_eq_false c6; have H' := Aside0.mk H; clear H
   have p101 : 0 ≤ (x5_1 : Int) := Own.dp
   have q101 : x5_1 < (l0.length : Int) := Own.dp
   obtain ⟨ad101, e101, hx101_0⟩ := Kd.at_string HR0.out x5_1 p101 q101; cases e101; replace p101 := eq_true p101; replace q101 := eq_true q101
   go_wp2
   go_roundg k1
   case measure => have := HK1.out; omega
   case rel => exact ⟨(wrap64 (x1_1 - ((rdOf ByteArray.empty l0 x5_1).size : Int))), (wrap64 (x5_1 + 1)), Own.rs, Own.rs, H', ⟨by have := HK1.out; omega⟩, by repeat (first | exact Drawn0.refl _ | apply Drawn0.step)⟩
/-! ### laws_szConditionS: function 60 -/
mutual
def laws_szCondition.f : Nat → Int → ByteArray → Int → List (S58) → Int → Option (Int)
 | 0, _, _, _, _, _ => none
 | k + 1, a0_0, a0_1, a0_2, l0_3, a1 => if (wrap64 (a1 - (a0_1.size : Int))) < 0 then (some (-1)) else ((laws_szConditionS.f k l0_3 (wrap64 (a1 - (a0_1.size : Int)))).bind fun t103 => (if t103 < 0 then (some (-1)) else (some t103)))
def laws_szConditionS.l0 : Nat → List (S58) → Int → Int → Option (Int)
 | 0, _, _, _ => none
 | k + 1, x0, x1, x5 => if x5 < (x0.length : Int) then (if 0 ≤ x5 then ((laws_szCondition.f k ((rd_T58 x0 x5).f0) ((rd_T58 x0 x5).f1) ((rd_T58 x0 x5).f2) ((rd_T58 x0 x5).f3) x1).bind fun t105 => (if t105 < 0 then (some (-1)) else (laws_szConditionS.l0 k x0 t105 (wrap64 (x5 + 1))))) else (none)) else (some x1)
def laws_szConditionS.f : Nat → List (S58) → Int → Option (Int)
 | 0, _, _ => none
 | k + 1, l0, a1 => if (wrap64 (a1 - (l0.length : Int))) < 0 then (some (-1)) else (laws_szConditionS.l0 k l0 (wrap64 (a1 - (l0.length : Int))) 0)
end
set_option maxHeartbeats 8000000 in
set_option maxRecDepth 100000 in
theorem laws_szCondition.callsI (k : Nat) (ih_46 : ∀ m_, m_ < k → ∀ (a0_0 : Int) (a0_1 : ByteArray) (a0_2 : Int) (A0_3 : Option Addr) (c0_3 : Nat) (l0_3 : List (S58)) (a1 : Int) (r : Int) (w : World) (hr0_3 : Kd.C k58 w A0_3 l0_3.length l0_3) (hc0_3 : l0_3.length ≤ c0_3) (h : laws_szCondition.f m_ a0_0 a0_1 a0_2 l0_3 a1 = some r),
  Calls Tryz.prog 46 #[.agg #[.int .i64 a0_0, .string a0_1, .int .i64 a0_2, .slice A0_3 l0_3.length c0_3], .int .i64 a1] w fun e w' => e = .returned (.int .i64 r) ∧ Below w.heap.size w w') (ih_60 : ∀ m_, m_ < k → ∀ (A0 : Option Addr) (c0 : Nat) (l0 : List (S58)) (a1 : Int) (r : Int) (w : World) (hr0 : Kd.C k58 w A0 l0.length l0) (hc0 : l0.length ≤ c0) (h : laws_szConditionS.f m_ l0 a1 = some r),
  Calls Tryz.prog 60 #[.slice A0 l0.length c0, .int .i64 a1] w fun e w' => e = .returned (.int .i64 r) ∧ Below w.heap.size w w') : ∀ (a0_0 : Int) (a0_1 : ByteArray) (a0_2 : Int) (A0_3 : Option Addr) (c0_3 : Nat) (l0_3 : List (S58)) (a1 : Int) (r : Int) (w : World) (hr0_3 : Kd.C k58 w A0_3 l0_3.length l0_3) (hc0_3 : l0_3.length ≤ c0_3) (h : laws_szCondition.f k a0_0 a0_1 a0_2 l0_3 a1 = some r),
  Calls Tryz.prog 46 #[.agg #[.int .i64 a0_0, .string a0_1, .int .i64 a0_2, .slice A0_3 l0_3.length c0_3], .int .i64 a1] w fun e w' => e = .returned (.int .i64 r) ∧ Below w.heap.size w w' := by
 intro a0_0 a0_1 a0_2 A0_3 c0_3 l0_3 a1 r w hr0_3 hc0_3 h
 cases k with
 | zero => exact absurd h (by simp [laws_szCondition.f])
 | succ k =>
 simp only [laws_szCondition.f] at h
 have hu58 := Tryz.underlying58
 have HR0_3 := Aside0.mk hr0_3
 have HC0_3 := Aside0.mk hc0_3
 clear hr0_3 hc0_3
 have HB := Aside0.mk (Below.refl w.heap.size w)
 have H : (if (wrap64 (a1 - (a0_1.size : Int))) < 0 then (some (-1)) else ((laws_szConditionS.f k l0_3 (wrap64 (a1 - (a0_1.size : Int)))).bind fun t103 => (if t103 < 0 then (some (-1)) else (some t103)))) = some r := h
 clear h
 by_cases c3 : (wrap64 (a1 - (a0_1.size : Int))) < 0
 ·
  rw [if_pos c3] at H; replace c3 := decide_eq_true c3; obtain rfl := Option.some.inj H
  go_enter Tryz.func46, Tryz.ntmps46
  go_wp2_with (first | ((with_reducible refine gate_dst (N := 2) rfl ?_); refine Own.be (N := 2) (cs := #[.int .i64 a0_0, .string a0_1, .int .i64 a0_2, .slice A0_3 l0_3.length c0_3]) (t := 58) ?_; intro gb102 hg w4 hbox hb; have BK102 := Aside0.mk hbox; have GW102 := (Own.gs hg : Aside0 (w.heap.size ≤ gb102)); have GE102 := GW102; replace HB := Own.bs hb; clear hb hbox hg; obtain ⟨z5_0, z5_1, z5_2, z5_3, y5_0, y5_1, y5_2, y5_3⟩ := Own.box4 BK102.out))
  go_ret
  exact ⟨Own.rr, Own.bl⟩
 rw [if_neg c3] at H
 replace c3 := decide_eq_false c3
 replace H := Own.bd H; obtain ⟨t103, A6, H⟩ := H
 by_cases c7 : t103 < 0
 ·
  rw [if_pos c7] at H; replace c7 := decide_eq_true c7; obtain rfl := Option.some.inj H
  go_enter Tryz.func46, Tryz.ntmps46
  go_wp2_with (first | ((with_reducible refine gate_dst (N := 2) rfl ?_); refine Own.be (N := 2) (cs := #[.int .i64 a0_0, .string a0_1, .int .i64 a0_2, .slice A0_3 l0_3.length c0_3]) (t := 58) ?_; intro gb102 hg w8 hbox hb; have BK102 := Aside0.mk hbox; have GW102 := (Own.gs hg : Aside0 (w.heap.size ≤ gb102)); have GE102 := GW102; replace HB := Own.bs hb; clear hb hbox hg; obtain ⟨z9_0, z9_1, z9_2, z9_3, y9_0, y9_1, y9_2, y9_3⟩ := Own.box4 BK102.out) | ((with_reducible refine gate_callee (f := 60) rfl ?_); refine goesL_ (some 15) rfl rfl Tryz.func60 (by kernel_rfl) rfl #[.slice A0_3 l0_3.length c0_3, .int .i64 (wrap64 (a1 - (a0_1.size : Int)))] rfl Own.ha ?_; (with_reducible refine (ih_60 k (by omega) _ _ l0_3 (wrap64 (a1 - (a0_1.size : Int))) t103 _ ?side1 ?side2 A6.out).mono ?_); (case side1 => exact Kd.C_below HR0_3.out Own.bl); (case side2 => exact HC0_3.out); rintro e w10 ⟨rfl, hb⟩; refine ⟨_, rfl, ?_⟩; replace BK102 := Own.bb BK102.out hb; replace HB := Own.bs hb; (try clear hb)))
  go_ret
  exact ⟨Own.rr, Own.bl⟩
 rw [if_neg c7] at H
 replace c7 := decide_eq_false c7
 obtain rfl := Option.some.inj H
 go_enter Tryz.func46, Tryz.ntmps46
 go_wp2_with (first | ((with_reducible refine gate_dst (N := 2) rfl ?_); refine Own.be (N := 2) (cs := #[.int .i64 a0_0, .string a0_1, .int .i64 a0_2, .slice A0_3 l0_3.length c0_3]) (t := 58) ?_; intro gb102 hg w11 hbox hb; have BK102 := Aside0.mk hbox; have GW102 := (Own.gs hg : Aside0 (w.heap.size ≤ gb102)); have GE102 := GW102; replace HB := Own.bs hb; clear hb hbox hg; obtain ⟨z12_0, z12_1, z12_2, z12_3, y12_0, y12_1, y12_2, y12_3⟩ := Own.box4 BK102.out) | ((with_reducible refine gate_callee (f := 60) rfl ?_); refine goesL_ (some 15) rfl rfl Tryz.func60 (by kernel_rfl) rfl #[.slice A0_3 l0_3.length c0_3, .int .i64 (wrap64 (a1 - (a0_1.size : Int)))] rfl Own.ha ?_; (with_reducible refine (ih_60 k (by omega) _ _ l0_3 (wrap64 (a1 - (a0_1.size : Int))) t103 _ ?side1 ?side2 A6.out).mono ?_); (case side1 => exact Kd.C_below HR0_3.out Own.bl); (case side2 => exact HC0_3.out); rintro e w13 ⟨rfl, hb⟩; refine ⟨_, rfl, ?_⟩; replace BK102 := Own.bb BK102.out hb; replace HB := Own.bs hb; (try clear hb)))
 go_ret
 exact ⟨Own.rr, Own.bl⟩
set_option maxHeartbeats 8000000 in
set_option maxRecDepth 100000 in
theorem laws_szConditionS.callsI (k : Nat) (ih_46 : ∀ m_, m_ < k → ∀ (a0_0 : Int) (a0_1 : ByteArray) (a0_2 : Int) (A0_3 : Option Addr) (c0_3 : Nat) (l0_3 : List (S58)) (a1 : Int) (r : Int) (w : World) (hr0_3 : Kd.C k58 w A0_3 l0_3.length l0_3) (hc0_3 : l0_3.length ≤ c0_3) (h : laws_szCondition.f m_ a0_0 a0_1 a0_2 l0_3 a1 = some r),
  Calls Tryz.prog 46 #[.agg #[.int .i64 a0_0, .string a0_1, .int .i64 a0_2, .slice A0_3 l0_3.length c0_3], .int .i64 a1] w fun e w' => e = .returned (.int .i64 r) ∧ Below w.heap.size w w') (ih_60 : ∀ m_, m_ < k → ∀ (A0 : Option Addr) (c0 : Nat) (l0 : List (S58)) (a1 : Int) (r : Int) (w : World) (hr0 : Kd.C k58 w A0 l0.length l0) (hc0 : l0.length ≤ c0) (h : laws_szConditionS.f m_ l0 a1 = some r),
  Calls Tryz.prog 60 #[.slice A0 l0.length c0, .int .i64 a1] w fun e w' => e = .returned (.int .i64 r) ∧ Below w.heap.size w w') : ∀ (A0 : Option Addr) (c0 : Nat) (l0 : List (S58)) (a1 : Int) (r : Int) (w : World) (hr0 : Kd.C k58 w A0 l0.length l0) (hc0 : l0.length ≤ c0) (h : laws_szConditionS.f k l0 a1 = some r),
  Calls Tryz.prog 60 #[.slice A0 l0.length c0, .int .i64 a1] w fun e w' => e = .returned (.int .i64 r) ∧ Below w.heap.size w w' := by
 intro A0 c0 l0 a1 r w hr0 hc0 h
 cases k with
 | zero => exact absurd h (by simp [laws_szConditionS.f])
 | succ k =>
 simp only [laws_szConditionS.f] at h
 have hu58 := Tryz.underlying58
 have HR0 := Aside0.mk hr0
 have HC0 := Aside0.mk hc0
 clear hr0 hc0
 have HB := Aside0.mk (Below.refl w.heap.size w)
 have H : (if (wrap64 (a1 - (l0.length : Int))) < 0 then (some (-1)) else (laws_szConditionS.l0 k l0 (wrap64 (a1 - (l0.length : Int))) 0)) = some r := h
 clear h
 by_cases c3 : (wrap64 (a1 - (l0.length : Int))) < 0
 ·
  rw [if_pos c3] at H; replace c3 := decide_eq_true c3; obtain rfl := Option.some.inj H
  go_enter Tryz.func60, Tryz.ntmps60
  go_wp2
  go_ret
  exact ⟨Own.rr, Own.bl⟩
 rw [if_neg c3] at H
 replace c3 := decide_eq_false c3
 have H' := Aside0.mk H
 clear H
 go_enter Tryz.func60, Tryz.ntmps60
 go_wp2
 go_loopg [1, 5] k (fun kq v1 v5 w' => ∃ (x1_1 : Int) (x5_1 : Int), v1 = .int .i64 x1_1 ∧ v5 = .int .i64 x5_1 ∧ Aside0 (laws_szConditionS.l0 kq l0 x1_1 x5_1 = some r) ∧ Aside0 (kq ≤ k) ∧ Aside0 (Below w.heap.size w w'))
 case atStart => exact ⟨(wrap64 (a1 - (l0.length : Int))), (0), Own.rs, Own.rs, H', ⟨Nat.le_refl _⟩, ⟨Own.bl⟩⟩
 case round =>
  clear H'; try clear p2; try clear c3
  obtain ⟨x1_1, x5_1, rfl, rfl, HA, HK1, HB⟩ := hrel
  cases gk with
  | zero => exact absurd HA.out (by simp [laws_szConditionS.l0])
  | succ k1 =>
   have H := HA.out; clear HA
   simp only [laws_szConditionS.l0] at H
   by_cases c4 : x5_1 < (l0.length : Int)
   rotate_left
   ·
    rw [if_neg c4] at H; replace c4 := decide_eq_false c4; obtain rfl := Option.some.inj H
    go_wp2
    go_ret
    exact ⟨Own.rr, Own.bl⟩
   rw [if_pos c4] at H; replace c4 := decide_eq_true c4
   replace H := Own.ifd H; obtain ⟨c5, H⟩ := H
   replace H := Own.bd H; obtain ⟨t105, A6, H⟩ := H
   by_cases c7 : t105 < 0
   ·
    rw [if_pos c7] at H; replace c7 := decide_eq_true c7; obtain rfl := Option.some.inj H
    have p104 : 0 ≤ (x5_1 : Int) := Own.dp
    have q104 : x5_1 < (l0.length : Int) := Own.dp
    obtain ⟨ad104, A104_3, c104_3, e104, hx104_0, hx104_1, hx104_2, hx104_3, hl104_3, hi104_3⟩ := at_T58 HR0.out x5_1 p104 q104; cases e104; replace hx104_0 := Own.up HB.out hx104_0; replace hx104_1 := Own.up HB.out hx104_1; replace hx104_2 := Own.up HB.out hx104_2; replace hx104_3 := Own.up HB.out hx104_3; have HR104_3 := Aside0.mk hi104_3; have HC104_3 := Aside0.mk hl104_3; clear hi104_3 hl104_3; replace p104 := eq_true p104; replace q104 := eq_true q104
    go_wp2_with (first | ((with_reducible refine gate_callee (f := 46) rfl ?_); refine goesL_ (some 23) rfl rfl Tryz.func46 (by kernel_rfl) rfl #[.agg #[.int .i64 ((rd_T58 l0 x5_1).f0), .string ((rd_T58 l0 x5_1).f1), .int .i64 ((rd_T58 l0 x5_1).f2), .slice A104_3 ((rd_T58 l0 x5_1).f3).length c104_3], .int .i64 x1_1] rfl Own.ha ?_; (with_reducible refine (ih_46 k1 (by have := HK1.out; omega) ((rd_T58 l0 x5_1).f0) ((rd_T58 l0 x5_1).f1) ((rd_T58 l0 x5_1).f2) _ _ ((rd_T58 l0 x5_1).f3) x1_1 t105 _ ?side1 ?side2 A6.out).mono ?_); (case side1 => exact Kd.C_below HR104_3.out Own.bl); (case side2 => exact HC104_3.out); rintro e w8 ⟨rfl, hb⟩; refine ⟨_, rfl, ?_⟩; replace HB := Own.bs hb; (try clear hb)))
    go_ret
    exact ⟨Own.rr, Own.bl⟩
   rw [if_neg c7] at H; replace c7 := decide_eq_false c7; have H' := Aside0.mk H; clear H
   have p104 : 0 ≤ (x5_1 : Int) := Own.dp
   have q104 : x5_1 < (l0.length : Int) := Own.dp
   obtain ⟨ad104, A104_3, c104_3, e104, hx104_0, hx104_1, hx104_2, hx104_3, hl104_3, hi104_3⟩ := at_T58 HR0.out x5_1 p104 q104; cases e104; replace hx104_0 := Own.up HB.out hx104_0; replace hx104_1 := Own.up HB.out hx104_1; replace hx104_2 := Own.up HB.out hx104_2; replace hx104_3 := Own.up HB.out hx104_3; have HR104_3 := Aside0.mk hi104_3; have HC104_3 := Aside0.mk hl104_3; clear hi104_3 hl104_3; replace p104 := eq_true p104; replace q104 := eq_true q104
   go_wp2_with (first | ((with_reducible refine gate_callee (f := 46) rfl ?_); refine goesL_ (some 23) rfl rfl Tryz.func46 (by kernel_rfl) rfl #[.agg #[.int .i64 ((rd_T58 l0 x5_1).f0), .string ((rd_T58 l0 x5_1).f1), .int .i64 ((rd_T58 l0 x5_1).f2), .slice A104_3 ((rd_T58 l0 x5_1).f3).length c104_3], .int .i64 x1_1] rfl Own.ha ?_; (with_reducible refine (ih_46 k1 (by have := HK1.out; omega) ((rd_T58 l0 x5_1).f0) ((rd_T58 l0 x5_1).f1) ((rd_T58 l0 x5_1).f2) _ _ ((rd_T58 l0 x5_1).f3) x1_1 t105 _ ?side1 ?side2 A6.out).mono ?_); (case side1 => exact Kd.C_below HR104_3.out Own.bl); (case side2 => exact HC104_3.out); rintro e w9 ⟨rfl, hb⟩; refine ⟨_, rfl, ?_⟩; replace HB := Own.bs hb; (try clear hb)))
   go_roundg k1
   case measure => have := HK1.out; omega
   case rel => exact ⟨(t105), (wrap64 (x5_1 + 1)), Own.rs, Own.rs, H', ⟨by have := HK1.out; omega⟩, ⟨Own.bl⟩⟩
theorem laws_szCondition.callsG (k : Nat) : (∀ (a0_0 : Int) (a0_1 : ByteArray) (a0_2 : Int) (A0_3 : Option Addr) (c0_3 : Nat) (l0_3 : List (S58)) (a1 : Int) (r : Int) (w : World) (hr0_3 : Kd.C k58 w A0_3 l0_3.length l0_3) (hc0_3 : l0_3.length ≤ c0_3) (h : laws_szCondition.f k a0_0 a0_1 a0_2 l0_3 a1 = some r),
  Calls Tryz.prog 46 #[.agg #[.int .i64 a0_0, .string a0_1, .int .i64 a0_2, .slice A0_3 l0_3.length c0_3], .int .i64 a1] w fun e w' => e = .returned (.int .i64 r) ∧ Below w.heap.size w w') ∧
 (∀ (A0 : Option Addr) (c0 : Nat) (l0 : List (S58)) (a1 : Int) (r : Int) (w : World) (hr0 : Kd.C k58 w A0 l0.length l0) (hc0 : l0.length ≤ c0) (h : laws_szConditionS.f k l0 a1 = some r),
  Calls Tryz.prog 60 #[.slice A0 l0.length c0, .int .i64 a1] w fun e w' => e = .returned (.int .i64 r) ∧ Below w.heap.size w w') := by
 induction k using Nat.strongRecOn with
 | _ k ih => exact ⟨laws_szCondition.callsI k (fun m_ hm_ => (ih m_ hm_).1) (fun m_ hm_ => (ih m_ hm_).2), laws_szConditionS.callsI k (fun m_ hm_ => (ih m_ hm_).1) (fun m_ hm_ => (ih m_ hm_).2)⟩
theorem laws_szCondition.calls (k : Nat) : (∀ (a0_0 : Int) (a0_1 : ByteArray) (a0_2 : Int) (A0_3 : Option Addr) (c0_3 : Nat) (l0_3 : List (S58)) (a1 : Int) (r : Int) (w : World) (hr0_3 : Kd.C k58 w A0_3 l0_3.length l0_3) (hc0_3 : l0_3.length ≤ c0_3) (h : laws_szCondition.f k a0_0 a0_1 a0_2 l0_3 a1 = some r),
  Calls Tryz.prog 46 #[.agg #[.int .i64 a0_0, .string a0_1, .int .i64 a0_2, .slice A0_3 l0_3.length c0_3], .int .i64 a1] w fun e w' => e = .returned (.int .i64 r) ∧ Below w.heap.size w w') := (laws_szCondition.callsG k).1
/-! ### laws_szClause: function 29 -/
def laws_szClause.f (k : Nat) (a0_0 : ByteArray) (a0_1 : Int) (a0_2 : Int) (a0_3 : ByteArray) (a0_4 : Int) (a0_5 : Int) (a0_6 : Int) (a0_7 : ByteArray) (a0_8 : Int) (l0_9 : List (S58)) (a0_10 : Int) (a0_11 : ByteArray) (a1 : Int) : Option (Int) := if (wrap64 (a1 - (a0_0.size : Int))) < 0 then (some (-1)) else (if (wrap64 ((wrap64 (a1 - (a0_0.size : Int))) - (a0_3.size : Int))) < 0 then (some (-1)) else ((laws_szCondition.f k a0_6 a0_7 a0_8 l0_9 (wrap64 ((wrap64 (a1 - (a0_0.size : Int))) - (a0_3.size : Int)))).bind fun t107 => (if t107 < 0 then (some (-1)) else (if (wrap64 (t107 - (a0_11.size : Int))) < 0 then (some (-1)) else (some (wrap64 (t107 - (a0_11.size : Int))))))))
set_option maxHeartbeats 8000000 in
set_option maxRecDepth 100000 in
theorem laws_szClause.calls (k : Nat) (a0_0 : ByteArray) (a0_1 : Int) (a0_2 : Int) (a0_3 : ByteArray) (a0_4 : Int) (a0_5 : Int) (a0_6 : Int) (a0_7 : ByteArray) (a0_8 : Int) (A0_9 : Option Addr) (c0_9 : Nat) (l0_9 : List (S58)) (a0_10 : Int) (a0_11 : ByteArray) (a1 : Int) (r : Int) (w : World) (hr0_9 : Kd.C k58 w A0_9 l0_9.length l0_9) (hc0_9 : l0_9.length ≤ c0_9) (h : laws_szClause.f k a0_0 a0_1 a0_2 a0_3 a0_4 a0_5 a0_6 a0_7 a0_8 l0_9 a0_10 a0_11 a1 = some r) :
  Calls Tryz.prog 29 #[.agg #[.string a0_0, .int .i64 a0_1, .int .i64 a0_2, .string a0_3, .int .i64 a0_4, .int .i64 a0_5, .int .i64 a0_6, .string a0_7, .int .i64 a0_8, .slice A0_9 l0_9.length c0_9, .int .i64 a0_10, .string a0_11], .int .i64 a1] w fun e w' => e = .returned (.int .i64 r) ∧ Below w.heap.size w w' := by
 have hu60 := Tryz.underlying60
 have hu58 := Tryz.underlying58
 have HR0_9 := Aside0.mk hr0_9
 have HC0_9 := Aside0.mk hc0_9
 clear hr0_9 hc0_9
 have HB := Aside0.mk (Below.refl w.heap.size w)
 have H : (if (wrap64 (a1 - (a0_0.size : Int))) < 0 then (some (-1)) else (if (wrap64 ((wrap64 (a1 - (a0_0.size : Int))) - (a0_3.size : Int))) < 0 then (some (-1)) else ((laws_szCondition.f k a0_6 a0_7 a0_8 l0_9 (wrap64 ((wrap64 (a1 - (a0_0.size : Int))) - (a0_3.size : Int)))).bind fun t107 => (if t107 < 0 then (some (-1)) else (if (wrap64 (t107 - (a0_11.size : Int))) < 0 then (some (-1)) else (some (wrap64 (t107 - (a0_11.size : Int))))))))) = some r := h
 clear h
 have H' := Aside0.mk H
 clear H
 go_enter Tryz.func29, Tryz.ntmps29
 go_upto_region 1 with (first | ((with_reducible refine gate_dst (N := 2) rfl ?_); refine Own.be (N := 2) (cs := #[.string a0_0, .int .i64 a0_1, .int .i64 a0_2, .string a0_3, .int .i64 a0_4, .int .i64 a0_5, .int .i64 a0_6, .string a0_7, .int .i64 a0_8, .slice A0_9 l0_9.length c0_9, .int .i64 a0_10, .string a0_11]) (t := 60) ?_; intro gb106 hg w11 hbox hb; have BK106 := Aside0.mk hbox; have GW106 := (Own.gs hg : Aside0 (w.heap.size ≤ gb106)); have GE106 := GW106; replace HB := Own.bs hb; clear hb hbox hg; obtain ⟨z12_0, z12_1, z12_2, z12_3, z12_4, z12_5, z12_6, z12_7, z12_8, z12_9, z12_10, z12_11, y12_0, y12_1, y12_2, y12_3, y12_4, y12_5, y12_6, y12_7, y12_8, y12_9, y12_10, y12_11⟩ := Own.box12 BK106.out))
 have H := H'.out
 clear H'
 by_cases c3 : (wrap64 (a1 - (a0_0.size : Int))) < 0
 ·
  rw [if_pos c3] at H; replace c3 := decide_eq_true c3; obtain rfl := Option.some.inj H
  go_wp2
  go_ret
  exact ⟨Own.rr, Own.bl⟩
 rw [if_neg c3] at H
 replace c3 := decide_eq_false c3
 by_cases c6 : (wrap64 ((wrap64 (a1 - (a0_0.size : Int))) - (a0_3.size : Int))) < 0
 ·
  rw [if_pos c6] at H; replace c6 := decide_eq_true c6; obtain rfl := Option.some.inj H
  go_wp2
  go_ret
  exact ⟨Own.rr, Own.bl⟩
 rw [if_neg c6] at H
 replace c6 := decide_eq_false c6
 replace H := Own.bd H; obtain ⟨t107, A9, H⟩ := H
 by_cases c10 : t107 < 0
 ·
  rw [if_pos c10] at H; replace c10 := decide_eq_true c10; obtain rfl := Option.some.inj H
  go_wp2_with (first | ((with_reducible refine gate_callee (f := 46) rfl ?_); refine goesL_ (some 22) rfl rfl Tryz.func46 (by kernel_rfl) rfl #[.agg #[.int .i64 a0_6, .string a0_7, .int .i64 a0_8, .slice A0_9 l0_9.length c0_9], .int .i64 (wrap64 ((wrap64 (a1 - (a0_0.size : Int))) - (a0_3.size : Int)))] rfl Own.ha ?_; (with_reducible refine (laws_szCondition.calls k a0_6 a0_7 a0_8 _ _ l0_9 (wrap64 ((wrap64 (a1 - (a0_0.size : Int))) - (a0_3.size : Int))) t107 _ ?side1 ?side2 A9.out).mono ?_); (case side1 => exact Kd.C_below HR0_9.out Own.bl); (case side2 => exact HC0_9.out); rintro e w13 ⟨rfl, hb⟩; refine ⟨_, rfl, ?_⟩; replace BK106 := Own.bb BK106.out hb; replace HB := Own.bs hb; (try clear hb)))
  go_ret
  exact ⟨Own.rr, Own.bl⟩
 rw [if_neg c10] at H
 replace c10 := decide_eq_false c10
 by_cases c14 : (wrap64 (t107 - (a0_11.size : Int))) < 0
 ·
  rw [if_pos c14] at H; replace c14 := decide_eq_true c14; obtain rfl := Option.some.inj H
  go_wp2_with (first | ((with_reducible refine gate_callee (f := 46) rfl ?_); refine goesL_ (some 22) rfl rfl Tryz.func46 (by kernel_rfl) rfl #[.agg #[.int .i64 a0_6, .string a0_7, .int .i64 a0_8, .slice A0_9 l0_9.length c0_9], .int .i64 (wrap64 ((wrap64 (a1 - (a0_0.size : Int))) - (a0_3.size : Int)))] rfl Own.ha ?_; (with_reducible refine (laws_szCondition.calls k a0_6 a0_7 a0_8 _ _ l0_9 (wrap64 ((wrap64 (a1 - (a0_0.size : Int))) - (a0_3.size : Int))) t107 _ ?side1 ?side2 A9.out).mono ?_); (case side1 => exact Kd.C_below HR0_9.out Own.bl); (case side2 => exact HC0_9.out); rintro e w17 ⟨rfl, hb⟩; refine ⟨_, rfl, ?_⟩; replace BK106 := Own.bb BK106.out hb; replace HB := Own.bs hb; (try clear hb); obtain ⟨z18_0, z18_1, z18_2, z18_3, z18_4, z18_5, z18_6, z18_7, z18_8, z18_9, z18_10, z18_11, y18_0, y18_1, y18_2, y18_3, y18_4, y18_5, y18_6, y18_7, y18_8, y18_9, y18_10, y18_11⟩ := Own.box12 BK106.out))
  go_ret
  exact ⟨Own.rr, Own.bl⟩
 rw [if_neg c14] at H
 replace c14 := decide_eq_false c14
 obtain rfl := Option.some.inj H
 go_wp2_with (first | ((with_reducible refine gate_callee (f := 46) rfl ?_); refine goesL_ (some 22) rfl rfl Tryz.func46 (by kernel_rfl) rfl #[.agg #[.int .i64 a0_6, .string a0_7, .int .i64 a0_8, .slice A0_9 l0_9.length c0_9], .int .i64 (wrap64 ((wrap64 (a1 - (a0_0.size : Int))) - (a0_3.size : Int)))] rfl Own.ha ?_; (with_reducible refine (laws_szCondition.calls k a0_6 a0_7 a0_8 _ _ l0_9 (wrap64 ((wrap64 (a1 - (a0_0.size : Int))) - (a0_3.size : Int))) t107 _ ?side1 ?side2 A9.out).mono ?_); (case side1 => exact Kd.C_below HR0_9.out Own.bl); (case side2 => exact HC0_9.out); rintro e w21 ⟨rfl, hb⟩; refine ⟨_, rfl, ?_⟩; replace BK106 := Own.bb BK106.out hb; replace HB := Own.bs hb; (try clear hb); obtain ⟨z22_0, z22_1, z22_2, z22_3, z22_4, z22_5, z22_6, z22_7, z22_8, z22_9, z22_10, z22_11, y22_0, y22_1, y22_2, y22_3, y22_4, y22_5, y22_6, y22_7, y22_8, y22_9, y22_10, y22_11⟩ := Own.box12 BK106.out))
 go_ret
 exact ⟨Own.rr, Own.bl⟩
/-! ### laws_szClauseS: function 12 -/
def laws_szClauseS.l0 : Nat → List (S60) → Int → Int → Option (Int)
 | 0, _, _, _ => none
 | k + 1, x0, x1, x5 => if x5 < (x0.length : Int) then (if 0 ≤ x5 then ((laws_szClause.f k ((rd_T60 x0 x5).f0) ((rd_T60 x0 x5).f1) ((rd_T60 x0 x5).f2) ((rd_T60 x0 x5).f3) ((rd_T60 x0 x5).f4) ((rd_T60 x0 x5).f5) ((rd_T60 x0 x5).f6.f0) ((rd_T60 x0 x5).f6.f1) ((rd_T60 x0 x5).f6.f2) ((rd_T60 x0 x5).f6.f3) ((rd_T60 x0 x5).f7) ((rd_T60 x0 x5).f8) x1).bind fun t109 => (if t109 < 0 then (some (-1)) else (laws_szClauseS.l0 k x0 t109 (wrap64 (x5 + 1))))) else (none)) else (some x1)
def laws_szClauseS.f (k : Nat) (l0 : List (S60)) (a1 : Int) : Option (Int) := if (wrap64 (a1 - (l0.length : Int))) < 0 then (some (-1)) else (laws_szClauseS.l0 k l0 (wrap64 (a1 - (l0.length : Int))) 0)
set_option maxHeartbeats 8000000 in
set_option maxRecDepth 100000 in
theorem laws_szClauseS.calls (k : Nat) (A0 : Option Addr) (c0 : Nat) (l0 : List (S60)) (a1 : Int) (r : Int) (w : World) (hr0 : Kd.C k60 w A0 l0.length l0) (hc0 : l0.length ≤ c0) (h : laws_szClauseS.f k l0 a1 = some r) :
  Calls Tryz.prog 12 #[.slice A0 l0.length c0, .int .i64 a1] w fun e w' => e = .returned (.int .i64 r) ∧ Below w.heap.size w w' := by
 have hu60 := Tryz.underlying60
 have HR0 := Aside0.mk hr0
 have HC0 := Aside0.mk hc0
 clear hr0 hc0
 have HB := Aside0.mk (Below.refl w.heap.size w)
 have H : (if (wrap64 (a1 - (l0.length : Int))) < 0 then (some (-1)) else (laws_szClauseS.l0 k l0 (wrap64 (a1 - (l0.length : Int))) 0)) = some r := h
 clear h
 by_cases c3 : (wrap64 (a1 - (l0.length : Int))) < 0
 ·
  rw [if_pos c3] at H; replace c3 := decide_eq_true c3; obtain rfl := Option.some.inj H
  go_enter Tryz.func12, Tryz.ntmps12
  go_wp2
  go_ret
  exact ⟨Own.rr, Own.bl⟩
 rw [if_neg c3] at H
 replace c3 := decide_eq_false c3
 have H' := Aside0.mk H
 clear H
 go_enter Tryz.func12, Tryz.ntmps12
 go_wp2
 go_loopg [1, 5] k (fun kq v1 v5 w' => ∃ (x1_1 : Int) (x5_1 : Int), v1 = .int .i64 x1_1 ∧ v5 = .int .i64 x5_1 ∧ Aside0 (laws_szClauseS.l0 kq l0 x1_1 x5_1 = some r) ∧ Aside0 (kq ≤ k) ∧ Aside0 (Below w.heap.size w w'))
 case atStart => exact ⟨(wrap64 (a1 - (l0.length : Int))), (0), Own.rs, Own.rs, H', ⟨Nat.le_refl _⟩, ⟨Own.bl⟩⟩
 case round =>
  clear H'; try clear c3
  obtain ⟨x1_1, x5_1, rfl, rfl, HA, HK1, HB⟩ := hrel
  cases gk with
  | zero => exact absurd HA.out (by simp [laws_szClauseS.l0])
  | succ k1 =>
   have H := HA.out; clear HA
   simp only [laws_szClauseS.l0] at H
   by_cases c4 : x5_1 < (l0.length : Int)
   rotate_left
   ·
    rw [if_neg c4] at H; replace c4 := decide_eq_false c4; obtain rfl := Option.some.inj H
    go_wp2
    go_ret
    exact ⟨Own.rr, Own.bl⟩
   rw [if_pos c4] at H; replace c4 := decide_eq_true c4
   replace H := Own.ifd H; obtain ⟨c5, H⟩ := H
   replace H := Own.bd H; obtain ⟨t109, A6, H⟩ := H
   by_cases c7 : t109 < 0
   ·
    rw [if_pos c7] at H; replace c7 := decide_eq_true c7; obtain rfl := Option.some.inj H
    have p108 : 0 ≤ (x5_1 : Int) := Own.dp
    have q108 : x5_1 < (l0.length : Int) := Own.dp
    obtain ⟨ad108, A108_9, c108_9, e108, hx108_0, hx108_1, hx108_2, hx108_3, hx108_4, hx108_5, hx108_6, hx108_7, hx108_8, hx108_9, hx108_10, hx108_11, hl108_9, hi108_9⟩ := at_T60 HR0.out x5_1 p108 q108; cases e108; replace hx108_0 := Own.up HB.out hx108_0; replace hx108_1 := Own.up HB.out hx108_1; replace hx108_2 := Own.up HB.out hx108_2; replace hx108_3 := Own.up HB.out hx108_3; replace hx108_4 := Own.up HB.out hx108_4; replace hx108_5 := Own.up HB.out hx108_5; replace hx108_6 := Own.up HB.out hx108_6; replace hx108_7 := Own.up HB.out hx108_7; replace hx108_8 := Own.up HB.out hx108_8; replace hx108_9 := Own.up HB.out hx108_9; replace hx108_10 := Own.up HB.out hx108_10; replace hx108_11 := Own.up HB.out hx108_11; have HR108_9 := Aside0.mk hi108_9; have HC108_9 := Aside0.mk hl108_9; clear hi108_9 hl108_9; replace p108 := eq_true p108; replace q108 := eq_true q108
    go_wp2_with (first | ((with_reducible refine gate_callee (f := 29) rfl ?_); refine goesL_ (some 23) rfl rfl Tryz.func29 (by kernel_rfl) rfl #[.agg #[.string ((rd_T60 l0 x5_1).f0), .int .i64 ((rd_T60 l0 x5_1).f1), .int .i64 ((rd_T60 l0 x5_1).f2), .string ((rd_T60 l0 x5_1).f3), .int .i64 ((rd_T60 l0 x5_1).f4), .int .i64 ((rd_T60 l0 x5_1).f5), .int .i64 ((rd_T60 l0 x5_1).f6.f0), .string ((rd_T60 l0 x5_1).f6.f1), .int .i64 ((rd_T60 l0 x5_1).f6.f2), .slice A108_9 ((rd_T60 l0 x5_1).f6.f3).length c108_9, .int .i64 ((rd_T60 l0 x5_1).f7), .string ((rd_T60 l0 x5_1).f8)], .int .i64 x1_1] rfl Own.ha ?_; (with_reducible refine (laws_szClause.calls k1 ((rd_T60 l0 x5_1).f0) ((rd_T60 l0 x5_1).f1) ((rd_T60 l0 x5_1).f2) ((rd_T60 l0 x5_1).f3) ((rd_T60 l0 x5_1).f4) ((rd_T60 l0 x5_1).f5) ((rd_T60 l0 x5_1).f6.f0) ((rd_T60 l0 x5_1).f6.f1) ((rd_T60 l0 x5_1).f6.f2) _ _ ((rd_T60 l0 x5_1).f6.f3) ((rd_T60 l0 x5_1).f7) ((rd_T60 l0 x5_1).f8) x1_1 t109 _ ?side1 ?side2 A6.out).mono ?_); (case side1 => exact Kd.C_below HR108_9.out Own.bl); (case side2 => exact HC108_9.out); rintro e w8 ⟨rfl, hb⟩; refine ⟨_, rfl, ?_⟩; replace HB := Own.bs hb; (try clear hb)))
    go_ret
    exact ⟨Own.rr, Own.bl⟩
   rw [if_neg c7] at H; replace c7 := decide_eq_false c7; have H' := Aside0.mk H; clear H
   have p108 : 0 ≤ (x5_1 : Int) := Own.dp
   have q108 : x5_1 < (l0.length : Int) := Own.dp
   obtain ⟨ad108, A108_9, c108_9, e108, hx108_0, hx108_1, hx108_2, hx108_3, hx108_4, hx108_5, hx108_6, hx108_7, hx108_8, hx108_9, hx108_10, hx108_11, hl108_9, hi108_9⟩ := at_T60 HR0.out x5_1 p108 q108; cases e108; replace hx108_0 := Own.up HB.out hx108_0; replace hx108_1 := Own.up HB.out hx108_1; replace hx108_2 := Own.up HB.out hx108_2; replace hx108_3 := Own.up HB.out hx108_3; replace hx108_4 := Own.up HB.out hx108_4; replace hx108_5 := Own.up HB.out hx108_5; replace hx108_6 := Own.up HB.out hx108_6; replace hx108_7 := Own.up HB.out hx108_7; replace hx108_8 := Own.up HB.out hx108_8; replace hx108_9 := Own.up HB.out hx108_9; replace hx108_10 := Own.up HB.out hx108_10; replace hx108_11 := Own.up HB.out hx108_11; have HR108_9 := Aside0.mk hi108_9; have HC108_9 := Aside0.mk hl108_9; clear hi108_9 hl108_9; replace p108 := eq_true p108; replace q108 := eq_true q108
   go_wp2_with (first | ((with_reducible refine gate_callee (f := 29) rfl ?_); refine goesL_ (some 23) rfl rfl Tryz.func29 (by kernel_rfl) rfl #[.agg #[.string ((rd_T60 l0 x5_1).f0), .int .i64 ((rd_T60 l0 x5_1).f1), .int .i64 ((rd_T60 l0 x5_1).f2), .string ((rd_T60 l0 x5_1).f3), .int .i64 ((rd_T60 l0 x5_1).f4), .int .i64 ((rd_T60 l0 x5_1).f5), .int .i64 ((rd_T60 l0 x5_1).f6.f0), .string ((rd_T60 l0 x5_1).f6.f1), .int .i64 ((rd_T60 l0 x5_1).f6.f2), .slice A108_9 ((rd_T60 l0 x5_1).f6.f3).length c108_9, .int .i64 ((rd_T60 l0 x5_1).f7), .string ((rd_T60 l0 x5_1).f8)], .int .i64 x1_1] rfl Own.ha ?_; (with_reducible refine (laws_szClause.calls k1 ((rd_T60 l0 x5_1).f0) ((rd_T60 l0 x5_1).f1) ((rd_T60 l0 x5_1).f2) ((rd_T60 l0 x5_1).f3) ((rd_T60 l0 x5_1).f4) ((rd_T60 l0 x5_1).f5) ((rd_T60 l0 x5_1).f6.f0) ((rd_T60 l0 x5_1).f6.f1) ((rd_T60 l0 x5_1).f6.f2) _ _ ((rd_T60 l0 x5_1).f6.f3) ((rd_T60 l0 x5_1).f7) ((rd_T60 l0 x5_1).f8) x1_1 t109 _ ?side1 ?side2 A6.out).mono ?_); (case side1 => exact Kd.C_below HR108_9.out Own.bl); (case side2 => exact HC108_9.out); rintro e w9 ⟨rfl, hb⟩; refine ⟨_, rfl, ?_⟩; replace HB := Own.bs hb; (try clear hb)))
   go_roundg k1
   case measure => have := HK1.out; omega
   case rel => exact ⟨(t109), (wrap64 (x5_1 + 1)), Own.rs, Own.rs, H', ⟨by have := HK1.out; omega⟩, ⟨Own.bl⟩⟩
/-! ### laws_szContract: function 4 -/
def laws_szContract.f (k : Nat) (l0_0 : List ByteArray) (l0_1 : List (S60)) (a1 : Int) : Option (Int) := (laws_szStringS.f k l0_0 a1).bind fun t111 => (if t111 < 0 then (some (-1)) else ((laws_szClauseS.f k l0_1 t111).bind fun t112 => (if t112 < 0 then (some (-1)) else (some t112))))
set_option maxHeartbeats 8000000 in
set_option maxRecDepth 100000 in
theorem laws_szContract.calls (k : Nat) (A0_0 : Option Addr) (c0_0 : Nat) (l0_0 : List ByteArray) (A0_1 : Option Addr) (c0_1 : Nat) (l0_1 : List (S60)) (a1 : Int) (r : Int) (w : World) (hr0_0 : Kd.C Kd.string w A0_0 l0_0.length l0_0) (hc0_0 : l0_0.length ≤ c0_0) (hr0_1 : Kd.C k60 w A0_1 l0_1.length l0_1) (hc0_1 : l0_1.length ≤ c0_1) (h : laws_szContract.f k l0_0 l0_1 a1 = some r) :
  Calls Tryz.prog 4 #[.agg #[.slice A0_0 l0_0.length c0_0, .slice A0_1 l0_1.length c0_1], .int .i64 a1] w fun e w' => e = .returned (.int .i64 r) ∧ Below w.heap.size w w' := by
 have hu25 := Tryz.underlying25
 have HR0_0 := Aside0.mk hr0_0
 have HC0_0 := Aside0.mk hc0_0
 clear hr0_0 hc0_0
 have HR0_1 := Aside0.mk hr0_1
 have HC0_1 := Aside0.mk hc0_1
 clear hr0_1 hc0_1
 have HB := Aside0.mk (Below.refl w.heap.size w)
 have H : ((laws_szStringS.f k l0_0 a1).bind fun t111 => (if t111 < 0 then (some (-1)) else ((laws_szClauseS.f k l0_1 t111).bind fun t112 => (if t112 < 0 then (some (-1)) else (some t112))))) = some r := h
 clear h
 replace H := Own.bd H; obtain ⟨t111, A3, H⟩ := H
 by_cases c4 : t111 < 0
 ·
  rw [if_pos c4] at H; replace c4 := decide_eq_true c4; obtain rfl := Option.some.inj H
  go_enter Tryz.func4, Tryz.ntmps4
  go_wp2_with (first | ((with_reducible refine gate_dst (N := 2) rfl ?_); refine Own.be (N := 2) (cs := #[.slice A0_0 l0_0.length c0_0, .slice A0_1 l0_1.length c0_1]) (t := 25) ?_; intro gb110 hg w5 hbox hb; have BK110 := Aside0.mk hbox; have GW110 := (Own.gs hg : Aside0 (w.heap.size ≤ gb110)); have GE110 := GW110; replace HB := Own.bs hb; clear hb hbox hg; obtain ⟨z6_0, z6_1, y6_0, y6_1⟩ := Own.box2 BK110.out) | ((with_reducible refine gate_callee (f := 11) rfl ?_); refine goesL_ (some 8) rfl rfl Tryz.func11 (by kernel_rfl) rfl #[.slice A0_0 l0_0.length c0_0, .int .i64 a1] rfl Own.ha ?_; (with_reducible refine (laws_szStringS.calls k _ _ l0_0 a1 t111 _ ?side1 ?side2 A3.out).mono ?_); (case side1 => exact Kd.C_below HR0_0.out Own.bl); (case side2 => exact HC0_0.out); rintro e w' ⟨rfl, ⟨nd, rfl⟩⟩; refine ⟨_, rfl, ?_⟩))
  go_ret
  exact ⟨Own.rr, Own.bl⟩
 rw [if_neg c4] at H
 replace c4 := decide_eq_false c4
 replace H := Own.bd H; obtain ⟨t112, A7, H⟩ := H
 by_cases c8 : t112 < 0
 ·
  rw [if_pos c8] at H; replace c8 := decide_eq_true c8; obtain rfl := Option.some.inj H
  go_enter Tryz.func4, Tryz.ntmps4
  go_wp2_with (first | ((with_reducible refine gate_dst (N := 2) rfl ?_); refine Own.be (N := 2) (cs := #[.slice A0_0 l0_0.length c0_0, .slice A0_1 l0_1.length c0_1]) (t := 25) ?_; intro gb110 hg w9 hbox hb; have BK110 := Aside0.mk hbox; have GW110 := (Own.gs hg : Aside0 (w.heap.size ≤ gb110)); have GE110 := GW110; replace HB := Own.bs hb; clear hb hbox hg; obtain ⟨z10_0, z10_1, y10_0, y10_1⟩ := Own.box2 BK110.out) | ((with_reducible refine gate_callee (f := 11) rfl ?_); refine goesL_ (some 8) rfl rfl Tryz.func11 (by kernel_rfl) rfl #[.slice A0_0 l0_0.length c0_0, .int .i64 a1] rfl Own.ha ?_; (with_reducible refine (laws_szStringS.calls k _ _ l0_0 a1 t111 _ ?side1 ?side2 A3.out).mono ?_); (case side1 => exact Kd.C_below HR0_0.out Own.bl); (case side2 => exact HC0_0.out); rintro e w' ⟨rfl, ⟨nd, rfl⟩⟩; refine ⟨_, rfl, ?_⟩) | ((with_reducible refine gate_callee (f := 12) rfl ?_); refine goesL_ (some 14) rfl rfl Tryz.func12 (by kernel_rfl) rfl #[.slice A0_1 l0_1.length c0_1, .int .i64 t111] rfl Own.ha ?_; (with_reducible refine (laws_szClauseS.calls k _ _ l0_1 t111 t112 _ ?side1 ?side2 A7.out).mono ?_); (case side1 => exact Kd.C_below HR0_1.out Own.bl); (case side2 => exact HC0_1.out); rintro e w11 ⟨rfl, hb⟩; refine ⟨_, rfl, ?_⟩; replace BK110 := Own.bb BK110.out hb; replace HB := Own.bs hb; (try clear hb)))
  go_ret
  exact ⟨Own.rr, Own.bl⟩
 rw [if_neg c8] at H
 replace c8 := decide_eq_false c8
 obtain rfl := Option.some.inj H
 go_enter Tryz.func4, Tryz.ntmps4
 go_wp2_with (first | ((with_reducible refine gate_dst (N := 2) rfl ?_); refine Own.be (N := 2) (cs := #[.slice A0_0 l0_0.length c0_0, .slice A0_1 l0_1.length c0_1]) (t := 25) ?_; intro gb110 hg w12 hbox hb; have BK110 := Aside0.mk hbox; have GW110 := (Own.gs hg : Aside0 (w.heap.size ≤ gb110)); have GE110 := GW110; replace HB := Own.bs hb; clear hb hbox hg; obtain ⟨z13_0, z13_1, y13_0, y13_1⟩ := Own.box2 BK110.out) | ((with_reducible refine gate_callee (f := 11) rfl ?_); refine goesL_ (some 8) rfl rfl Tryz.func11 (by kernel_rfl) rfl #[.slice A0_0 l0_0.length c0_0, .int .i64 a1] rfl Own.ha ?_; (with_reducible refine (laws_szStringS.calls k _ _ l0_0 a1 t111 _ ?side1 ?side2 A3.out).mono ?_); (case side1 => exact Kd.C_below HR0_0.out Own.bl); (case side2 => exact HC0_0.out); rintro e w' ⟨rfl, ⟨nd, rfl⟩⟩; refine ⟨_, rfl, ?_⟩) | ((with_reducible refine gate_callee (f := 12) rfl ?_); refine goesL_ (some 14) rfl rfl Tryz.func12 (by kernel_rfl) rfl #[.slice A0_1 l0_1.length c0_1, .int .i64 t111] rfl Own.ha ?_; (with_reducible refine (laws_szClauseS.calls k _ _ l0_1 t111 t112 _ ?side1 ?side2 A7.out).mono ?_); (case side1 => exact Kd.C_below HR0_1.out Own.bl); (case side2 => exact HC0_1.out); rintro e w14 ⟨rfl, hb⟩; refine ⟨_, rfl, ?_⟩; replace BK110 := Own.bb BK110.out hb; replace HB := Own.bs hb; (try clear hb)))
 go_ret
 exact ⟨Own.rr, Own.bl⟩
/-! ### spec_l6Find: function 13 -/
def spec_l6Find.l0 : Nat → ByteArray → Int → List ByteArray → List (S51) → Option (Int)
 | 0, _, _, _, _ => none
 | k + 1, x1, x5, x114000, x114001 => if x5 < (x114001.length : Int) then (if 0 ≤ x5 then (if ((rd_T51 x114001 x5).f0).toList = x1.toList then (some x5) else (spec_l6Find.l0 k x1 (wrap64 (x5 + 1)) x114000 x114001)) else (none)) else (some (-1))
def spec_l6Find.f (k : Nat) (l0_0 : List ByteArray) (l0_1 : List (S51)) (a1 : ByteArray) : Option (Int) := spec_l6Find.l0 k a1 0 l0_0 l0_1
set_option maxHeartbeats 8000000 in
set_option maxRecDepth 100000 in
theorem spec_l6Find.calls (k : Nat) (A0_0 : Option Addr) (c0_0 : Nat) (l0_0 : List ByteArray) (A0_1 : Option Addr) (c0_1 : Nat) (l0_1 : List (S51)) (a1 : ByteArray) (r : Int) (w : World) (hr0_0 : Kd.C Kd.string w A0_0 l0_0.length l0_0) (hc0_0 : l0_0.length ≤ c0_0) (hr0_1 : Kd.C k51 w A0_1 l0_1.length l0_1) (hc0_1 : l0_1.length ≤ c0_1) (h : spec_l6Find.f k l0_0 l0_1 a1 = some r) :
  Calls Tryz.prog 13 #[.agg #[.slice A0_0 l0_0.length c0_0, .slice A0_1 l0_1.length c0_1], .string a1] w fun e w' => e = .returned (.int .i64 r) ∧ Below w.heap.size w w' := by
 have hu29 := Tryz.underlying29
 have HR0_0 := Aside0.mk hr0_0
 have HC0_0 := Aside0.mk hc0_0
 clear hr0_0 hc0_0
 have HR0_1 := Aside0.mk hr0_1
 have HC0_1 := Aside0.mk hc0_1
 clear hr0_1 hc0_1
 have HB := Aside0.mk (Below.refl w.heap.size w)
 have H : (spec_l6Find.l0 k a1 0 l0_0 l0_1) = some r := h
 clear h
 have H' := Aside0.mk H
 clear H
 go_enter Tryz.func13, Tryz.ntmps13
 go_wp2_with (first | ((with_reducible refine gate_dst (N := 2) rfl ?_); refine Own.be (N := 2) (cs := #[.slice A0_0 l0_0.length c0_0, .slice A0_1 l0_1.length c0_1]) (t := 29) ?_; intro gb113 hg w3 hbox hb; have BK113 := Aside0.mk hbox; have GW113 := (Own.gs hg : Aside0 (w.heap.size ≤ gb113)); have GE113 := GW113; replace HB := Own.bs hb; clear hb hbox hg))
 go_loopg [5] k (fun kq v5 w' => ∃ (x5_1 : Int), v5 = .int .i64 x5_1 ∧ Aside0 (spec_l6Find.l0 kq a1 x5_1 l0_0 l0_1 = some r) ∧ Aside0 (kq ≤ k) ∧ Aside0 (w'.heap[gb113]? = some (.cells #[(.slice A0_0 l0_0.length c0_0), (.slice A0_1 l0_1.length c0_1)] 29 (0, 0))) ∧ Aside0 (Below w.heap.size w w'))
 case atStart => exact ⟨(0), Own.rs, H', ⟨Nat.le_refl _⟩, ⟨Own.bk⟩, ⟨Own.bl⟩⟩
 case round =>
  clear H'; try clear c1; try clear p2
  obtain ⟨x5_1, rfl, HA, HK1, BK113, HB⟩ := hrel
  cases gk with
  | zero => exact absurd HA.out (by simp [spec_l6Find.l0])
  | succ k1 =>
   have H := HA.out; clear HA
   simp only [spec_l6Find.l0] at H
   by_cases c4 : x5_1 < (l0_1.length : Int)
   rotate_left
   ·
    rw [if_neg c4] at H; replace c4 := decide_eq_false c4; obtain rfl := Option.some.inj H; obtain ⟨z9_0, z9_1, y9_0, y9_1⟩ := Own.box2 BK113.out
    go_wp2
    go_ret
    exact ⟨Own.rr, Own.bl⟩
   rw [if_pos c4] at H; replace c4 := decide_eq_true c4
   replace H := Own.ifd H; obtain ⟨c5, H⟩ := H
   by_cases c6 : ((rd_T51 l0_1 x5_1).f0).toList = a1.toList
   ·
    rw [if_pos c6] at H
    have c6b0 : (((rd_T51 l0_1 x5_1).f0).toList == a1.toList) = true := beq_iff_eq.mpr c6
    have c6b1 : (((rd_T51 l0_1 x5_1).f0).toList != a1.toList) = false := bne_eq_false_iff_eq.mpr c6
    clear c6; obtain rfl := Option.some.inj H; obtain ⟨z7_0, z7_1, y7_0, y7_1⟩ := Own.box2 BK113.out
    have p114 : 0 ≤ (x5_1 : Int) := Own.dp
    have q114 : x5_1 < (l0_1.length : Int) := Own.dp
    obtain ⟨ad114, A114_9, c114_9, e114, hx114_0, hx114_1, hx114_2, hx114_3, hx114_4, hx114_5, hx114_6, hx114_7, hx114_8, hx114_9, hx114_10, hx114_11, hl114_9, hi114_9⟩ := at_T51 HR0_1.out x5_1 p114 q114; cases e114; replace hx114_0 := Own.up HB.out hx114_0; replace hx114_1 := Own.up HB.out hx114_1; replace hx114_2 := Own.up HB.out hx114_2; replace hx114_3 := Own.up HB.out hx114_3; replace hx114_4 := Own.up HB.out hx114_4; replace hx114_5 := Own.up HB.out hx114_5; replace hx114_6 := Own.up HB.out hx114_6; replace hx114_7 := Own.up HB.out hx114_7; replace hx114_8 := Own.up HB.out hx114_8; replace hx114_9 := Own.up HB.out hx114_9; replace hx114_10 := Own.up HB.out hx114_10; replace hx114_11 := Own.up HB.out hx114_11; have HR114_9 := Aside0.mk hi114_9; have HC114_9 := Aside0.mk hl114_9; clear hi114_9 hl114_9; replace p114 := eq_true p114; replace q114 := eq_true q114
    go_wp2
    go_ret
    exact ⟨Own.rr, Own.bl⟩
   rw [if_neg c6] at H
   have c6b0 : (((rd_T51 l0_1 x5_1).f0).toList == a1.toList) = false := beq_eq_false_iff_ne.mpr c6
   have c6b1 : (((rd_T51 l0_1 x5_1).f0).toList != a1.toList) = true := bne_iff_ne.mpr c6
   have H' := Aside0.mk H; clear H; obtain ⟨z8_0, z8_1, y8_0, y8_1⟩ := Own.box2 BK113.out
   have p114 : 0 ≤ (x5_1 : Int) := Own.dp
   have q114 : x5_1 < (l0_1.length : Int) := Own.dp
   obtain ⟨ad114, A114_9, c114_9, e114, hx114_0, hx114_1, hx114_2, hx114_3, hx114_4, hx114_5, hx114_6, hx114_7, hx114_8, hx114_9, hx114_10, hx114_11, hl114_9, hi114_9⟩ := at_T51 HR0_1.out x5_1 p114 q114; cases e114; replace hx114_0 := Own.up HB.out hx114_0; replace hx114_1 := Own.up HB.out hx114_1; replace hx114_2 := Own.up HB.out hx114_2; replace hx114_3 := Own.up HB.out hx114_3; replace hx114_4 := Own.up HB.out hx114_4; replace hx114_5 := Own.up HB.out hx114_5; replace hx114_6 := Own.up HB.out hx114_6; replace hx114_7 := Own.up HB.out hx114_7; replace hx114_8 := Own.up HB.out hx114_8; replace hx114_9 := Own.up HB.out hx114_9; replace hx114_10 := Own.up HB.out hx114_10; replace hx114_11 := Own.up HB.out hx114_11; have HR114_9 := Aside0.mk hi114_9; have HC114_9 := Aside0.mk hl114_9; clear hi114_9 hl114_9; replace p114 := eq_true p114; replace q114 := eq_true q114
   go_wp2
   go_roundg k1
   case measure => have := HK1.out; omega
   case rel => exact ⟨(wrap64 (x5_1 + 1)), Own.rs, H', ⟨by have := HK1.out; omega⟩, ⟨Own.bk⟩, ⟨Own.bl⟩⟩
/-! ### spec_l1In: function 30 -/
def spec_l1In.f (a0 : Int) (a1 : Int) (a2 : Int) : Option (Bool) := if a0 ≥ a1 then (some (decide (a0 ≤ a2))) else (some false)
set_option maxHeartbeats 8000000 in
set_option maxRecDepth 100000 in
theorem spec_l1In.calls (a0 : Int) (a1 : Int) (a2 : Int) (r : Bool) (w : World) (h : spec_l1In.f a0 a1 a2 = some r) :
  Calls Tryz.prog 30 #[.int .i64 a0, .int .i64 a1, .int .i64 a2] w fun e w' => e = .returned (.bool r) ∧ Drawn0 w w' := by
 have H : (if a0 ≥ a1 then (some (decide (a0 ≤ a2))) else (some false)) = some r := h
 clear h
 by_cases c4 : a0 ≥ a1
 ·
  rw [if_pos c4] at H
  have c4b0 : decide (a1 ≤ a0) = true := decide_eq_true c4
  clear c4; obtain rfl := Option.some.inj H
  go_enter Tryz.func30, Tryz.ntmps30
  go_wp2
  go_ret
  exact ⟨by first | rfl | (simp; done) | (simp [*]; done), by repeat (first | exact Drawn0.refl _ | apply Drawn0.step)⟩
 rw [if_neg c4] at H
 have c4b0 : decide (a1 ≤ a0) = false := decide_eq_false c4
 clear c4
 obtain rfl := Option.some.inj H
 go_enter Tryz.func30, Tryz.ntmps30
 go_wp2
 go_ret
 exact ⟨by first | rfl | (simp; done) | (simp [*]; done), by repeat (first | exact Drawn0.refl _ | apply Drawn0.step)⟩
end Go.Proofs.YtckopglnblcnoaaGreatDoor.QFnExactRemoveClause
