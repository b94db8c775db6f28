-- Written by a program of this session out of the translation; Lean checks it.
import Derived.Test.YtdfbfcgjcfbmpaaGreatDoorQFnExactRepairChainx0
import Derived.Test.YtdfbfcgjcfbmpaaGreatDoorQFnExactRepairChainx11
import Derived.Test.YtdfbfcgjcfbmpaaGreatDoorQFnExactRepairChainx12
import Derived.Test.YtdfbfcgjcfbmpaaGreatDoorQFnExactRepairChainx16
namespace Go.Proofs.YtdfbfcgjcfbmpaaGreatDoor.QFnExactRepairChain
open Go.RowKit Go.Proofs.YtdfbfcgjcfbmpaaGreatDoorW.PrintWords Go.Proofs.YtdfbfcgjcfbmpaaGreatDoorW.PrintLast Go.Proofs.YtdfbfcgjcfbmpaaGreatDoorW.PrintMore
attribute [local go_sem] Instr.field asAgg Own.str_leq Own.str_gtr Own.str_geq
attribute [local go_sem] max2_int min2_int max_two min_two max_three min_three max_four min_four   -- for this text's walks alone
set_option linter.unusedVariables false
set_option linter.unusedSimpArgs false

/-! ### slices_Index_int_int: function 82 -/
def slices_Index_int_int.l0 : Nat → List Int → Int → Int → Int → Option (Int)
 | 0, _, _, _, _ => none
 | k + 1, x0, x1, x7, x8 => if x8 < x7 then (if 0 ≤ x8 then (if x8 < (x0.length : Int) then (if x1 = (rd x0 x8) then (some x8) else (slices_Index_int_int.l0 k x0 x1 x7 (wrap64 (x8 + 1)))) else (none)) else (none)) else (some (-1))
def slices_Index_int_int.f (k : Nat) (l0 : List Int) (a1 : Int) : Option (Int) := slices_Index_int_int.l0 k l0 a1 (l0.length : Int) 0
theorem slices_Index_int_int.mono_l : ∀ k, (∀ y0 y1 y2 y3, LeO (slices_Index_int_int.l0 k y0 y1 y2 y3) (slices_Index_int_int.l0 (k + 1) y0 y1 y2 y3))
 | 0 => fun _ _ _ _ r h => by simp [slices_Index_int_int.l0] at h
 | k + 1 => by
  have ih0 := slices_Index_int_int.mono_l k
  ·
   intro y0 y1 y2 y3
   unfold slices_Index_int_int.l0
   repeat' first
   | (with_reducible first | exact ih0 _ _ _ _ | exact LeO.refl _ | exact LeO.none _ | refine LeO.ite ?_ ?_ | refine LeO.bind ?_ (fun _ => ?_))
theorem slices_Index_int_int.mono : ∀ a0 a1 k, LeO (slices_Index_int_int.f k a0 a1) (slices_Index_int_int.f (k + 1) a0 a1) := by
 intro a0 a1 k
 have ih0 := slices_Index_int_int.mono_l k
 unfold slices_Index_int_int.f
 repeat' first
   | (with_reducible first | exact ih0 _ _ _ _ | exact LeO.refl _ | exact LeO.none _ | refine LeO.ite ?_ ?_ | refine LeO.bind ?_ (fun _ => ?_))
set_option maxHeartbeats 8000000 in
set_option maxRecDepth 100000 in
theorem slices_Index_int_int.calls (k : Nat) (A0 : Option Addr) (c0 : Nat) (l0 : List Int) (a1 : Int) (r : Int) (w : World) (hr0 : Kd.C (Kd.int .i64) w A0 l0.length l0) (hc0 : l0.length ≤ c0) (h : slices_Index_int_int.f k l0 a1 = some r) :
  Calls Tryz.prog 82 #[.slice A0 l0.length c0, .int .i64 a1] w fun e w' => e = .returned (.int .i64 r) ∧ Drawn0 w w' := by
 have HR0 := Aside0.mk hr0
 have HC0 := Aside0.mk hc0
 clear hr0 hc0
 have H : (slices_Index_int_int.l0 k l0 a1 (l0.length : Int) 0) = some r := h
 clear h
 have H' := Aside0.mk H
 clear H
 go_enter Tryz.func82, Tryz.ntmps82
 go_wp2
 go_loopg [8] k (fun kq v8 w' => ∃ (x8_1 : Int), v8 = .int .i64 x8_1 ∧ Aside0 (slices_Index_int_int.l0 kq l0 a1 (l0.length : Int) x8_1 = some r) ∧ Aside0 (kq ≤ k) ∧ Drawn0 w w')
 case atStart => exact ⟨(0), Own.rs, H', ⟨Nat.le_refl _⟩, by repeat (first | exact Drawn0.refl _ | apply Drawn0.step)⟩
 case round =>
  clear H'
  try clear p2
  obtain ⟨x8_1, rfl, HA, HK1, ⟨m1, rfl⟩⟩ := hrel
  cases gk with
  | zero => exact absurd HA.out (by simp [slices_Index_int_int.l0])
  | succ k1 =>
   have H := HA.out
   clear HA
   simp only [slices_Index_int_int.l0] at H
   by_cases c3 : x8_1 < (l0.length : Int)
   rotate_left
   ·
    rw [if_neg c3] at H
    replace c3 := decide_eq_false c3
    obtain rfl := Option.some.inj H
    go_wp2
    go_ret
    exact ⟨by first | rfl | (simp; done) | (simp [*]; done), by repeat (first | exact Drawn0.refl _ | apply Drawn0.step)⟩
   rw [if_pos c3] at H
   replace c3 := decide_eq_true c3
   replace H := Own.ifd H; obtain ⟨c4, H⟩ := H
   replace H := Own.ifd H; obtain ⟨c5, H⟩ := H
   by_cases c6 : a1 = (rd l0 x8_1)
   ·
    rw [if_pos c6] at H
    have c6b0 : (a1 == (rd l0 x8_1)) = true := beq_iff_eq.mpr c6
    have c6b1 : (a1 != (rd l0 x8_1)) = false := bne_eq_false_iff_eq.mpr c6
    clear c6
    obtain rfl := Option.some.inj H
    have p422 : 0 ≤ (x8_1 : Int) := Own.dp
    have q422 : x8_1 < (l0.length : Int) := Own.dp
    obtain ⟨ad422, e422, hx422_0⟩ := Kd.at_int HR0.out x8_1 p422 q422
    cases e422
    replace p422 := eq_true p422
    replace q422 := eq_true q422
    go_wp2
    go_ret
    exact ⟨by first | rfl | (simp; done) | (simp [*]; done), by repeat (first | exact Drawn0.refl _ | apply Drawn0.step)⟩
   rw [if_neg c6] at H
   have c6b0 : (a1 == (rd l0 x8_1)) = false := beq_eq_false_iff_ne.mpr c6
   have c6b1 : (a1 != (rd l0 x8_1)) = true := bne_iff_ne.mpr c6
   have H' := Aside0.mk H
   clear H
   have p422 : 0 ≤ (x8_1 : Int) := Own.dp
   have q422 : x8_1 < (l0.length : Int) := Own.dp
   obtain ⟨ad422, e422, hx422_0⟩ := Kd.at_int HR0.out x8_1 p422 q422
   cases e422
   replace p422 := eq_true p422
   replace q422 := eq_true q422
   go_wp2
   go_roundg k1
   case measure => have := HK1.out; omega
   case rel => exact ⟨(wrap64 (x8_1 + 1)), Own.rs, H', ⟨by have := HK1.out; omega⟩, by repeat (first | exact Drawn0.refl _ | apply Drawn0.step)⟩

/-! ### slices_Contains_int_int: function 62 -/
def slices_Contains_int_int.f (k : Nat) (l0 : List Int) (a1 : Int) : Option (Bool) := (slices_Index_int_int.f k l0 a1).bind fun t423 => (some (decide (t423 ≥ 0)))
theorem slices_Contains_int_int.mono : ∀ a0 a1 k, LeO (slices_Contains_int_int.f k a0 a1) (slices_Contains_int_int.f (k + 1) a0 a1) := by
 intro a0 a1 k
 unfold slices_Contains_int_int.f
 repeat' first
   | (with_reducible first | exact slices_Index_int_int.mono _ _ _ | exact LeO.refl _ | exact LeO.none _ | refine LeO.ite ?_ ?_ | refine LeO.bind ?_ (fun _ => ?_))
set_option maxHeartbeats 8000000 in
set_option maxRecDepth 100000 in
theorem slices_Contains_int_int.calls (k : Nat) (A0 : Option Addr) (c0 : Nat) (l0 : List Int) (a1 : Int) (r : Bool) (w : World) (hr0 : Kd.C (Kd.int .i64) w A0 l0.length l0) (hc0 : l0.length ≤ c0) (h : slices_Contains_int_int.f k l0 a1 = some r) :
  Calls Tryz.prog 62 #[.slice A0 l0.length c0, .int .i64 a1] w fun e w' => e = .returned (.bool r) ∧ Drawn0 w w' := by
 have HR0 := Aside0.mk hr0
 have HC0 := Aside0.mk hc0
 clear hr0 hc0
 have H : ((slices_Index_int_int.f k l0 a1).bind fun t423 => (some (decide (t423 ≥ 0)))) = some r := h
 clear h
 replace H := Own.bd H; obtain ⟨t423, A3, H⟩ := H
 obtain rfl := Option.some.inj H
 go_enter Tryz.func62, Tryz.ntmps62
 go_wp2_with (first | ((with_reducible refine gate_callee (f := 82) rfl ?_); refine goesL_ (some 7) rfl rfl Tryz.func82 (by kernel_rfl) rfl #[.slice A0 l0.length c0, .int .i64 a1] rfl Own.ha ?_; (with_reducible refine (slices_Index_int_int.calls k _ _ l0 a1 t423 _ ?side1 ?side2 A3.out).mono ?_); (case side1 => repeat (first | exact HR0.out | (with_reducible refine Kd.C_alloc ?_ _) | (with_reducible refine Kd.C_drewN ?_ _) | (with_reducible refine Kd.C_drew ?_))); (case side2 => exact HC0.out); rintro e w' ⟨rfl, ⟨nd, rfl⟩⟩; refine ⟨_, rfl, ?_⟩))
 go_ret
 exact ⟨by first | rfl | (simp; done) | (simp [*]; done), by repeat (first | exact Drawn0.refl _ | apply Drawn0.step)⟩

/-! ### impl_RepairChain: function 29 -/
mutual
def impl_RepairChain.j0 : Nat → Int → Bool → List ByteArray → List (S51) → Option (List Int × Bool × Bool)
 | 0, _, _, _, _ => none
 | k + 1, x1, x19, x425000, x425001 => if x19 = true then (some (([] : List Int), false, false)) else (impl_RepairChain.l0 k x1 (([x1] : List Int)) x425000 x425001)
def impl_RepairChain.l0 : Nat → Int → List Int → List ByteArray → List (S51) → Option (List Int × Bool × Bool)
 | 0, _, _, _, _ => none
 | k + 1, x1, x7, x425000, x425001 => if 0 ≤ x1 then (if x1 < (x425001.length : Int) then (if ((rd_T51 x425001 x1).f8).toList = ([] : List UInt8) then (some (x7, false, true)) else ((impl_clauseIndex.f k x425000 x425001 ((rd_T51 x425001 x1).f8)).bind fun t432 => ((slices_Contains_int_int.f k x7 t432).bind fun t433 => (if t433 = true then (some (x7, true, true)) else (if x7.length < 17592186044416 then (impl_RepairChain.l0 k t432 (x7 ++ [t432]) x425000 x425001) else (none)))))) else (none)) else (none)
end
def impl_RepairChain.f (k : Nat) (l0_0 : List ByteArray) (l0_1 : List (S51)) (a1 : Int) : Option (List Int × Bool × Bool) := (impl_IsValidContract.f k l0_0 l0_1).bind fun t425 => (if t425 = true then ((impl_within.f a1 0 (wrap64 ((l0_1.length : Int) - 1))).bind fun t426 => (impl_RepairChain.j0 k a1 (!t426) l0_0 l0_1)) else (impl_RepairChain.j0 k a1 true l0_0 l0_1))
theorem impl_RepairChain.mono_l : ∀ k, (∀ y0 y1 y2 y3, LeO (impl_RepairChain.j0 k y0 y1 y2 y3) (impl_RepairChain.j0 (k + 1) y0 y1 y2 y3)) ∧ (∀ y0 y1 y2 y3, LeO (impl_RepairChain.l0 k y0 y1 y2 y3) (impl_RepairChain.l0 (k + 1) y0 y1 y2 y3))
 | 0 => ⟨fun _ _ _ _ r h => by simp [impl_RepairChain.j0] at h, fun _ _ _ _ r h => by simp [impl_RepairChain.l0] at h⟩
 | k + 1 => by
  obtain ⟨ih0, ih1⟩ := impl_RepairChain.mono_l k
  refine ⟨?_, ?_⟩
  ·
   intro y0 y1 y2 y3
   unfold impl_RepairChain.j0
   repeat' first
   | (with_reducible first | exact ih0 _ _ _ _ | exact ih1 _ _ _ _ | exact impl_IsValidContract.mono _ _ _ | exact impl_clauseIndex.mono _ _ _ _ | exact slices_Contains_int_int.mono _ _ _ | exact LeO.refl _ | exact LeO.none _ | refine LeO.ite ?_ ?_ | refine LeO.bind ?_ (fun _ => ?_))
  ·
   intro y0 y1 y2 y3
   unfold impl_RepairChain.l0
   repeat' first
   | (with_reducible first | exact ih0 _ _ _ _ | exact ih1 _ _ _ _ | exact impl_IsValidContract.mono _ _ _ | exact impl_clauseIndex.mono _ _ _ _ | exact slices_Contains_int_int.mono _ _ _ | exact LeO.refl _ | exact LeO.none _ | refine LeO.ite ?_ ?_ | refine LeO.bind ?_ (fun _ => ?_))
theorem impl_RepairChain.mono : ∀ a0 a1 a2 k, LeO (impl_RepairChain.f k a0 a1 a2) (impl_RepairChain.f (k + 1) a0 a1 a2) := by
 intro a0 a1 a2 k
 obtain ⟨ih0, ih1⟩ := impl_RepairChain.mono_l k
 unfold impl_RepairChain.f
 repeat' first
   | (with_reducible first | exact ih0 _ _ _ _ | exact ih1 _ _ _ _ | exact impl_IsValidContract.mono _ _ _ | exact impl_clauseIndex.mono _ _ _ _ | exact slices_Contains_int_int.mono _ _ _ | exact LeO.refl _ | exact LeO.none _ | refine LeO.ite ?_ ?_ | refine LeO.bind ?_ (fun _ => ?_))
def impl_RepairChain.T5 : Bool × List (List Nat × List Nat) := (true, [([], []), ([], []), ([1], [1]), ([], []), ([2, 3], [2, 3]), ([4], [4]), ([5], [5]), ([0, 6], [0, 6]), ([7, 7, 0, 1, 2, 3, 4, 5, 6, 7], [3, 7])])
def impl_RepairChain.B5 : List Nat := [0, 0, 2, 0, 14, 30, 62, 127, 255]
theorem impl_RepairChain.tab5 : rtab .any (opsOf Tryz.f29 5) = impl_RepairChain.T5 := by kernel_rfl
theorem impl_RepairChain.bits5 : waitsOk impl_RepairChain.T5.2 impl_RepairChain.B5 = true := by kernel_rfl
set_option maxHeartbeats 8000000 in
set_option maxRecDepth 100000 in
theorem impl_RepairChain.calls (k : Nat) (A0_0 : Option Addr) (c0_0 : Nat) (l0_0 : List ByteArray) (A0_1 : Option Addr) (c0_1 : Nat) (l0_1 : List (S51)) (a1 : Int) (r1 : List Int) (r2 : Bool) (r3 : Bool) (w : World) (hr0_0 : Kd.C Kd.string w A0_0 l0_0.length l0_0) (hc0_0 : l0_0.length ≤ c0_0) (hr0_1 : Kd.C k51 w A0_1 l0_1.length l0_1) (hc0_1 : l0_1.length ≤ c0_1) (hG : Own.Glob w) (h : impl_RepairChain.f k l0_0 l0_1 a1 = some (r1, r2, r3)) :
  Calls Tryz.prog 29 #[.agg #[.slice A0_0 l0_0.length c0_0, .slice A0_1 l0_1.length c0_1], .int .i64 a1] w fun e w' => ∃ v0_ : Value, e = .returned (.tuple #[v0_, .bool r2, .bool r3]) ∧ Kd.R (Kd.int .i64) 3 w' w.heap.size (fun _ => True) v0_ r1 ∧ Below w.heap.size w w' := by
 have hu32 := Tryz.underlying32
 have HR0_0 := Aside0.mk hr0_0
 have HC0_0 := Aside0.mk hc0_0
 clear hr0_0 hc0_0
 have HR0_1 := Aside0.mk hr0_1
 have HC0_1 := Aside0.mk hc0_1
 clear hr0_1 hc0_1
 have HB := Aside0.mk (Below.refl w.heap.size w)
 have HG := Aside0.mk hG
 clear hG
 have H : ((impl_IsValidContract.f k l0_0 l0_1).bind fun t425 => (if t425 = true then ((impl_within.f a1 0 (wrap64 ((l0_1.length : Int) - 1))).bind fun t426 => (impl_RepairChain.j0 k a1 (!t426) l0_0 l0_1)) else (impl_RepairChain.j0 k a1 true l0_0 l0_1))) = some (r1, r2, r3) := h
 clear h
 have HC3 := Aside0.mk H
 clear H
 go_enter Tryz.func29, Tryz.ntmps29
 go_upto_region 1 with (first | ((with_reducible refine gate_dst (N := 2) rfl ?_); refine Own.be (N := 2) (cs := #[.slice A0_0 l0_0.length c0_0, .slice A0_1 l0_1.length c0_1]) (t := 32) ?_; intro gb424 hg w4 hbox hb; have BK424 := Aside0.mk hbox; have GW424 := (Own.gs hg : Aside0 (w.heap.size ≤ gb424)); have GE424 := GW424; replace HB := Own.bs hb; clear hb hbox hg))
 (try simp only [Own.ps])
 go_cut [19] (fun v19 wc => ∃ (kq : Nat) (x19_2 : Bool), v19 = .bool x19_2 ∧ Aside0 (impl_RepairChain.j0 kq a1 x19_2 l0_0 l0_1 = some (r1, r2, r3)) ∧ Aside0 (kq ≤ k) ∧ Aside0 (wc.heap[gb424]? = some (.cells #[(.slice A0_0 l0_0.length c0_0), (.slice A0_1 l0_1.length c0_1)] 32 (0, 0))) ∧ Aside0 (Below w.heap.size w wc))
 case first =>
  have H := HC3.out
  clear HC3
  replace H := Own.bd H; obtain ⟨t425, A5, H⟩ := H
  replace H := Own.ifu H; obtain ⟨rfl, H⟩ | ⟨rfl, H⟩ := H
  ·
   replace H := Own.bd H; obtain ⟨t426, A7, H⟩ := H
   have H' := Aside0.mk H
   clear H
   obtain ⟨z8_0, z8_1, y8_0, y8_1⟩ := Own.box2 BK424.out
   go_wp2_with (first | ((with_reducible refine gate_callee (f := 36) rfl ?_); refine goesL_ (some 9) rfl rfl Tryz.func36 (by kernel_rfl) rfl #[.agg #[.slice A0_0 l0_0.length c0_0, .slice A0_1 l0_1.length c0_1]] rfl Own.ha ?_; (with_reducible refine (impl_IsValidContract.calls k _ _ l0_0 _ _ l0_1 true _ ?side1 ?side2 ?side3 ?side4 ?side5 A5.out).mono ?_); (case side1 => exact Kd.C_below HR0_0.out Own.bl); (case side2 => exact HC0_0.out); (case side3 => exact Kd.C_below HR0_1.out Own.bl); (case side4 => exact HC0_1.out); (case side5 => exact Own.gl HG.out); rintro e w9 ⟨rfl, hb⟩; refine ⟨_, rfl, ?_⟩; replace BK424 := Own.bb BK424.out hb; replace HB := Own.bs hb; (try clear hb); obtain ⟨z10_0, z10_1, y10_0, y10_1⟩ := Own.box2 BK424.out) | (go_at_call 58; (with_reducible refine (impl_within.calls a1 0 (wrap64 ((l0_1.length : Int) - 1)) t426 _ A7.out).mono ?_); rintro e w' ⟨rfl, ⟨nd, rfl⟩⟩))
   go_meet
   case rel => exact ⟨_, (!t426), Own.rs, H', ⟨by first | omega | exact Nat.le_refl _⟩, ⟨Own.bk⟩, ⟨Own.bl⟩⟩
  have H' := Aside0.mk H
  clear H
  obtain ⟨z11_0, z11_1, y11_0, y11_1⟩ := Own.box2 BK424.out
  go_wp2_with (first | ((with_reducible refine gate_callee (f := 36) rfl ?_); refine goesL_ (some 9) rfl rfl Tryz.func36 (by kernel_rfl) rfl #[.agg #[.slice A0_0 l0_0.length c0_0, .slice A0_1 l0_1.length c0_1]] rfl Own.ha ?_; (with_reducible refine (impl_IsValidContract.calls k _ _ l0_0 _ _ l0_1 false _ ?side1 ?side2 ?side3 ?side4 ?side5 A5.out).mono ?_); (case side1 => exact Kd.C_below HR0_0.out Own.bl); (case side2 => exact HC0_0.out); (case side3 => exact Kd.C_below HR0_1.out Own.bl); (case side4 => exact HC0_1.out); (case side5 => exact Own.gl HG.out); rintro e w12 ⟨rfl, hb⟩; refine ⟨_, rfl, ?_⟩; replace BK424 := Own.bb BK424.out hb; replace HB := Own.bs hb; (try clear hb)))
  go_meet
  case rel => exact ⟨_, (true), Own.rs, H', ⟨by first | omega | exact Nat.le_refl _⟩, ⟨Own.bk⟩, ⟨Own.bl⟩⟩
 case rest =>
  clear HC3
  try clear c2; try clear p2; try clear c3; try clear c6; try clear p6; try clear z10_0 z10_1; try clear z11_0 z11_1; try clear z8_0 z8_1; try clear y10_0 y10_1; try clear y11_0 y11_1; try clear y8_0 y8_1
  obtain ⟨kq, x19_2, rfl, HA, HJ2, BK424, HB⟩ := hcut
  cases kq with
  | zero => exact absurd HA.out (by simp [impl_RepairChain.j0])
  | succ kj2 =>
   have H := HA.out
   clear HA
   simp only [impl_RepairChain.j0] at H
   replace H := Own.ifu H; obtain ⟨rfl, H⟩ | ⟨rfl, H⟩ := H
   ·
    simp only [Option.some.injEq, Prod.mk.injEq] at H
    obtain ⟨rfl, rfl, rfl⟩ := H
    go_wp2
    go_ret3
    exact ⟨_, Own.rr, by first | exact Kd.R_nil _ _ _ _ _ | exact Kd.N_nil _ _ _ _ _ | exact Kd.V_nil _ _ _ _ _ | exact Kd.Q_nil _ _ _ _ _ | exact Kd.S_nil _ _ _ _ _, Own.bl⟩
   obtain ⟨y427, hy427⟩ : ∃ y_ : List Int, y_ = (([a1] : List Int)) := ⟨_, rfl⟩
   replace H : (impl_RepairChain.l0 kj2 a1 y427 l0_0 l0_1) = some (r1, r2, r3) := by first | (rw [hy427]; with_reducible exact H) | (have H2_ := (Option.bind_some _ _).symm.trans H; rw [hy427]; with_reducible exact H2_) | (have H2_ := (Option.bind_some _ _).symm.trans H; with_reducible exact H2_) | with_reducible exact H | (rw [hy427]; exact H) | exact H
   have Ny427 := Aside0.mk hy427
   clear hy427
   have H' := Aside0.mk H
   clear H
   go_wp2_with (first | ((with_reducible refine gate_dst (N := 21) rfl ?_); refine Kd.R_lit (Kd.int .i64) _ 3 ?hg (N := 21) ?hd (xs := ([a1] : List Int)) (inner := [.int .i64 a1]) (ok := fun _ => True) (okp := fun _ => True) ?hr ?hp (fun _ hk => hk) trivial (Below.refl _ _) (Nat.le_refl _) (by simp) ?_; (case hd => rfl); (case hg => rfl); (case hr => first | (go_simp; done) | (go_simp; rfl)); (case hp => exact (Reps.one (show Kd.M (Kd.int .i64) _ _ _ a1 [.int .i64 a1] from rfl) (Reps.none _ _))); intro v428 w14 ho15 hb hg_ hnew_; clear hg_ hnew_; (first | rw [← Ny427.out] at ho15 | (simp only [Int.reduceToNat] at ho15; rw [← Ny427.out] at ho15)); have HO429 := Aside0.mk (Kd.R_lower ho15 (below_size Own.bl)); replace BK424 := Own.bb BK424.out hb; replace HB := Own.bs hb; clear hb ho15))
   go_loopg [1, 7] kj2 (fun kq v1 v7 w' => ∃ (x1_2 : Int) (x7_2 : List Int), v1 = .int .i64 x1_2 ∧ Aside0 (impl_RepairChain.l0 kq x1_2 x7_2 l0_0 l0_1 = some (r1, r2, r3)) ∧ Aside0 (kq ≤ kj2) ∧ Aside0 (Kd.R (Kd.int .i64) 3 w' w.heap.size (fun _ => True) v7 x7_2) ∧ Aside0 (w'.heap[gb424]? = some (.cells #[(.slice A0_0 l0_0.length c0_0), (.slice A0_1 l0_1.length c0_1)] 32 (0, 0))) ∧ Aside0 (Below w.heap.size w w'))
   case atStart => exact ⟨(a1), (y427), Own.rs, H', ⟨Nat.le_refl _⟩, ⟨Own.rd HO429.out⟩, ⟨Own.bk⟩, ⟨Own.bl⟩⟩
   case round =>
    clear H'
    try clear c1; try clear c2; try clear p2; try clear c3; try clear c6; try clear p6; try clear c13; try clear z10_0 z10_1; try clear z11_0 z11_1; try clear z8_0 z8_1; try clear y10_0 y10_1; try clear y11_0 y11_1; try clear y8_0 y8_1; try clear p2; try clear p6
    obtain ⟨x1_2, x7_2, rfl, HA, HK2, HO_7, BK424, HB⟩ := hrel
    cases gk with
    | zero => exact absurd HA.out (by simp [impl_RepairChain.l0])
    | succ k2 =>
     have H := HA.out
     clear HA
     simp only [impl_RepairChain.l0] at H
     replace H := Own.ifd H; obtain ⟨c16, H⟩ := H
     replace H := Own.ifd H; obtain ⟨c17, H⟩ := H
     by_cases c18 : ((rd_T51 l0_1 x1_2).f8).toList = ([] : List UInt8)
     ·
      rw [if_pos c18] at H
      have c18b0 : (((rd_T51 l0_1 x1_2).f8).toList == ([] : List UInt8)) = true := beq_iff_eq.mpr c18
      have c18b1 : (((rd_T51 l0_1 x1_2).f8).toList != ([] : List UInt8)) = false := bne_eq_false_iff_eq.mpr c18
      clear c18
      simp only [Option.some.injEq, Prod.mk.injEq] at H
      obtain ⟨rfl, rfl, rfl⟩ := H
      obtain ⟨z19_0, z19_1, y19_0, y19_1⟩ := Own.box2 BK424.out
      have p430 : 0 ≤ (x1_2 : Int) := Own.dp
      have q430 : x1_2 < (l0_1.length : Int) := Own.dp
      obtain ⟨ad430, A430_9, c430_9, e430, hx430_0, hx430_1, hx430_2, hx430_3, hx430_4, hx430_5, hx430_6, hx430_7, hx430_8, hx430_9, hx430_10, hx430_11, hl430_9, hi430_9⟩ := at_T51 HR0_1.out x1_2 p430 q430
      cases e430
      replace hx430_0 := Own.up HB.out hx430_0
      replace hx430_1 := Own.up HB.out hx430_1
      replace hx430_2 := Own.up HB.out hx430_2
      replace hx430_3 := Own.up HB.out hx430_3
      replace hx430_4 := Own.up HB.out hx430_4
      replace hx430_5 := Own.up HB.out hx430_5
      replace hx430_6 := Own.up HB.out hx430_6
      replace hx430_7 := Own.up HB.out hx430_7
      replace hx430_8 := Own.up HB.out hx430_8
      replace hx430_9 := Own.up HB.out hx430_9
      replace hx430_10 := Own.up HB.out hx430_10
      replace hx430_11 := Own.up HB.out hx430_11
      have HR430_9 := Aside0.mk hi430_9
      have HC430_9 := Aside0.mk hl430_9
      clear hi430_9 hl430_9
      replace p430 := eq_true p430
      replace q430 := eq_true q430
      go_wp2
      go_ret3
      exact ⟨_, Own.rr, Own.rd HO_7.out, Own.bl⟩
     rw [if_neg c18] at H
     have c18b0 : (((rd_T51 l0_1 x1_2).f8).toList == ([] : List UInt8)) = false := beq_eq_false_iff_ne.mpr c18
     have c18b1 : (((rd_T51 l0_1 x1_2).f8).toList != ([] : List UInt8)) = true := bne_iff_ne.mpr c18
     replace H := Own.bd H; obtain ⟨t432, A20, H⟩ := H
     replace H := Own.bd H; obtain ⟨t433, A21, H⟩ := H
     replace H := Own.ifu H; obtain ⟨rfl, H⟩ | ⟨rfl, H⟩ := H
     ·
      simp only [Option.some.injEq, Prod.mk.injEq] at H
      obtain ⟨rfl, rfl, rfl⟩ := H
      obtain ⟨z23_0, z23_1, y23_0, y23_1⟩ := Own.box2 BK424.out
      have p430 : 0 ≤ (x1_2 : Int) := Own.dp
      have q430 : x1_2 < (l0_1.length : Int) := Own.dp
      obtain ⟨ad430, A430_9, c430_9, e430, hx430_0, hx430_1, hx430_2, hx430_3, hx430_4, hx430_5, hx430_6, hx430_7, hx430_8, hx430_9, hx430_10, hx430_11, hl430_9, hi430_9⟩ := at_T51 HR0_1.out x1_2 p430 q430
      cases e430
      replace hx430_0 := Own.up HB.out hx430_0
      replace hx430_1 := Own.up HB.out hx430_1
      replace hx430_2 := Own.up HB.out hx430_2
      replace hx430_3 := Own.up HB.out hx430_3
      replace hx430_4 := Own.up HB.out hx430_4
      replace hx430_5 := Own.up HB.out hx430_5
      replace hx430_6 := Own.up HB.out hx430_6
      replace hx430_7 := Own.up HB.out hx430_7
      replace hx430_8 := Own.up HB.out hx430_8
      replace hx430_9 := Own.up HB.out hx430_9
      replace hx430_10 := Own.up HB.out hx430_10
      replace hx430_11 := Own.up HB.out hx430_11
      have HR430_9 := Aside0.mk hi430_9
      have HC430_9 := Aside0.mk hl430_9
      clear hi430_9 hl430_9
      replace p430 := eq_true p430
      replace q430 := eq_true q430
      try go_wp2
      have n0_ := Aside0.mk (Kd.R_drew HO_7.out)
      have n1_ := Aside0.mk (blk_drew BK424.out)
      have n2_ := Aside0.mk (below_drew1 HB.out)
      clear HO_7
      clear BK424
      clear HB
      have HO_7 := n0_
      have BK424 := n1_
      have HB := n2_
      clear n0_ n1_ n2_
      have p431 : 0 ≤ (x1_2 : Int) := Own.dp
      have q431 : x1_2 < (l0_1.length : Int) := Own.dp
      obtain ⟨ad431, A431_9, c431_9, e431, hx431_0, hx431_1, hx431_2, hx431_3, hx431_4, hx431_5, hx431_6, hx431_7, hx431_8, hx431_9, hx431_10, hx431_11, hl431_9, hi431_9⟩ := at_T51 HR0_1.out x1_2 p431 q431
      have hw431_11 := hx431_11
      have hw431_10 := hx431_10
      have hw431_9 := hx431_9
      have hw431_8 := hx431_8
      have hw431_7 := hx431_7
      have hw431_6 := hx431_6
      have hw431_5 := hx431_5
      have hw431_4 := hx431_4
      have hw431_3 := hx431_3
      have hw431_2 := hx431_2
      have hw431_1 := hx431_1
      have hw431_0 := hx431_0
      obtain rfl : ad430 = ad431 := (by injection e431)
      replace hx431_0 := Own.up HB.out hx431_0
      replace hx431_1 := Own.up HB.out hx431_1
      replace hx431_2 := Own.up HB.out hx431_2
      replace hx431_3 := Own.up HB.out hx431_3
      replace hx431_4 := Own.up HB.out hx431_4
      replace hx431_5 := Own.up HB.out hx431_5
      replace hx431_6 := Own.up HB.out hx431_6
      replace hx431_7 := Own.up HB.out hx431_7
      replace hx431_8 := Own.up HB.out hx431_8
      replace hx431_9 := Own.up HB.out hx431_9
      replace hx431_10 := Own.up HB.out hx431_10
      replace hx431_11 := Own.up HB.out hx431_11
      have HR431_9 := Aside0.mk hi431_9
      have HC431_9 := Aside0.mk hl431_9
      clear hi431_9 hl431_9
      replace p431 := eq_true p431
      replace q431 := eq_true q431
      refine start_ (n := 9) (S := fun w' => w'.cell? ⟨gb424, 0, none⟩ = some (.slice A0_0 l0_0.length c0_0) ∧ w'.cell? ⟨gb424, 1, none⟩ = some (.slice (some ad430) l0_1.length c0_1) ∧ w'.cell? (ad430.add ((x1_2).toNat * 12)) = some (.string ((rd_T51 l0_1 x1_2).f0)) ∧ w'.cell? ⟨(ad430.add ((x1_2).toNat * 12)).block, (ad430.add ((x1_2).toNat * 12)).off + 1, none⟩ = some (.int .i64 ((rd_T51 l0_1 x1_2).f1)) ∧ w'.cell? ⟨(ad430.add ((x1_2).toNat * 12)).block, (ad430.add ((x1_2).toNat * 12)).off + 2, none⟩ = some (.int .i64 ((rd_T51 l0_1 x1_2).f2)) ∧ w'.cell? ⟨(ad430.add ((x1_2).toNat * 12)).block, (ad430.add ((x1_2).toNat * 12)).off + 3, none⟩ = some (.string ((rd_T51 l0_1 x1_2).f3)) ∧ w'.cell? ⟨(ad430.add ((x1_2).toNat * 12)).block, (ad430.add ((x1_2).toNat * 12)).off + 4, none⟩ = some (.int .i64 ((rd_T51 l0_1 x1_2).f4)) ∧ w'.cell? ⟨(ad430.add ((x1_2).toNat * 12)).block, (ad430.add ((x1_2).toNat * 12)).off + 5, none⟩ = some (.int .i64 ((rd_T51 l0_1 x1_2).f5)) ∧ w'.cell? ⟨(ad430.add ((x1_2).toNat * 12)).block, (ad430.add ((x1_2).toNat * 12)).off + 6, none⟩ = some (.int .i64 ((rd_T51 l0_1 x1_2).f6.f0)) ∧ w'.cell? ⟨(ad430.add ((x1_2).toNat * 12)).block, (ad430.add ((x1_2).toNat * 12)).off + 7, none⟩ = some (.string ((rd_T51 l0_1 x1_2).f6.f1)) ∧ w'.cell? ⟨(ad430.add ((x1_2).toNat * 12)).block, (ad430.add ((x1_2).toNat * 12)).off + 8, none⟩ = some (.int .i64 ((rd_T51 l0_1 x1_2).f6.f2)) ∧ w'.cell? ⟨(ad430.add ((x1_2).toNat * 12)).block, (ad430.add ((x1_2).toNat * 12)).off + 9, none⟩ = some (.slice A431_9 ((rd_T51 l0_1 x1_2).f6.f3).length c431_9) ∧ w'.cell? ⟨(ad430.add ((x1_2).toNat * 12)).block, (ad430.add ((x1_2).toNat * 12)).off + 10, none⟩ = some (.int .i64 ((rd_T51 l0_1 x1_2).f7)) ∧ w'.cell? ⟨(ad430.add ((x1_2).toNat * 12)).block, (ad430.add ((x1_2).toNat * 12)).off + 11, none⟩ = some (.string ((rd_T51 l0_1 x1_2).f8))) (ds := []) #[false, false, false, false, false, false, false, false, false] (by kernel_rfl) rfl rfl ⟨(blk_cell BK424.out 0).trans rfl, (blk_cell BK424.out 1).trans rfl, ((HB.out.cell (World.block_lt_of_cell? w _ hw431_0)).trans hw431_0), ((HB.out.cell (World.block_lt_of_cell? w _ hw431_1)).trans hw431_1), ((HB.out.cell (World.block_lt_of_cell? w _ hw431_2)).trans hw431_2), ((HB.out.cell (World.block_lt_of_cell? w _ hw431_3)).trans hw431_3), ((HB.out.cell (World.block_lt_of_cell? w _ hw431_4)).trans hw431_4), ((HB.out.cell (World.block_lt_of_cell? w _ hw431_5)).trans hw431_5), ((HB.out.cell (World.block_lt_of_cell? w _ hw431_6)).trans hw431_6), ((HB.out.cell (World.block_lt_of_cell? w _ hw431_7)).trans hw431_7), ((HB.out.cell (World.block_lt_of_cell? w _ hw431_8)).trans hw431_8), ((HB.out.cell (World.block_lt_of_cell? w _ hw431_9)).trans hw431_9), ((HB.out.cell (World.block_lt_of_cell? w _ hw431_10)).trans hw431_10), ((HB.out.cell (World.block_lt_of_cell? w _ hw431_11)).trans hw431_11)⟩ (fun hHeld => ?_); refine with_tabW impl_RepairChain.tab5 impl_RepairChain.bits5 (fun HT_ HW_ => ?_)
      generalize wr.drew = w24 at HO_7 BK424 HB HR431_9 hx431_0 hx431_1 hx431_10 hx431_11 hx431_2 hx431_3 hx431_4 hx431_5 hx431_6 hx431_7 hx431_8 hx431_9 hHeld ⊢
      refine pure_ (i := 1) (N := some 30) (v := ?_) (a' := ?_) #[false, true, false, false, false, false, false, false, false] rfl rfl (any_of HT_.out (by kernel_rfl)) (fun _ _ _ h => h) (Or.inl ⟨by rfl, ?_⟩) ?_ ?_
      rotate_left
      ·
       intro w'
       go_simp
       with_reducible rfl
      rotate_left
      ·
       simp only [Own.ps]
       rfl
      refine pure_ (i := 3) (N := some 32) (v := ?_) (a' := ?_) #[false, true, false, true, false, false, false, false, false] rfl rfl (any_of HT_.out (by kernel_rfl)) (fun _ _ _ h => h) (Or.inl ⟨by rfl, ?_⟩) ?_ ?_
      rotate_left
      ·
       intro w'
       go_simp
       with_reducible rfl
      rotate_left
      ·
       simp only [Own.ps]
       rfl
      refine take_ (i := 0) (N := some 29) (v := ?_) (a' := ?_) #[true, true, false, true, false, false, false, false, false] rfl rfl (take_ofW HT_.out HW_.out (by kernel_rfl)) (fun _ _ _ h => h) (Or.inl ⟨by rfl, ?_⟩) hHeld ?_ ?_
      rotate_left
      ·
       rintro w' ⟨s0, s1, s2, s3, s4, s5, s6, s7, s8, s9, s10, s11, s12, s13⟩
       go_simp
       with_reducible rfl
      rotate_left
      ·
       simp only [Own.ps]
       rfl
      refine take_ (i := 2) (N := some 31) (v := ?_) (a' := ?_) #[true, true, true, true, false, false, false, false, false] rfl rfl (take_ofW HT_.out HW_.out (by kernel_rfl)) (fun _ _ _ h => h) (Or.inl ⟨by rfl, ?_⟩) hHeld ?_ ?_
      rotate_left
      ·
       rintro w' ⟨s0, s1, s2, s3, s4, s5, s6, s7, s8, s9, s10, s11, s12, s13⟩
       go_simp
       with_reducible rfl
      rotate_left
      ·
       simp only [Own.ps]
       rfl
      refine pure_ (i := 4) (N := some 33) (v := ?_) (a' := ?_) #[true, true, true, true, true, false, false, false, false] rfl rfl (any_of HT_.out (by kernel_rfl)) (fun _ _ _ h => h) (Or.inl ⟨by rfl, ?_⟩) ?_ ?_
      rotate_left
      ·
       intro w'
       go_simp
       with_reducible rfl
      rotate_left
      ·
       simp only [Own.ps]
       rfl
      refine pure_ (i := 5) (N := some 34) (v := ?_) (a' := ?_) #[true, true, true, true, true, true, false, false, false] rfl rfl (any_of HT_.out (by kernel_rfl)) (fun _ _ _ h => h) (Or.inl ⟨by rfl, ?_⟩) ?_ ?_
      rotate_left
      ·
       intro w'
       go_simp
       with_reducible rfl
      rotate_left
      ·
       simp only [Own.ps]
       rfl
      refine take_ (i := 6) (N := some 35) (v := ?_) (a' := ?_) #[true, true, true, true, true, true, true, false, false] rfl rfl (take_ofW HT_.out HW_.out (by kernel_rfl)) (fun _ _ _ h => h) (Or.inl ⟨by rfl, ?_⟩) hHeld ?_ ?_
      rotate_left
      ·
       rintro w' ⟨s0, s1, s2, s3, s4, s5, s6, s7, s8, s9, s10, s11, s12, s13⟩
       go_simp
       with_reducible rfl
      rotate_left
      ·
       simp only [Own.ps]
       rfl
      refine one_ (i := 7) (N := some 36) #[true, true, true, true, true, true, true, true, false] rfl rfl (one_of HT_.out (by kernel_rfl)) (by decide) (fun K hK => ?_)
      refine goes_ Tryz.func61 (by kernel_rfl) rfl #[.agg #[.slice A0_0 l0_0.length c0_0, .slice (some ad430) l0_1.length c0_1], .string ((rd_T51 l0_1 x1_2).f8)] (by rfl) rfl rfl Own.ha ?_
      with_reducible refine (impl_clauseIndex.calls k2 _ _ l0_0 _ _ l0_1 ((rd_T51 l0_1 x1_2).f8) t432 _ ?side1 ?side2 ?side3 ?side4 A20.out).mono ?_
      (case side1 => exact Kd.C_below HR0_0.out Own.bl)
      (case side2 => exact HC0_0.out)
      (case side3 => exact Kd.C_below HR0_1.out Own.bl)
      (case side4 => exact HC0_1.out)
      rintro e w25 ⟨rfl, hb⟩
      refine ⟨_, rfl, ?_⟩
      have n0_ := Aside0.mk (Kd.R_below (Own.rd HO_7.out) hb)
      have n1_ := Own.bb BK424.out hb
      have n2_ := Own.bs hb
      clear HO_7
      clear BK424
      clear HB
      have HO_7 := n0_
      have BK424 := n1_
      have HB := n2_
      clear n0_ n1_ n2_
      (try clear hb)
      (try clear hb2)
      (try clear hk)
      (try clear hi)
      refine hK.out _ _ ⟨(blk_cell BK424.out 0).trans rfl, (blk_cell BK424.out 1).trans rfl, ((HB.out.cell (World.block_lt_of_cell? w _ hw431_0)).trans hw431_0), ((HB.out.cell (World.block_lt_of_cell? w _ hw431_1)).trans hw431_1), ((HB.out.cell (World.block_lt_of_cell? w _ hw431_2)).trans hw431_2), ((HB.out.cell (World.block_lt_of_cell? w _ hw431_3)).trans hw431_3), ((HB.out.cell (World.block_lt_of_cell? w _ hw431_4)).trans hw431_4), ((HB.out.cell (World.block_lt_of_cell? w _ hw431_5)).trans hw431_5), ((HB.out.cell (World.block_lt_of_cell? w _ hw431_6)).trans hw431_6), ((HB.out.cell (World.block_lt_of_cell? w _ hw431_7)).trans hw431_7), ((HB.out.cell (World.block_lt_of_cell? w _ hw431_8)).trans hw431_8), ((HB.out.cell (World.block_lt_of_cell? w _ hw431_9)).trans hw431_9), ((HB.out.cell (World.block_lt_of_cell? w _ hw431_10)).trans hw431_10), ((HB.out.cell (World.block_lt_of_cell? w _ hw431_11)).trans hw431_11)⟩ (fun hHeld => ?_)
      clear hK K
      refine norm_ (a' := ?_) ?_ ?_
      rotate_left
      ·
       show Act.put _ (some 36) _ = _
       simp only [Own.ps]
       rfl
      refine pure_ (i := 8) (N := some 1) (v := ?_) (a' := ?_) #[true, true, true, true, true, true, true, true, true] rfl rfl (any_of HT_.out (by kernel_rfl)) (fun _ _ _ h => h) (Or.inl ⟨by rfl, ?_⟩) ?_ ?_
      rotate_left
      ·
       intro w'
       go_simp
       with_reducible rfl
      rotate_left
      ·
       simp only [Own.ps]
       rfl
      refine done_ (done_of HT_.out (by kernel_rfl)) ?_
      obtain ⟨Ao26, co26, eo26⟩ := Kd.R_slice HO_7.out
      subst eo26
      try go_wp2_with (first | ((with_reducible refine gate_callee (f := 62) rfl ?_); refine goesL_ (some 39) rfl rfl Tryz.func62 (by kernel_rfl) rfl #[.slice Ao26 x7_2.length co26, .int .i64 t432] rfl Own.ha ?_; (with_reducible refine (slices_Contains_int_int.calls k2 _ _ x7_2 t432 true _ ?side1 ?side2 A21.out).mono ?_); (case side1 => repeat (first | exact (Kd.R_reads' HO_7.out).2.2 | (with_reducible refine Kd.C_alloc ?_ _) | (with_reducible refine Kd.C_drewN ?_ _) | (with_reducible refine Kd.C_drew ?_))); (case side2 => exact (Kd.R_reads' HO_7.out).2.1); rintro e w' ⟨rfl, ⟨nd, rfl⟩⟩; refine ⟨_, rfl, ?_⟩))
      go_ret3
      exact ⟨_, Own.rr, Own.rd HO_7.out, Own.bl⟩
     replace H := Own.ifn H; obtain ⟨c27, H⟩ := H
     have LMc27 := Aside0.mk c27
     clear c27
     obtain ⟨y434, hy434⟩ : ∃ y_ : List Int, y_ = (x7_2 ++ [t432]) := ⟨_, rfl⟩
     replace H : (impl_RepairChain.l0 k2 t432 y434 l0_0 l0_1) = some (r1, r2, r3) := by first | (rw [hy434]; with_reducible exact H) | (have H2_ := (Option.bind_some _ _).symm.trans H; rw [hy434]; with_reducible exact H2_) | (have H2_ := (Option.bind_some _ _).symm.trans H; with_reducible exact H2_) | with_reducible exact H | (rw [hy434]; exact H) | exact H
     have Ny434 := Aside0.mk hy434
     clear hy434
     have H' := Aside0.mk H
     clear H
     obtain ⟨z28_0, z28_1, y28_0, y28_1⟩ := Own.box2 BK424.out
     have p430 : 0 ≤ (x1_2 : Int) := Own.dp
     have q430 : x1_2 < (l0_1.length : Int) := Own.dp
     obtain ⟨ad430, A430_9, c430_9, e430, hx430_0, hx430_1, hx430_2, hx430_3, hx430_4, hx430_5, hx430_6, hx430_7, hx430_8, hx430_9, hx430_10, hx430_11, hl430_9, hi430_9⟩ := at_T51 HR0_1.out x1_2 p430 q430
     cases e430
     replace hx430_0 := Own.up HB.out hx430_0
     replace hx430_1 := Own.up HB.out hx430_1
     replace hx430_2 := Own.up HB.out hx430_2
     replace hx430_3 := Own.up HB.out hx430_3
     replace hx430_4 := Own.up HB.out hx430_4
     replace hx430_5 := Own.up HB.out hx430_5
     replace hx430_6 := Own.up HB.out hx430_6
     replace hx430_7 := Own.up HB.out hx430_7
     replace hx430_8 := Own.up HB.out hx430_8
     replace hx430_9 := Own.up HB.out hx430_9
     replace hx430_10 := Own.up HB.out hx430_10
     replace hx430_11 := Own.up HB.out hx430_11
     have HR430_9 := Aside0.mk hi430_9
     have HC430_9 := Aside0.mk hl430_9
     clear hi430_9 hl430_9
     replace p430 := eq_true p430
     replace q430 := eq_true q430
     try go_wp2
     have n0_ := Aside0.mk (Kd.R_drew HO_7.out)
     have n1_ := Aside0.mk (blk_drew BK424.out)
     have n2_ := Aside0.mk (below_drew1 HB.out)
     clear HO_7
     clear BK424
     clear HB
     have HO_7 := n0_
     have BK424 := n1_
     have HB := n2_
     clear n0_ n1_ n2_
     have p431 : 0 ≤ (x1_2 : Int) := Own.dp
     have q431 : x1_2 < (l0_1.length : Int) := Own.dp
     obtain ⟨ad431, A431_9, c431_9, e431, hx431_0, hx431_1, hx431_2, hx431_3, hx431_4, hx431_5, hx431_6, hx431_7, hx431_8, hx431_9, hx431_10, hx431_11, hl431_9, hi431_9⟩ := at_T51 HR0_1.out x1_2 p431 q431
     have hw431_11 := hx431_11
     have hw431_10 := hx431_10
     have hw431_9 := hx431_9
     have hw431_8 := hx431_8
     have hw431_7 := hx431_7
     have hw431_6 := hx431_6
     have hw431_5 := hx431_5
     have hw431_4 := hx431_4
     have hw431_3 := hx431_3
     have hw431_2 := hx431_2
     have hw431_1 := hx431_1
     have hw431_0 := hx431_0
     obtain rfl : ad430 = ad431 := (by injection e431)
     replace hx431_0 := Own.up HB.out hx431_0
     replace hx431_1 := Own.up HB.out hx431_1
     replace hx431_2 := Own.up HB.out hx431_2
     replace hx431_3 := Own.up HB.out hx431_3
     replace hx431_4 := Own.up HB.out hx431_4
     replace hx431_5 := Own.up HB.out hx431_5
     replace hx431_6 := Own.up HB.out hx431_6
     replace hx431_7 := Own.up HB.out hx431_7
     replace hx431_8 := Own.up HB.out hx431_8
     replace hx431_9 := Own.up HB.out hx431_9
     replace hx431_10 := Own.up HB.out hx431_10
     replace hx431_11 := Own.up HB.out hx431_11
     have HR431_9 := Aside0.mk hi431_9
     have HC431_9 := Aside0.mk hl431_9
     clear hi431_9 hl431_9
     replace p431 := eq_true p431
     replace q431 := eq_true q431
     refine start_ (n := 9) (S := fun w' => w'.cell? ⟨gb424, 0, none⟩ = some (.slice A0_0 l0_0.length c0_0) ∧ w'.cell? ⟨gb424, 1, none⟩ = some (.slice (some ad430) l0_1.length c0_1) ∧ w'.cell? (ad430.add ((x1_2).toNat * 12)) = some (.string ((rd_T51 l0_1 x1_2).f0)) ∧ w'.cell? ⟨(ad430.add ((x1_2).toNat * 12)).block, (ad430.add ((x1_2).toNat * 12)).off + 1, none⟩ = some (.int .i64 ((rd_T51 l0_1 x1_2).f1)) ∧ w'.cell? ⟨(ad430.add ((x1_2).toNat * 12)).block, (ad430.add ((x1_2).toNat * 12)).off + 2, none⟩ = some (.int .i64 ((rd_T51 l0_1 x1_2).f2)) ∧ w'.cell? ⟨(ad430.add ((x1_2).toNat * 12)).block, (ad430.add ((x1_2).toNat * 12)).off + 3, none⟩ = some (.string ((rd_T51 l0_1 x1_2).f3)) ∧ w'.cell? ⟨(ad430.add ((x1_2).toNat * 12)).block, (ad430.add ((x1_2).toNat * 12)).off + 4, none⟩ = some (.int .i64 ((rd_T51 l0_1 x1_2).f4)) ∧ w'.cell? ⟨(ad430.add ((x1_2).toNat * 12)).block, (ad430.add ((x1_2).toNat * 12)).off + 5, none⟩ = some (.int .i64 ((rd_T51 l0_1 x1_2).f5)) ∧ w'.cell? ⟨(ad430.add ((x1_2).toNat * 12)).block, (ad430.add ((x1_2).toNat * 12)).off + 6, none⟩ = some (.int .i64 ((rd_T51 l0_1 x1_2).f6.f0)) ∧ w'.cell? ⟨(ad430.add ((x1_2).toNat * 12)).block, (ad430.add ((x1_2).toNat * 12)).off + 7, none⟩ = some (.string ((rd_T51 l0_1 x1_2).f6.f1)) ∧ w'.cell? ⟨(ad430.add ((x1_2).toNat * 12)).block, (ad430.add ((x1_2).toNat * 12)).off + 8, none⟩ = some (.int .i64 ((rd_T51 l0_1 x1_2).f6.f2)) ∧ w'.cell? ⟨(ad430.add ((x1_2).toNat * 12)).block, (ad430.add ((x1_2).toNat * 12)).off + 9, none⟩ = some (.slice A431_9 ((rd_T51 l0_1 x1_2).f6.f3).length c431_9) ∧ w'.cell? ⟨(ad430.add ((x1_2).toNat * 12)).block, (ad430.add ((x1_2).toNat * 12)).off + 10, none⟩ = some (.int .i64 ((rd_T51 l0_1 x1_2).f7)) ∧ w'.cell? ⟨(ad430.add ((x1_2).toNat * 12)).block, (ad430.add ((x1_2).toNat * 12)).off + 11, none⟩ = some (.string ((rd_T51 l0_1 x1_2).f8))) (ds := []) #[false, false, false, false, false, false, false, false, false] (by kernel_rfl) rfl rfl ⟨(blk_cell BK424.out 0).trans rfl, (blk_cell BK424.out 1).trans rfl, ((HB.out.cell (World.block_lt_of_cell? w _ hw431_0)).trans hw431_0), ((HB.out.cell (World.block_lt_of_cell? w _ hw431_1)).trans hw431_1), ((HB.out.cell (World.block_lt_of_cell? w _ hw431_2)).trans hw431_2), ((HB.out.cell (World.block_lt_of_cell? w _ hw431_3)).trans hw431_3), ((HB.out.cell (World.block_lt_of_cell? w _ hw431_4)).trans hw431_4), ((HB.out.cell (World.block_lt_of_cell? w _ hw431_5)).trans hw431_5), ((HB.out.cell (World.block_lt_of_cell? w _ hw431_6)).trans hw431_6), ((HB.out.cell (World.block_lt_of_cell? w _ hw431_7)).trans hw431_7), ((HB.out.cell (World.block_lt_of_cell? w _ hw431_8)).trans hw431_8), ((HB.out.cell (World.block_lt_of_cell? w _ hw431_9)).trans hw431_9), ((HB.out.cell (World.block_lt_of_cell? w _ hw431_10)).trans hw431_10), ((HB.out.cell (World.block_lt_of_cell? w _ hw431_11)).trans hw431_11)⟩ (fun hHeld => ?_); refine with_tabW impl_RepairChain.tab5 impl_RepairChain.bits5 (fun HT_ HW_ => ?_)
     generalize wr.drew = w29 at HO_7 BK424 HB HR431_9 hx431_0 hx431_1 hx431_10 hx431_11 hx431_2 hx431_3 hx431_4 hx431_5 hx431_6 hx431_7 hx431_8 hx431_9 hHeld ⊢
     refine pure_ (i := 1) (N := some 30) (v := ?_) (a' := ?_) #[false, true, false, false, false, false, false, false, false] rfl rfl (any_of HT_.out (by kernel_rfl)) (fun _ _ _ h => h) (Or.inl ⟨by rfl, ?_⟩) ?_ ?_
     rotate_left
     ·
      intro w'
      go_simp
      with_reducible rfl
     rotate_left
     ·
      simp only [Own.ps]
      rfl
     refine pure_ (i := 3) (N := some 32) (v := ?_) (a' := ?_) #[false, true, false, true, false, false, false, false, false] rfl rfl (any_of HT_.out (by kernel_rfl)) (fun _ _ _ h => h) (Or.inl ⟨by rfl, ?_⟩) ?_ ?_
     rotate_left
     ·
      intro w'
      go_simp
      with_reducible rfl
     rotate_left
     ·
      simp only [Own.ps]
      rfl
     refine take_ (i := 0) (N := some 29) (v := ?_) (a' := ?_) #[true, true, false, true, false, false, false, false, false] rfl rfl (take_ofW HT_.out HW_.out (by kernel_rfl)) (fun _ _ _ h => h) (Or.inl ⟨by rfl, ?_⟩) hHeld ?_ ?_
     rotate_left
     ·
      rintro w' ⟨s0, s1, s2, s3, s4, s5, s6, s7, s8, s9, s10, s11, s12, s13⟩
      go_simp
      with_reducible rfl
     rotate_left
     ·
      simp only [Own.ps]
      rfl
     refine take_ (i := 2) (N := some 31) (v := ?_) (a' := ?_) #[true, true, true, true, false, false, false, false, false] rfl rfl (take_ofW HT_.out HW_.out (by kernel_rfl)) (fun _ _ _ h => h) (Or.inl ⟨by rfl, ?_⟩) hHeld ?_ ?_
     rotate_left
     ·
      rintro w' ⟨s0, s1, s2, s3, s4, s5, s6, s7, s8, s9, s10, s11, s12, s13⟩
      go_simp
      with_reducible rfl
     rotate_left
     ·
      simp only [Own.ps]
      rfl
     refine pure_ (i := 4) (N := some 33) (v := ?_) (a' := ?_) #[true, true, true, true, true, false, false, false, false] rfl rfl (any_of HT_.out (by kernel_rfl)) (fun _ _ _ h => h) (Or.inl ⟨by rfl, ?_⟩) ?_ ?_
     rotate_left
     ·
      intro w'
      go_simp
      with_reducible rfl
     rotate_left
     ·
      simp only [Own.ps]
      rfl
     refine pure_ (i := 5) (N := some 34) (v := ?_) (a' := ?_) #[true, true, true, true, true, true, false, false, false] rfl rfl (any_of HT_.out (by kernel_rfl)) (fun _ _ _ h => h) (Or.inl ⟨by rfl, ?_⟩) ?_ ?_
     rotate_left
     ·
      intro w'
      go_simp
      with_reducible rfl
     rotate_left
     ·
      simp only [Own.ps]
      rfl
     refine take_ (i := 6) (N := some 35) (v := ?_) (a' := ?_) #[true, true, true, true, true, true, true, false, false] rfl rfl (take_ofW HT_.out HW_.out (by kernel_rfl)) (fun _ _ _ h => h) (Or.inl ⟨by rfl, ?_⟩) hHeld ?_ ?_
     rotate_left
     ·
      rintro w' ⟨s0, s1, s2, s3, s4, s5, s6, s7, s8, s9, s10, s11, s12, s13⟩
      go_simp
      with_reducible rfl
     rotate_left
     ·
      simp only [Own.ps]
      rfl
     refine one_ (i := 7) (N := some 36) #[true, true, true, true, true, true, true, true, false] rfl rfl (one_of HT_.out (by kernel_rfl)) (by decide) (fun K hK => ?_)
     refine goes_ Tryz.func61 (by kernel_rfl) rfl #[.agg #[.slice A0_0 l0_0.length c0_0, .slice (some ad430) l0_1.length c0_1], .string ((rd_T51 l0_1 x1_2).f8)] (by rfl) rfl rfl Own.ha ?_
     with_reducible refine (impl_clauseIndex.calls k2 _ _ l0_0 _ _ l0_1 ((rd_T51 l0_1 x1_2).f8) t432 _ ?side1 ?side2 ?side3 ?side4 A20.out).mono ?_
     (case side1 => exact Kd.C_below HR0_0.out Own.bl)
     (case side2 => exact HC0_0.out)
     (case side3 => exact Kd.C_below HR0_1.out Own.bl)
     (case side4 => exact HC0_1.out)
     rintro e w30 ⟨rfl, hb⟩
     refine ⟨_, rfl, ?_⟩
     have n0_ := Aside0.mk (Kd.R_below (Own.rd HO_7.out) hb)
     have n1_ := Own.bb BK424.out hb
     have n2_ := Own.bs hb
     clear HO_7
     clear BK424
     clear HB
     have HO_7 := n0_
     have BK424 := n1_
     have HB := n2_
     clear n0_ n1_ n2_
     (try clear hb)
     (try clear hb2)
     (try clear hk)
     (try clear hi)
     refine hK.out _ _ ⟨(blk_cell BK424.out 0).trans rfl, (blk_cell BK424.out 1).trans rfl, ((HB.out.cell (World.block_lt_of_cell? w _ hw431_0)).trans hw431_0), ((HB.out.cell (World.block_lt_of_cell? w _ hw431_1)).trans hw431_1), ((HB.out.cell (World.block_lt_of_cell? w _ hw431_2)).trans hw431_2), ((HB.out.cell (World.block_lt_of_cell? w _ hw431_3)).trans hw431_3), ((HB.out.cell (World.block_lt_of_cell? w _ hw431_4)).trans hw431_4), ((HB.out.cell (World.block_lt_of_cell? w _ hw431_5)).trans hw431_5), ((HB.out.cell (World.block_lt_of_cell? w _ hw431_6)).trans hw431_6), ((HB.out.cell (World.block_lt_of_cell? w _ hw431_7)).trans hw431_7), ((HB.out.cell (World.block_lt_of_cell? w _ hw431_8)).trans hw431_8), ((HB.out.cell (World.block_lt_of_cell? w _ hw431_9)).trans hw431_9), ((HB.out.cell (World.block_lt_of_cell? w _ hw431_10)).trans hw431_10), ((HB.out.cell (World.block_lt_of_cell? w _ hw431_11)).trans hw431_11)⟩ (fun hHeld => ?_)
     clear hK K
     refine norm_ (a' := ?_) ?_ ?_
     rotate_left
     ·
      show Act.put _ (some 36) _ = _
      simp only [Own.ps]
      rfl
     refine pure_ (i := 8) (N := some 1) (v := ?_) (a' := ?_) #[true, true, true, true, true, true, true, true, true] rfl rfl (any_of HT_.out (by kernel_rfl)) (fun _ _ _ h => h) (Or.inl ⟨by rfl, ?_⟩) ?_ ?_
     rotate_left
     ·
      intro w'
      go_simp
      with_reducible rfl
     rotate_left
     ·
      simp only [Own.ps]
      rfl
     refine done_ (done_of HT_.out (by kernel_rfl)) ?_
     obtain ⟨Ao31, co31, eo31⟩ := Kd.R_slice HO_7.out
     subst eo31
     try go_wp2_with (first | ((with_reducible refine gate_callee (f := 62) rfl ?_); refine goesL_ (some 39) rfl rfl Tryz.func62 (by kernel_rfl) rfl #[.slice Ao31 x7_2.length co31, .int .i64 t432] rfl Own.ha ?_; (with_reducible refine (slices_Contains_int_int.calls k2 _ _ x7_2 t432 false _ ?side1 ?side2 A21.out).mono ?_); (case side1 => repeat (first | exact (Kd.R_reads' HO_7.out).2.2 | (with_reducible refine Kd.C_alloc ?_ _) | (with_reducible refine Kd.C_drewN ?_ _) | (with_reducible refine Kd.C_drew ?_))); (case side2 => exact (Kd.R_reads' HO_7.out).2.1); rintro e w' ⟨rfl, ⟨nd, rfl⟩⟩; refine ⟨_, rfl, ?_⟩) | ((with_reducible refine gate_builtin (b := .append) (xs := #[.tmp 41, .tmp 43]) rfl ?_); at_builtin; refine Kd.R_append (Kd.int .i64) (w0 := w) w.heap.size rfl (.tmp 41) (.tmp 43) 27 3 (.int .i64 0) 8 rfl Tryz.underlying27 info3 rfl (by decide) (by omega) (.slice Ao31 x7_2.length co31) x7_2 t432 [.int .i64 t432] (fun _ => True) (fun _ => False) rfl rfl ?aP (fun _ hk => hk.elim) ?aF ?aO ?aB ?aS ?aL ?_; (case aP => exact rfl); (case aB => exact Own.bl); (case aF => exact (fun _ _ => trivial)); (case aO => exact (Own.rd HO_7.out)); (case aS => exact (below_size Own.bl)); (case aL => have := LMc27.out; omega); intro v435 w32 ho hb hg hat; rw [← Ny434.out] at ho; have HO436 := Aside0.mk ho; replace BK424 := Aside0.mk (blk_grown (Own.bkf BK424.out) hg (Kd.R_ne HO_7.out BK424.out (by decide))); replace HB := Aside0.mk hb; clear HO_7; clear ho hb hg hat))
     go_roundg k2
     case measure => have := HJ2.out; have := HK2.out; omega
     case rel => exact ⟨(t432), (y434), Own.rs, H', ⟨by have := HJ2.out; have := HK2.out; omega⟩, ⟨Own.rd HO436.out⟩, ⟨Own.bk⟩, ⟨Own.bl⟩⟩

-- NOT PRINTED: function 7 (laws_FnExactRepairChain)

end Go.Proofs.YtdfbfcgjcfbmpaaGreatDoor.QFnExactRepairChain
