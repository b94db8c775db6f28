-- Written by a program of this session out of the translation; Lean checks it.
import Derived.Test.YtaallhcmhennkaaQFnExactJoinCalendarsx0
import Derived.Test.YtaallhcmhennkaaQFnExactJoinCalendarsx1
import Derived.Test.YtaallhcmhennkaaQFnExactJoinCalendarsx2
namespace Go.Proofs.Ytaallhcmhennkaa.QFnExactJoinCalendars
open Go.RowKit Go.Proofs.YtaallhcmhennkaaW.PrintWords Go.Proofs.YtaallhcmhennkaaW.PrintLast Go.Proofs.YtaallhcmhennkaaW.PrintMore
attribute [local go_sem] Instr.field asAgg Own.str_leq Own.str_gtr Own.str_geq
attribute [local go_sem] max2_int min2_int max_two min_two max_three min_three max_four min_four   -- for this text's walks alone
set_option linter.unusedVariables false
set_option linter.unusedSimpArgs false

/-! ### spec_l4Union: function 30 -/
def spec_l4Union.l0 : Nat → List Int → List Int → Int → Option (List Int)
 | 0, _, _, _ => none
 | k + 1, x1, x5, x6 => if x6 < (x1.length : Int) then (if 0 ≤ x6 then ((spec_l1Put.f k x5 (rd x1 x6)).bind fun t173 => (spec_l4Union.l0 k x1 t173 (wrap64 (x6 + 1)))) else (none)) else (some x5)
def spec_l4Union.f (k : Nat) (l0 : List Int) (l1 : List Int) : Option (List Int) := (spec_l1Own.f l0).bind fun t169 => (spec_l4Union.l0 k l1 t169 0)
theorem spec_l4Union.mono_l : ∀ k, (∀ y0 y1 y2, LeO (spec_l4Union.l0 k y0 y1 y2) (spec_l4Union.l0 (k + 1) y0 y1 y2))
 | 0 => fun _ _ _ r h => by simp [spec_l4Union.l0] at h
 | k + 1 => by
  have ih0 := spec_l4Union.mono_l k
  ·
   intro y0 y1 y2
   unfold spec_l4Union.l0
   repeat' first
   | (with_reducible first | exact ih0 _ _ _ | exact spec_l1Put.mono _ _ _ | exact LeO.refl _ | exact LeO.none _ | refine LeO.ite ?_ ?_ | refine LeO.bind ?_ (fun _ => ?_))
theorem spec_l4Union.mono : ∀ a0 a1 k, LeO (spec_l4Union.f k a0 a1) (spec_l4Union.f (k + 1) a0 a1) := by
 intro a0 a1 k
 have ih0 := spec_l4Union.mono_l k
 unfold spec_l4Union.f
 repeat' first
   | (with_reducible first | exact ih0 _ _ _ | exact spec_l1Put.mono _ _ _ | exact LeO.refl _ | exact LeO.none _ | refine LeO.ite ?_ ?_ | refine LeO.bind ?_ (fun _ => ?_))
set_option maxHeartbeats 8000000 in
set_option maxRecDepth 100000 in
theorem spec_l4Union.calls (k : Nat) (A0 : Option Addr) (c0 : Nat) (l0 : List Int) (A1 : Option Addr) (c1 : Nat) (l1 : List Int) (r : List Int) (w : World) (hr0 : Kd.C (Kd.int .i64) w A0 l0.length l0) (hc0 : l0.length ≤ c0) (hr1 : Kd.C (Kd.int .i64) w A1 l1.length l1) (hc1 : l1.length ≤ c1) (h : spec_l4Union.f k l0 l1 = some r) :
  Calls Try.prog 30 #[.slice A0 l0.length c0, .slice A1 l1.length c1] w fun e w' => ∃ v0_ : Value, e = .returned (v0_) ∧ Kd.V (Kd.int .i64) 3 w' w.heap.size (fun k_ => (w.heap.size ≤ k_)) v0_ r ∧ Below w.heap.size w w' := by
 have HR0 := Aside0.mk hr0
 have HC0 := Aside0.mk hc0
 clear hr0 hc0
 have HR1 := Aside0.mk hr1
 have HC1 := Aside0.mk hc1
 clear hr1 hc1
 have HB := Aside0.mk (Below.refl w.heap.size w)
 have H : ((spec_l1Own.f l0).bind fun t169 => (spec_l4Union.l0 k l1 t169 0)) = some r := h
 clear h
 replace H := Own.bd H; obtain ⟨t169, A3, H⟩ := H
 have H' := Aside0.mk H
 clear H
 go_enter Try.func30, Try.ntmps30
 go_wp2_with (first | ((with_reducible refine gate_callee (f := 49) rfl ?_); refine goesL_ (some 8) rfl rfl Try.func49 (by kernel_rfl) rfl #[.slice A0 l0.length c0] rfl Own.ha ?_; (with_reducible refine (spec_l1Own.calls _ _ l0 t169 _ ?side1 ?side2 A3.out).mono ?_); (case side1 => repeat (first | exact HR0.out | (with_reducible refine Kd.C_alloc ?_ _) | (with_reducible refine Kd.C_drewN ?_ _) | (with_reducible refine Kd.C_drew ?_))); (case side2 => exact HC0.out); rintro e w4 ⟨v170, rfl, ho0, hb⟩; refine ⟨_, rfl, ?_⟩; have HO171 := Aside0.mk (Kd.R_lower (Kd.R_newM (M := fun k_ => (w.heap.size ≤ k_)) ho0 (below_size Own.bl) (fun k_ h_ => h_)) (below_size Own.bl)); replace HB := Own.bs hb; (try clear hb); (try clear ho0)))
 go_loopg [5, 6] k (fun kq v5 v6 w' => ∃ (x5_1 : List Int) (x6_1 : Int), v6 = .int .i64 x6_1 ∧ Aside0 (spec_l4Union.l0 kq l1 x5_1 x6_1 = some r) ∧ Aside0 (kq ≤ k) ∧ Aside0 (Kd.V (Kd.int .i64) 3 w' w.heap.size (fun k_ => (w.heap.size ≤ k_)) v5 x5_1) ∧ Aside0 (Below w.heap.size w w'))
 case atStart => exact ⟨(t169), (0), Own.rs, H', ⟨Nat.le_refl _⟩, ⟨Kd.R_V (by (with_reducible repeat (first | apply Kd.R_alloc | apply Kd.R_drewN | apply Kd.R_drew)); exact Kd.R_mono HO171.out (fun _ hk => hk.1))⟩, ⟨Own.bl⟩⟩
 case round =>
  clear H'
  try clear c1; try clear p2; try clear c3; try clear c4
  obtain ⟨x5_1, x6_1, rfl, HA, HK1, HO_5, HB⟩ := hrel
  cases gk with
  | zero => exact absurd HA.out (by simp [spec_l4Union.l0])
  | succ k1 =>
   have H := HA.out
   clear HA
   simp only [spec_l4Union.l0] at H
   by_cases c5 : x6_1 < (l1.length : Int)
   rotate_left
   ·
    rw [if_neg c5] at H
    replace c5 := decide_eq_false c5
    obtain rfl := Option.some.inj H
    go_wp2
    go_ret
    exact ⟨_, Own.rr, Own.vd HO_5.out, Own.bl⟩
   rw [if_pos c5] at H
   replace c5 := decide_eq_true c5
   replace H := Own.ifd H; obtain ⟨c6, H⟩ := H
   replace H := Own.bd H; obtain ⟨t173, A7, H⟩ := H
   have H' := Aside0.mk H
   clear H
   have p172 : 0 ≤ (x6_1 : Int) := Own.dp
   have q172 : x6_1 < (l1.length : Int) := Own.dp
   obtain ⟨ad172, e172, hx172_0⟩ := Kd.at_int HR1.out x6_1 p172 q172
   cases e172
   replace hx172_0 := Own.up HB.out hx172_0
   replace p172 := eq_true p172
   replace q172 := eq_true q172
   obtain ⟨Ao8, co8, eo8⟩ := Kd.V_slice HO_5.out
   subst eo8
   go_wp2_with (first | ((with_reducible refine gate_callee (f := 50) rfl ?_); refine goesL_ (some 20) rfl rfl Try.func50 (by kernel_rfl) rfl #[.slice Ao8 x5_1.length co8, .int .i64 (rd l1 x6_1)] rfl Own.ha ?_; (with_reducible refine (spec_l1Put.calls k1 (fun k_ => (w.heap.size ≤ k_)) _ _ x5_1 (rd l1 x6_1) t173 _ ?side1 A7.out).mono ?_); (case side1 => exact HO_5.out); rintro e w9 ⟨v174, rfl, ho0, hb⟩; refine ⟨_, rfl, ?_⟩; have HO175 := Aside0.mk (Kd.V_lower (Kd.V_mono (ok' := fun k_ => (w.heap.size ≤ k_)) ho0 (fun k_ hk_ => Or.elim hk_ (fun hs_ => hs_) (fun hn_ => (Nat.le_trans (below_size Own.bl) hn_)))) (below_size Own.bl)); replace HO_5 := Aside0.mk (Kd.V_below (Own.vd HO_5.out) hb); replace HB := Own.bs hb; (try clear hb); (try clear ho0)))
   go_roundg k1
   case measure => have := HK1.out; omega
   case rel => exact ⟨(t173), (wrap64 (x6_1 + 1)), Own.rs, H', ⟨by have := HK1.out; omega⟩, ⟨Own.vd HO175.out⟩, ⟨Own.bl⟩⟩

end Go.Proofs.Ytaallhcmhennkaa.QFnExactJoinCalendars
