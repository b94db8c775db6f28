-- Written by a program of this session out of the translation; Lean checks it.
import Derived.Test.YthdhcecmjkiepaaQFnExactShareAmountx0
import Derived.Test.YthdhcecmjkiepaaQFnExactShareAmountx1
import Derived.Test.YthdhcecmjkiepaaQFnExactShareAmountx2
namespace Go.Proofs.Ythdhcecmjkiepaa.QFnExactShareAmount
open Go.RowKit Go.Proofs.YthdhcecmjkiepaaW.PrintWords Go.Proofs.YthdhcecmjkiepaaW.PrintLast Go.Proofs.YthdhcecmjkiepaaW.PrintMore
attribute [local go_sem] Instr.field asAgg Own.str_leq Own.str_gtr Own.str_geq
attribute [local go_sem] max2_int min2_int max_two min_two max_three min_three max_four min_four   -- for this text's walks alone
set_option linter.unusedVariables false
set_option linter.unusedSimpArgs false

/-! ### laws_heldIntS: function 10 -/
def laws_heldIntS.l0 : Nat → List Int → Int → Int → Option (Int)
 | 0, _, _, _ => none
 | k + 1, x0, x1, x5 => if x5 < (x0.length : Int) then (if 0 ≤ x5 then (if (rd x0 x5) = x1 then (laws_heldIntS.l0 k x0 (wrap64 (x1 + 1)) (wrap64 (x5 + 1))) else (some (-1))) else (none)) else (some x1)
def laws_heldIntS.f (k : Nat) (l0 : List Int) (a1 : Int) : Option (Int) := laws_heldIntS.l0 k l0 a1 0
theorem laws_heldIntS.mono_l : ∀ k, (∀ y0 y1 y2, LeO (laws_heldIntS.l0 k y0 y1 y2) (laws_heldIntS.l0 (k + 1) y0 y1 y2))
 | 0 => fun _ _ _ r h => by simp [laws_heldIntS.l0] at h
 | k + 1 => by
  have ih0 := laws_heldIntS.mono_l k
  ·
   intro y0 y1 y2
   unfold laws_heldIntS.l0
   repeat' first
   | (with_reducible first | exact ih0 _ _ _ | exact LeO.refl _ | exact LeO.none _ | refine LeO.ite ?_ ?_ | refine LeO.bind ?_ (fun _ => ?_))
theorem laws_heldIntS.mono : ∀ a0 a1 k, LeO (laws_heldIntS.f k a0 a1) (laws_heldIntS.f (k + 1) a0 a1) := by
 intro a0 a1 k
 have ih0 := laws_heldIntS.mono_l k
 unfold laws_heldIntS.f
 repeat' first
   | (with_reducible first | exact ih0 _ _ _ | exact LeO.refl _ | exact LeO.none _ | refine LeO.ite ?_ ?_ | refine LeO.bind ?_ (fun _ => ?_))
set_option maxHeartbeats 8000000 in
set_option maxRecDepth 100000 in
theorem laws_heldIntS.calls (k : Nat) (A0 : Option Addr) (c0 : Nat) (l0 : List Int) (a1 : Int) (r : Int) (w : World) (hr0 : Kd.C (Kd.int .i64) w A0 l0.length l0) (hc0 : l0.length ≤ c0) (h : laws_heldIntS.f k l0 a1 = some r) :
  Calls Try.prog 10 #[.slice A0 l0.length c0, .int .i64 a1] w fun e w' => e = .returned (.int .i64 r) ∧ Drawn0 w w' := by
 have HR0 := Aside0.mk hr0
 have HC0 := Aside0.mk hc0
 clear hr0 hc0
 have H : (laws_heldIntS.l0 k l0 a1 0) = some r := h
 clear h
 have H' := Aside0.mk H
 clear H
 go_enter Try.func10, Try.ntmps10
 go_wp2
 go_loopg [1, 5] k (fun kq v1 v5 w' => ∃ (x1_1 : Int) (x5_1 : Int), v1 = .int .i64 x1_1 ∧ v5 = .int .i64 x5_1 ∧ Aside0 (laws_heldIntS.l0 kq l0 x1_1 x5_1 = some r) ∧ Aside0 (kq ≤ k) ∧ Drawn0 w w')
 case atStart => exact ⟨(a1), (0), Own.rs, Own.rs, H', ⟨Nat.le_refl _⟩, by repeat (first | exact Drawn0.refl _ | apply Drawn0.step)⟩
 case round =>
  clear H'
  try clear c1; try clear p2
  obtain ⟨x1_1, x5_1, rfl, rfl, HA, HK1, ⟨m1, rfl⟩⟩ := hrel
  cases gk with
  | zero => exact absurd HA.out (by simp [laws_heldIntS.l0])
  | succ k1 =>
   have H := HA.out
   clear HA
   simp only [laws_heldIntS.l0] at H
   by_cases c3 : x5_1 < (l0.length : Int)
   rotate_left
   ·
    rw [if_neg c3] at H
    replace c3 := decide_eq_false c3
    obtain rfl := Option.some.inj H
    go_wp2
    go_ret
    exact ⟨by first | rfl | (simp; done) | (simp [*]; done), by repeat (first | exact Drawn0.refl _ | apply Drawn0.step)⟩
   rw [if_pos c3] at H
   replace c3 := decide_eq_true c3
   replace H := Own.ifd H; obtain ⟨c4, H⟩ := H
   by_cases c5 : (rd l0 x5_1) = x1_1
   rotate_left
   ·
    rw [if_neg c5] at H
    have c5b0 : ((rd l0 x5_1) == x1_1) = false := beq_eq_false_iff_ne.mpr c5
    have c5b1 : ((rd l0 x5_1) != x1_1) = true := bne_iff_ne.mpr c5
    obtain rfl := Option.some.inj H
    have p161 : 0 ≤ (x5_1 : Int) := Own.dp
    have q161 : x5_1 < (l0.length : Int) := Own.dp
    obtain ⟨ad161, e161, hx161_0⟩ := Kd.at_int HR0.out x5_1 p161 q161
    cases e161
    replace p161 := eq_true p161
    replace q161 := eq_true q161
    go_wp2
    go_ret
    exact ⟨by first | rfl | (simp; done) | (simp [*]; done), by repeat (first | exact Drawn0.refl _ | apply Drawn0.step)⟩
   rw [if_pos c5] at H
   have c5b0 : ((rd l0 x5_1) == x1_1) = true := beq_iff_eq.mpr c5
   have c5b1 : ((rd l0 x5_1) != x1_1) = false := bne_eq_false_iff_eq.mpr c5
   clear c5
   have H' := Aside0.mk H
   clear H
   have p161 : 0 ≤ (x5_1 : Int) := Own.dp
   have q161 : x5_1 < (l0.length : Int) := Own.dp
   obtain ⟨ad161, e161, hx161_0⟩ := Kd.at_int HR0.out x5_1 p161 q161
   cases e161
   replace p161 := eq_true p161
   replace q161 := eq_true q161
   go_wp2
   go_roundg k1
   case measure => have := HK1.out; omega
   case rel => exact ⟨(wrap64 (x1_1 + 1)), (wrap64 (x5_1 + 1)), Own.rs, Own.rs, H', ⟨by have := HK1.out; omega⟩, by repeat (first | exact Drawn0.refl _ | apply Drawn0.step)⟩

/-! ### laws_FnExactShareAmount: function 3 -/
mutual
def laws_FnExactShareAmount.j0 : Nat → Int → List Int → List Int → Bool → List Int → List Int → Bool → Bool → Option (Bool)
 | 0, _, _, _, _, _, _, _, _ => none
 | k + 1, x0, x1, x5, x6, x7, x8, x9, x41 => if x41 = true then (some false) else ((laws_toIntS.f k x1).bind fun t177 => ((laws_eqIntS.f k x7 t177).bind fun t180 => (if t180 = true then ((laws_markIntS.f k x7 1).bind fun bt181 => (if bt181.1 < 0 then (laws_FnExactShareAmount.j1 k x0 x1 x5 x6 x8 true) else ((laws_eqIntS.f k x8 x5).bind fun t183 => (if t183 = true then (laws_FnExactShareAmount.j1 k x0 x1 x5 x6 x8 (x9 != x6)) else (laws_FnExactShareAmount.j1 k x0 x1 x5 x6 x8 true))))) else (some false))))
def laws_FnExactShareAmount.j1 : Nat → Int → List Int → List Int → Bool → List Int → Bool → Option (Bool)
 | 0, _, _, _, _, _, _ => none
 | k + 1, x0, x1, x5, x6, x8, x62 => if x62 = true then (some false) else ((laws_markIntS.f k x8 1).bind fun bt184 => ((laws_heldIntS.f k bt184.2 1).bind fun t186 => (if t186 < 0 then (some false) else (if t186 = bt184.1 then ((laws_toIntS.f k x1).bind fun t187 => ((impl_ShareAmount.f k x0 t187).bind fun bt190 => ((laws_eqIntS.f k bt190.1 x5).bind fun t194 => (if t194 = true then (laws_FnExactShareAmount.j2 k bt184.2 bt184.1 (bt190.2 != x6)) else (laws_FnExactShareAmount.j2 k bt184.2 bt184.1 true))))) else (some false)))))
def laws_FnExactShareAmount.j2 : Nat → List Int → Int → Bool → Option (Bool)
 | 0, _, _, _ => none
 | k + 1, x8, x11, x89 => if x89 = true then (some false) else ((laws_heldIntS.f k x8 1).bind fun t195 => (if t195 < 0 then (some false) else (if t195 = x11 then (some true) else (some false))))
end
def laws_FnExactShareAmount.f (k : Nat) (a0 : Int) (l1 : List Int) : Option (Bool) := if (l1.length : Int) > 1048576 then (some true) else ((laws_toIntS.f k l1).bind fun t162 => ((spec_ShareAmount.f k a0 t162).bind fun bt165 => ((laws_toIntS.f k l1).bind fun t169 => ((impl_ShareAmount.f k a0 t169).bind fun bt172 => ((laws_eqIntS.f k bt172.1 bt165.1).bind fun t176 => (if t176 = true then (laws_FnExactShareAmount.j0 k a0 l1 bt165.1 bt165.2 t169 bt172.1 bt172.2 (bt172.2 != bt165.2)) else (laws_FnExactShareAmount.j0 k a0 l1 bt165.1 bt165.2 t169 bt172.1 bt172.2 true)))))))
theorem laws_FnExactShareAmount.mono_l : ∀ k, (∀ y0 y1 y2 y3 y4 y5 y6 y7, LeO (laws_FnExactShareAmount.j0 k y0 y1 y2 y3 y4 y5 y6 y7) (laws_FnExactShareAmount.j0 (k + 1) y0 y1 y2 y3 y4 y5 y6 y7)) ∧ (∀ y0 y1 y2 y3 y4 y5, LeO (laws_FnExactShareAmount.j1 k y0 y1 y2 y3 y4 y5) (laws_FnExactShareAmount.j1 (k + 1) y0 y1 y2 y3 y4 y5)) ∧ (∀ y0 y1 y2, LeO (laws_FnExactShareAmount.j2 k y0 y1 y2) (laws_FnExactShareAmount.j2 (k + 1) y0 y1 y2))
 | 0 => ⟨fun _ _ _ _ _ _ _ _ r h => by simp [laws_FnExactShareAmount.j0] at h, fun _ _ _ _ _ _ r h => by simp [laws_FnExactShareAmount.j1] at h, fun _ _ _ r h => by simp [laws_FnExactShareAmount.j2] at h⟩
 | k + 1 => by
  obtain ⟨ih0, ih1, ih2⟩ := laws_FnExactShareAmount.mono_l k
  refine ⟨?_, ?_, ?_⟩
  ·
   intro y0 y1 y2 y3 y4 y5 y6 y7
   unfold laws_FnExactShareAmount.j0
   repeat' first
   | (with_reducible first | exact ih0 _ _ _ _ _ _ _ _ | exact ih1 _ _ _ _ _ _ | exact ih2 _ _ _ | exact impl_ShareAmount.mono _ _ _ | exact laws_eqIntS.mono _ _ _ | exact laws_heldIntS.mono _ _ _ | exact laws_markIntS.mono _ _ _ | exact laws_toIntS.mono _ _ | exact spec_ShareAmount.mono _ _ _ | exact LeO.refl _ | exact LeO.none _ | refine LeO.ite ?_ ?_ | refine LeO.bind ?_ (fun _ => ?_))
  ·
   intro y0 y1 y2 y3 y4 y5
   unfold laws_FnExactShareAmount.j1
   repeat' first
   | (with_reducible first | exact ih0 _ _ _ _ _ _ _ _ | exact ih1 _ _ _ _ _ _ | exact ih2 _ _ _ | exact impl_ShareAmount.mono _ _ _ | exact laws_eqIntS.mono _ _ _ | exact laws_heldIntS.mono _ _ _ | exact laws_markIntS.mono _ _ _ | exact laws_toIntS.mono _ _ | exact spec_ShareAmount.mono _ _ _ | exact LeO.refl _ | exact LeO.none _ | refine LeO.ite ?_ ?_ | refine LeO.bind ?_ (fun _ => ?_))
  ·
   intro y0 y1 y2
   unfold laws_FnExactShareAmount.j2
   repeat' first
   | (with_reducible first | exact ih0 _ _ _ _ _ _ _ _ | exact ih1 _ _ _ _ _ _ | exact ih2 _ _ _ | exact impl_ShareAmount.mono _ _ _ | exact laws_eqIntS.mono _ _ _ | exact laws_heldIntS.mono _ _ _ | exact laws_markIntS.mono _ _ _ | exact laws_toIntS.mono _ _ | exact spec_ShareAmount.mono _ _ _ | exact LeO.refl _ | exact LeO.none _ | refine LeO.ite ?_ ?_ | refine LeO.bind ?_ (fun _ => ?_))
theorem laws_FnExactShareAmount.mono : ∀ a0 a1 k, LeO (laws_FnExactShareAmount.f k a0 a1) (laws_FnExactShareAmount.f (k + 1) a0 a1) := by
 intro a0 a1 k
 obtain ⟨ih0, ih1, ih2⟩ := laws_FnExactShareAmount.mono_l k
 unfold laws_FnExactShareAmount.f
 repeat' first
   | (with_reducible first | exact ih0 _ _ _ _ _ _ _ _ | exact ih1 _ _ _ _ _ _ | exact ih2 _ _ _ | exact impl_ShareAmount.mono _ _ _ | exact laws_eqIntS.mono _ _ _ | exact laws_heldIntS.mono _ _ _ | exact laws_markIntS.mono _ _ _ | exact laws_toIntS.mono _ _ | exact spec_ShareAmount.mono _ _ _ | exact LeO.refl _ | exact LeO.none _ | refine LeO.ite ?_ ?_ | refine LeO.bind ?_ (fun _ => ?_))
set_option maxHeartbeats 8000000 in
set_option maxRecDepth 100000 in
theorem laws_FnExactShareAmount.calls (k : Nat) (a0 : Int) (A1 : Option Addr) (c1 : Nat) (l1 : List Int) (r : Bool) (w : World) (hr1 : Kd.C (Kd.int .i64) w A1 l1.length l1) (hc1 : l1.length ≤ c1) (h : laws_FnExactShareAmount.f k a0 l1 = some r) (hr_ : Aside0 (r = true)) :
  Calls Try.prog 3 #[.int .i64 a0, .slice A1 l1.length c1] w fun e w' => e = .returned (.bool r) ∧ Below w.heap.size w w' := by
 have HR1 := Aside0.mk hr1
 have HC1 := Aside0.mk hc1
 clear hr1 hc1
 have HB := Aside0.mk (Below.refl w.heap.size w)
 have H : (if (l1.length : Int) > 1048576 then (some true) else ((laws_toIntS.f k l1).bind fun t162 => ((spec_ShareAmount.f k a0 t162).bind fun bt165 => ((laws_toIntS.f k l1).bind fun t169 => ((impl_ShareAmount.f k a0 t169).bind fun bt172 => ((laws_eqIntS.f k bt172.1 bt165.1).bind fun t176 => (if t176 = true then (laws_FnExactShareAmount.j0 k a0 l1 bt165.1 bt165.2 t169 bt172.1 bt172.2 (bt172.2 != bt165.2)) else (laws_FnExactShareAmount.j0 k a0 l1 bt165.1 bt165.2 t169 bt172.1 bt172.2 true)))))))) = some r := h
 clear h
 by_cases c3 : (l1.length : Int) > 1048576
 ·
  rw [if_pos c3] at H
  have c3b0 : decide (1048576 < (l1.length : Int)) = true := decide_eq_true c3
  have c3b1 : decide (1048576 < l1.length) = true := decide_eq_true (by omega)
  clear c3
  obtain rfl := Option.some.inj H
  go_enter Try.func3, Try.ntmps3
  go_wp2
  go_ret
  exact ⟨Own.rr, Own.bl⟩
 rw [if_neg c3] at H
 have c3b0 : decide (1048576 < (l1.length : Int)) = false := decide_eq_false c3
 have c3b1 : decide (1048576 < l1.length) = false := decide_eq_false (by omega)
 clear c3
 replace H := Own.bd H; obtain ⟨t162, A4, H⟩ := H
 replace H := Option.bind_eq_some_iff.mp H
 obtain ⟨⟨t165, t166⟩, A50, H⟩ := H
 replace H : ((laws_toIntS.f k l1).bind fun t169 => ((impl_ShareAmount.f k a0 t169).bind fun bt172 => ((laws_eqIntS.f k bt172.1 t165).bind fun t176 => (if t176 = true then (laws_FnExactShareAmount.j0 k a0 l1 t165 t166 t169 bt172.1 bt172.2 (bt172.2 != t166)) else (laws_FnExactShareAmount.j0 k a0 l1 t165 t166 t169 bt172.1 bt172.2 true))))) = some r := H
 have A5 := Aside0.mk A50
 clear A50
 replace H := Own.bd H; obtain ⟨t169, A6, H⟩ := H
 replace H := Option.bind_eq_some_iff.mp H
 obtain ⟨⟨t172, t173⟩, A70, H⟩ := H
 replace H : ((laws_eqIntS.f k t172 t165).bind fun t176 => (if t176 = true then (laws_FnExactShareAmount.j0 k a0 l1 t165 t166 t169 t172 t173 (t173 != t166)) else (laws_FnExactShareAmount.j0 k a0 l1 t165 t166 t169 t172 t173 true))) = some r := H
 have A7 := Aside0.mk A70
 clear A70
 have HC8 := Aside0.mk H
 clear H
 go_enter Try.func3, Try.ntmps3
 go_upto_region 6 with (first | ((with_reducible refine gate_callee (f := 6) rfl ?_); refine goesL_ (some 21) rfl rfl Try.func6 (by kernel_rfl) rfl #[.slice A1 l1.length c1] rfl Own.ha ?_; (with_reducible refine (laws_toIntS.calls k _ _ l1 t162 _ ?side1 ?side2 A4.out).mono ?_); (case side1 => repeat (first | exact HR1.out | (with_reducible refine Kd.C_alloc ?_ _) | (with_reducible refine Kd.C_drewN ?_ _) | (with_reducible refine Kd.C_drew ?_))); (case side2 => exact HC1.out); rintro e w9 ⟨v163, rfl, ho0, hb⟩; refine ⟨_, rfl, ?_⟩; have HO164 := Aside0.mk (Kd.R_lower ho0 (below_size Own.bl)); replace HB := Own.bs hb; (try clear hb); (try clear ho0); obtain ⟨Ao10, co10, eo10⟩ := Kd.R_slice HO164.out; subst eo10) | ((with_reducible refine gate_callee (f := 5) rfl ?_); refine goesL_ (some 22) rfl rfl Try.func5 (by kernel_rfl) rfl #[.int .i64 a0, .slice Ao10 t162.length co10] rfl Own.ha ?_; (with_reducible refine (spec_ShareAmount.calls k a0 _ _ t162 t165 t166 _ ?side1 ?side2 A5.out).mono ?_); (case side1 => repeat (first | exact (Kd.R_reads' HO164.out).2.2 | (with_reducible refine Kd.C_alloc ?_ _) | (with_reducible refine Kd.C_drewN ?_ _) | (with_reducible refine Kd.C_drew ?_))); (case side2 => exact (Kd.R_reads' HO164.out).2.1); rintro e w11 ⟨v167, rfl, ho0, hb⟩; refine ⟨_, rfl, ?_⟩; have HO168 := Aside0.mk (Kd.R_lower (Kd.R_new' ho0 (Kd.R_lt (Own.rd HO164.out))) (below_size Own.bl)); replace HO164 := Aside0.mk (Kd.R_elder' (Own.rd HO164.out) (Kd.R_base ho0) hb); replace HB := Own.bs hb; (try clear hb); (try clear ho0)) | ((with_reducible refine gate_callee (f := 6) rfl ?_); refine goesL_ (some 26) rfl rfl Try.func6 (by kernel_rfl) rfl #[.slice A1 l1.length c1] rfl Own.ha ?_; (with_reducible refine (laws_toIntS.calls k _ _ l1 t169 _ ?side1 ?side2 A6.out).mono ?_); (case side1 => exact Kd.C_below HR1.out Own.bl); (case side2 => exact HC1.out); rintro e w12 ⟨v170, rfl, ho0, hb⟩; refine ⟨_, rfl, ?_⟩; have HO171 := Aside0.mk (Kd.R_lower (Kd.R_new' (Kd.R_new' ho0 (Kd.R_lt (Own.rd HO164.out))) (Kd.R_lt (Own.rd HO168.out))) (below_size Own.bl)); replace HO164 := Aside0.mk (Kd.R_elder' (Own.rd HO164.out) (Kd.R_base ho0) hb); replace HO168 := Aside0.mk (Kd.R_elder' (Own.rd HO168.out) (Kd.R_base ho0) hb); replace HB := Own.bs hb; (try clear hb); (try clear ho0); obtain ⟨Ao13, co13, eo13⟩ := Kd.R_slice HO171.out; subst eo13) | ((with_reducible refine gate_callee (f := 7) rfl ?_); refine goesL_ (some 30) rfl rfl Try.func7 (by kernel_rfl) rfl #[.int .i64 a0, .slice Ao13 t169.length co13] rfl Own.ha ?_; (with_reducible refine (impl_ShareAmount.calls k a0 _ _ t169 t172 t173 _ ?side1 ?side2 A7.out).mono ?_); (case side1 => repeat (first | exact (Kd.R_reads' HO171.out).2.2 | (with_reducible refine Kd.C_alloc ?_ _) | (with_reducible refine Kd.C_drewN ?_ _) | (with_reducible refine Kd.C_drew ?_))); (case side2 => exact (Kd.R_reads' HO171.out).2.1); rintro e w14 ⟨v174, rfl, ho0, hb⟩; refine ⟨_, rfl, ?_⟩; have HO175 := Aside0.mk (Kd.R_lower (Kd.R_new' (Kd.R_new' (Kd.R_new' ho0 (Kd.R_lt (Own.rd HO164.out))) (Kd.R_lt (Own.rd HO168.out))) (Kd.R_lt (Own.rd HO171.out))) (below_size Own.bl)); replace HO164 := Aside0.mk (Kd.R_elder' (Own.rd HO164.out) (Kd.R_base ho0) hb); replace HO168 := Aside0.mk (Kd.R_elder' (Own.rd HO168.out) (Kd.R_base ho0) hb); replace HO171 := Aside0.mk (Kd.R_elder' (Own.rd HO171.out) (Kd.R_base ho0) hb); replace HB := Own.bs hb; (try clear hb); (try clear ho0)))
 (try simp only [Own.ps])
 go_cut [41] (fun v41 wc => ∃ (kq : Nat) (x41_7 : Bool), v41 = .bool x41_7 ∧ Aside0 (laws_FnExactShareAmount.j0 kq a0 l1 t165 t166 t169 t172 t173 x41_7 = some r) ∧ Aside0 (kq ≤ k) ∧ Aside0 (Kd.R (Kd.int .i64) 3 wc w.heap.size (fun k_ => some k_ ≠ ((.slice Ao13 t169.length co13) : Value).ownBlock ∧ some k_ ≠ (v174 : Value).ownBlock) v167 t165) ∧ Aside0 (Kd.R (Kd.int .i64) 3 wc w.heap.size (fun k_ => some k_ ≠ (v167 : Value).ownBlock ∧ some k_ ≠ (v174 : Value).ownBlock) (.slice Ao13 t169.length co13) t169) ∧ Aside0 (Kd.R (Kd.int .i64) 3 wc w.heap.size (fun k_ => some k_ ≠ (v167 : Value).ownBlock ∧ some k_ ≠ ((.slice Ao13 t169.length co13) : Value).ownBlock) v174 t172) ∧ Aside0 (Below w.heap.size w wc))
 case first =>
  have H := HC8.out
  clear HC8
  replace H := Own.bd H; obtain ⟨t176, A15, H⟩ := H
  replace H := Own.ifu H; obtain ⟨rfl, H⟩ | ⟨rfl, H⟩ := H
  ·
   have H' := Aside0.mk H
   clear H
   obtain ⟨Ao17, co17, eo17⟩ := Kd.R_slice HO175.out
   subst eo17
   obtain ⟨Ao18, co18, eo18⟩ := Kd.R_slice HO168.out
   subst eo18
   go_wp2_with (first | ((with_reducible refine gate_callee (f := 8) rfl ?_); refine goesL_ (some 35) rfl rfl Try.func8 (by kernel_rfl) rfl #[.slice Ao17 t172.length co17, .slice Ao18 t165.length co18] rfl Own.ha ?_; (with_reducible refine (laws_eqIntS.calls k _ _ t172 _ _ t165 true _ ?side1 ?side2 ?side3 ?side4 A15.out).mono ?_); (case side1 => repeat (first | exact (Kd.R_reads' HO175.out).2.2 | (with_reducible refine Kd.C_alloc ?_ _) | (with_reducible refine Kd.C_drewN ?_ _) | (with_reducible refine Kd.C_drew ?_))); (case side2 => exact (Kd.R_reads' HO175.out).2.1); (case side3 => repeat (first | exact (Kd.R_reads' HO168.out).2.2 | (with_reducible refine Kd.C_alloc ?_ _) | (with_reducible refine Kd.C_drewN ?_ _) | (with_reducible refine Kd.C_drew ?_))); (case side4 => exact (Kd.R_reads' HO168.out).2.1); rintro e w' ⟨rfl, ⟨nd, rfl⟩⟩; refine ⟨_, rfl, ?_⟩))
   go_meet
   case rel => exact ⟨_, ((t173 != t166)), Own.rs, H', ⟨by first | omega | exact Nat.le_refl _⟩, ⟨by (with_reducible repeat (first | apply Kd.R_alloc | apply Kd.R_drewN | apply Kd.R_drew)); exact Kd.R_mono HO168.out (fun _ hk => ⟨hk.1.2, hk.2⟩)⟩, ⟨by (with_reducible repeat (first | apply Kd.R_alloc | apply Kd.R_drewN | apply Kd.R_drew)); exact Kd.R_mono HO171.out (fun _ hk => ⟨hk.1.2, hk.2⟩)⟩, ⟨by (with_reducible repeat (first | apply Kd.R_alloc | apply Kd.R_drewN | apply Kd.R_drew)); exact Kd.R_mono HO175.out (fun _ hk => ⟨hk.1.2, hk.2⟩)⟩, ⟨Own.bl⟩⟩
  have H' := Aside0.mk H
  clear H
  obtain ⟨Ao19, co19, eo19⟩ := Kd.R_slice HO175.out
  subst eo19
  obtain ⟨Ao20, co20, eo20⟩ := Kd.R_slice HO168.out
  subst eo20
  go_wp2_with (first | ((with_reducible refine gate_callee (f := 8) rfl ?_); refine goesL_ (some 35) rfl rfl Try.func8 (by kernel_rfl) rfl #[.slice Ao19 t172.length co19, .slice Ao20 t165.length co20] rfl Own.ha ?_; (with_reducible refine (laws_eqIntS.calls k _ _ t172 _ _ t165 false _ ?side1 ?side2 ?side3 ?side4 A15.out).mono ?_); (case side1 => repeat (first | exact (Kd.R_reads' HO175.out).2.2 | (with_reducible refine Kd.C_alloc ?_ _) | (with_reducible refine Kd.C_drewN ?_ _) | (with_reducible refine Kd.C_drew ?_))); (case side2 => exact (Kd.R_reads' HO175.out).2.1); (case side3 => repeat (first | exact (Kd.R_reads' HO168.out).2.2 | (with_reducible refine Kd.C_alloc ?_ _) | (with_reducible refine Kd.C_drewN ?_ _) | (with_reducible refine Kd.C_drew ?_))); (case side4 => exact (Kd.R_reads' HO168.out).2.1); rintro e w' ⟨rfl, ⟨nd, rfl⟩⟩; refine ⟨_, rfl, ?_⟩))
  go_meet
  case rel => exact ⟨_, (true), Own.rs, H', ⟨by first | omega | exact Nat.le_refl _⟩, ⟨by (with_reducible repeat (first | apply Kd.R_alloc | apply Kd.R_drewN | apply Kd.R_drew)); exact Kd.R_mono HO168.out (fun _ hk => ⟨hk.1.2, hk.2⟩)⟩, ⟨by (with_reducible repeat (first | apply Kd.R_alloc | apply Kd.R_drewN | apply Kd.R_drew)); exact Kd.R_mono HO171.out (fun _ hk => ⟨hk.1.2, hk.2⟩)⟩, ⟨by (with_reducible repeat (first | apply Kd.R_alloc | apply Kd.R_drewN | apply Kd.R_drew)); exact Kd.R_mono HO175.out (fun _ hk => ⟨hk.1.2, hk.2⟩)⟩, ⟨Own.bl⟩⟩
 case rest =>
  clear HC8
  try clear c1; try clear p2; try clear c3; try clear c3b0; try clear c3b1; try clear c5; try clear c6; try clear c7; try clear c8; try clear c16
  obtain ⟨kq, x41_7, rfl, HA, HJ7, HO_5, HO_7, HO_8, HB⟩ := hcut
  cases kq with
  | zero => exact absurd HA.out (by simp [laws_FnExactShareAmount.j0])
  | succ kj7 =>
   have H := HA.out
   clear HA
   simp only [laws_FnExactShareAmount.j0] at H
   replace H := Own.ifu H; obtain ⟨rfl, H⟩ | ⟨rfl, H⟩ := H
   ·
    exact absurd (Option.some.inj H) (by rw [hr_.out]; decide)
   replace H := Own.bd H; obtain ⟨t177, A22, H⟩ := H
   replace H := Own.bd H; obtain ⟨t180, A23, H⟩ := H
   replace H := Own.ift H; obtain ⟨rfl, H⟩ | ⟨rfl, H⟩ := H
   ·
    exact absurd (Option.some.inj H) (by rw [hr_.out]; decide)
   replace H := Option.bind_eq_some_iff.mp H
   obtain ⟨⟨t181, t182⟩, A250, H⟩ := H
   replace H : (if t181 < 0 then (laws_FnExactShareAmount.j1 kj7 a0 l1 t165 t166 t172 true) else ((laws_eqIntS.f kj7 t172 t165).bind fun t183 => (if t183 = true then (laws_FnExactShareAmount.j1 kj7 a0 l1 t165 t166 t172 (t173 != t166)) else (laws_FnExactShareAmount.j1 kj7 a0 l1 t165 t166 t172 true)))) = some r := H
   have A25 := Aside0.mk A250
   clear A250
   have HC26 := Aside0.mk H
   clear H
   go_upto_region 12 with (first | ((with_reducible refine gate_callee (f := 6) rfl ?_); refine goesL_ (some 44) rfl rfl Try.func6 (by kernel_rfl) rfl #[.slice A1 l1.length c1] rfl Own.ha ?_; (with_reducible refine (laws_toIntS.calls kj7 _ _ l1 t177 _ ?side1 ?side2 A22.out).mono ?_); (case side1 => exact Kd.C_below HR1.out Own.bl); (case side2 => exact HC1.out); rintro e w27 ⟨v178, rfl, ho0, hb⟩; refine ⟨_, rfl, ?_⟩; have HO179 := Aside0.mk (Kd.R_lower (Kd.R_new' (Kd.R_new' (Kd.R_new' ho0 (Kd.R_lt (Own.rd HO_5.out))) (Kd.R_lt (Own.rd HO_7.out))) (Kd.R_lt (Own.rd HO_8.out))) (below_size Own.bl)); replace HO_5 := Aside0.mk (Kd.R_elder' (Own.rd HO_5.out) (Kd.R_base ho0) hb); replace HO_7 := Aside0.mk (Kd.R_elder' (Own.rd HO_7.out) (Kd.R_base ho0) hb); replace HO_8 := Aside0.mk (Kd.R_elder' (Own.rd HO_8.out) (Kd.R_base ho0) hb); replace HB := Own.bs hb; (try clear hb); (try clear ho0); obtain ⟨Ao28, co28, eo28⟩ := Kd.R_slice HO179.out; subst eo28) | ((with_reducible refine gate_callee (f := 8) rfl ?_); refine goesL_ (some 45) rfl rfl Try.func8 (by kernel_rfl) rfl #[.slice Ao13 t169.length co13, .slice Ao28 t177.length co28] rfl Own.ha ?_; (with_reducible refine (laws_eqIntS.calls kj7 _ _ t169 _ _ t177 true _ ?side1 ?side2 ?side3 ?side4 A23.out).mono ?_); (case side1 => repeat (first | exact (Kd.R_reads' HO_7.out).2.2 | (with_reducible refine Kd.C_alloc ?_ _) | (with_reducible refine Kd.C_drewN ?_ _) | (with_reducible refine Kd.C_drew ?_))); (case side2 => exact (Kd.R_reads' HO_7.out).2.1); (case side3 => repeat (first | exact (Kd.R_reads' HO179.out).2.2 | (with_reducible refine Kd.C_alloc ?_ _) | (with_reducible refine Kd.C_drewN ?_ _) | (with_reducible refine Kd.C_drew ?_))); (case side4 => exact (Kd.R_reads' HO179.out).2.1); rintro e w' ⟨rfl, ⟨nd, rfl⟩⟩; refine ⟨_, rfl, ?_⟩) | ((with_reducible refine gate_callee (f := 9) rfl ?_); refine goesL_ (some 49) rfl rfl Try.func9 (by kernel_rfl) rfl #[.slice Ao13 t169.length co13, .int .i64 1] rfl Own.ha ?_; (with_reducible refine (laws_markIntS.calls kj7 (fun k_ => some k_ = (.slice Ao13 t169.length co13 : Value).ownBlock) (.slice Ao13 t169.length co13) t169 1 t181 t182 w _ ?side1 ?side2 A25.out).mono ?_); (case side1 => repeat (first | (with_reducible first | exact HB.out | apply below_alloc | apply pw_below_drewN | apply below_drew1) | exact HB.out)); (case side2 => exact Kd.R_tight rfl HO_7.out); rintro e w29 ⟨rfl, hy0, hb, hkp⟩; refine ⟨_, rfl, ?_⟩; replace HO_5 := Aside0.mk (Kd.R_mono (ok' := fun k_ => some k_ ≠ (.slice Ao13 t169.length co13 : Value).ownBlock ∧ some k_ ≠ (v174 : Value).ownBlock ∧ some k_ ≠ (.slice Ao28 t177.length co28 : Value).ownBlock) (Kd.R_keptB (HO_5.out) hkp (fun k_ hk_ hs_ => (hk_.1.1) hs_)) (fun k_ hk_ => ⟨hk_.1.1.1, hk_.1.1.2, hk_.1.2⟩)); replace HO_7 := Aside0.mk (Kd.R_reok rfl hy0 (fun k_ e_ => HO_7.out.1 k_ e_)); replace HO_8 := Aside0.mk (Kd.R_mono (ok' := fun k_ => some k_ ≠ (v167 : Value).ownBlock ∧ some k_ ≠ (.slice Ao13 t169.length co13 : Value).ownBlock ∧ some k_ ≠ (.slice Ao28 t177.length co28 : Value).ownBlock) (Kd.R_keptB (HO_8.out) hkp (fun k_ hk_ hs_ => (hk_.1.2) hs_)) (fun k_ hk_ => ⟨hk_.1.1.1, hk_.1.1.2, hk_.1.2⟩)); replace HO179 := Aside0.mk (Kd.R_mono (ok' := fun k_ => some k_ ≠ (v167 : Value).ownBlock ∧ some k_ ≠ (.slice Ao13 t169.length co13 : Value).ownBlock ∧ some k_ ≠ (v174 : Value).ownBlock) (Kd.R_keptB (HO179.out) hkp (fun k_ hk_ hs_ => (hk_.1.2) hs_)) (fun k_ hk_ => ⟨hk_.1.1.1.2, hk_.1.1.2, hk_.1.2⟩)); replace HB := Aside0.mk hb; (try clear hb); (try clear hkp); (try clear hy0)))
   (try simp only [Own.ps])
   go_cut [62] (fun v62 wc => ∃ (kq : Nat) (x62_25 : Bool), v62 = .bool x62_25 ∧ Aside0 (laws_FnExactShareAmount.j1 kq a0 l1 t165 t166 t172 x62_25 = some r) ∧ Aside0 (kq ≤ kj7) ∧ Aside0 (Kd.R (Kd.int .i64) 3 wc w.heap.size (fun k_ => some k_ ≠ (v174 : Value).ownBlock) v167 t165) ∧ Aside0 (Kd.R (Kd.int .i64) 3 wc w.heap.size (fun k_ => some k_ ≠ (v167 : Value).ownBlock) v174 t172) ∧ Aside0 (Below w.heap.size w wc))
   case first =>
    have H := HC26.out
    clear HC26
    by_cases c30 : t181 < 0
    ·
     rw [if_pos c30] at H
     replace c30 := decide_eq_true c30
     (first | rw [c30] | (simp only [i64_w, i32_w]; rw [c30]) | skip)
     have H' := Aside0.mk H
     clear H
     go_wp2
     go_meet
     case rel => exact ⟨_, (true), Own.rs, H', ⟨by have := HJ7.out; first | omega | exact Nat.le_refl _⟩, ⟨by (with_reducible repeat (first | apply Kd.R_alloc | apply Kd.R_drewN | apply Kd.R_drew)); exact Kd.R_mono HO_5.out (fun _ hk => hk.2.1)⟩, ⟨by (with_reducible repeat (first | apply Kd.R_alloc | apply Kd.R_drewN | apply Kd.R_drew)); exact Kd.R_mono HO_8.out (fun _ hk => hk.1)⟩, ⟨Own.bl⟩⟩
    rw [if_neg c30] at H
    replace c30 := decide_eq_false c30
    (first | rw [c30] | (simp only [i64_w, i32_w]; rw [c30]) | skip)
    replace H := Own.bd H; obtain ⟨t183, A31, H⟩ := H
    replace H := Own.ifu H; obtain ⟨rfl, H⟩ | ⟨rfl, H⟩ := H
    ·
     have H' := Aside0.mk H
     clear H
     obtain ⟨Ao33, co33, eo33⟩ := Kd.R_slice HO_8.out
     subst eo33
     obtain ⟨Ao34, co34, eo34⟩ := Kd.R_slice HO_5.out
     subst eo34
     go_wp2_with (first | (go_at_call 8; (with_reducible refine (laws_eqIntS.calls kj7 _ _ t172 _ _ t165 true _ ?side1 ?side2 ?side3 ?side4 A31.out).mono ?_); (case side1 => repeat (first | exact (Kd.R_reads' HO_8.out).2.2 | (with_reducible refine Kd.C_alloc ?_ _) | (with_reducible refine Kd.C_drewN ?_ _) | (with_reducible refine Kd.C_drew ?_))); (case side2 => exact (Kd.R_reads' HO_8.out).2.1); (case side3 => repeat (first | exact (Kd.R_reads' HO_5.out).2.2 | (with_reducible refine Kd.C_alloc ?_ _) | (with_reducible refine Kd.C_drewN ?_ _) | (with_reducible refine Kd.C_drew ?_))); (case side4 => exact (Kd.R_reads' HO_5.out).2.1); rintro e w' ⟨rfl, ⟨nd, rfl⟩⟩))
     go_meet
     case rel => exact ⟨_, ((t173 != t166)), Own.rs, H', ⟨by have := HJ7.out; first | omega | exact Nat.le_refl _⟩, ⟨by (with_reducible repeat (first | apply Kd.R_alloc | apply Kd.R_drewN | apply Kd.R_drew)); exact Kd.R_mono HO_5.out (fun _ hk => hk.2.1)⟩, ⟨by (with_reducible repeat (first | apply Kd.R_alloc | apply Kd.R_drewN | apply Kd.R_drew)); exact Kd.R_mono HO_8.out (fun _ hk => hk.1)⟩, ⟨Own.bl⟩⟩
    have H' := Aside0.mk H
    clear H
    obtain ⟨Ao35, co35, eo35⟩ := Kd.R_slice HO_8.out
    subst eo35
    obtain ⟨Ao36, co36, eo36⟩ := Kd.R_slice HO_5.out
    subst eo36
    go_wp2_with (first | (go_at_call 8; (with_reducible refine (laws_eqIntS.calls kj7 _ _ t172 _ _ t165 false _ ?side1 ?side2 ?side3 ?side4 A31.out).mono ?_); (case side1 => repeat (first | exact (Kd.R_reads' HO_8.out).2.2 | (with_reducible refine Kd.C_alloc ?_ _) | (with_reducible refine Kd.C_drewN ?_ _) | (with_reducible refine Kd.C_drew ?_))); (case side2 => exact (Kd.R_reads' HO_8.out).2.1); (case side3 => repeat (first | exact (Kd.R_reads' HO_5.out).2.2 | (with_reducible refine Kd.C_alloc ?_ _) | (with_reducible refine Kd.C_drewN ?_ _) | (with_reducible refine Kd.C_drew ?_))); (case side4 => exact (Kd.R_reads' HO_5.out).2.1); rintro e w' ⟨rfl, ⟨nd, rfl⟩⟩))
    go_meet
    case rel => exact ⟨_, (true), Own.rs, H', ⟨by have := HJ7.out; first | omega | exact Nat.le_refl _⟩, ⟨by (with_reducible repeat (first | apply Kd.R_alloc | apply Kd.R_drewN | apply Kd.R_drew)); exact Kd.R_mono HO_5.out (fun _ hk => hk.2.1)⟩, ⟨by (with_reducible repeat (first | apply Kd.R_alloc | apply Kd.R_drewN | apply Kd.R_drew)); exact Kd.R_mono HO_8.out (fun _ hk => hk.1)⟩, ⟨Own.bl⟩⟩
   case rest =>
    clear HC26
    try clear c1; try clear c2; try clear p2; try clear c3; try clear c3b0; try clear c3b1; try clear c5; try clear c6; try clear c7; try clear c8; try clear c9; try clear c16; try clear c21; try clear c24; try clear c30; try clear c32; try clear p2
    obtain ⟨kq, x62_25, rfl, HA, HJ25, HO_5, HO_8, HB⟩ := hcut
    cases kq with
    | zero => exact absurd HA.out (by simp [laws_FnExactShareAmount.j1])
    | succ kj25 =>
     have H := HA.out
     clear HA
     simp only [laws_FnExactShareAmount.j1] at H
     replace H := Own.ifu H; obtain ⟨rfl, H⟩ | ⟨rfl, H⟩ := H
     ·
      exact absurd (Option.some.inj H) (by rw [hr_.out]; decide)
     replace H := Option.bind_eq_some_iff.mp H
     obtain ⟨⟨t184, t185⟩, A380, H⟩ := H
     replace H : ((laws_heldIntS.f kj25 t185 1).bind fun t186 => (if t186 < 0 then (some false) else (if t186 = t184 then ((laws_toIntS.f kj25 l1).bind fun t187 => ((impl_ShareAmount.f kj25 a0 t187).bind fun bt190 => ((laws_eqIntS.f kj25 bt190.1 t165).bind fun t194 => (if t194 = true then (laws_FnExactShareAmount.j2 kj25 t185 t184 (bt190.2 != t166)) else (laws_FnExactShareAmount.j2 kj25 t185 t184 true))))) else (some false)))) = some r := H
     have A38 := Aside0.mk A380
     clear A380
     replace H := Own.bd H; obtain ⟨t186, A39, H⟩ := H
     by_cases c40 : t186 < 0
     ·
      rw [if_pos c40] at H
      replace c40 := decide_eq_true c40
      exact absurd (Option.some.inj H) (by rw [hr_.out]; decide)
     rw [if_neg c40] at H
     replace c40 := decide_eq_false c40
     by_cases c41 : t186 = t184
     rotate_left
     ·
      rw [if_neg c41] at H
      have c41b0 : (t186 == t184) = false := beq_eq_false_iff_ne.mpr c41
      have c41b1 : (t186 != t184) = true := bne_iff_ne.mpr c41
      exact absurd (Option.some.inj H) (by rw [hr_.out]; decide)
     rw [if_pos c41] at H
     have c41b0 : (t186 == t184) = true := beq_iff_eq.mpr c41
     have c41b1 : (t186 != t184) = false := bne_eq_false_iff_eq.mpr c41
     clear c41
     replace H := Own.bd H; obtain ⟨t187, A42, H⟩ := H
     replace H := Option.bind_eq_some_iff.mp H
     obtain ⟨⟨t190, t191⟩, A430, H⟩ := H
     replace H : ((laws_eqIntS.f kj25 t190 t165).bind fun t194 => (if t194 = true then (laws_FnExactShareAmount.j2 kj25 t185 t184 (t191 != t166)) else (laws_FnExactShareAmount.j2 kj25 t185 t184 true))) = some r := H
     have A43 := Aside0.mk A430
     clear A430
     have HC44 := Aside0.mk H
     clear H
     obtain ⟨Ao45, co45, eo45⟩ := Kd.R_slice HO_8.out
     subst eo45
     go_upto_region 23 with (first | ((with_reducible refine gate_callee (f := 9) rfl ?_); refine goesL_ (some 65) rfl rfl Try.func9 (by kernel_rfl) rfl #[.slice Ao45 t172.length co45, .int .i64 1] rfl Own.ha ?_; (with_reducible refine (laws_markIntS.calls kj25 (fun k_ => some k_ = (.slice Ao45 t172.length co45 : Value).ownBlock) (.slice Ao45 t172.length co45) t172 1 t184 t185 w _ ?side1 ?side2 A38.out).mono ?_); (case side1 => repeat (first | (with_reducible first | exact HB.out | apply below_alloc | apply pw_below_drewN | apply below_drew1) | exact HB.out)); (case side2 => exact Kd.R_tight rfl HO_8.out); rintro e w46 ⟨rfl, hy0, hb, hkp⟩; refine ⟨_, rfl, ?_⟩; replace HO_5 := Aside0.mk (Kd.R_mono (ok' := fun k_ => some k_ ≠ (.slice Ao45 t172.length co45 : Value).ownBlock) (Kd.R_keptB (HO_5.out) hkp (fun k_ hk_ hs_ => (hk_) hs_)) (fun k_ hk_ => hk_.1)); replace HO_8 := Aside0.mk (Kd.R_reok rfl hy0 (fun k_ e_ => HO_8.out.1 k_ e_)); replace HB := Aside0.mk hb; (try clear hb); (try clear hkp); (try clear hy0)) | ((with_reducible refine gate_callee (f := 10) rfl ?_); refine goesL_ (some 68) rfl rfl Try.func10 (by kernel_rfl) rfl #[.slice Ao45 t185.length co45, .int .i64 1] rfl (by (try simp only [List.map_toArray, List.map_cons, List.map_nil]); first | done | (rw [show t185.length = t172.length from (Kd.R_reads' HO_8.out).1.symm] <;> rfl) | rfl | (simp only [List.length_drop, List.length_take]; rfl)) ?_; (with_reducible refine (laws_heldIntS.calls kj25 _ _ t185 1 t186 _ ?side1 ?side2 A39.out).mono ?_); (case side1 => repeat (first | exact (Kd.R_reads' HO_8.out).2.2 | (with_reducible refine Kd.C_alloc ?_ _) | (with_reducible refine Kd.C_drewN ?_ _) | (with_reducible refine Kd.C_drew ?_))); (case side2 => rw [show t185.length = t172.length from (Kd.R_reads' HO_8.out).1.symm]; exact (Kd.R_reads' HO_8.out).2.1); rintro e w' ⟨rfl, ⟨nd, rfl⟩⟩; refine ⟨_, rfl, ?_⟩) | ((with_reducible refine gate_callee (f := 6) rfl ?_); refine goesL_ (some 77) rfl rfl Try.func6 (by kernel_rfl) rfl #[.slice A1 l1.length c1] rfl Own.ha ?_; (with_reducible refine (laws_toIntS.calls kj25 _ _ l1 t187 _ ?side1 ?side2 A42.out).mono ?_); (case side1 => exact Kd.C_below HR1.out Own.bl); (case side2 => exact HC1.out); rintro e w47 ⟨v188, rfl, ho0, hb⟩; refine ⟨_, rfl, ?_⟩; have HO189 := Aside0.mk (Kd.R_lower (Kd.R_new' (Kd.R_new' ho0 (Kd.R_lt (Own.rd HO_5.out))) (Kd.R_lt (Own.rd HO_8.out))) (below_size Own.bl)); replace HO_5 := Aside0.mk (Kd.R_elder' (Own.rd HO_5.out) (Kd.R_base ho0) hb); replace HO_8 := Aside0.mk (Kd.R_elder' (Own.rd HO_8.out) (Kd.R_base ho0) hb); replace HB := Own.bs hb; (try clear hb); (try clear ho0); obtain ⟨Ao48, co48, eo48⟩ := Kd.R_slice HO189.out; subst eo48) | ((with_reducible refine gate_callee (f := 7) rfl ?_); refine goesL_ (some 78) rfl rfl Try.func7 (by kernel_rfl) rfl #[.int .i64 a0, .slice Ao48 t187.length co48] rfl Own.ha ?_; (with_reducible refine (impl_ShareAmount.calls kj25 a0 _ _ t187 t190 t191 _ ?side1 ?side2 A43.out).mono ?_); (case side1 => repeat (first | exact (Kd.R_reads' HO189.out).2.2 | (with_reducible refine Kd.C_alloc ?_ _) | (with_reducible refine Kd.C_drewN ?_ _) | (with_reducible refine Kd.C_drew ?_))); (case side2 => exact (Kd.R_reads' HO189.out).2.1); rintro e w49 ⟨v192, rfl, ho0, hb⟩; refine ⟨_, rfl, ?_⟩; have HO193 := Aside0.mk (Kd.R_lower (Kd.R_new' (Kd.R_new' (Kd.R_new' ho0 (Kd.R_lt (Own.rd HO_5.out))) (Kd.R_lt (Own.rd HO_8.out))) (Kd.R_lt (Own.rd HO189.out))) (below_size Own.bl)); replace HO_5 := Aside0.mk (Kd.R_elder' (Own.rd HO_5.out) (Kd.R_base ho0) hb); replace HO_8 := Aside0.mk (Kd.R_elder' (Own.rd HO_8.out) (Kd.R_base ho0) hb); replace HO189 := Aside0.mk (Kd.R_elder' (Own.rd HO189.out) (Kd.R_base ho0) hb); replace HB := Own.bs hb; (try clear hb); (try clear ho0)))
     (try simp only [Own.ps])
     go_cut [89] (fun v89 wc => ∃ (kq : Nat) (x89_43 : Bool), v89 = .bool x89_43 ∧ Aside0 (laws_FnExactShareAmount.j2 kq t185 t184 x89_43 = some r) ∧ Aside0 (kq ≤ kj25) ∧ Aside0 (Kd.R (Kd.int .i64) 3 wc w.heap.size (fun _ => True) (.slice Ao45 t172.length co45) t185) ∧ Aside0 (Below w.heap.size w wc))
     case first =>
      have H := HC44.out
      clear HC44
      replace H := Own.bd H; obtain ⟨t194, A50, H⟩ := H
      replace H := Own.ifu H; obtain ⟨rfl, H⟩ | ⟨rfl, H⟩ := H
      ·
       have H' := Aside0.mk H
       clear H
       obtain ⟨Ao52, co52, eo52⟩ := Kd.R_slice HO193.out
       subst eo52
       obtain ⟨Ao53, co53, eo53⟩ := Kd.R_slice HO_5.out
       subst eo53
       go_wp2_with (first | ((with_reducible refine gate_callee (f := 8) rfl ?_); refine goesL_ (some 83) rfl rfl Try.func8 (by kernel_rfl) rfl #[.slice Ao52 t190.length co52, .slice Ao53 t165.length co53] rfl Own.ha ?_; (with_reducible refine (laws_eqIntS.calls kj25 _ _ t190 _ _ t165 true _ ?side1 ?side2 ?side3 ?side4 A50.out).mono ?_); (case side1 => repeat (first | exact (Kd.R_reads' HO193.out).2.2 | (with_reducible refine Kd.C_alloc ?_ _) | (with_reducible refine Kd.C_drewN ?_ _) | (with_reducible refine Kd.C_drew ?_))); (case side2 => exact (Kd.R_reads' HO193.out).2.1); (case side3 => repeat (first | exact (Kd.R_reads' HO_5.out).2.2 | (with_reducible refine Kd.C_alloc ?_ _) | (with_reducible refine Kd.C_drewN ?_ _) | (with_reducible refine Kd.C_drew ?_))); (case side4 => exact (Kd.R_reads' HO_5.out).2.1); rintro e w' ⟨rfl, ⟨nd, rfl⟩⟩; refine ⟨_, rfl, ?_⟩))
       go_meet
       case rel => exact ⟨_, ((t191 != t166)), Own.rs, H', ⟨by have := HJ7.out; have := HJ25.out; first | omega | exact Nat.le_refl _⟩, ⟨by (with_reducible repeat (first | apply Kd.R_alloc | apply Kd.R_drewN | apply Kd.R_drew)); exact Kd.R_mono HO_8.out (fun _ hk => trivial)⟩, ⟨Own.bl⟩⟩
      have H' := Aside0.mk H
      clear H
      obtain ⟨Ao54, co54, eo54⟩ := Kd.R_slice HO193.out
      subst eo54
      obtain ⟨Ao55, co55, eo55⟩ := Kd.R_slice HO_5.out
      subst eo55
      go_wp2_with (first | ((with_reducible refine gate_callee (f := 8) rfl ?_); refine goesL_ (some 83) rfl rfl Try.func8 (by kernel_rfl) rfl #[.slice Ao54 t190.length co54, .slice Ao55 t165.length co55] rfl Own.ha ?_; (with_reducible refine (laws_eqIntS.calls kj25 _ _ t190 _ _ t165 false _ ?side1 ?side2 ?side3 ?side4 A50.out).mono ?_); (case side1 => repeat (first | exact (Kd.R_reads' HO193.out).2.2 | (with_reducible refine Kd.C_alloc ?_ _) | (with_reducible refine Kd.C_drewN ?_ _) | (with_reducible refine Kd.C_drew ?_))); (case side2 => exact (Kd.R_reads' HO193.out).2.1); (case side3 => repeat (first | exact (Kd.R_reads' HO_5.out).2.2 | (with_reducible refine Kd.C_alloc ?_ _) | (with_reducible refine Kd.C_drewN ?_ _) | (with_reducible refine Kd.C_drew ?_))); (case side4 => exact (Kd.R_reads' HO_5.out).2.1); rintro e w' ⟨rfl, ⟨nd, rfl⟩⟩; refine ⟨_, rfl, ?_⟩))
      go_meet
      case rel => exact ⟨_, (true), Own.rs, H', ⟨by have := HJ7.out; have := HJ25.out; first | omega | exact Nat.le_refl _⟩, ⟨by (with_reducible repeat (first | apply Kd.R_alloc | apply Kd.R_drewN | apply Kd.R_drew)); exact Kd.R_mono HO_8.out (fun _ hk => trivial)⟩, ⟨Own.bl⟩⟩
     case rest =>
      clear HC44
      try clear c1; try clear c2; try clear p2; try clear c3; try clear c3b0; try clear c3b1; try clear c4; try clear c5; try clear c6; try clear c7; try clear c8; try clear c9; try clear c10; try clear c16; try clear c21; try clear c24; try clear c30; try clear c32; try clear c37; try clear c40; try clear c41; try clear c41b0; try clear c41b1; try clear c51; try clear p2
      obtain ⟨kq, x89_43, rfl, HA, HJ43, HO_8, HB⟩ := hcut
      have hl8_43 := (Kd.R_reads' HO_8.out).1
      rw [hl8_43] at HO_8
      (try simp only [hl8_43])
      cases kq with
      | zero => exact absurd HA.out (by simp [laws_FnExactShareAmount.j2])
      | succ kj43 =>
       have H := HA.out
       clear HA
       simp only [laws_FnExactShareAmount.j2] at H
       replace H := Own.ifu H; obtain ⟨rfl, H⟩ | ⟨rfl, H⟩ := H
       ·
        exact absurd (Option.some.inj H) (by rw [hr_.out]; decide)
       replace H := Own.bd H; obtain ⟨t195, A57, H⟩ := H
       by_cases c58 : t195 < 0
       ·
        rw [if_pos c58] at H
        replace c58 := decide_eq_true c58
        exact absurd (Option.some.inj H) (by rw [hr_.out]; decide)
       rw [if_neg c58] at H
       replace c58 := decide_eq_false c58
       by_cases c59 : t195 = t184
       rotate_left
       ·
        rw [if_neg c59] at H
        have c59b0 : (t195 == t184) = false := beq_eq_false_iff_ne.mpr c59
        have c59b1 : (t195 != t184) = true := bne_iff_ne.mpr c59
        exact absurd (Option.some.inj H) (by rw [hr_.out]; decide)
       rw [if_pos c59] at H
       have c59b0 : (t195 == t184) = true := beq_iff_eq.mpr c59
       have c59b1 : (t195 != t184) = false := bne_eq_false_iff_eq.mpr c59
       clear c59
       obtain rfl := Option.some.inj H
       go_wp2_with (first | ((with_reducible refine gate_callee (f := 10) rfl ?_); refine goesL_ (some 92) rfl rfl Try.func10 (by kernel_rfl) rfl #[.slice Ao45 t185.length co45, .int .i64 1] rfl Own.ha ?_; (with_reducible refine (laws_heldIntS.calls kj43 _ _ t185 1 t195 _ ?side1 ?side2 A57.out).mono ?_); (case side1 => repeat (first | exact (Kd.R_reads' HO_8.out).2.2 | (with_reducible refine Kd.C_alloc ?_ _) | (with_reducible refine Kd.C_drewN ?_ _) | (with_reducible refine Kd.C_drew ?_))); (case side2 => exact (Kd.R_reads' HO_8.out).2.1); rintro e w' ⟨rfl, ⟨nd, rfl⟩⟩; refine ⟨_, rfl, ?_⟩))
       go_ret
       exact ⟨Own.rr, Own.bl⟩

/-- THE ONE PURE STATEMENT of laws_FnExactShareAmount: yours. -/
def laws_FnExactShareAmount.Pure : Prop := ∀ (a0 : Int) (l1 : List Int), (Lit.int .i64 a0).wf = true → l1.length ≤ maxLen → l1.length * 8 ≤ 140737488351232 → (∀ x ∈ l1, (Lit.int .i64 x).wf = true) → ∃ k, laws_FnExactShareAmount.f k a0 l1 = some true
theorem laws_FnExactShareAmount.walk (P : laws_FnExactShareAmount.Pure) (a0 : Int) (a1 : Option Addr) (len1 cap1 : Nat) (z1 : List Int) (w : World) (w0 : (Lit.int .i64 a0).wf = true) (w1 : (a1 = none ∧ len1 = 0 ∧ cap1 = 0 ∧ z1 = []) ∨ ∃ x, a1 = some x ∧ len1 ≤ cap1 ∧ cap1 ≤ maxLen ∧ z1.length = cap1 ∧ (∀ i, i < z1.length → w.cell? (x.add i) = some (.int .i64 (z1.getD i 0))) ∧ ∀ n ∈ z1, (Lit.int .i64 n).wf = true) (y1 : len1 * 8 ≤ 140737488351232) :
  Calls Try.prog 3 #[.int .i64 a0, .slice a1 len1 cap1] w fun e w' => e = .returned (.bool true) ∧ Below w.heap.size w w' := by
 obtain ⟨l1, rfl, hr1, hm1, hw1, hc1⟩ := ReadsInt.ofRowC w1
 obtain ⟨k, h⟩ := P a0 l1 w0 hm1 y1 hw1
 refine (laws_FnExactShareAmount.calls k a0 _ _ l1 true w (Kd.C_of_reads (d := (0 : Int)) (h1 := fun _ => rfl) hr1) hc1 h ⟨rfl⟩).mono ?_
 rintro e w' ⟨rfl, hd⟩
 exact ⟨rfl, hd⟩

end Go.Proofs.Ythdhcecmjkiepaa.QFnExactShareAmount
