-- Written by a program of this session out of the translation; Lean checks it.
import Derived.Test.YtaallhcmhennkaaQFnRollingx0
import Derived.Test.YtaallhcmhennkaaQFnRollingx1
import Derived.Test.YtaallhcmhennkaaQFnRollingx5
import Derived.Test.YtaallhcmhennkaaQFnRollingx8
import Derived.Test.YtaallhcmhennkaaQFnRollingx10
namespace Go.Proofs.Ytaallhcmhennkaa.QFnRolling
open Go.RowKit Go.Proofs.YtaallhcmhennkaaW.PrintWords Go.Proofs.YtaallhcmhennkaaW.PrintLast Go.Proofs.YtaallhcmhennkaaW.PrintMore
attribute [local go_sem] Instr.field asAgg Own.str_leq Own.str_gtr Own.str_geq
attribute [local go_sem] max2_int min2_int max_two min_two max_three min_three max_four min_four   -- for this text's walks alone
set_option linter.unusedVariables false
set_option linter.unusedSimpArgs false

/-! ### laws_FnRolling: function 3 -/
mutual
def laws_FnRolling.j0 : Nat → Int → Int → Bool → Int → Bool → Bool → List Int → List Int → Option (Bool)
 | 0, _, _, _, _, _, _, _, _ => none
 | k + 1, x4, x6, x7, x8, x9, x49, x365000, x365001 => if x49 = true then (if x6 = x8 then (some (x7 == x9)) else (some false)) else ((impl_IsBusinessDay.f k x365000 x365001 x6).bind fun bt369 => (if bt369.1 = true then (if bt369.2 = true then (laws_FnRolling.j1 k x4 x6 bt369.1 bt369.2 (x6 == x4) x365000 x365001) else (laws_FnRolling.j1 k x4 x6 bt369.1 bt369.2 true x365000 x365001)) else (laws_FnRolling.j1 k x4 x6 bt369.1 bt369.2 true x365000 x365001)))
def laws_FnRolling.j1 : Nat → Int → Int → Bool → Bool → Bool → List Int → List Int → Option (Bool)
 | 0, _, _, _, _, _, _, _ => none
 | k + 1, x4, x6, x10, x11, x74, x365000, x365001 => if x74 = true then (if x10 = true then (some x11) else (some false)) else (if x4 < x6 then ((impl_CountBusinessDays.f k x365000 x365001 (wrap64 ((wrap64 (x4 - 1)) + 1)) x6).bind fun bt371 => (if bt371.2 = true then (some (bt371.1 == 0)) else (some false))) else ((impl_CountBusinessDays.f k x365000 x365001 (wrap64 (x6 + 1)) x4).bind fun bt373 => (if bt373.2 = true then (some (bt373.1 == 0)) else (some false))))
end
def laws_FnRolling.f (k : Nat) (l0 : List Int) : Option (Bool) := (laws_vBig.f l0).bind fun t355 => (if t355 = true then (some true) else ((spec_DrawRollDay.f k l0).bind fun bt356 => ((impl_RollDay.f k bt356.1 bt356.2.1 bt356.2.2.1 bt356.2.2.2).bind fun bt365 => ((spec_RollDay.f k bt356.1 bt356.2.1 bt356.2.2.1 bt356.2.2.2).bind fun bt367 => (if bt365.1 = bt367.1 then (if (bt365.2 != bt367.2) = true then (laws_FnRolling.j0 k bt356.2.2.1 bt365.1 bt365.2 bt367.1 bt367.2 true bt356.1 bt356.2.1) else (laws_FnRolling.j0 k bt356.2.2.1 bt365.1 bt365.2 bt367.1 bt367.2 (!bt365.2) bt356.1 bt356.2.1)) else (laws_FnRolling.j0 k bt356.2.2.1 bt365.1 bt365.2 bt367.1 bt367.2 true bt356.1 bt356.2.1))))))
theorem laws_FnRolling.mono_l : ∀ k, (∀ y0 y1 y2 y3 y4 y5 y6 y7, LeO (laws_FnRolling.j0 k y0 y1 y2 y3 y4 y5 y6 y7) (laws_FnRolling.j0 (k + 1) y0 y1 y2 y3 y4 y5 y6 y7)) ∧ (∀ y0 y1 y2 y3 y4 y5 y6, LeO (laws_FnRolling.j1 k y0 y1 y2 y3 y4 y5 y6) (laws_FnRolling.j1 (k + 1) y0 y1 y2 y3 y4 y5 y6))
 | 0 => ⟨fun _ _ _ _ _ _ _ _ r h => by simp [laws_FnRolling.j0] at h, fun _ _ _ _ _ _ _ r h => by simp [laws_FnRolling.j1] at h⟩
 | k + 1 => by
  obtain ⟨ih0, ih1⟩ := laws_FnRolling.mono_l k
  refine ⟨?_, ?_⟩
  ·
   intro y0 y1 y2 y3 y4 y5 y6 y7
   unfold laws_FnRolling.j0
   repeat' first
   | (with_reducible first | exact ih0 _ _ _ _ _ _ _ _ | exact ih1 _ _ _ _ _ _ _ | exact impl_CountBusinessDays.mono _ _ _ _ _ | exact impl_IsBusinessDay.mono _ _ _ _ | exact impl_RollDay.mono _ _ _ _ _ | exact spec_DrawRollDay.mono _ _ | exact spec_RollDay.mono _ _ _ _ _ | exact LeO.refl _ | exact LeO.none _ | refine LeO.ite ?_ ?_ | refine LeO.bind ?_ (fun _ => ?_))
   | exact ih0 _ _ _ _ _ _ _ _ | exact ih1 _ _ _ _ _ _ _ | exact impl_CountBusinessDays.mono _ _ _ _ _ | exact impl_IsBusinessDay.mono _ _ _ _ | exact impl_RollDay.mono _ _ _ _ _ | exact spec_DrawRollDay.mono _ _ | exact spec_RollDay.mono _ _ _ _ _ | exact LeO.none _ | refine LeO.ite ?_ ?_ | refine LeO.bind ?_ (fun _ => ?_)
  ·
   intro y0 y1 y2 y3 y4 y5 y6
   unfold laws_FnRolling.j1
   repeat' first
   | (with_reducible first | exact ih0 _ _ _ _ _ _ _ _ | exact ih1 _ _ _ _ _ _ _ | exact impl_CountBusinessDays.mono _ _ _ _ _ | exact impl_IsBusinessDay.mono _ _ _ _ | exact impl_RollDay.mono _ _ _ _ _ | exact spec_DrawRollDay.mono _ _ | exact spec_RollDay.mono _ _ _ _ _ | exact LeO.refl _ | exact LeO.none _ | refine LeO.ite ?_ ?_ | refine LeO.bind ?_ (fun _ => ?_))
   | exact ih0 _ _ _ _ _ _ _ _ | exact ih1 _ _ _ _ _ _ _ | exact impl_CountBusinessDays.mono _ _ _ _ _ | exact impl_IsBusinessDay.mono _ _ _ _ | exact impl_RollDay.mono _ _ _ _ _ | exact spec_DrawRollDay.mono _ _ | exact spec_RollDay.mono _ _ _ _ _ | exact LeO.none _ | refine LeO.ite ?_ ?_ | refine LeO.bind ?_ (fun _ => ?_)
theorem laws_FnRolling.mono : ∀ a0 k, LeO (laws_FnRolling.f k a0) (laws_FnRolling.f (k + 1) a0) := by
 intro a0 k
 obtain ⟨ih0, ih1⟩ := laws_FnRolling.mono_l k
 unfold laws_FnRolling.f
 repeat' first
   | (with_reducible first | exact ih0 _ _ _ _ _ _ _ _ | exact ih1 _ _ _ _ _ _ _ | exact impl_CountBusinessDays.mono _ _ _ _ _ | exact impl_IsBusinessDay.mono _ _ _ _ | exact impl_RollDay.mono _ _ _ _ _ | exact spec_DrawRollDay.mono _ _ | exact spec_RollDay.mono _ _ _ _ _ | exact LeO.refl _ | exact LeO.none _ | refine LeO.ite ?_ ?_ | refine LeO.bind ?_ (fun _ => ?_))
   | exact ih0 _ _ _ _ _ _ _ _ | exact ih1 _ _ _ _ _ _ _ | exact impl_CountBusinessDays.mono _ _ _ _ _ | exact impl_IsBusinessDay.mono _ _ _ _ | exact impl_RollDay.mono _ _ _ _ _ | exact spec_DrawRollDay.mono _ _ | exact spec_RollDay.mono _ _ _ _ _ | exact LeO.none _ | refine LeO.ite ?_ ?_ | refine LeO.bind ?_ (fun _ => ?_)
set_option maxHeartbeats 8000000 in
set_option maxRecDepth 100000 in
theorem laws_FnRolling.calls (k : Nat) (A0 : Option Addr) (c0 : Nat) (l0 : List Int) (r : Bool) (w : World) (hr0 : Kd.C (Kd.int .u8) w A0 l0.length l0) (hc0 : l0.length ≤ c0) (h : laws_FnRolling.f k l0 = some r) (hr_ : Aside0 (r = true)) :
  Calls Try.prog 3 #[.slice A0 l0.length c0] w fun e w' => e = .returned (.bool r) ∧ Below w.heap.size w w' := by
 have hu26 := Try.underlying26
 have HR0 := Aside0.mk hr0
 have HC0 := Aside0.mk hc0
 clear hr0 hc0
 have HB := Aside0.mk (Below.refl w.heap.size w)
 have H : ((laws_vBig.f l0).bind fun t355 => (if t355 = true then (some true) else ((spec_DrawRollDay.f k l0).bind fun bt356 => ((impl_RollDay.f k bt356.1 bt356.2.1 bt356.2.2.1 bt356.2.2.2).bind fun bt365 => ((spec_RollDay.f k bt356.1 bt356.2.1 bt356.2.2.1 bt356.2.2.2).bind fun bt367 => (if bt365.1 = bt367.1 then (if (bt365.2 != bt367.2) = true then (laws_FnRolling.j0 k bt356.2.2.1 bt365.1 bt365.2 bt367.1 bt367.2 true bt356.1 bt356.2.1) else (laws_FnRolling.j0 k bt356.2.2.1 bt365.1 bt365.2 bt367.1 bt367.2 (!bt365.2) bt356.1 bt356.2.1)) else (laws_FnRolling.j0 k bt356.2.2.1 bt365.1 bt365.2 bt367.1 bt367.2 true bt356.1 bt356.2.1))))))) = some r := h
 clear h
 replace H := Option.bind_eq_some_iff.mp H
 obtain ⟨t355, A20, H⟩ := H
 have A2 := Aside0.mk A20
 clear A20
 by_cases c3 : t355 = true
 ·
  subst c3
  rw [if_pos rfl] at H
  obtain rfl := Option.some.inj H
  go_enter Try.func3, Try.ntmps3
  go_wp2_with (first | ((with_reducible refine gate_callee (f := 5) rfl ?_); refine goesL_ (some 17) rfl rfl Try.func5 (by kernel_rfl) rfl #[.slice A0 l0.length c0] rfl Own.ha ?_; (with_reducible refine (laws_vBig.calls _ _ l0 true _ ?side1 ?side2 A2.out).mono ?_); (case side1 => repeat (first | exact HR0.out | (with_reducible refine Kd.C_alloc ?_ _) | (with_reducible refine Kd.C_drewN ?_ _) | (with_reducible refine Kd.C_drew ?_))); (case side2 => exact HC0.out); rintro e w' ⟨rfl, ⟨nd, rfl⟩⟩; refine ⟨_, rfl, ?_⟩))
  go_ret
  exact ⟨by first | rfl | (simp [*, errW_none, errW_some] <;> rfl), Own.bl⟩
 ·
  replace c3 := Bool.eq_false_iff.mpr c3
  subst c3
  rw [if_neg (show ¬ (false = true) by decide)] at H
  replace H := Option.bind_eq_some_iff.mp H
  obtain ⟨⟨t356, t359, t362, t363⟩, A40, H⟩ := H
  replace H : ((impl_RollDay.f k t356 t359 t362 t363).bind fun bt365 => ((spec_RollDay.f k t356 t359 t362 t363).bind fun bt367 => (if bt365.1 = bt367.1 then (if (bt365.2 != bt367.2) = true then (laws_FnRolling.j0 k t362 bt365.1 bt365.2 bt367.1 bt367.2 true t356 t359) else (laws_FnRolling.j0 k t362 bt365.1 bt365.2 bt367.1 bt367.2 (!bt365.2) t356 t359)) else (laws_FnRolling.j0 k t362 bt365.1 bt365.2 bt367.1 bt367.2 true t356 t359)))) = some r := H
  have A4 := Aside0.mk A40
  clear A40
  replace H := Option.bind_eq_some_iff.mp H
  obtain ⟨⟨t365, t366⟩, A50, H⟩ := H
  replace H : ((spec_RollDay.f k t356 t359 t362 t363).bind fun bt367 => (if t365 = bt367.1 then (if (t366 != bt367.2) = true then (laws_FnRolling.j0 k t362 t365 t366 bt367.1 bt367.2 true t356 t359) else (laws_FnRolling.j0 k t362 t365 t366 bt367.1 bt367.2 (!t366) t356 t359)) else (laws_FnRolling.j0 k t362 t365 t366 bt367.1 bt367.2 true t356 t359))) = some r := H
  have A5 := Aside0.mk A50
  clear A50
  replace H := Option.bind_eq_some_iff.mp H
  obtain ⟨⟨t367, t368⟩, A60, H⟩ := H
  replace H : (if t365 = t367 then (if (t366 != t368) = true then (laws_FnRolling.j0 k t362 t365 t366 t367 t368 true t356 t359) else (laws_FnRolling.j0 k t362 t365 t366 t367 t368 (!t366) t356 t359)) else (laws_FnRolling.j0 k t362 t365 t366 t367 t368 true t356 t359)) = some r := H
  have A6 := Aside0.mk A60
  clear A60
  have HC7 := Aside0.mk H
  clear H
  go_enter Try.func3, Try.ntmps3
  go_upto_region 6 with (first | ((with_reducible refine gate_callee (f := 5) rfl ?_); refine goesL_ (some 17) rfl rfl Try.func5 (by kernel_rfl) rfl #[.slice A0 l0.length c0] rfl Own.ha ?_; (with_reducible refine (laws_vBig.calls _ _ l0 false _ ?side1 ?side2 A2.out).mono ?_); (case side1 => repeat (first | exact HR0.out | (with_reducible refine Kd.C_alloc ?_ _) | (with_reducible refine Kd.C_drewN ?_ _) | (with_reducible refine Kd.C_drew ?_))); (case side2 => exact HC0.out); rintro e w' ⟨rfl, ⟨nd, rfl⟩⟩; refine ⟨_, rfl, ?_⟩) | ((with_reducible refine gate_callee (f := 6) rfl ?_); refine goesL_ (some 20) rfl rfl Try.func6 (by kernel_rfl) rfl #[.slice A0 l0.length c0] rfl Own.ha ?_; (with_reducible refine (spec_DrawRollDay.calls k _ _ l0 t356 t359 t362 t363 _ ?side1 ?side2 A4.out).mono ?_); (case side1 => repeat (first | exact HR0.out | (with_reducible refine Kd.C_alloc ?_ _) | (with_reducible refine Kd.C_drewN ?_ _) | (with_reducible refine Kd.C_drew ?_))); (case side2 => exact HC0.out); rintro e w8 ⟨v357, v360, rfl, ho0, ho1, hb⟩; refine ⟨_, rfl, ?_⟩; have n0_ := Aside0.mk (Kd.R_lower ho0 (below_size Own.bl)); have n1_ := Aside0.mk (Kd.R_lower ho1 (below_size Own.bl)); have n2_ := Own.bs hb; clear HB; have HO358 := n0_; have HO361 := n1_; have HB := n2_; clear n0_ n1_ n2_; (try clear hb); (try clear hk); (try clear ho0); (try clear ho1)) | ((with_reducible refine gate_dst (N := 3) rfl ?_); refine box_event ?hg (N := 3) ?hd (cs := #[.slice none 0 0, .slice none 0 0]) (t := 26) ?hr ?_; (case hd => rfl); (case hg => rfl); (case hr => first | (go_simp; done) | (go_simp; rfl)); intro gb364 hg w9 hbox hb; have n0_ := Aside0.mk (Kd.R_below (by (with_reducible repeat (first | apply Kd.R_alloc | apply Kd.R_drewN | apply Kd.R_drew)); exact HO358.out) hb); have n1_ := Aside0.mk (Kd.R_below (by (with_reducible repeat (first | apply Kd.R_alloc | apply Kd.R_drewN | apply Kd.R_drew)); exact HO361.out) hb); have n2_ := Own.bs hb; have n3_ := Aside0.mk (hbox); have n4_ := (Own.gs hg : Aside0 (w.heap.size ≤ gb364)); have n5_ := n4_; clear HO358; clear HO361; clear HB; have HO358 := n0_; have HO361 := n1_; have HB := n2_; have BK364 := n3_; have GW364 := n4_; have GE364 := n5_; clear n0_ n1_ n2_ n3_ n4_ n5_; clear hb hbox hg; obtain ⟨Ao10, co10, eo10⟩ := Kd.R_slice HO358.out; subst eo10; obtain ⟨z11_0, z11_1, y11_0, y11_1⟩ := Own.box2 BK364.out; obtain ⟨Ao12, co12, eo12⟩ := Kd.R_slice HO361.out; subst eo12) | ((with_reducible refine gate_callee (f := 7) rfl ?_); refine goesL_ (some 28) rfl rfl Try.func7 (by kernel_rfl) rfl #[.agg #[.slice Ao10 t356.length co10, .slice Ao12 t359.length co12], .int .i64 t362, .int .i64 t363] rfl Own.ha ?_; (with_reducible refine (impl_RollDay.calls k _ _ t356 _ _ t359 t362 t363 t365 t366 _ ?side1 ?side2 ?side3 ?side4 A5.out).mono ?_); (case side1 => refine (Kd.R_reads' (e := 3) (base := w.heap.size) (ok := fun k_ => some k_ ≠ (.slice Ao12 t359.length co12 : Value).ownBlock) (n := t356.length) (c := co10) ?_).2.2; exact (by (with_reducible repeat (first | apply Kd.R_alloc | apply Kd.R_drewN | apply Kd.R_drew)); exact (Kd.R_mono (Kd.R_far (p := ⟨gb364, 1, none⟩) (Kd.R_far (p := ⟨gb364, 0, none⟩) (Kd.R_types HO358.out BK364.out (by decide)) (fun _ hk => hk.2) (.slice Ao10 t356.length co10)) (fun _ hk => hk.2) (.slice Ao12 t359.length co12)) (fun _ h_ => h_.1)))); (case side2 => exact (Kd.R_reads' HO358.out).2.1); (case side3 => refine (Kd.R_reads' (e := 3) (base := w.heap.size) (ok := fun k_ => some k_ ≠ (.slice Ao10 t356.length co10 : Value).ownBlock) (n := t359.length) (c := co12) ?_).2.2; exact (by (with_reducible repeat (first | apply Kd.R_alloc | apply Kd.R_drewN | apply Kd.R_drew)); exact (Kd.R_mono (Kd.R_far (p := ⟨gb364, 1, none⟩) (Kd.R_far (p := ⟨gb364, 0, none⟩) (Kd.R_types HO361.out BK364.out (by decide)) (fun _ hk => hk.2) (.slice Ao10 t356.length co10)) (fun _ hk => hk.2) (.slice Ao12 t359.length co12)) (fun _ h_ => h_.1)))); (case side4 => exact (Kd.R_reads' HO361.out).2.1); rintro e w13 ⟨rfl, hb⟩; refine ⟨_, rfl, ?_⟩; have n0_ := Aside0.mk (Kd.R_below (by (with_reducible repeat (first | apply Kd.R_alloc | apply Kd.R_drewN | apply Kd.R_drew)); exact (Kd.R_mono (Kd.R_far (p := ⟨gb364, 1, none⟩) (Kd.R_far (p := ⟨gb364, 0, none⟩) (Kd.R_types HO358.out BK364.out (by decide)) (fun _ hk => hk.2) (.slice Ao10 t356.length co10)) (fun _ hk => hk.2) (.slice Ao12 t359.length co12)) (fun _ h_ => h_.1))) hb); have n1_ := Aside0.mk (Kd.R_below (by (with_reducible repeat (first | apply Kd.R_alloc | apply Kd.R_drewN | apply Kd.R_drew)); exact (Kd.R_mono (Kd.R_far (p := ⟨gb364, 1, none⟩) (Kd.R_far (p := ⟨gb364, 0, none⟩) (Kd.R_types HO361.out BK364.out (by decide)) (fun _ hk => hk.2) (.slice Ao10 t356.length co10)) (fun _ hk => hk.2) (.slice Ao12 t359.length co12)) (fun _ h_ => h_.1))) hb); have n2_ := Aside0.mk (blk_below (g := gb364) (o := .cells #[.slice Ao10 t356.length co10, .slice Ao12 t359.length co12] 26 (0, 0)) (by (with_reducible repeat (first | refine blk_drewN ?_ _ | refine blk_drew ?_ | refine blk_alloc ?_ _)); refine blk_put (cs := #[.slice Ao10 t356.length co10, .slice none 0 0]) ?_ 1 _ rfl; (with_reducible repeat (first | refine blk_drewN ?_ _ | refine blk_drew ?_ | refine blk_alloc ?_ _)); refine blk_put (cs := #[.slice none 0 0, .slice none 0 0]) ?_ 0 _ rfl; (with_reducible repeat (first | refine blk_drewN ?_ _ | refine blk_drew ?_ | refine blk_alloc ?_ _)); exact BK364.out) hb); have n3_ := Own.bs hb; clear HO358; clear HO361; clear BK364; clear HB; have HO358 := n0_; have HO361 := n1_; have BK364 := n2_; have HB := n3_; clear n0_ n1_ n2_ n3_; (try clear hb); (try clear hk); obtain ⟨z14_0, z14_1, y14_0, y14_1⟩ := Own.box2 BK364.out) | ((with_reducible refine gate_callee (f := 8) rfl ?_); refine goesL_ (some 35) rfl rfl Try.func8 (by kernel_rfl) rfl #[.agg #[.slice Ao10 t356.length co10, .slice Ao12 t359.length co12], .int .i64 t362, .int .i64 t363] rfl Own.ha ?_; (with_reducible refine (spec_RollDay.calls k _ _ t356 _ _ t359 t362 t363 t367 t368 _ ?side1 ?side2 ?side3 ?side4 A6.out).mono ?_); (case side1 => repeat (first | exact (Kd.R_reads' HO358.out).2.2 | (with_reducible refine Kd.C_alloc ?_ _) | (with_reducible refine Kd.C_drewN ?_ _) | (with_reducible refine Kd.C_drew ?_))); (case side2 => exact (Kd.R_reads' HO358.out).2.1); (case side3 => repeat (first | exact (Kd.R_reads' HO361.out).2.2 | (with_reducible refine Kd.C_alloc ?_ _) | (with_reducible refine Kd.C_drewN ?_ _) | (with_reducible refine Kd.C_drew ?_))); (case side4 => exact (Kd.R_reads' HO361.out).2.1); rintro e w15 ⟨rfl, hb⟩; refine ⟨_, rfl, ?_⟩; have n0_ := Aside0.mk (Kd.R_below (by (with_reducible repeat (first | apply Kd.R_alloc | apply Kd.R_drewN | apply Kd.R_drew)); exact HO358.out) hb); have n1_ := Aside0.mk (Kd.R_below (by (with_reducible repeat (first | apply Kd.R_alloc | apply Kd.R_drewN | apply Kd.R_drew)); exact HO361.out) hb); have n2_ := Own.bb BK364.out hb; have n3_ := Own.bs hb; clear HO358; clear HO361; clear BK364; clear HB; have HO358 := n0_; have HO361 := n1_; have BK364 := n2_; have HB := n3_; clear n0_ n1_ n2_ n3_; (try clear hb); (try clear hk)))
  (try simp only [Act.put, List.setIfInBounds_toArray, List.set_cons_zero, List.set_cons_succ])
  go_cut [49] (fun v49 wc => ∃ (kq : Nat) (x49_6 : Bool), v49 = .bool x49_6 ∧ Aside0 (laws_FnRolling.j0 kq t362 t365 t366 t367 t368 x49_6 t356 t359 = some r) ∧ Aside0 (kq ≤ k) ∧ Aside0 (Kd.R (Kd.int .i64) 3 wc w.heap.size (fun k_ => some k_ ≠ ((.slice Ao12 t359.length co12) : Value).ownBlock) (.slice Ao10 t356.length co10) t356) ∧ Aside0 (Kd.R (Kd.int .i64) 3 wc w.heap.size (fun k_ => some k_ ≠ ((.slice Ao10 t356.length co10) : Value).ownBlock) (.slice Ao12 t359.length co12) t359) ∧ Aside0 (wc.heap[gb364]? = some (.cells #[(.slice Ao10 t356.length co10), (.slice Ao12 t359.length co12)] 26 (0, 0))) ∧ Aside0 (Below w.heap.size w wc))
  case first =>
   have H := HC7.out
   clear HC7
   by_cases c16 : t365 = t367
   ·
    rw [if_pos c16] at H
    have c16b0 : (t365 == t367) = true := beq_iff_eq.mpr c16
    have c16b1 : (t365 != t367) = false := bne_eq_false_iff_eq.mpr c16
    clear c16
    (first | rw [c16b0] | (simp only [i64_w, i32_w]; rw [c16b0]) | skip)
    by_cases c17 : (t366 != t368) = true
    ·
     rw [if_pos c17] at H
     have c17b0 : (t366 != t368) = true := c17
     (try (have c17b1 : decide (t366 = t368) = false := by simpa using c17))
     (try (have c17b2 : (t366 == t368) = false := by simpa using c17))
     (try (have c17b3 : ¬ (t366 = t368) := by simpa using c17))
     clear c17
     have H' := Aside0.mk H
     clear H
     go_wp2
     go_meet
     case rel => exact ⟨_, (true), (by first | rfl | (simp; done) | (simp [*]; done)), H', ⟨by first | omega | exact Nat.le_refl _⟩, ⟨by (with_reducible repeat (first | apply Kd.R_alloc | apply Kd.R_drewN | apply Kd.R_drew)); exact HO358.out⟩, ⟨by (with_reducible repeat (first | apply Kd.R_alloc | apply Kd.R_drewN | apply Kd.R_drew)); exact HO361.out⟩, ⟨Own.bk⟩, ⟨Own.bl⟩⟩
    ·
     rw [if_neg c17] at H
     have c17b0 : (t366 != t368) = false := by simpa using c17
     (try (have c17b1 : decide (t366 = t368) = true := by simpa using c17))
     (try (have c17b2 : (t366 == t368) = true := by simpa using c17))
     clear c17
     have H' := Aside0.mk H
     clear H
     go_wp2
     go_meet
     case rel => exact ⟨_, (!t366), (by first | rfl | (simp; done) | (simp [*]; done)), H', ⟨by first | omega | exact Nat.le_refl _⟩, ⟨by (with_reducible repeat (first | apply Kd.R_alloc | apply Kd.R_drewN | apply Kd.R_drew)); exact HO358.out⟩, ⟨by (with_reducible repeat (first | apply Kd.R_alloc | apply Kd.R_drewN | apply Kd.R_drew)); exact HO361.out⟩, ⟨Own.bk⟩, ⟨Own.bl⟩⟩
   ·
    rw [if_neg c16] at H
    have c16b0 : (t365 == t367) = false := beq_eq_false_iff_ne.mpr c16
    have c16b1 : (t365 != t367) = true := bne_iff_ne.mpr c16
    (first | rw [c16b0] | (simp only [i64_w, i32_w]; rw [c16b0]) | skip)
    have H' := Aside0.mk H
    clear H
    go_wp2
    go_meet
    case rel => exact ⟨_, (true), (by first | rfl | (simp; done) | (simp [*]; done)), H', ⟨by first | omega | exact Nat.le_refl _⟩, ⟨by (with_reducible repeat (first | apply Kd.R_alloc | apply Kd.R_drewN | apply Kd.R_drew)); exact HO358.out⟩, ⟨by (with_reducible repeat (first | apply Kd.R_alloc | apply Kd.R_drewN | apply Kd.R_drew)); exact HO361.out⟩, ⟨Own.bk⟩, ⟨Own.bl⟩⟩
  case rest =>
   clear HC7
   try clear c1; try clear p2; try clear c3; try clear c5; try clear c6; try clear c7; try clear c8; try clear c16; try clear c16b0; try clear c16b1; try clear c17; try clear c17b0; try clear c17b1; try clear c17b2; try clear z11_0 z11_1; try clear z14_0 z14_1; try clear y11_0 y11_1; try clear y14_0 y14_1
   obtain ⟨kq, x49_6, rfl, HA, HJ6, HO_365000, HO_365001, BK364, HB⟩ := hcut
   cases kq with
   | zero => exact absurd HA.out (by simp [laws_FnRolling.j0])
   | succ kj6 =>
    have H := HA.out
    clear HA
    simp only [laws_FnRolling.j0] at H
    by_cases c18 : x49_6 = true
    ·
     subst c18
     rw [if_pos rfl] at H
     by_cases c19 : t365 = t367
     ·
      rw [if_pos c19] at H
      have c19b0 : (t365 == t367) = true := beq_iff_eq.mpr c19
      have c19b1 : (t365 != t367) = false := bne_eq_false_iff_eq.mpr c19
      clear c19
      obtain rfl := Option.some.inj H
      go_wp2
      go_ret
      exact ⟨by first | rfl | (simp [*, errW_none, errW_some] <;> rfl), Own.bl⟩
     ·
      rw [if_neg c19] at H
      have c19b0 : (t365 == t367) = false := beq_eq_false_iff_ne.mpr c19
      have c19b1 : (t365 != t367) = true := bne_iff_ne.mpr c19
      exact absurd (Option.some.inj H) (by rw [hr_.out]; decide)
    ·
     replace c18 := Bool.eq_false_iff.mpr c18
     subst c18
     rw [if_neg (show ¬ (false = true) by decide)] at H
     replace H := Option.bind_eq_some_iff.mp H
     obtain ⟨⟨t369, t370⟩, A200, H⟩ := H
     replace H : (if t369 = true then (if t370 = true then (laws_FnRolling.j1 kj6 t362 t365 t369 t370 (t365 == t362) t356 t359) else (laws_FnRolling.j1 kj6 t362 t365 t369 t370 true t356 t359)) else (laws_FnRolling.j1 kj6 t362 t365 t369 t370 true t356 t359)) = some r := H
     have A20 := Aside0.mk A200
     clear A200
     have HC21 := Aside0.mk H
     clear H
     obtain ⟨z22_0, z22_1, y22_0, y22_1⟩ := Own.box2 BK364.out
     go_upto_region 9 with (first | ((with_reducible refine gate_callee (f := 9) rfl ?_); refine goesL_ (some 61) rfl rfl Try.func9 (by kernel_rfl) rfl #[.agg #[.slice Ao10 t356.length co10, .slice Ao12 t359.length co12], .int .i64 t365] rfl Own.ha ?_; (with_reducible refine (impl_IsBusinessDay.calls kj6 _ _ t356 _ _ t359 t365 t369 t370 _ ?side1 ?side2 ?side3 ?side4 A20.out).mono ?_); (case side1 => repeat (first | exact (Kd.R_reads' HO_365000.out).2.2 | (with_reducible refine Kd.C_alloc ?_ _) | (with_reducible refine Kd.C_drewN ?_ _) | (with_reducible refine Kd.C_drew ?_))); (case side2 => exact (Kd.R_reads' HO_365000.out).2.1); (case side3 => repeat (first | exact (Kd.R_reads' HO_365001.out).2.2 | (with_reducible refine Kd.C_alloc ?_ _) | (with_reducible refine Kd.C_drewN ?_ _) | (with_reducible refine Kd.C_drew ?_))); (case side4 => exact (Kd.R_reads' HO_365001.out).2.1); rintro e w23 ⟨rfl, hb⟩; refine ⟨_, rfl, ?_⟩; have n0_ := Aside0.mk (Kd.R_below (by (with_reducible repeat (first | apply Kd.R_alloc | apply Kd.R_drewN | apply Kd.R_drew)); exact HO_365000.out) hb); have n1_ := Aside0.mk (Kd.R_below (by (with_reducible repeat (first | apply Kd.R_alloc | apply Kd.R_drewN | apply Kd.R_drew)); exact HO_365001.out) hb); have n2_ := Own.bb BK364.out hb; have n3_ := Own.bs hb; clear HO_365000; clear HO_365001; clear BK364; clear HB; have HO_365000 := n0_; have HO_365001 := n1_; have BK364 := n2_; have HB := n3_; clear n0_ n1_ n2_ n3_; (try clear hb)))
     (try simp only [Act.put, List.setIfInBounds_toArray, List.set_cons_zero, List.set_cons_succ])
     go_cut [74] (fun v74 wc => ∃ (kq : Nat) (x74_20 : Bool), v74 = .bool x74_20 ∧ Aside0 (laws_FnRolling.j1 kq t362 t365 t369 t370 x74_20 t356 t359 = some r) ∧ Aside0 (kq ≤ kj6) ∧ Aside0 (Kd.R (Kd.int .i64) 3 wc w.heap.size (fun k_ => some k_ ≠ ((.slice Ao12 t359.length co12) : Value).ownBlock) (.slice Ao10 t356.length co10) t356) ∧ Aside0 (Kd.R (Kd.int .i64) 3 wc w.heap.size (fun k_ => some k_ ≠ ((.slice Ao10 t356.length co10) : Value).ownBlock) (.slice Ao12 t359.length co12) t359) ∧ Aside0 (wc.heap[gb364]? = some (.cells #[(.slice Ao10 t356.length co10), (.slice Ao12 t359.length co12)] 26 (0, 0))) ∧ Aside0 (Below w.heap.size w wc))
     case first =>
      have H := HC21.out
      clear HC21
      by_cases c24 : t369 = true
      ·
       subst c24
       rw [if_pos rfl] at H
       by_cases c25 : t370 = true
       ·
        subst c25
        rw [if_pos rfl] at H
        have H' := Aside0.mk H
        clear H
        go_wp2
        go_meet
        case rel => exact ⟨_, ((t365 == t362)), (by first | rfl | (simp; done) | (simp [*]; done)), H', ⟨by have := HJ6.out; first | omega | exact Nat.le_refl _⟩, ⟨by (with_reducible repeat (first | apply Kd.R_alloc | apply Kd.R_drewN | apply Kd.R_drew)); exact HO_365000.out⟩, ⟨by (with_reducible repeat (first | apply Kd.R_alloc | apply Kd.R_drewN | apply Kd.R_drew)); exact HO_365001.out⟩, ⟨Own.bk⟩, ⟨Own.bl⟩⟩
       ·
        replace c25 := Bool.eq_false_iff.mpr c25
        subst c25
        rw [if_neg (show ¬ (false = true) by decide)] at H
        have H' := Aside0.mk H
        clear H
        go_wp2
        go_meet
        case rel => exact ⟨_, (true), (by first | rfl | (simp; done) | (simp [*]; done)), H', ⟨by have := HJ6.out; first | omega | exact Nat.le_refl _⟩, ⟨by (with_reducible repeat (first | apply Kd.R_alloc | apply Kd.R_drewN | apply Kd.R_drew)); exact HO_365000.out⟩, ⟨by (with_reducible repeat (first | apply Kd.R_alloc | apply Kd.R_drewN | apply Kd.R_drew)); exact HO_365001.out⟩, ⟨Own.bk⟩, ⟨Own.bl⟩⟩
      ·
       replace c24 := Bool.eq_false_iff.mpr c24
       subst c24
       rw [if_neg (show ¬ (false = true) by decide)] at H
       have H' := Aside0.mk H
       clear H
       go_wp2
       go_meet
       case rel => exact ⟨_, (true), (by first | rfl | (simp; done) | (simp [*]; done)), H', ⟨by have := HJ6.out; first | omega | exact Nat.le_refl _⟩, ⟨by (with_reducible repeat (first | apply Kd.R_alloc | apply Kd.R_drewN | apply Kd.R_drew)); exact HO_365000.out⟩, ⟨by (with_reducible repeat (first | apply Kd.R_alloc | apply Kd.R_drewN | apply Kd.R_drew)); exact HO_365001.out⟩, ⟨Own.bk⟩, ⟨Own.bl⟩⟩
     case rest =>
      clear HC21
      try clear c1; try clear c2; try clear p2; try clear c3; try clear c5; try clear c6; try clear c7; try clear c8; try clear c9; try clear c16; try clear c16b0; try clear c16b1; try clear c17; try clear c17b0; try clear c17b1; try clear c17b2; try clear c18; try clear c19; try clear c19b0; try clear c19b1; try clear c24; try clear c25; try clear z11_0 z11_1; try clear z14_0 z14_1; try clear z22_0 z22_1; try clear y11_0 y11_1; try clear y14_0 y14_1; try clear y22_0 y22_1; try clear p2
      obtain ⟨kq, x74_20, rfl, HA, HJ20, HO_365000, HO_365001, BK364, HB⟩ := hcut
      cases kq with
      | zero => exact absurd HA.out (by simp [laws_FnRolling.j1])
      | succ kj20 =>
       have H := HA.out
       clear HA
       simp only [laws_FnRolling.j1] at H
       by_cases c26 : x74_20 = true
       ·
        subst c26
        rw [if_pos rfl] at H
        by_cases c27 : t369 = true
        ·
         subst c27
         rw [if_pos rfl] at H
         obtain rfl := Option.some.inj H
         go_wp2
         go_ret
         exact ⟨by first | rfl | (simp [*, errW_none, errW_some] <;> rfl), Own.bl⟩
        ·
         replace c27 := Bool.eq_false_iff.mpr c27
         subst c27
         rw [if_neg (show ¬ (false = true) by decide)] at H
         exact absurd (Option.some.inj H) (by rw [hr_.out]; decide)
       ·
        replace c26 := Bool.eq_false_iff.mpr c26
        subst c26
        rw [if_neg (show ¬ (false = true) by decide)] at H
        by_cases c28 : t362 < t365
        ·
         rw [if_pos c28] at H
         have c28b0 : decide (t362 < t365) = true := decide_eq_true c28
         clear c28
         replace H := Option.bind_eq_some_iff.mp H
         obtain ⟨⟨t371, t372⟩, A290, H⟩ := H
         replace H : (if t372 = true then (some (t371 == 0)) else (some false)) = some r := H
         have A29 := Aside0.mk A290
         clear A290
         by_cases c30 : t372 = true
         ·
          subst c30
          rw [if_pos rfl] at H
          obtain rfl := Option.some.inj H
          obtain ⟨z31_0, z31_1, y31_0, y31_1⟩ := Own.box2 BK364.out
          go_wp2_with (first | ((with_reducible refine gate_callee (f := 10) rfl ?_); refine goesL_ (some 92) rfl rfl Try.func10 (by kernel_rfl) rfl #[.agg #[.slice Ao10 t356.length co10, .slice Ao12 t359.length co12], .int .i64 (wrap64 ((wrap64 (t362 - 1)) + 1)), .int .i64 t365] rfl Own.ha ?_; (with_reducible refine (impl_CountBusinessDays.calls kj20 _ _ t356 _ _ t359 (wrap64 ((wrap64 (t362 - 1)) + 1)) t365 t371 true _ ?side1 ?side2 ?side3 ?side4 A29.out).mono ?_); (case side1 => repeat (first | exact (Kd.R_reads' HO_365000.out).2.2 | (with_reducible refine Kd.C_alloc ?_ _) | (with_reducible refine Kd.C_drewN ?_ _) | (with_reducible refine Kd.C_drew ?_))); (case side2 => exact (Kd.R_reads' HO_365000.out).2.1); (case side3 => repeat (first | exact (Kd.R_reads' HO_365001.out).2.2 | (with_reducible refine Kd.C_alloc ?_ _) | (with_reducible refine Kd.C_drewN ?_ _) | (with_reducible refine Kd.C_drew ?_))); (case side4 => exact (Kd.R_reads' HO_365001.out).2.1); rintro e w32 ⟨rfl, hb⟩; refine ⟨_, rfl, ?_⟩; have n0_ := Aside0.mk (Kd.R_below (by (with_reducible repeat (first | apply Kd.R_alloc | apply Kd.R_drewN | apply Kd.R_drew)); exact HO_365000.out) hb); have n1_ := Aside0.mk (Kd.R_below (by (with_reducible repeat (first | apply Kd.R_alloc | apply Kd.R_drewN | apply Kd.R_drew)); exact HO_365001.out) hb); have n2_ := Own.bb BK364.out hb; have n3_ := Own.bs hb; clear HO_365000; clear HO_365001; clear BK364; clear HB; have HO_365000 := n0_; have HO_365001 := n1_; have BK364 := n2_; have HB := n3_; clear n0_ n1_ n2_ n3_; (try clear hb)))
          go_ret
          exact ⟨by first | rfl | (simp [*, errW_none, errW_some] <;> rfl), Own.bl⟩
         ·
          replace c30 := Bool.eq_false_iff.mpr c30
          subst c30
          rw [if_neg (show ¬ (false = true) by decide)] at H
          exact absurd (Option.some.inj H) (by rw [hr_.out]; decide)
        ·
         rw [if_neg c28] at H
         have c28b0 : decide (t362 < t365) = false := decide_eq_false c28
         clear c28
         replace H := Option.bind_eq_some_iff.mp H
         obtain ⟨⟨t373, t374⟩, A330, H⟩ := H
         replace H : (if t374 = true then (some (t373 == 0)) else (some false)) = some r := H
         have A33 := Aside0.mk A330
         clear A330
         by_cases c34 : t374 = true
         ·
          subst c34
          rw [if_pos rfl] at H
          obtain rfl := Option.some.inj H
          obtain ⟨z35_0, z35_1, y35_0, y35_1⟩ := Own.box2 BK364.out
          go_wp2_with (first | ((with_reducible refine gate_callee (f := 10) rfl ?_); refine goesL_ (some 92) rfl rfl Try.func10 (by kernel_rfl) rfl #[.agg #[.slice Ao10 t356.length co10, .slice Ao12 t359.length co12], .int .i64 (wrap64 (t365 + 1)), .int .i64 t362] rfl Own.ha ?_; (with_reducible refine (impl_CountBusinessDays.calls kj20 _ _ t356 _ _ t359 (wrap64 (t365 + 1)) t362 t373 true _ ?side1 ?side2 ?side3 ?side4 A33.out).mono ?_); (case side1 => repeat (first | exact (Kd.R_reads' HO_365000.out).2.2 | (with_reducible refine Kd.C_alloc ?_ _) | (with_reducible refine Kd.C_drewN ?_ _) | (with_reducible refine Kd.C_drew ?_))); (case side2 => exact (Kd.R_reads' HO_365000.out).2.1); (case side3 => repeat (first | exact (Kd.R_reads' HO_365001.out).2.2 | (with_reducible refine Kd.C_alloc ?_ _) | (with_reducible refine Kd.C_drewN ?_ _) | (with_reducible refine Kd.C_drew ?_))); (case side4 => exact (Kd.R_reads' HO_365001.out).2.1); rintro e w36 ⟨rfl, hb⟩; refine ⟨_, rfl, ?_⟩; have n0_ := Aside0.mk (Kd.R_below (by (with_reducible repeat (first | apply Kd.R_alloc | apply Kd.R_drewN | apply Kd.R_drew)); exact HO_365000.out) hb); have n1_ := Aside0.mk (Kd.R_below (by (with_reducible repeat (first | apply Kd.R_alloc | apply Kd.R_drewN | apply Kd.R_drew)); exact HO_365001.out) hb); have n2_ := Own.bb BK364.out hb; have n3_ := Own.bs hb; clear HO_365000; clear HO_365001; clear BK364; clear HB; have HO_365000 := n0_; have HO_365001 := n1_; have BK364 := n2_; have HB := n3_; clear n0_ n1_ n2_ n3_; (try clear hb)))
          go_ret
          exact ⟨by first | rfl | (simp [*, errW_none, errW_some] <;> rfl), Own.bl⟩
         ·
          replace c34 := Bool.eq_false_iff.mpr c34
          subst c34
          rw [if_neg (show ¬ (false = true) by decide)] at H
          exact absurd (Option.some.inj H) (by rw [hr_.out]; decide)

/-- THE ONE PURE STATEMENT of laws_FnRolling: yours. -/
def laws_FnRolling.Pure : Prop := ∀ (l0 : List Int), l0.length ≤ maxLen → l0.length * 1 ≤ 140737488351232 → (∀ x ∈ l0, (Lit.int .u8 x).wf = true) → ∃ k, laws_FnRolling.f k l0 = some true
theorem laws_FnRolling.walk (P : laws_FnRolling.Pure) (a0 : Option Addr) (len0 cap0 : Nat) (z0 : List Int) (w : World) (w0 : (a0 = none ∧ len0 = 0 ∧ cap0 = 0 ∧ z0 = []) ∨ ∃ x, a0 = some x ∧ len0 ≤ cap0 ∧ cap0 ≤ maxLen ∧ z0.length = cap0 ∧ (∀ i, i < z0.length → w.cell? (x.add i) = some (.int .u8 (z0.getD i 0))) ∧ ∀ n ∈ z0, (Lit.int .u8 n).wf = true) (y0 : len0 * 1 ≤ 140737488351232) :
  Calls Try.prog 3 #[.slice a0 len0 cap0] w fun e w' => e = .returned (.bool true) ∧ Below w.heap.size w w' := by
 obtain ⟨l0, rfl, hr0, hm0, hw0, hc0⟩ := ReadsInt.ofRowC w0
 obtain ⟨k, h⟩ := P l0 hm0 y0 hw0
 refine (laws_FnRolling.calls k _ _ l0 true w (Kd.C_of_reads (d := (0 : Int)) (h1 := fun _ => rfl) hr0) hc0 h ⟨rfl⟩).mono ?_
 rintro e w' ⟨rfl, hd⟩
 exact ⟨rfl, hd⟩

end Go.Proofs.Ytaallhcmhennkaa.QFnRolling
