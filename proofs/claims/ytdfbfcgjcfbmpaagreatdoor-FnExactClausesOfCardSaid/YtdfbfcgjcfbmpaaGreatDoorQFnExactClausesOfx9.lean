-- Written by a program of this session out of the translation; Lean checks it.
import Derived.Test.YtdfbfcgjcfbmpaaGreatDoorQFnExactClausesOfx0
import Derived.Test.YtdfbfcgjcfbmpaaGreatDoorQFnExactClausesOfx8
namespace Go.Proofs.YtdfbfcgjcfbmpaaGreatDoor.QFnExactClausesOf
open Go.RowKit Go.Proofs.YtdfbfcgjcfbmpaaGreatDoorW.PrintWords Go.Proofs.YtdfbfcgjcfbmpaaGreatDoorW.PrintLast Go.Proofs.YtdfbfcgjcfbmpaaGreatDoorW.PrintMore
attribute [local go_sem] Instr.field asAgg Own.str_leq Own.str_gtr Own.str_geq
attribute [local go_sem] max2_int min2_int max_two min_two max_three min_three max_four min_four   -- for this text's walks alone
set_option linter.unusedVariables false
set_option linter.unusedSimpArgs false

/-! ### spec_l5Names: function 86 -/
mutual
def spec_l5Names.l0 : Nat → List ByteArray → Int → Int → ByteArray → Int → List (S49) → Option (List ByteArray)
 | 0, _, _, _, _, _, _ => none
 | k + 1, x0, x5, x295000, x295001, x295002, x295003 => if x5 < (x295003.length : Int) then (if 0 ≤ x5 then ((spec_l5Names.f k x0 ((rd_T49 x295003 x5).f0) ((rd_T49 x295003 x5).f1) ((rd_T49 x295003 x5).f2) ((rd_T49 x295003 x5).f3)).bind fun t299 => (spec_l5Names.l0 k t299 (wrap64 (x5 + 1)) x295000 x295001 x295002 x295003)) else (none)) else (some x0)
def spec_l5Names.f : Nat → List ByteArray → Int → ByteArray → Int → List (S49) → Option (List ByteArray)
 | 0, _, _, _, _, _ => none
 | k + 1, l0, a1_0, a1_1, a1_2, l1_3 => if a1_0 = 2 then ((spec_l5Put.f k l0 a1_1).bind fun t295 => (some t295)) else (spec_l5Names.l0 k l0 0 a1_0 a1_1 a1_2 l1_3)
end
theorem spec_l5Names.mono_l : ∀ k, (∀ y0 y1 y2 y3 y4, LeO (spec_l5Names.f k y0 y1 y2 y3 y4) (spec_l5Names.f (k + 1) y0 y1 y2 y3 y4)) ∧ (∀ y0 y1 y2 y3 y4 y5, LeO (spec_l5Names.l0 k y0 y1 y2 y3 y4 y5) (spec_l5Names.l0 (k + 1) y0 y1 y2 y3 y4 y5))
 | 0 => ⟨fun _ _ _ _ _ r h => by simp [spec_l5Names.f] at h, fun _ _ _ _ _ _ r h => by simp [spec_l5Names.l0] at h⟩
 | k + 1 => by
  obtain ⟨ih0, ih1⟩ := spec_l5Names.mono_l k
  refine ⟨?_, ?_⟩
  ·
   intro y0 y1 y2 y3 y4
   unfold spec_l5Names.f
   repeat' first
   | (with_reducible first | exact ih0 _ _ _ _ _ | exact ih1 _ _ _ _ _ _ | exact spec_l5Put.mono _ _ _ | exact LeO.refl _ | exact LeO.none _ | refine LeO.ite ?_ ?_ | refine LeO.bind ?_ (fun _ => ?_))
  ·
   intro y0 y1 y2 y3 y4 y5
   unfold spec_l5Names.l0
   repeat' first
   | (with_reducible first | exact ih0 _ _ _ _ _ | exact ih1 _ _ _ _ _ _ | exact spec_l5Put.mono _ _ _ | exact LeO.refl _ | exact LeO.none _ | refine LeO.ite ?_ ?_ | refine LeO.bind ?_ (fun _ => ?_))
theorem spec_l5Names.mono : ∀ a0 a1 a2 a3 a4 k, LeO (spec_l5Names.f k a0 a1 a2 a3 a4) (spec_l5Names.f (k + 1) a0 a1 a2 a3 a4) := by
 intro a0 a1 a2 a3 a4 k
 obtain ⟨ih0, ih1⟩ := spec_l5Names.mono_l k
 exact ih0 a0 a1 a2 a3 a4
set_option maxHeartbeats 8000000 in
set_option maxRecDepth 100000 in
theorem spec_l5Names.calls (k : Nat) : ∀ (P0_ : Nat → Prop) (A0 : Option Addr) (c0 : Nat) (l0 : List ByteArray) (a1_0 : Int) (a1_1 : ByteArray) (a1_2 : Int) (A1_3 : Option Addr) (c1_3 : Nat) (l1_3 : List (S49)) (r : List ByteArray) (w : World) (hs0 : Kd.V Kd.string 9 w w.heap.size (fun k_ => P0_ k_) (.slice A0 l0.length c0) l0) (hr1_3 : Kd.C k49 w A1_3 l1_3.length l1_3) (hc1_3 : l1_3.length ≤ c1_3) (h : spec_l5Names.f k l0 a1_0 a1_1 a1_2 l1_3 = some r),
  Calls Tryz.prog 86 #[.slice A0 l0.length c0, .agg #[.int .i64 a1_0, .string a1_1, .int .i64 a1_2, .slice A1_3 l1_3.length c1_3]] w fun e w' => ∃ v0_ : Value, e = .returned (v0_) ∧ Kd.V Kd.string 9 w' w.heap.size (fun k_ => (P0_ k_ ∨ w.heap.size ≤ k_)) v0_ r ∧ Below w.heap.size w w' := by
 induction k using Nat.strongRecOn with
 | _ k ih =>
 intro P0_ A0 c0 l0 a1_0 a1_1 a1_2 A1_3 c1_3 l1_3 r w hs0 hr1_3 hc1_3 h
 cases k with
 | zero => exact absurd h (by simp [spec_l5Names.f])
 | succ k =>
 simp only [spec_l5Names.f] at h
 have hu49 := Tryz.underlying49
 have HO0 := Aside0.mk (show Kd.V Kd.string 9 w w.heap.size (fun k_ => (P0_ k_ ∨ w.heap.size ≤ k_)) (.slice A0 l0.length c0) l0 from Kd.V_mono hs0 (fun k_ hk => .inl hk))
 have HR1_3 := Aside0.mk hr1_3
 have HC1_3 := Aside0.mk hc1_3
 clear hr1_3 hc1_3
 have HB := Aside0.mk (Below.refl w.heap.size w)
 have H : (if a1_0 = 2 then ((spec_l5Put.f k l0 a1_1).bind fun t295 => (some t295)) else (spec_l5Names.l0 k l0 0 a1_0 a1_1 a1_2 l1_3)) = some r := h
 clear h
 by_cases c3 : a1_0 = 2
 ·
  rw [if_pos c3] at H
  have c3b0 : (a1_0 == 2) = true := beq_iff_eq.mpr c3
  have c3b1 : (a1_0 != 2) = false := bne_eq_false_iff_eq.mpr c3
  clear c3
  replace H := Own.bd H; obtain ⟨t295, A4, H⟩ := H
  obtain rfl := Option.some.inj H
  go_enter Tryz.func86, Tryz.ntmps86
  go_wp2_with (first | ((with_reducible refine gate_dst (N := 3) rfl ?_); refine Own.be (N := 3) (cs := #[.int .i64 a1_0, .string a1_1, .int .i64 a1_2, .slice A1_3 l1_3.length c1_3]) (t := 49) ?_; intro gb294 hg w5 hbox hb; have BK294 := Aside0.mk hbox; have GW294 := (Own.gs hg : Aside0 (w.heap.size ≤ gb294)); have GE294 := GW294; replace HO0 := Aside0.mk (Kd.V_below (Kd.V_elderB (Own.vd HO0.out) gb294 (Nat.le_of_eq hg.symm)) hb); replace HB := Own.bs hb; clear hb hbox hg; obtain ⟨z6_0, z6_1, z6_2, z6_3, y6_0, y6_1, y6_2, y6_3⟩ := Own.box4 BK294.out) | ((with_reducible refine gate_callee (f := 87) rfl ?_); refine goesL_ (some 12) rfl rfl Tryz.func87 (by kernel_rfl) rfl #[.slice A0 l0.length c0, .string a1_1] rfl Own.ha ?_; (with_reducible refine (spec_l5Put.calls k (fun k_ => ((P0_ k_ ∨ w.heap.size ≤ k_) ∧ k_ ≠ gb294)) _ _ l0 a1_1 t295 _ ?side1 A4.out).mono ?_); (case side1 => exact HO0.out); rintro e w7 ⟨v296, rfl, ho0, hb⟩; refine ⟨_, rfl, ?_⟩; have HO297 := Aside0.mk (Kd.V_lower (Kd.V_mono (ok' := fun k_ => (P0_ k_ ∨ w.heap.size ≤ k_) ∧ k_ ≠ gb294) ho0 (fun k_ hk_ => ⟨Or.elim hk_ (fun hs_ => hs_.1) (fun hn_ => (.inr (Nat.le_trans (below_size Own.bl) hn_))), Or.elim hk_ (fun hs_ => hs_.2) (fun hn_ => (Kd.freshB (Own.bkf BK294.out) k_ hn_))⟩)) (below_size Own.bl)); replace HO0 := Aside0.mk (Kd.V_below (Own.vd HO0.out) hb); replace BK294 := Own.bb BK294.out hb; replace HB := Own.bs hb; (try clear hb); (try clear ho0)))
  go_ret
  exact ⟨_, Own.rr, by (with_reducible repeat (first | apply Kd.V_alloc | apply Kd.V_drewN | apply Kd.V_drew)); exact Kd.V_mono HO297.out (fun _ hk => hk.1), Own.bl⟩
 rw [if_neg c3] at H
 have c3b0 : (a1_0 == 2) = false := beq_eq_false_iff_ne.mpr c3
 have c3b1 : (a1_0 != 2) = true := bne_iff_ne.mpr c3
 have H' := Aside0.mk H
 clear H
 go_enter Tryz.func86, Tryz.ntmps86
 go_wp2_with (first | ((with_reducible refine gate_dst (N := 3) rfl ?_); refine Own.be (N := 3) (cs := #[.int .i64 a1_0, .string a1_1, .int .i64 a1_2, .slice A1_3 l1_3.length c1_3]) (t := 49) ?_; intro gb294 hg w8 hbox hb; have BK294 := Aside0.mk hbox; have GW294 := (Own.gs hg : Aside0 (w.heap.size ≤ gb294)); have GE294 := GW294; replace HO0 := Aside0.mk (Kd.V_below (Kd.V_elderB (Own.vd HO0.out) gb294 (Nat.le_of_eq hg.symm)) hb); replace HB := Own.bs hb; clear hb hbox hg; obtain ⟨z9_0, z9_1, z9_2, z9_3, y9_0, y9_1, y9_2, y9_3⟩ := Own.box4 BK294.out))
 go_loopg [0, 5] k (fun kq v0 v5 w' => ∃ (x0_1 : List ByteArray) (x5_1 : Int), v5 = .int .i64 x5_1 ∧ Aside0 (spec_l5Names.l0 kq x0_1 x5_1 a1_0 a1_1 a1_2 l1_3 = some r) ∧ Aside0 (kq ≤ k) ∧ Aside0 (Kd.V Kd.string 9 w' w.heap.size (fun k_ => (P0_ k_ ∨ w.heap.size ≤ k_) ∧ k_ ≠ gb294) v0 x0_1) ∧ Aside0 (w'.heap[gb294]? = some (.cells #[.int .i64 a1_0, .string a1_1, .int .i64 a1_2, (.slice A1_3 l1_3.length c1_3)] 49 (0, 0))) ∧ Aside0 (Below w.heap.size w w'))
 case atStart => exact ⟨(l0), (0), Own.rs, H', ⟨Nat.le_refl _⟩, ⟨Own.vd HO0.out⟩, ⟨Own.bk⟩, ⟨Own.bl⟩⟩
 case round =>
  clear H'
  try clear c1; try clear p2; try clear c3; try clear c3b0; try clear c3b1; try clear c8; try clear z6_0 z6_1 z6_2 z6_3; try clear z9_0 z9_1 z9_2 z9_3; try clear y6_0 y6_1 y6_2 y6_3; try clear y9_0 y9_1 y9_2 y9_3
  obtain ⟨x0_1, x5_1, rfl, HA, HK1, HO_0, BK294, HB⟩ := hrel
  cases gk with
  | zero => exact absurd HA.out (by simp [spec_l5Names.l0])
  | succ k1 =>
   have H := HA.out
   clear HA
   simp only [spec_l5Names.l0] at H
   by_cases c10 : x5_1 < (l1_3.length : Int)
   rotate_left
   ·
    rw [if_neg c10] at H
    replace c10 := decide_eq_false c10
    obtain rfl := Option.some.inj H
    obtain ⟨z16_0, z16_1, z16_2, z16_3, y16_0, y16_1, y16_2, y16_3⟩ := Own.box4 BK294.out
    go_wp2
    go_ret
    exact ⟨_, Own.rr, by (with_reducible repeat (first | apply Kd.V_alloc | apply Kd.V_drewN | apply Kd.V_drew)); exact Kd.V_mono HO_0.out (fun _ hk => hk.1), Own.bl⟩
   rw [if_pos c10] at H
   replace c10 := decide_eq_true c10
   replace H := Own.ifd H; obtain ⟨c11, H⟩ := H
   replace H := Own.bd H; obtain ⟨t299, A12, H⟩ := H
   have H' := Aside0.mk H
   clear H
   obtain ⟨z13_0, z13_1, z13_2, z13_3, y13_0, y13_1, y13_2, y13_3⟩ := Own.box4 BK294.out
   have p298 : 0 ≤ (x5_1 : Int) := Own.dp
   have q298 : x5_1 < (l1_3.length : Int) := Own.dp
   obtain ⟨ad298, A298_3, c298_3, e298, hx298_0, hx298_1, hx298_2, hx298_3, hl298_3, hi298_3⟩ := at_T49 HR1_3.out x5_1 p298 q298
   cases e298
   replace hx298_0 := Own.up HB.out hx298_0
   replace hx298_1 := Own.up HB.out hx298_1
   replace hx298_2 := Own.up HB.out hx298_2
   replace hx298_3 := Own.up HB.out hx298_3
   have HR298_3 := Aside0.mk hi298_3
   have HC298_3 := Aside0.mk hl298_3
   clear hi298_3 hl298_3
   replace p298 := eq_true p298
   replace q298 := eq_true q298
   obtain ⟨Ao14, co14, eo14⟩ := Kd.V_slice HO_0.out
   subst eo14
   go_wp2_with (first | ((with_reducible refine gate_callee (f := 86) rfl ?_); refine goesL_ (some 26) rfl rfl Tryz.func86 (by kernel_rfl) rfl #[.slice Ao14 x0_1.length co14, .agg #[.int .i64 ((rd_T49 l1_3 x5_1).f0), .string ((rd_T49 l1_3 x5_1).f1), .int .i64 ((rd_T49 l1_3 x5_1).f2), .slice A298_3 ((rd_T49 l1_3 x5_1).f3).length c298_3]] rfl Own.ha ?_; (with_reducible refine (ih k1 (by have := HK1.out; omega) (fun k_ => ((P0_ k_ ∨ w.heap.size ≤ k_) ∧ k_ ≠ gb294)) _ _ x0_1 ((rd_T49 l1_3 x5_1).f0) ((rd_T49 l1_3 x5_1).f1) ((rd_T49 l1_3 x5_1).f2) _ _ ((rd_T49 l1_3 x5_1).f3) t299 _ ?side1 ?side2 ?side3 A12.out).mono ?_); (case side1 => exact HO_0.out); (case side2 => exact Kd.C_below HR298_3.out Own.bl); (case side3 => exact HC298_3.out); rintro e w15 ⟨v300, rfl, ho0, hb⟩; refine ⟨_, rfl, ?_⟩; have HO301 := Aside0.mk (Kd.V_lower (Kd.V_mono (ok' := fun k_ => (P0_ k_ ∨ w.heap.size ≤ k_) ∧ k_ ≠ gb294) ho0 (fun k_ hk_ => ⟨Or.elim hk_ (fun hs_ => hs_.1) (fun hn_ => (.inr (Nat.le_trans (below_size Own.bl) hn_))), Or.elim hk_ (fun hs_ => hs_.2) (fun hn_ => (Kd.freshB (Own.bkf BK294.out) k_ hn_))⟩)) (below_size Own.bl)); replace HO_0 := Aside0.mk (Kd.V_below (Own.vd HO_0.out) hb); replace BK294 := Own.bb BK294.out hb; replace HB := Own.bs hb; (try clear hb); (try clear ho0)))
   go_roundg k1
   case measure => have := HK1.out; omega
   case rel => exact ⟨(t299), (wrap64 (x5_1 + 1)), Own.rs, H', ⟨by have := HK1.out; omega⟩, ⟨Own.vd HO301.out⟩, ⟨Own.bk⟩, ⟨Own.bl⟩⟩

/-! ### spec_l6Names: function 65 -/
def spec_l6Names.l0 : Nat → List ByteArray → Int → List ByteArray → List (S51) → Option (List ByteArray)
 | 0, _, _, _, _ => none
 | k + 1, x3, x4, x303000, x303001 => if x4 < (x303001.length : Int) then (if 0 ≤ x4 then ((spec_l5Put.f k x3 ((rd_T51 x303001 x4).f3)).bind fun t307 => ((spec_l5Names.f k t307 ((rd_T51 x303001 x4).f6.f0) ((rd_T51 x303001 x4).f6.f1) ((rd_T51 x303001 x4).f6.f2) ((rd_T51 x303001 x4).f6.f3)).bind fun t311 => (spec_l6Names.l0 k t311 (wrap64 (x4 + 1)) x303000 x303001))) else (none)) else (some x3)
def spec_l6Names.f (k : Nat) (l0_0 : List ByteArray) (l0_1 : List (S51)) : Option (List ByteArray) := spec_l6Names.l0 k (([] : List ByteArray)) 0 l0_0 l0_1
theorem spec_l6Names.mono_l : ∀ k, (∀ y0 y1 y2 y3, LeO (spec_l6Names.l0 k y0 y1 y2 y3) (spec_l6Names.l0 (k + 1) y0 y1 y2 y3))
 | 0 => fun _ _ _ _ r h => by simp [spec_l6Names.l0] at h
 | k + 1 => by
  have ih0 := spec_l6Names.mono_l k
  ·
   intro y0 y1 y2 y3
   unfold spec_l6Names.l0
   repeat' first
   | (with_reducible first | exact ih0 _ _ _ _ | exact spec_l5Names.mono _ _ _ _ _ _ | exact spec_l5Put.mono _ _ _ | exact LeO.refl _ | exact LeO.none _ | refine LeO.ite ?_ ?_ | refine LeO.bind ?_ (fun _ => ?_))
theorem spec_l6Names.mono : ∀ a0 a1 k, LeO (spec_l6Names.f k a0 a1) (spec_l6Names.f (k + 1) a0 a1) := by
 intro a0 a1 k
 have ih0 := spec_l6Names.mono_l k
 unfold spec_l6Names.f
 repeat' first
   | (with_reducible first | exact ih0 _ _ _ _ | exact spec_l5Names.mono _ _ _ _ _ _ | exact spec_l5Put.mono _ _ _ | exact LeO.refl _ | exact LeO.none _ | refine LeO.ite ?_ ?_ | refine LeO.bind ?_ (fun _ => ?_))
def spec_l6Names.T5 : Bool × List (List Nat × List Nat) := (true, [([], []), ([], []), ([1], [1]), ([], []), ([2, 3], [2, 3]), ([4], [4]), ([5], [5]), ([0, 6], [0, 6]), ([], []), ([8], [8]), ([], []), ([9, 10], [9, 10]), ([11], [11]), ([12], [12]), ([7, 13, 7], [7, 13]), ([14, 14, 0, 1, 2, 3, 4, 5, 6, 7, 8, 9, 10, 11, 12, 13, 14], [0, 14])])
def spec_l6Names.B5 : List Nat := [0, 0, 2, 0, 14, 30, 62, 127, 0, 256, 0, 1792, 3840, 7936, 16383, 32767]
theorem spec_l6Names.tab5 : rtab .any (opsOf Tryz.f65 5) = spec_l6Names.T5 := by kernel_rfl
theorem spec_l6Names.bits5 : waitsOk spec_l6Names.T5.2 spec_l6Names.B5 = true := by kernel_rfl
set_option maxHeartbeats 8000000 in
set_option maxRecDepth 100000 in
theorem spec_l6Names.calls (k : Nat) (A0_0 : Option Addr) (c0_0 : Nat) (l0_0 : List ByteArray) (A0_1 : Option Addr) (c0_1 : Nat) (l0_1 : List (S51)) (r : List ByteArray) (w : World) (hr0_0 : Kd.C Kd.string w A0_0 l0_0.length l0_0) (hc0_0 : l0_0.length ≤ c0_0) (hr0_1 : Kd.C k51 w A0_1 l0_1.length l0_1) (hc0_1 : l0_1.length ≤ c0_1) (h : spec_l6Names.f k l0_0 l0_1 = some r) :
  Calls Tryz.prog 65 #[.agg #[.slice A0_0 l0_0.length c0_0, .slice A0_1 l0_1.length c0_1]] w fun e w' => ∃ v0_ : Value, e = .returned (v0_) ∧ Kd.V Kd.string 9 w' w.heap.size (fun k_ => (w.heap.size ≤ k_)) v0_ r ∧ Below w.heap.size w w' := by
 have hu32 := Tryz.underlying32
 have hu49 := Tryz.underlying49
 have HR0_0 := Aside0.mk hr0_0
 have HC0_0 := Aside0.mk hc0_0
 clear hr0_0 hc0_0
 have HR0_1 := Aside0.mk hr0_1
 have HC0_1 := Aside0.mk hc0_1
 clear hr0_1 hc0_1
 have HB := Aside0.mk (Below.refl w.heap.size w)
 have H : (spec_l6Names.l0 k (([] : List ByteArray)) 0 l0_0 l0_1) = some r := h
 clear h
 obtain ⟨y303, hy303⟩ : ∃ y_ : List ByteArray, y_ = (([] : List ByteArray)) := ⟨_, rfl⟩
 replace H : (spec_l6Names.l0 k y303 0 l0_0 l0_1) = some r := by first | (rw [hy303]; with_reducible exact H) | (have H2_ := (Option.bind_some _ _).symm.trans H; rw [hy303]; with_reducible exact H2_) | (have H2_ := (Option.bind_some _ _).symm.trans H; with_reducible exact H2_) | with_reducible exact H | (rw [hy303]; exact H) | exact H
 have Ny303 := Aside0.mk hy303
 clear hy303
 have H' := Aside0.mk H
 clear H
 go_enter Tryz.func65, Tryz.ntmps65
 go_wp2_with (first | ((with_reducible refine gate_dst (N := 1) rfl ?_); refine Own.be (N := 1) (cs := #[.slice A0_0 l0_0.length c0_0, .slice A0_1 l0_1.length c0_1]) (t := 32) ?_; intro gb302 hg w2 hbox hb; have BK302 := Aside0.mk hbox; have GW302 := (Own.gs hg : Aside0 (w.heap.size ≤ gb302)); have GE302 := GW302; replace HB := Own.bs hb; clear hb hbox hg) | ((with_reducible refine gate_dst (N := 5) rfl ?_); refine Kd.R_lit Kd.string _ 9 ?hg (N := 5) ?hd (xs := ([] : List ByteArray)) (inner := []) (ok := fun _ => True) (okp := fun _ => True) ?hr ?hp (fun _ hk => hk) trivial (Below.refl _ _) (Nat.le_refl _) (by simp) ?_; (case hd => rfl); (case hg => rfl); (case hr => first | (go_simp; done) | (go_simp; rfl)); (case hp => exact (Reps.none _ _)); intro v304 w3 ho4 hb hg_ hnew_; clear hg_ hnew_; (first | rw [← Ny303.out] at ho4 | (simp only [Int.reduceToNat] at ho4; rw [← Ny303.out] at ho4)); have HO305 := Aside0.mk (Kd.R_lower (Kd.R_newM (M := fun k_ => (w.heap.size ≤ k_)) ho4 (below_size Own.bl) (fun k_ h_ => h_)) (below_size Own.bl)); replace BK302 := Own.bb BK302.out hb; replace HB := Own.bs hb; clear hb ho4))
 go_loopg [3, 4] k (fun kq v3 v4 w' => ∃ (x3_1 : List ByteArray) (x4_1 : Int), v4 = .int .i64 x4_1 ∧ Aside0 (spec_l6Names.l0 kq x3_1 x4_1 l0_0 l0_1 = some r) ∧ Aside0 (kq ≤ k) ∧ Aside0 (Kd.V Kd.string 9 w' w.heap.size (fun k_ => (w.heap.size ≤ k_) ∧ k_ ≠ gb302) v3 x3_1) ∧ Aside0 (w'.heap[gb302]? = some (.cells #[(.slice A0_0 l0_0.length c0_0), (.slice A0_1 l0_1.length c0_1)] 32 (0, 0))) ∧ Aside0 (Below w.heap.size w w'))
 case atStart => exact ⟨(y303), (0), Own.rs, H', ⟨Nat.le_refl _⟩, ⟨Kd.R_V (by (with_reducible repeat (first | apply Kd.R_alloc | apply Kd.R_drewN | apply Kd.R_drew)); exact Kd.R_mono (Kd.R_types HO305.out BK302.out (by decide)) (fun _ hk => ⟨hk.1.1, hk.2⟩))⟩, ⟨Own.bk⟩, ⟨Own.bl⟩⟩
 case round =>
  clear H'
  try clear p2
  obtain ⟨x3_1, x4_1, rfl, HA, HK1, HO_3, BK302, HB⟩ := hrel
  cases gk with
  | zero => exact absurd HA.out (by simp [spec_l6Names.l0])
  | succ k1 =>
   have H := HA.out
   clear HA
   simp only [spec_l6Names.l0] at H
   by_cases c5 : x4_1 < (l0_1.length : Int)
   rotate_left
   ·
    rw [if_neg c5] at H
    replace c5 := decide_eq_false c5
    obtain rfl := Option.some.inj H
    obtain ⟨z15_0, z15_1, y15_0, y15_1⟩ := Own.box2 BK302.out
    go_wp2
    go_ret
    exact ⟨_, Own.rr, by (with_reducible repeat (first | apply Kd.V_alloc | apply Kd.V_drewN | apply Kd.V_drew)); exact Kd.V_mono HO_3.out (fun _ hk => hk.1), Own.bl⟩
   rw [if_pos c5] at H
   replace c5 := decide_eq_true c5
   replace H := Own.ifd H; obtain ⟨c6, H⟩ := H
   replace H := Own.bd H; obtain ⟨t307, A7, H⟩ := H
   replace H := Own.bd H; obtain ⟨t311, A8, H⟩ := H
   have H' := Aside0.mk H
   clear H
   obtain ⟨z9_0, z9_1, y9_0, y9_1⟩ := Own.box2 BK302.out
   try go_wp2
   have n0_ := Aside0.mk (Kd.V_drew HO_3.out)
   have n1_ := Aside0.mk (blk_drew BK302.out)
   have n2_ := Aside0.mk (below_drew1 HB.out)
   clear HO_3
   clear BK302
   clear HB
   have HO_3 := n0_
   have BK302 := n1_
   have HB := n2_
   clear n0_ n1_ n2_
   have p306 : 0 ≤ (x4_1 : Int) := Own.dp
   have q306 : x4_1 < (l0_1.length : Int) := Own.dp
   obtain ⟨ad306, A306_9, c306_9, e306, hx306_0, hx306_1, hx306_2, hx306_3, hx306_4, hx306_5, hx306_6, hx306_7, hx306_8, hx306_9, hx306_10, hx306_11, hl306_9, hi306_9⟩ := at_T51 HR0_1.out x4_1 p306 q306
   have hw306_11 := hx306_11
   have hw306_10 := hx306_10
   have hw306_9 := hx306_9
   have hw306_8 := hx306_8
   have hw306_7 := hx306_7
   have hw306_6 := hx306_6
   have hw306_5 := hx306_5
   have hw306_4 := hx306_4
   have hw306_3 := hx306_3
   have hw306_2 := hx306_2
   have hw306_1 := hx306_1
   have hw306_0 := hx306_0
   cases e306
   replace hx306_0 := Own.up HB.out hx306_0
   replace hx306_1 := Own.up HB.out hx306_1
   replace hx306_2 := Own.up HB.out hx306_2
   replace hx306_3 := Own.up HB.out hx306_3
   replace hx306_4 := Own.up HB.out hx306_4
   replace hx306_5 := Own.up HB.out hx306_5
   replace hx306_6 := Own.up HB.out hx306_6
   replace hx306_7 := Own.up HB.out hx306_7
   replace hx306_8 := Own.up HB.out hx306_8
   replace hx306_9 := Own.up HB.out hx306_9
   replace hx306_10 := Own.up HB.out hx306_10
   replace hx306_11 := Own.up HB.out hx306_11
   have HR306_9 := Aside0.mk hi306_9
   have HC306_9 := Aside0.mk hl306_9
   clear hi306_9 hl306_9
   replace p306 := eq_true p306
   replace q306 := eq_true q306
   have p310 : 0 ≤ (x4_1 : Int) := Own.dp
   have q310 : x4_1 < (l0_1.length : Int) := Own.dp
   obtain ⟨ad310, A310_9, c310_9, e310, hx310_0, hx310_1, hx310_2, hx310_3, hx310_4, hx310_5, hx310_6, hx310_7, hx310_8, hx310_9, hx310_10, hx310_11, hl310_9, hi310_9⟩ := at_T51 HR0_1.out x4_1 p310 q310
   have hw310_11 := hx310_11
   have hw310_10 := hx310_10
   have hw310_9 := hx310_9
   have hw310_8 := hx310_8
   have hw310_7 := hx310_7
   have hw310_6 := hx310_6
   have hw310_5 := hx310_5
   have hw310_4 := hx310_4
   have hw310_3 := hx310_3
   have hw310_2 := hx310_2
   have hw310_1 := hx310_1
   have hw310_0 := hx310_0
   obtain rfl : ad306 = ad310 := (by injection e310)
   replace hx310_0 := Own.up HB.out hx310_0
   replace hx310_1 := Own.up HB.out hx310_1
   replace hx310_2 := Own.up HB.out hx310_2
   replace hx310_3 := Own.up HB.out hx310_3
   replace hx310_4 := Own.up HB.out hx310_4
   replace hx310_5 := Own.up HB.out hx310_5
   replace hx310_6 := Own.up HB.out hx310_6
   replace hx310_7 := Own.up HB.out hx310_7
   replace hx310_8 := Own.up HB.out hx310_8
   replace hx310_9 := Own.up HB.out hx310_9
   replace hx310_10 := Own.up HB.out hx310_10
   replace hx310_11 := Own.up HB.out hx310_11
   have HR310_9 := Aside0.mk hi310_9
   have HC310_9 := Aside0.mk hl310_9
   clear hi310_9 hl310_9
   replace p310 := eq_true p310
   replace q310 := eq_true q310
   have ea_ := Option.some.inj (hx306_9.symm.trans hx310_9)
   injection ea_ with ea_ en_ ec_
   subst ea_
   subst ec_
   clear en_
   obtain ⟨Ao11, co11, eo11⟩ := Kd.V_slice HO_3.out
   (first | subst eo11 | (injection eo11 with f1_ f2_ f3_; have f4_ := f1_.symm; have f5_ := f3_.symm; clear f1_ f2_ f3_; subst f4_; subst f5_))
   refine start_ (n := 16) (S := fun w' => w'.cell? ⟨gb302, 0, none⟩ = some (.slice A0_0 l0_0.length c0_0) ∧ w'.cell? ⟨gb302, 1, none⟩ = some (.slice (some ad306) l0_1.length c0_1) ∧ w'.cell? (ad306.add ((x4_1).toNat * 12)) = some (.string ((rd_T51 l0_1 x4_1).f0)) ∧ w'.cell? ⟨(ad306.add ((x4_1).toNat * 12)).block, (ad306.add ((x4_1).toNat * 12)).off + 1, none⟩ = some (.int .i64 ((rd_T51 l0_1 x4_1).f1)) ∧ w'.cell? ⟨(ad306.add ((x4_1).toNat * 12)).block, (ad306.add ((x4_1).toNat * 12)).off + 2, none⟩ = some (.int .i64 ((rd_T51 l0_1 x4_1).f2)) ∧ w'.cell? ⟨(ad306.add ((x4_1).toNat * 12)).block, (ad306.add ((x4_1).toNat * 12)).off + 3, none⟩ = some (.string ((rd_T51 l0_1 x4_1).f3)) ∧ w'.cell? ⟨(ad306.add ((x4_1).toNat * 12)).block, (ad306.add ((x4_1).toNat * 12)).off + 4, none⟩ = some (.int .i64 ((rd_T51 l0_1 x4_1).f4)) ∧ w'.cell? ⟨(ad306.add ((x4_1).toNat * 12)).block, (ad306.add ((x4_1).toNat * 12)).off + 5, none⟩ = some (.int .i64 ((rd_T51 l0_1 x4_1).f5)) ∧ w'.cell? ⟨(ad306.add ((x4_1).toNat * 12)).block, (ad306.add ((x4_1).toNat * 12)).off + 6, none⟩ = some (.int .i64 ((rd_T51 l0_1 x4_1).f6.f0)) ∧ w'.cell? ⟨(ad306.add ((x4_1).toNat * 12)).block, (ad306.add ((x4_1).toNat * 12)).off + 7, none⟩ = some (.string ((rd_T51 l0_1 x4_1).f6.f1)) ∧ w'.cell? ⟨(ad306.add ((x4_1).toNat * 12)).block, (ad306.add ((x4_1).toNat * 12)).off + 8, none⟩ = some (.int .i64 ((rd_T51 l0_1 x4_1).f6.f2)) ∧ w'.cell? ⟨(ad306.add ((x4_1).toNat * 12)).block, (ad306.add ((x4_1).toNat * 12)).off + 9, none⟩ = some (.slice A306_9 ((rd_T51 l0_1 x4_1).f6.f3).length c306_9) ∧ w'.cell? ⟨(ad306.add ((x4_1).toNat * 12)).block, (ad306.add ((x4_1).toNat * 12)).off + 10, none⟩ = some (.int .i64 ((rd_T51 l0_1 x4_1).f7)) ∧ w'.cell? ⟨(ad306.add ((x4_1).toNat * 12)).block, (ad306.add ((x4_1).toNat * 12)).off + 11, none⟩ = some (.string ((rd_T51 l0_1 x4_1).f8)) ∧ w'.cell? (ad306.add ((x4_1).toNat * 12)) = some (.string ((rd_T51 l0_1 x4_1).f0)) ∧ w'.cell? ⟨(ad306.add ((x4_1).toNat * 12)).block, (ad306.add ((x4_1).toNat * 12)).off + 1, none⟩ = some (.int .i64 ((rd_T51 l0_1 x4_1).f1)) ∧ w'.cell? ⟨(ad306.add ((x4_1).toNat * 12)).block, (ad306.add ((x4_1).toNat * 12)).off + 2, none⟩ = some (.int .i64 ((rd_T51 l0_1 x4_1).f2)) ∧ w'.cell? ⟨(ad306.add ((x4_1).toNat * 12)).block, (ad306.add ((x4_1).toNat * 12)).off + 3, none⟩ = some (.string ((rd_T51 l0_1 x4_1).f3)) ∧ w'.cell? ⟨(ad306.add ((x4_1).toNat * 12)).block, (ad306.add ((x4_1).toNat * 12)).off + 4, none⟩ = some (.int .i64 ((rd_T51 l0_1 x4_1).f4)) ∧ w'.cell? ⟨(ad306.add ((x4_1).toNat * 12)).block, (ad306.add ((x4_1).toNat * 12)).off + 5, none⟩ = some (.int .i64 ((rd_T51 l0_1 x4_1).f5)) ∧ w'.cell? ⟨(ad306.add ((x4_1).toNat * 12)).block, (ad306.add ((x4_1).toNat * 12)).off + 6, none⟩ = some (.int .i64 ((rd_T51 l0_1 x4_1).f6.f0)) ∧ w'.cell? ⟨(ad306.add ((x4_1).toNat * 12)).block, (ad306.add ((x4_1).toNat * 12)).off + 7, none⟩ = some (.string ((rd_T51 l0_1 x4_1).f6.f1)) ∧ w'.cell? ⟨(ad306.add ((x4_1).toNat * 12)).block, (ad306.add ((x4_1).toNat * 12)).off + 8, none⟩ = some (.int .i64 ((rd_T51 l0_1 x4_1).f6.f2)) ∧ w'.cell? ⟨(ad306.add ((x4_1).toNat * 12)).block, (ad306.add ((x4_1).toNat * 12)).off + 9, none⟩ = some (.slice A306_9 ((rd_T51 l0_1 x4_1).f6.f3).length c306_9) ∧ w'.cell? ⟨(ad306.add ((x4_1).toNat * 12)).block, (ad306.add ((x4_1).toNat * 12)).off + 10, none⟩ = some (.int .i64 ((rd_T51 l0_1 x4_1).f7)) ∧ w'.cell? ⟨(ad306.add ((x4_1).toNat * 12)).block, (ad306.add ((x4_1).toNat * 12)).off + 11, none⟩ = some (.string ((rd_T51 l0_1 x4_1).f8))) (ds := []) #[false, false, false, false, false, false, false, false, false, false, false, false, false, false, false, false] (by kernel_rfl) rfl rfl ⟨(blk_cell BK302.out 0).trans rfl, (blk_cell BK302.out 1).trans rfl, ((HB.out.cell (World.block_lt_of_cell? w _ hw306_0)).trans hw306_0), ((HB.out.cell (World.block_lt_of_cell? w _ hw306_1)).trans hw306_1), ((HB.out.cell (World.block_lt_of_cell? w _ hw306_2)).trans hw306_2), ((HB.out.cell (World.block_lt_of_cell? w _ hw306_3)).trans hw306_3), ((HB.out.cell (World.block_lt_of_cell? w _ hw306_4)).trans hw306_4), ((HB.out.cell (World.block_lt_of_cell? w _ hw306_5)).trans hw306_5), ((HB.out.cell (World.block_lt_of_cell? w _ hw306_6)).trans hw306_6), ((HB.out.cell (World.block_lt_of_cell? w _ hw306_7)).trans hw306_7), ((HB.out.cell (World.block_lt_of_cell? w _ hw306_8)).trans hw306_8), ((HB.out.cell (World.block_lt_of_cell? w _ hw306_9)).trans hw306_9), ((HB.out.cell (World.block_lt_of_cell? w _ hw306_10)).trans hw306_10), ((HB.out.cell (World.block_lt_of_cell? w _ hw306_11)).trans hw306_11), ((HB.out.cell (World.block_lt_of_cell? w _ hw310_0)).trans hw310_0), ((HB.out.cell (World.block_lt_of_cell? w _ hw310_1)).trans hw310_1), ((HB.out.cell (World.block_lt_of_cell? w _ hw310_2)).trans hw310_2), ((HB.out.cell (World.block_lt_of_cell? w _ hw310_3)).trans hw310_3), ((HB.out.cell (World.block_lt_of_cell? w _ hw310_4)).trans hw310_4), ((HB.out.cell (World.block_lt_of_cell? w _ hw310_5)).trans hw310_5), ((HB.out.cell (World.block_lt_of_cell? w _ hw310_6)).trans hw310_6), ((HB.out.cell (World.block_lt_of_cell? w _ hw310_7)).trans hw310_7), ((HB.out.cell (World.block_lt_of_cell? w _ hw310_8)).trans hw310_8), ((HB.out.cell (World.block_lt_of_cell? w _ hw310_9)).trans hw310_9), ((HB.out.cell (World.block_lt_of_cell? w _ hw310_10)).trans hw310_10), ((HB.out.cell (World.block_lt_of_cell? w _ hw310_11)).trans hw310_11)⟩ (fun hHeld => ?_); refine with_tabW spec_l6Names.tab5 spec_l6Names.bits5 (fun HT_ HW_ => ?_)
   generalize wr.drew = w10 at HO_3 BK302 HB HR306_9 HR310_9 hx306_0 hx306_1 hx306_10 hx306_11 hx306_2 hx306_3 hx306_4 hx306_5 hx306_6 hx306_7 hx306_8 hx306_9 hx310_0 hx310_1 hx310_10 hx310_11 hx310_2 hx310_3 hx310_4 hx310_5 hx310_6 hx310_7 hx310_8 hx310_9 hHeld ⊢
   refine pure_ (i := 0) (N := some 13) (v := ?_) (a' := ?_) #[true, false, false, false, false, false, false, false, false, false, false, false, false, false, false, false] rfl rfl (any_of HT_.out (by kernel_rfl)) (fun _ _ _ h => h) (Or.inl ⟨by rfl, ?_⟩) ?_ ?_
   rotate_left
   ·
    intro w'
    go_simp
    with_reducible rfl
   rotate_left
   ·
    simp only [Own.ps]
    rfl
   refine pure_ (i := 1) (N := some 14) (v := ?_) (a' := ?_) #[true, true, false, false, false, false, false, false, false, false, false, false, false, false, false, false] rfl rfl (any_of HT_.out (by kernel_rfl)) (fun _ _ _ h => h) (Or.inl ⟨by rfl, ?_⟩) ?_ ?_
   rotate_left
   ·
    intro w'
    go_simp
    with_reducible rfl
   rotate_left
   ·
    simp only [Own.ps]
    rfl
   refine pure_ (i := 3) (N := some 16) (v := ?_) (a' := ?_) #[true, true, false, true, false, false, false, false, false, false, false, false, false, false, false, false] rfl rfl (any_of HT_.out (by kernel_rfl)) (fun _ _ _ h => h) (Or.inl ⟨by rfl, ?_⟩) ?_ ?_
   rotate_left
   ·
    intro w'
    go_simp
    with_reducible rfl
   rotate_left
   ·
    simp only [Own.ps]
    rfl
   refine pure_ (i := 8) (N := some 21) (v := ?_) (a' := ?_) #[true, true, false, true, false, false, false, false, true, false, false, false, false, false, false, false] rfl rfl (any_of HT_.out (by kernel_rfl)) (fun _ _ _ h => h) (Or.inl ⟨by rfl, ?_⟩) ?_ ?_
   rotate_left
   ·
    intro w'
    go_simp
    with_reducible rfl
   rotate_left
   ·
    simp only [Own.ps]
    rfl
   refine pure_ (i := 10) (N := some 23) (v := ?_) (a' := ?_) #[true, true, false, true, false, false, false, false, true, false, true, false, false, false, false, false] rfl rfl (any_of HT_.out (by kernel_rfl)) (fun _ _ _ h => h) (Or.inl ⟨by rfl, ?_⟩) ?_ ?_
   rotate_left
   ·
    intro w'
    go_simp
    with_reducible rfl
   rotate_left
   ·
    simp only [Own.ps]
    rfl
   refine take_ (i := 2) (N := some 15) (v := ?_) (a' := ?_) #[true, true, true, true, false, false, false, false, true, false, true, false, false, false, false, false] rfl rfl (take_ofW HT_.out HW_.out (by kernel_rfl)) (fun _ _ _ h => h) (Or.inl ⟨by rfl, ?_⟩) hHeld ?_ ?_
   rotate_left
   ·
    rintro w' ⟨s0, s1, s2, s3, s4, s5, s6, s7, s8, s9, s10, s11, s12, s13, s14, s15, s16, s17, s18, s19, s20, s21, s22, s23, s24, s25⟩
    go_simp
    with_reducible rfl
   rotate_left
   ·
    simp only [Own.ps]
    rfl
   refine pure_ (i := 4) (N := some 17) (v := ?_) (a' := ?_) #[true, true, true, true, true, false, false, false, true, false, true, false, false, false, false, false] rfl rfl (any_of HT_.out (by kernel_rfl)) (fun _ _ _ h => h) (Or.inl ⟨by rfl, ?_⟩) ?_ ?_
   rotate_left
   ·
    intro w'
    go_simp
    with_reducible rfl
   rotate_left
   ·
    simp only [Own.ps]
    rfl
   refine pure_ (i := 5) (N := some 18) (v := ?_) (a' := ?_) #[true, true, true, true, true, true, false, false, true, false, true, false, false, false, false, false] rfl rfl (any_of HT_.out (by kernel_rfl)) (fun _ _ _ h => h) (Or.inl ⟨by rfl, ?_⟩) ?_ ?_
   rotate_left
   ·
    intro w'
    go_simp
    with_reducible rfl
   rotate_left
   ·
    simp only [Own.ps]
    rfl
   refine take_ (i := 6) (N := some 19) (v := ?_) (a' := ?_) #[true, true, true, true, true, true, true, false, true, false, true, false, false, false, false, false] rfl rfl (take_ofW HT_.out HW_.out (by kernel_rfl)) (fun _ _ _ h => h) (Or.inl ⟨by rfl, ?_⟩) hHeld ?_ ?_
   rotate_left
   ·
    rintro w' ⟨s0, s1, s2, s3, s4, s5, s6, s7, s8, s9, s10, s11, s12, s13, s14, s15, s16, s17, s18, s19, s20, s21, s22, s23, s24, s25⟩
    go_simp
    with_reducible rfl
   rotate_left
   ·
    simp only [Own.ps]
    rfl
   refine take_ (i := 9) (N := some 22) (v := ?_) (a' := ?_) #[true, true, true, true, true, true, true, false, true, true, true, false, false, false, false, false] rfl rfl (take_ofW HT_.out HW_.out (by kernel_rfl)) (fun _ _ _ h => h) (Or.inl ⟨by rfl, ?_⟩) hHeld ?_ ?_
   rotate_left
   ·
    rintro w' ⟨s0, s1, s2, s3, s4, s5, s6, s7, s8, s9, s10, s11, s12, s13, s14, s15, s16, s17, s18, s19, s20, s21, s22, s23, s24, s25⟩
    go_simp
    with_reducible rfl
   rotate_left
   ·
    simp only [Own.ps]
    rfl
   refine pure_ (i := 11) (N := some 24) (v := ?_) (a' := ?_) #[true, true, true, true, true, true, true, false, true, true, true, true, false, false, false, false] rfl rfl (any_of HT_.out (by kernel_rfl)) (fun _ _ _ h => h) (Or.inl ⟨by rfl, ?_⟩) ?_ ?_
   rotate_left
   ·
    intro w'
    go_simp
    with_reducible rfl
   rotate_left
   ·
    simp only [Own.ps]
    rfl
   refine pure_ (i := 12) (N := some 25) (v := ?_) (a' := ?_) #[true, true, true, true, true, true, true, false, true, true, true, true, true, false, false, false] rfl rfl (any_of HT_.out (by kernel_rfl)) (fun _ _ _ h => h) (Or.inl ⟨by rfl, ?_⟩) ?_ ?_
   rotate_left
   ·
    intro w'
    go_simp
    with_reducible rfl
   rotate_left
   ·
    simp only [Own.ps]
    rfl
   refine take_ (i := 13) (N := some 26) (v := ?_) (a' := ?_) #[true, true, true, true, true, true, true, false, true, true, true, true, true, true, false, false] rfl rfl (take_ofW HT_.out HW_.out (by kernel_rfl)) (fun _ _ _ h => h) (Or.inl ⟨by rfl, ?_⟩) hHeld ?_ ?_
   rotate_left
   ·
    rintro w' ⟨s0, s1, s2, s3, s4, s5, s6, s7, s8, s9, s10, s11, s12, s13, s14, s15, s16, s17, s18, s19, s20, s21, s22, s23, s24, s25⟩
    go_simp
    with_reducible rfl
   rotate_left
   ·
    simp only [Own.ps]
    rfl
   refine one_ (i := 7) (N := some 20) #[true, true, true, true, true, true, true, true, true, true, true, true, true, true, false, false] rfl rfl (one_of HT_.out (by kernel_rfl)) (by decide) (fun K hK => ?_)
   refine goes_ Tryz.func87 (by kernel_rfl) rfl #[.slice Ao11 x3_1.length co11, .string ((rd_T51 l0_1 x4_1).f3)] (by rfl) rfl rfl Own.ha ?_
   with_reducible refine (spec_l5Put.calls k1 (fun k_ => ((w.heap.size ≤ k_) ∧ k_ ≠ gb302)) _ _ x3_1 ((rd_T51 l0_1 x4_1).f3) t307 _ ?side1 A7.out).mono ?_
   (case side1 => exact HO_3.out)
   rintro e w12 ⟨v308, rfl, ho0, hb⟩
   refine ⟨_, rfl, ?_⟩
   have n0_ := Aside0.mk (Kd.V_below (Own.vd HO_3.out) hb)
   have n1_ := Aside0.mk (Kd.V_lower (Kd.V_mono (ok' := fun k_ => (w.heap.size ≤ k_) ∧ k_ ≠ gb302) ho0 (fun k_ hk_ => ⟨Or.elim hk_ (fun hs_ => hs_.1) (fun hn_ => (Nat.le_trans (below_size Own.bl) hn_)), Or.elim hk_ (fun hs_ => hs_.2) (fun hn_ => (Kd.freshB (Own.bkf BK302.out) k_ hn_))⟩)) (below_size Own.bl))
   have n2_ := Own.bb BK302.out hb
   have n3_ := Own.bs hb
   clear HO_3
   clear BK302
   clear HB
   have HO_3 := n0_
   have HO309 := n1_
   have BK302 := n2_
   have HB := n3_
   clear n0_ n1_ n2_ n3_
   (try clear hb)
   (try clear hb2)
   (try clear hk)
   (try clear hi)
   (try clear ho0)
   obtain ⟨Ao13, co13, eo13⟩ := Kd.V_slice HO309.out
   (first | subst eo13 | (injection eo13 with f1_ f2_ f3_; have f4_ := f1_.symm; have f5_ := f3_.symm; clear f1_ f2_ f3_; subst f4_; subst f5_))
   refine hK.out _ _ ⟨(blk_cell BK302.out 0).trans rfl, (blk_cell BK302.out 1).trans rfl, ((HB.out.cell (World.block_lt_of_cell? w _ hw306_0)).trans hw306_0), ((HB.out.cell (World.block_lt_of_cell? w _ hw306_1)).trans hw306_1), ((HB.out.cell (World.block_lt_of_cell? w _ hw306_2)).trans hw306_2), ((HB.out.cell (World.block_lt_of_cell? w _ hw306_3)).trans hw306_3), ((HB.out.cell (World.block_lt_of_cell? w _ hw306_4)).trans hw306_4), ((HB.out.cell (World.block_lt_of_cell? w _ hw306_5)).trans hw306_5), ((HB.out.cell (World.block_lt_of_cell? w _ hw306_6)).trans hw306_6), ((HB.out.cell (World.block_lt_of_cell? w _ hw306_7)).trans hw306_7), ((HB.out.cell (World.block_lt_of_cell? w _ hw306_8)).trans hw306_8), ((HB.out.cell (World.block_lt_of_cell? w _ hw306_9)).trans hw306_9), ((HB.out.cell (World.block_lt_of_cell? w _ hw306_10)).trans hw306_10), ((HB.out.cell (World.block_lt_of_cell? w _ hw306_11)).trans hw306_11), ((HB.out.cell (World.block_lt_of_cell? w _ hw310_0)).trans hw310_0), ((HB.out.cell (World.block_lt_of_cell? w _ hw310_1)).trans hw310_1), ((HB.out.cell (World.block_lt_of_cell? w _ hw310_2)).trans hw310_2), ((HB.out.cell (World.block_lt_of_cell? w _ hw310_3)).trans hw310_3), ((HB.out.cell (World.block_lt_of_cell? w _ hw310_4)).trans hw310_4), ((HB.out.cell (World.block_lt_of_cell? w _ hw310_5)).trans hw310_5), ((HB.out.cell (World.block_lt_of_cell? w _ hw310_6)).trans hw310_6), ((HB.out.cell (World.block_lt_of_cell? w _ hw310_7)).trans hw310_7), ((HB.out.cell (World.block_lt_of_cell? w _ hw310_8)).trans hw310_8), ((HB.out.cell (World.block_lt_of_cell? w _ hw310_9)).trans hw310_9), ((HB.out.cell (World.block_lt_of_cell? w _ hw310_10)).trans hw310_10), ((HB.out.cell (World.block_lt_of_cell? w _ hw310_11)).trans hw310_11)⟩ (fun hHeld => ?_)
   clear hK K
   refine norm_ (a' := ?_) ?_ ?_
   rotate_left
   ·
    show Act.put _ (some 20) _ = _
    simp only [Own.ps]
    rfl
   refine one_ (i := 14) (N := some 27) #[true, true, true, true, true, true, true, true, true, true, true, true, true, true, true, false] rfl rfl (one_of HT_.out (by kernel_rfl)) (by decide) (fun K hK => ?_)
   refine goes_ Tryz.func86 (by kernel_rfl) rfl #[.slice Ao13 t307.length co13, .agg #[.int .i64 ((rd_T51 l0_1 x4_1).f6.f0), .string ((rd_T51 l0_1 x4_1).f6.f1), .int .i64 ((rd_T51 l0_1 x4_1).f6.f2), .slice A306_9 ((rd_T51 l0_1 x4_1).f6.f3).length c306_9]] (by rfl) rfl rfl Own.ha ?_
   with_reducible refine (spec_l5Names.calls k1 (fun k_ => ((w.heap.size ≤ k_) ∧ k_ ≠ gb302)) _ _ t307 ((rd_T51 l0_1 x4_1).f6.f0) ((rd_T51 l0_1 x4_1).f6.f1) ((rd_T51 l0_1 x4_1).f6.f2) _ _ ((rd_T51 l0_1 x4_1).f6.f3) t311 _ ?side1 ?side2 ?side3 A8.out).mono ?_
   (case side1 => exact HO309.out)
   (case side2 => exact Kd.C_below HR310_9.out Own.bl)
   (case side3 => exact HC310_9.out)
   rintro e w14 ⟨v312, rfl, ho0, hb⟩
   refine ⟨_, rfl, ?_⟩
   have n0_ := Aside0.mk (Kd.V_below (Own.vd HO_3.out) hb)
   have n1_ := Aside0.mk (Kd.V_below (Own.vd HO309.out) hb)
   have n2_ := Aside0.mk (Kd.V_lower (Kd.V_mono (ok' := fun k_ => (w.heap.size ≤ k_) ∧ k_ ≠ gb302) ho0 (fun k_ hk_ => ⟨Or.elim hk_ (fun hs_ => hs_.1) (fun hn_ => (Nat.le_trans (below_size Own.bl) hn_)), Or.elim hk_ (fun hs_ => hs_.2) (fun hn_ => (Kd.freshB (Own.bkf BK302.out) k_ hn_))⟩)) (below_size Own.bl))
   have n3_ := Own.bb BK302.out hb
   have n4_ := Own.bs hb
   clear HO_3
   clear HO309
   clear BK302
   clear HB
   have HO_3 := n0_
   have HO309 := n1_
   have HO313 := n2_
   have BK302 := n3_
   have HB := n4_
   clear n0_ n1_ n2_ n3_ n4_
   (try clear hb)
   (try clear hb2)
   (try clear hk)
   (try clear hi)
   (try clear ho0)
   refine hK.out _ _ ⟨(blk_cell BK302.out 0).trans rfl, (blk_cell BK302.out 1).trans rfl, ((HB.out.cell (World.block_lt_of_cell? w _ hw306_0)).trans hw306_0), ((HB.out.cell (World.block_lt_of_cell? w _ hw306_1)).trans hw306_1), ((HB.out.cell (World.block_lt_of_cell? w _ hw306_2)).trans hw306_2), ((HB.out.cell (World.block_lt_of_cell? w _ hw306_3)).trans hw306_3), ((HB.out.cell (World.block_lt_of_cell? w _ hw306_4)).trans hw306_4), ((HB.out.cell (World.block_lt_of_cell? w _ hw306_5)).trans hw306_5), ((HB.out.cell (World.block_lt_of_cell? w _ hw306_6)).trans hw306_6), ((HB.out.cell (World.block_lt_of_cell? w _ hw306_7)).trans hw306_7), ((HB.out.cell (World.block_lt_of_cell? w _ hw306_8)).trans hw306_8), ((HB.out.cell (World.block_lt_of_cell? w _ hw306_9)).trans hw306_9), ((HB.out.cell (World.block_lt_of_cell? w _ hw306_10)).trans hw306_10), ((HB.out.cell (World.block_lt_of_cell? w _ hw306_11)).trans hw306_11), ((HB.out.cell (World.block_lt_of_cell? w _ hw310_0)).trans hw310_0), ((HB.out.cell (World.block_lt_of_cell? w _ hw310_1)).trans hw310_1), ((HB.out.cell (World.block_lt_of_cell? w _ hw310_2)).trans hw310_2), ((HB.out.cell (World.block_lt_of_cell? w _ hw310_3)).trans hw310_3), ((HB.out.cell (World.block_lt_of_cell? w _ hw310_4)).trans hw310_4), ((HB.out.cell (World.block_lt_of_cell? w _ hw310_5)).trans hw310_5), ((HB.out.cell (World.block_lt_of_cell? w _ hw310_6)).trans hw310_6), ((HB.out.cell (World.block_lt_of_cell? w _ hw310_7)).trans hw310_7), ((HB.out.cell (World.block_lt_of_cell? w _ hw310_8)).trans hw310_8), ((HB.out.cell (World.block_lt_of_cell? w _ hw310_9)).trans hw310_9), ((HB.out.cell (World.block_lt_of_cell? w _ hw310_10)).trans hw310_10), ((HB.out.cell (World.block_lt_of_cell? w _ hw310_11)).trans hw310_11)⟩ (fun hHeld => ?_)
   clear hK K
   refine norm_ (a' := ?_) ?_ ?_
   rotate_left
   ·
    show Act.put _ (some 27) _ = _
    simp only [Own.ps]
    rfl
   refine pure_ (i := 15) (N := some 3) (v := ?_) (a' := ?_) #[true, true, true, true, true, true, true, true, true, true, true, true, true, true, true, true] rfl rfl (any_of HT_.out (by kernel_rfl)) (fun _ _ _ h => h) (Or.inl ⟨by rfl, ?_⟩) ?_ ?_
   rotate_left
   ·
    intro w'
    go_simp
    with_reducible rfl
   rotate_left
   ·
    simp only [Own.ps]
    rfl
   refine done_ (done_of HT_.out (by kernel_rfl)) ?_
   try go_wp2
   go_roundg k1
   case measure => have := HK1.out; omega
   case rel => exact ⟨(t311), (wrap64 (x4_1 + 1)), Own.rs, H', ⟨by have := HK1.out; omega⟩, ⟨Own.vd HO313.out⟩, ⟨Own.bk⟩, ⟨Own.bl⟩⟩

end Go.Proofs.YtdfbfcgjcfbmpaaGreatDoor.QFnExactClausesOf
