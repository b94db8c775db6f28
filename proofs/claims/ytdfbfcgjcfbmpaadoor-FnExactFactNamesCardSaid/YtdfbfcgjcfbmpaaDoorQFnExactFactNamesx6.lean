-- Written by a program of this session out of the translation; Lean checks it.
import Derived.Test.YtdfbfcgjcfbmpaaDoorQFnExactFactNamesx0
import Derived.Test.YtdfbfcgjcfbmpaaDoorQFnExactFactNamesx5
namespace Go.Proofs.YtdfbfcgjcfbmpaaDoor.QFnExactFactNames
open Go.RowKit Go.Proofs.YtdfbfcgjcfbmpaaDoorW.PrintWords Go.Proofs.YtdfbfcgjcfbmpaaDoorW.PrintLast Go.Proofs.YtdfbfcgjcfbmpaaDoorW.PrintMore
attribute [local go_sem] Instr.field asAgg Own.str_leq Own.str_gtr Own.str_geq
attribute [local go_sem] max2_int min2_int max_two min_two max_three min_three max_four min_four   -- for this text's walks alone
set_option linter.unusedVariables false
set_option linter.unusedSimpArgs false

/-! ### spec_l5Names: function 47 -/
mutual
def spec_l5Names.l0 : Nat → List ByteArray → Int → Int → ByteArray → Int → List (S61) → Option (List ByteArray)
 | 0, _, _, _, _, _, _ => none
 | k + 1, x0, x5, x245000, x245001, x245002, x245003 => if x5 < (x245003.length : Int) then (if 0 ≤ x5 then ((spec_l5Names.f k x0 ((rd_T61 x245003 x5).f0) ((rd_T61 x245003 x5).f1) ((rd_T61 x245003 x5).f2) ((rd_T61 x245003 x5).f3)).bind fun t249 => (spec_l5Names.l0 k t249 (wrap64 (x5 + 1)) x245000 x245001 x245002 x245003)) else (none)) else (some x0)
def spec_l5Names.f : Nat → List ByteArray → Int → ByteArray → Int → List (S61) → Option (List ByteArray)
 | 0, _, _, _, _, _ => none
 | k + 1, l0, a1_0, a1_1, a1_2, l1_3 => if a1_0 = 2 then ((spec_l5Put.f k l0 a1_1).bind fun t245 => (some t245)) else (spec_l5Names.l0 k l0 0 a1_0 a1_1 a1_2 l1_3)
end
theorem spec_l5Names.mono_l : ∀ k, (∀ y0 y1 y2 y3 y4, LeO (spec_l5Names.f k y0 y1 y2 y3 y4) (spec_l5Names.f (k + 1) y0 y1 y2 y3 y4)) ∧ (∀ y0 y1 y2 y3 y4 y5, LeO (spec_l5Names.l0 k y0 y1 y2 y3 y4 y5) (spec_l5Names.l0 (k + 1) y0 y1 y2 y3 y4 y5))
 | 0 => ⟨fun _ _ _ _ _ r h => by simp [spec_l5Names.f] at h, fun _ _ _ _ _ _ r h => by simp [spec_l5Names.l0] at h⟩
 | k + 1 => by
  obtain ⟨ih0, ih1⟩ := spec_l5Names.mono_l k
  refine ⟨?_, ?_⟩
  ·
   intro y0 y1 y2 y3 y4
   unfold spec_l5Names.f
   repeat' first
   | (with_reducible first | exact ih0 _ _ _ _ _ | exact ih1 _ _ _ _ _ _ | exact spec_l5Put.mono _ _ _ | exact LeO.refl _ | exact LeO.none _ | refine LeO.ite ?_ ?_ | refine LeO.bind ?_ (fun _ => ?_))
  ·
   intro y0 y1 y2 y3 y4 y5
   unfold spec_l5Names.l0
   repeat' first
   | (with_reducible first | exact ih0 _ _ _ _ _ | exact ih1 _ _ _ _ _ _ | exact spec_l5Put.mono _ _ _ | exact LeO.refl _ | exact LeO.none _ | refine LeO.ite ?_ ?_ | refine LeO.bind ?_ (fun _ => ?_))
theorem spec_l5Names.mono : ∀ a0 a1 a2 a3 a4 k, LeO (spec_l5Names.f k a0 a1 a2 a3 a4) (spec_l5Names.f (k + 1) a0 a1 a2 a3 a4) := by
 intro a0 a1 a2 a3 a4 k
 obtain ⟨ih0, ih1⟩ := spec_l5Names.mono_l k
 exact ih0 a0 a1 a2 a3 a4
set_option maxHeartbeats 8000000 in
set_option maxRecDepth 100000 in
theorem spec_l5Names.calls (k : Nat) : ∀ (P0_ : Nat → Prop) (A0 : Option Addr) (c0 : Nat) (l0 : List ByteArray) (a1_0 : Int) (a1_1 : ByteArray) (a1_2 : Int) (A1_3 : Option Addr) (c1_3 : Nat) (l1_3 : List (S61)) (r : List ByteArray) (w : World) (hs0 : Kd.V Kd.string 9 w w.heap.size (fun k_ => P0_ k_) (.slice A0 l0.length c0) l0) (hr1_3 : Kd.C k61 w A1_3 l1_3.length l1_3) (hc1_3 : l1_3.length ≤ c1_3) (h : spec_l5Names.f k l0 a1_0 a1_1 a1_2 l1_3 = some r),
  Calls Tryd.prog 47 #[.slice A0 l0.length c0, .agg #[.int .i64 a1_0, .string a1_1, .int .i64 a1_2, .slice A1_3 l1_3.length c1_3]] w fun e w' => ∃ v0_ : Value, e = .returned (v0_) ∧ Kd.V Kd.string 9 w' w.heap.size (fun k_ => (P0_ k_ ∨ w.heap.size ≤ k_)) v0_ r ∧ Below w.heap.size w w' := by
 induction k using Nat.strongRecOn with
 | _ k ih =>
 intro P0_ A0 c0 l0 a1_0 a1_1 a1_2 A1_3 c1_3 l1_3 r w hs0 hr1_3 hc1_3 h
 cases k with
 | zero => exact absurd h (by simp [spec_l5Names.f])
 | succ k =>
 simp only [spec_l5Names.f] at h
 have hu61 := Tryd.underlying61
 have HO0 := Aside0.mk (show Kd.V Kd.string 9 w w.heap.size (fun k_ => (P0_ k_ ∨ w.heap.size ≤ k_)) (.slice A0 l0.length c0) l0 from Kd.V_mono hs0 (fun k_ hk => .inl hk))
 have HR1_3 := Aside0.mk hr1_3
 have HC1_3 := Aside0.mk hc1_3
 clear hr1_3 hc1_3
 have HB := Aside0.mk (Below.refl w.heap.size w)
 have H : (if a1_0 = 2 then ((spec_l5Put.f k l0 a1_1).bind fun t245 => (some t245)) else (spec_l5Names.l0 k l0 0 a1_0 a1_1 a1_2 l1_3)) = some r := h
 clear h
 by_cases c3 : a1_0 = 2
 ·
  rw [if_pos c3] at H
  have c3b0 : (a1_0 == 2) = true := beq_iff_eq.mpr c3
  have c3b1 : (a1_0 != 2) = false := bne_eq_false_iff_eq.mpr c3
  clear c3
  replace H := Own.bd H; obtain ⟨t245, A4, H⟩ := H
  obtain rfl := Option.some.inj H
  go_enter Tryd.func47, Tryd.ntmps47
  go_wp2_with (first | ((with_reducible refine gate_dst (N := 3) rfl ?_); refine Own.be (N := 3) (cs := #[.int .i64 a1_0, .string a1_1, .int .i64 a1_2, .slice A1_3 l1_3.length c1_3]) (t := 61) ?_; intro gb244 hg w5 hbox hb; have BK244 := Aside0.mk hbox; have GW244 := (Own.gs hg : Aside0 (w.heap.size ≤ gb244)); have GE244 := GW244; replace HO0 := Aside0.mk (Kd.V_below (Kd.V_elderB (Own.vd HO0.out) gb244 (Nat.le_of_eq hg.symm)) hb); replace HB := Own.bs hb; clear hb hbox hg; obtain ⟨z6_0, z6_1, z6_2, z6_3, y6_0, y6_1, y6_2, y6_3⟩ := Own.box4 BK244.out) | ((with_reducible refine gate_callee (f := 48) rfl ?_); refine goesL_ (some 12) rfl rfl Tryd.func48 (by kernel_rfl) rfl #[.slice A0 l0.length c0, .string a1_1] rfl Own.ha ?_; (with_reducible refine (spec_l5Put.calls k (fun k_ => ((P0_ k_ ∨ w.heap.size ≤ k_) ∧ k_ ≠ gb244)) _ _ l0 a1_1 t245 _ ?side1 A4.out).mono ?_); (case side1 => exact HO0.out); rintro e w7 ⟨v246, rfl, ho0, hb⟩; refine ⟨_, rfl, ?_⟩; have HO247 := Aside0.mk (Kd.V_lower (Kd.V_mono (ok' := fun k_ => (P0_ k_ ∨ w.heap.size ≤ k_) ∧ k_ ≠ gb244) ho0 (fun k_ hk_ => ⟨Or.elim hk_ (fun hs_ => hs_.1) (fun hn_ => (.inr (Nat.le_trans (below_size Own.bl) hn_))), Or.elim hk_ (fun hs_ => hs_.2) (fun hn_ => (Kd.freshB (Own.bkf BK244.out) k_ hn_))⟩)) (below_size Own.bl)); replace HO0 := Aside0.mk (Kd.V_below (Own.vd HO0.out) hb); replace BK244 := Own.bb BK244.out hb; replace HB := Own.bs hb; (try clear hb); (try clear ho0)))
  go_ret
  exact ⟨_, Own.rr, by (with_reducible repeat (first | apply Kd.V_alloc | apply Kd.V_drewN | apply Kd.V_drew)); exact Kd.V_mono HO247.out (fun _ hk => hk.1), Own.bl⟩
 rw [if_neg c3] at H
 have c3b0 : (a1_0 == 2) = false := beq_eq_false_iff_ne.mpr c3
 have c3b1 : (a1_0 != 2) = true := bne_iff_ne.mpr c3
 have H' := Aside0.mk H
 clear H
 go_enter Tryd.func47, Tryd.ntmps47
 go_wp2_with (first | ((with_reducible refine gate_dst (N := 3) rfl ?_); refine Own.be (N := 3) (cs := #[.int .i64 a1_0, .string a1_1, .int .i64 a1_2, .slice A1_3 l1_3.length c1_3]) (t := 61) ?_; intro gb244 hg w8 hbox hb; have BK244 := Aside0.mk hbox; have GW244 := (Own.gs hg : Aside0 (w.heap.size ≤ gb244)); have GE244 := GW244; replace HO0 := Aside0.mk (Kd.V_below (Kd.V_elderB (Own.vd HO0.out) gb244 (Nat.le_of_eq hg.symm)) hb); replace HB := Own.bs hb; clear hb hbox hg; obtain ⟨z9_0, z9_1, z9_2, z9_3, y9_0, y9_1, y9_2, y9_3⟩ := Own.box4 BK244.out))
 go_loopg [0, 5] k (fun kq v0 v5 w' => ∃ (x0_1 : List ByteArray) (x5_1 : Int), v5 = .int .i64 x5_1 ∧ Aside0 (spec_l5Names.l0 kq x0_1 x5_1 a1_0 a1_1 a1_2 l1_3 = some r) ∧ Aside0 (kq ≤ k) ∧ Aside0 (Kd.V Kd.string 9 w' w.heap.size (fun k_ => (P0_ k_ ∨ w.heap.size ≤ k_) ∧ k_ ≠ gb244) v0 x0_1) ∧ Aside0 (w'.heap[gb244]? = some (.cells #[.int .i64 a1_0, .string a1_1, .int .i64 a1_2, (.slice A1_3 l1_3.length c1_3)] 61 (0, 0))) ∧ Aside0 (Below w.heap.size w w'))
 case atStart => exact ⟨(l0), (0), Own.rs, H', ⟨Nat.le_refl _⟩, ⟨Own.vd HO0.out⟩, ⟨Own.bk⟩, ⟨Own.bl⟩⟩
 case round =>
  clear H'
  try clear c1; try clear p2; try clear c3; try clear c3b0; try clear c3b1; try clear c4; try clear z6_0 z6_1 z6_2 z6_3; try clear z9_0 z9_1 z9_2 z9_3; try clear y6_0 y6_1 y6_2 y6_3; try clear y9_0 y9_1 y9_2 y9_3
  obtain ⟨x0_1, x5_1, rfl, HA, HK1, HO_0, BK244, HB⟩ := hrel
  cases gk with
  | zero => exact absurd HA.out (by simp [spec_l5Names.l0])
  | succ k1 =>
   have H := HA.out
   clear HA
   simp only [spec_l5Names.l0] at H
   by_cases c10 : x5_1 < (l1_3.length : Int)
   rotate_left
   ·
    rw [if_neg c10] at H
    replace c10 := decide_eq_false c10
    obtain rfl := Option.some.inj H
    obtain ⟨z16_0, z16_1, z16_2, z16_3, y16_0, y16_1, y16_2, y16_3⟩ := Own.box4 BK244.out
    go_wp2
    go_ret
    exact ⟨_, Own.rr, by (with_reducible repeat (first | apply Kd.V_alloc | apply Kd.V_drewN | apply Kd.V_drew)); exact Kd.V_mono HO_0.out (fun _ hk => hk.1), Own.bl⟩
   rw [if_pos c10] at H
   replace c10 := decide_eq_true c10
   replace H := Own.ifd H; obtain ⟨c11, H⟩ := H
   replace H := Own.bd H; obtain ⟨t249, A12, H⟩ := H
   have H' := Aside0.mk H
   clear H
   obtain ⟨z13_0, z13_1, z13_2, z13_3, y13_0, y13_1, y13_2, y13_3⟩ := Own.box4 BK244.out
   have p248 : 0 ≤ (x5_1 : Int) := Own.dp
   have q248 : x5_1 < (l1_3.length : Int) := Own.dp
   obtain ⟨ad248, A248_3, c248_3, e248, hx248_0, hx248_1, hx248_2, hx248_3, hl248_3, hi248_3⟩ := at_T61 HR1_3.out x5_1 p248 q248
   cases e248
   replace hx248_0 := Own.up HB.out hx248_0
   replace hx248_1 := Own.up HB.out hx248_1
   replace hx248_2 := Own.up HB.out hx248_2
   replace hx248_3 := Own.up HB.out hx248_3
   have HR248_3 := Aside0.mk hi248_3
   have HC248_3 := Aside0.mk hl248_3
   clear hi248_3 hl248_3
   replace p248 := eq_true p248
   replace q248 := eq_true q248
   obtain ⟨Ao14, co14, eo14⟩ := Kd.V_slice HO_0.out
   subst eo14
   go_wp2_with (first | ((with_reducible refine gate_callee (f := 47) rfl ?_); refine goesL_ (some 26) rfl rfl Tryd.func47 (by kernel_rfl) rfl #[.slice Ao14 x0_1.length co14, .agg #[.int .i64 ((rd_T61 l1_3 x5_1).f0), .string ((rd_T61 l1_3 x5_1).f1), .int .i64 ((rd_T61 l1_3 x5_1).f2), .slice A248_3 ((rd_T61 l1_3 x5_1).f3).length c248_3]] rfl Own.ha ?_; (with_reducible refine (ih k1 (by have := HK1.out; omega) (fun k_ => ((P0_ k_ ∨ w.heap.size ≤ k_) ∧ k_ ≠ gb244)) _ _ x0_1 ((rd_T61 l1_3 x5_1).f0) ((rd_T61 l1_3 x5_1).f1) ((rd_T61 l1_3 x5_1).f2) _ _ ((rd_T61 l1_3 x5_1).f3) t249 _ ?side1 ?side2 ?side3 A12.out).mono ?_); (case side1 => exact HO_0.out); (case side2 => exact Kd.C_below HR248_3.out Own.bl); (case side3 => exact HC248_3.out); rintro e w15 ⟨v250, rfl, ho0, hb⟩; refine ⟨_, rfl, ?_⟩; have HO251 := Aside0.mk (Kd.V_lower (Kd.V_mono (ok' := fun k_ => (P0_ k_ ∨ w.heap.size ≤ k_) ∧ k_ ≠ gb244) ho0 (fun k_ hk_ => ⟨Or.elim hk_ (fun hs_ => hs_.1) (fun hn_ => (.inr (Nat.le_trans (below_size Own.bl) hn_))), Or.elim hk_ (fun hs_ => hs_.2) (fun hn_ => (Kd.freshB (Own.bkf BK244.out) k_ hn_))⟩)) (below_size Own.bl)); replace HO_0 := Aside0.mk (Kd.V_below (Own.vd HO_0.out) hb); replace BK244 := Own.bb BK244.out hb; replace HB := Own.bs hb; (try clear hb); (try clear ho0)))
   go_roundg k1
   case measure => have := HK1.out; omega
   case rel => exact ⟨(t249), (wrap64 (x5_1 + 1)), Own.rs, H', ⟨by have := HK1.out; omega⟩, ⟨Own.vd HO251.out⟩, ⟨Own.bk⟩, ⟨Own.bl⟩⟩

/-! ### spec_l6Names: function 31 -/
def spec_l6Names.l0 : Nat → List ByteArray → Int → List ByteArray → List (S63) → Option (List ByteArray)
 | 0, _, _, _, _ => none
 | k + 1, x3, x4, x253000, x253001 => if x4 < (x253001.length : Int) then (if 0 ≤ x4 then ((spec_l5Put.f k x3 ((rd_T63 x253001 x4).f3)).bind fun t257 => ((spec_l5Names.f k t257 ((rd_T63 x253001 x4).f6.f0) ((rd_T63 x253001 x4).f6.f1) ((rd_T63 x253001 x4).f6.f2) ((rd_T63 x253001 x4).f6.f3)).bind fun t261 => (spec_l6Names.l0 k t261 (wrap64 (x4 + 1)) x253000 x253001))) else (none)) else (some x3)
def spec_l6Names.f (k : Nat) (l0_0 : List ByteArray) (l0_1 : List (S63)) : Option (List ByteArray) := spec_l6Names.l0 k (([] : List ByteArray)) 0 l0_0 l0_1
theorem spec_l6Names.mono_l : ∀ k, (∀ y0 y1 y2 y3, LeO (spec_l6Names.l0 k y0 y1 y2 y3) (spec_l6Names.l0 (k + 1) y0 y1 y2 y3))
 | 0 => fun _ _ _ _ r h => by simp [spec_l6Names.l0] at h
 | k + 1 => by
  have ih0 := spec_l6Names.mono_l k
  ·
   intro y0 y1 y2 y3
   unfold spec_l6Names.l0
   repeat' first
   | (with_reducible first | exact ih0 _ _ _ _ | exact spec_l5Names.mono _ _ _ _ _ _ | exact spec_l5Put.mono _ _ _ | exact LeO.refl _ | exact LeO.none _ | refine LeO.ite ?_ ?_ | refine LeO.bind ?_ (fun _ => ?_))
theorem spec_l6Names.mono : ∀ a0 a1 k, LeO (spec_l6Names.f k a0 a1) (spec_l6Names.f (k + 1) a0 a1) := by
 intro a0 a1 k
 have ih0 := spec_l6Names.mono_l k
 unfold spec_l6Names.f
 repeat' first
   | (with_reducible first | exact ih0 _ _ _ _ | exact spec_l5Names.mono _ _ _ _ _ _ | exact spec_l5Put.mono _ _ _ | exact LeO.refl _ | exact LeO.none _ | refine LeO.ite ?_ ?_ | refine LeO.bind ?_ (fun _ => ?_))
def spec_l6Names.T5 : Bool × List (List Nat × List Nat) := (true, [([], []), ([], []), ([1], [1]), ([], []), ([2, 3], [2, 3]), ([4], [4]), ([5], [5]), ([0, 6], [0, 6]), ([], []), ([8], [8]), ([], []), ([9, 10], [9, 10]), ([11], [11]), ([12], [12]), ([7, 13, 7], [7, 13]), ([14, 14, 0, 1, 2, 3, 4, 5, 6, 7, 8, 9, 10, 11, 12, 13, 14], [0, 14])])
def spec_l6Names.B5 : List Nat := [0, 0, 2, 0, 14, 30, 62, 127, 0, 256, 0, 1792, 3840, 7936, 16383, 32767]
theorem spec_l6Names.tab5 : rtab .any (opsOf Tryd.f31 5) = spec_l6Names.T5 := by kernel_rfl
theorem spec_l6Names.bits5 : waitsOk spec_l6Names.T5.2 spec_l6Names.B5 = true := by kernel_rfl
set_option maxHeartbeats 8000000 in
set_option maxRecDepth 100000 in
theorem spec_l6Names.calls (k : Nat) (A0_0 : Option Addr) (c0_0 : Nat) (l0_0 : List ByteArray) (A0_1 : Option Addr) (c0_1 : Nat) (l0_1 : List (S63)) (r : List ByteArray) (w : World) (hr0_0 : Kd.C Kd.string w A0_0 l0_0.length l0_0) (hc0_0 : l0_0.length ≤ c0_0) (hr0_1 : Kd.C k63 w A0_1 l0_1.length l0_1) (hc0_1 : l0_1.length ≤ c0_1) (h : spec_l6Names.f k l0_0 l0_1 = some r) :
  Calls Tryd.prog 31 #[.agg #[.slice A0_0 l0_0.length c0_0, .slice A0_1 l0_1.length c0_1]] w fun e w' => ∃ v0_ : Value, e = .returned (v0_) ∧ Kd.V Kd.string 9 w' w.heap.size (fun k_ => (w.heap.size ≤ k_)) v0_ r ∧ Below w.heap.size w w' := by
 have hu30 := Tryd.underlying30
 have hu61 := Tryd.underlying61
 have HR0_0 := Aside0.mk hr0_0
 have HC0_0 := Aside0.mk hc0_0
 clear hr0_0 hc0_0
 have HR0_1 := Aside0.mk hr0_1
 have HC0_1 := Aside0.mk hc0_1
 clear hr0_1 hc0_1
 have HB := Aside0.mk (Below.refl w.heap.size w)
 have H : (spec_l6Names.l0 k (([] : List ByteArray)) 0 l0_0 l0_1) = some r := h
 clear h
 obtain ⟨y253, hy253⟩ : ∃ y_ : List ByteArray, y_ = (([] : List ByteArray)) := ⟨_, rfl⟩
 replace H : (spec_l6Names.l0 k y253 0 l0_0 l0_1) = some r := by first | (rw [hy253]; with_reducible exact H) | (have H2_ := (Option.bind_some _ _).symm.trans H; rw [hy253]; with_reducible exact H2_) | (have H2_ := (Option.bind_some _ _).symm.trans H; with_reducible exact H2_) | with_reducible exact H | (rw [hy253]; exact H) | exact H
 have Ny253 := Aside0.mk hy253
 clear hy253
 have H' := Aside0.mk H
 clear H
 go_enter Tryd.func31, Tryd.ntmps31
 go_wp2_with (first | ((with_reducible refine gate_dst (N := 1) rfl ?_); refine Own.be (N := 1) (cs := #[.slice A0_0 l0_0.length c0_0, .slice A0_1 l0_1.length c0_1]) (t := 30) ?_; intro gb252 hg w2 hbox hb; have BK252 := Aside0.mk hbox; have GW252 := (Own.gs hg : Aside0 (w.heap.size ≤ gb252)); have GE252 := GW252; replace HB := Own.bs hb; clear hb hbox hg) | ((with_reducible refine gate_dst (N := 5) rfl ?_); refine Kd.R_lit Kd.string _ 9 ?hg (N := 5) ?hd (xs := ([] : List ByteArray)) (inner := []) (ok := fun _ => True) (okp := fun _ => True) ?hr ?hp (fun _ hk => hk) trivial (Below.refl _ _) (Nat.le_refl _) (by simp) ?_; (case hd => rfl); (case hg => rfl); (case hr => first | (go_simp; done) | (go_simp; rfl)); (case hp => exact (Reps.none _ _)); intro v254 w3 ho4 hb hg_ hnew_; clear hg_ hnew_; (first | rw [← Ny253.out] at ho4 | (simp only [Int.reduceToNat] at ho4; rw [← Ny253.out] at ho4)); have HO255 := Aside0.mk (Kd.R_lower (Kd.R_newM (M := fun k_ => (w.heap.size ≤ k_)) ho4 (below_size Own.bl) (fun k_ h_ => h_)) (below_size Own.bl)); replace BK252 := Own.bb BK252.out hb; replace HB := Own.bs hb; clear hb ho4))
 go_loopg [3, 4] k (fun kq v3 v4 w' => ∃ (x3_1 : List ByteArray) (x4_1 : Int), v4 = .int .i64 x4_1 ∧ Aside0 (spec_l6Names.l0 kq x3_1 x4_1 l0_0 l0_1 = some r) ∧ Aside0 (kq ≤ k) ∧ Aside0 (Kd.V Kd.string 9 w' w.heap.size (fun k_ => (w.heap.size ≤ k_) ∧ k_ ≠ gb252) v3 x3_1) ∧ Aside0 (w'.heap[gb252]? = some (.cells #[(.slice A0_0 l0_0.length c0_0), (.slice A0_1 l0_1.length c0_1)] 30 (0, 0))) ∧ Aside0 (Below w.heap.size w w'))
 case atStart => exact ⟨(y253), (0), Own.rs, H', ⟨Nat.le_refl _⟩, ⟨Kd.R_V (by (with_reducible repeat (first | apply Kd.R_alloc | apply Kd.R_drewN | apply Kd.R_drew)); exact Kd.R_mono (Kd.R_types HO255.out BK252.out (by decide)) (fun _ hk => ⟨hk.1.1, hk.2⟩))⟩, ⟨Own.bk⟩, ⟨Own.bl⟩⟩
 case round =>
  clear H'
  try clear p2; try clear c3
  obtain ⟨x3_1, x4_1, rfl, HA, HK1, HO_3, BK252, HB⟩ := hrel
  cases gk with
  | zero => exact absurd HA.out (by simp [spec_l6Names.l0])
  | succ k1 =>
   have H := HA.out
   clear HA
   simp only [spec_l6Names.l0] at H
   by_cases c5 : x4_1 < (l0_1.length : Int)
   rotate_left
   ·
    rw [if_neg c5] at H
    replace c5 := decide_eq_false c5
    obtain rfl := Option.some.inj H
    obtain ⟨z15_0, z15_1, y15_0, y15_1⟩ := Own.box2 BK252.out
    go_wp2
    go_ret
    exact ⟨_, Own.rr, by (with_reducible repeat (first | apply Kd.V_alloc | apply Kd.V_drewN | apply Kd.V_drew)); exact Kd.V_mono HO_3.out (fun _ hk => hk.1), Own.bl⟩
   rw [if_pos c5] at H
   replace c5 := decide_eq_true c5
   replace H := Own.ifd H; obtain ⟨c6, H⟩ := H
   replace H := Own.bd H; obtain ⟨t257, A7, H⟩ := H
   replace H := Own.bd H; obtain ⟨t261, A8, H⟩ := H
   have H' := Aside0.mk H
   clear H
   obtain ⟨z9_0, z9_1, y9_0, y9_1⟩ := Own.box2 BK252.out
   try go_wp2
   have n0_ := Aside0.mk (Kd.V_drew HO_3.out)
   have n1_ := Aside0.mk (blk_drew BK252.out)
   have n2_ := Aside0.mk (below_drew1 HB.out)
   clear HO_3
   clear BK252
   clear HB
   have HO_3 := n0_
   have BK252 := n1_
   have HB := n2_
   clear n0_ n1_ n2_
   have p256 : 0 ≤ (x4_1 : Int) := Own.dp
   have q256 : x4_1 < (l0_1.length : Int) := Own.dp
   obtain ⟨ad256, A256_9, c256_9, e256, hx256_0, hx256_1, hx256_2, hx256_3, hx256_4, hx256_5, hx256_6, hx256_7, hx256_8, hx256_9, hx256_10, hx256_11, hl256_9, hi256_9⟩ := at_T63 HR0_1.out x4_1 p256 q256
   have hw256_11 := hx256_11
   have hw256_10 := hx256_10
   have hw256_9 := hx256_9
   have hw256_8 := hx256_8
   have hw256_7 := hx256_7
   have hw256_6 := hx256_6
   have hw256_5 := hx256_5
   have hw256_4 := hx256_4
   have hw256_3 := hx256_3
   have hw256_2 := hx256_2
   have hw256_1 := hx256_1
   have hw256_0 := hx256_0
   cases e256
   replace hx256_0 := Own.up HB.out hx256_0
   replace hx256_1 := Own.up HB.out hx256_1
   replace hx256_2 := Own.up HB.out hx256_2
   replace hx256_3 := Own.up HB.out hx256_3
   replace hx256_4 := Own.up HB.out hx256_4
   replace hx256_5 := Own.up HB.out hx256_5
   replace hx256_6 := Own.up HB.out hx256_6
   replace hx256_7 := Own.up HB.out hx256_7
   replace hx256_8 := Own.up HB.out hx256_8
   replace hx256_9 := Own.up HB.out hx256_9
   replace hx256_10 := Own.up HB.out hx256_10
   replace hx256_11 := Own.up HB.out hx256_11
   have HR256_9 := Aside0.mk hi256_9
   have HC256_9 := Aside0.mk hl256_9
   clear hi256_9 hl256_9
   replace p256 := eq_true p256
   replace q256 := eq_true q256
   have p260 : 0 ≤ (x4_1 : Int) := Own.dp
   have q260 : x4_1 < (l0_1.length : Int) := Own.dp
   obtain ⟨ad260, A260_9, c260_9, e260, hx260_0, hx260_1, hx260_2, hx260_3, hx260_4, hx260_5, hx260_6, hx260_7, hx260_8, hx260_9, hx260_10, hx260_11, hl260_9, hi260_9⟩ := at_T63 HR0_1.out x4_1 p260 q260
   have hw260_11 := hx260_11
   have hw260_10 := hx260_10
   have hw260_9 := hx260_9
   have hw260_8 := hx260_8
   have hw260_7 := hx260_7
   have hw260_6 := hx260_6
   have hw260_5 := hx260_5
   have hw260_4 := hx260_4
   have hw260_3 := hx260_3
   have hw260_2 := hx260_2
   have hw260_1 := hx260_1
   have hw260_0 := hx260_0
   obtain rfl : ad256 = ad260 := (by injection e260)
   replace hx260_0 := Own.up HB.out hx260_0
   replace hx260_1 := Own.up HB.out hx260_1
   replace hx260_2 := Own.up HB.out hx260_2
   replace hx260_3 := Own.up HB.out hx260_3
   replace hx260_4 := Own.up HB.out hx260_4
   replace hx260_5 := Own.up HB.out hx260_5
   replace hx260_6 := Own.up HB.out hx260_6
   replace hx260_7 := Own.up HB.out hx260_7
   replace hx260_8 := Own.up HB.out hx260_8
   replace hx260_9 := Own.up HB.out hx260_9
   replace hx260_10 := Own.up HB.out hx260_10
   replace hx260_11 := Own.up HB.out hx260_11
   have HR260_9 := Aside0.mk hi260_9
   have HC260_9 := Aside0.mk hl260_9
   clear hi260_9 hl260_9
   replace p260 := eq_true p260
   replace q260 := eq_true q260
   have ea_ := Option.some.inj (hx256_9.symm.trans hx260_9)
   injection ea_ with ea_ en_ ec_
   subst ea_
   subst ec_
   clear en_
   obtain ⟨Ao11, co11, eo11⟩ := Kd.V_slice HO_3.out
   (first | subst eo11 | (injection eo11 with f1_ f2_ f3_; have f4_ := f1_.symm; have f5_ := f3_.symm; clear f1_ f2_ f3_; subst f4_; subst f5_))
   refine start_ (n := 16) (S := fun w' => w'.cell? ⟨gb252, 0, none⟩ = some (.slice A0_0 l0_0.length c0_0) ∧ w'.cell? ⟨gb252, 1, none⟩ = some (.slice (some ad256) l0_1.length c0_1) ∧ w'.cell? (ad256.add ((x4_1).toNat * 12)) = some (.string ((rd_T63 l0_1 x4_1).f0)) ∧ w'.cell? ⟨(ad256.add ((x4_1).toNat * 12)).block, (ad256.add ((x4_1).toNat * 12)).off + 1, none⟩ = some (.int .i64 ((rd_T63 l0_1 x4_1).f1)) ∧ w'.cell? ⟨(ad256.add ((x4_1).toNat * 12)).block, (ad256.add ((x4_1).toNat * 12)).off + 2, none⟩ = some (.int .i64 ((rd_T63 l0_1 x4_1).f2)) ∧ w'.cell? ⟨(ad256.add ((x4_1).toNat * 12)).block, (ad256.add ((x4_1).toNat * 12)).off + 3, none⟩ = some (.string ((rd_T63 l0_1 x4_1).f3)) ∧ w'.cell? ⟨(ad256.add ((x4_1).toNat * 12)).block, (ad256.add ((x4_1).toNat * 12)).off + 4, none⟩ = some (.int .i64 ((rd_T63 l0_1 x4_1).f4)) ∧ w'.cell? ⟨(ad256.add ((x4_1).toNat * 12)).block, (ad256.add ((x4_1).toNat * 12)).off + 5, none⟩ = some (.int .i64 ((rd_T63 l0_1 x4_1).f5)) ∧ w'.cell? ⟨(ad256.add ((x4_1).toNat * 12)).block, (ad256.add ((x4_1).toNat * 12)).off + 6, none⟩ = some (.int .i64 ((rd_T63 l0_1 x4_1).f6.f0)) ∧ w'.cell? ⟨(ad256.add ((x4_1).toNat * 12)).block, (ad256.add ((x4_1).toNat * 12)).off + 7, none⟩ = some (.string ((rd_T63 l0_1 x4_1).f6.f1)) ∧ w'.cell? ⟨(ad256.add ((x4_1).toNat * 12)).block, (ad256.add ((x4_1).toNat * 12)).off + 8, none⟩ = some (.int .i64 ((rd_T63 l0_1 x4_1).f6.f2)) ∧ w'.cell? ⟨(ad256.add ((x4_1).toNat * 12)).block, (ad256.add ((x4_1).toNat * 12)).off + 9, none⟩ = some (.slice A256_9 ((rd_T63 l0_1 x4_1).f6.f3).length c256_9) ∧ w'.cell? ⟨(ad256.add ((x4_1).toNat * 12)).block, (ad256.add ((x4_1).toNat * 12)).off + 10, none⟩ = some (.int .i64 ((rd_T63 l0_1 x4_1).f7)) ∧ w'.cell? ⟨(ad256.add ((x4_1).toNat * 12)).block, (ad256.add ((x4_1).toNat * 12)).off + 11, none⟩ = some (.string ((rd_T63 l0_1 x4_1).f8)) ∧ w'.cell? (ad256.add ((x4_1).toNat * 12)) = some (.string ((rd_T63 l0_1 x4_1).f0)) ∧ w'.cell? ⟨(ad256.add ((x4_1).toNat * 12)).block, (ad256.add ((x4_1).toNat * 12)).off + 1, none⟩ = some (.int .i64 ((rd_T63 l0_1 x4_1).f1)) ∧ w'.cell? ⟨(ad256.add ((x4_1).toNat * 12)).block, (ad256.add ((x4_1).toNat * 12)).off + 2, none⟩ = some (.int .i64 ((rd_T63 l0_1 x4_1).f2)) ∧ w'.cell? ⟨(ad256.add ((x4_1).toNat * 12)).block, (ad256.add ((x4_1).toNat * 12)).off + 3, none⟩ = some (.string ((rd_T63 l0_1 x4_1).f3)) ∧ w'.cell? ⟨(ad256.add ((x4_1).toNat * 12)).block, (ad256.add ((x4_1).toNat * 12)).off + 4, none⟩ = some (.int .i64 ((rd_T63 l0_1 x4_1).f4)) ∧ w'.cell? ⟨(ad256.add ((x4_1).toNat * 12)).block, (ad256.add ((x4_1).toNat * 12)).off + 5, none⟩ = some (.int .i64 ((rd_T63 l0_1 x4_1).f5)) ∧ w'.cell? ⟨(ad256.add ((x4_1).toNat * 12)).block, (ad256.add ((x4_1).toNat * 12)).off + 6, none⟩ = some (.int .i64 ((rd_T63 l0_1 x4_1).f6.f0)) ∧ w'.cell? ⟨(ad256.add ((x4_1).toNat * 12)).block, (ad256.add ((x4_1).toNat * 12)).off + 7, none⟩ = some (.string ((rd_T63 l0_1 x4_1).f6.f1)) ∧ w'.cell? ⟨(ad256.add ((x4_1).toNat * 12)).block, (ad256.add ((x4_1).toNat * 12)).off + 8, none⟩ = some (.int .i64 ((rd_T63 l0_1 x4_1).f6.f2)) ∧ w'.cell? ⟨(ad256.add ((x4_1).toNat * 12)).block, (ad256.add ((x4_1).toNat * 12)).off + 9, none⟩ = some (.slice A256_9 ((rd_T63 l0_1 x4_1).f6.f3).length c256_9) ∧ w'.cell? ⟨(ad256.add ((x4_1).toNat * 12)).block, (ad256.add ((x4_1).toNat * 12)).off + 10, none⟩ = some (.int .i64 ((rd_T63 l0_1 x4_1).f7)) ∧ w'.cell? ⟨(ad256.add ((x4_1).toNat * 12)).block, (ad256.add ((x4_1).toNat * 12)).off + 11, none⟩ = some (.string ((rd_T63 l0_1 x4_1).f8))) (ds := []) #[false, false, false, false, false, false, false, false, false, false, false, false, false, false, false, false] (by kernel_rfl) rfl rfl ⟨(blk_cell BK252.out 0).trans rfl, (blk_cell BK252.out 1).trans rfl, ((HB.out.cell (World.block_lt_of_cell? w _ hw256_0)).trans hw256_0), ((HB.out.cell (World.block_lt_of_cell? w _ hw256_1)).trans hw256_1), ((HB.out.cell (World.block_lt_of_cell? w _ hw256_2)).trans hw256_2), ((HB.out.cell (World.block_lt_of_cell? w _ hw256_3)).trans hw256_3), ((HB.out.cell (World.block_lt_of_cell? w _ hw256_4)).trans hw256_4), ((HB.out.cell (World.block_lt_of_cell? w _ hw256_5)).trans hw256_5), ((HB.out.cell (World.block_lt_of_cell? w _ hw256_6)).trans hw256_6), ((HB.out.cell (World.block_lt_of_cell? w _ hw256_7)).trans hw256_7), ((HB.out.cell (World.block_lt_of_cell? w _ hw256_8)).trans hw256_8), ((HB.out.cell (World.block_lt_of_cell? w _ hw256_9)).trans hw256_9), ((HB.out.cell (World.block_lt_of_cell? w _ hw256_10)).trans hw256_10), ((HB.out.cell (World.block_lt_of_cell? w _ hw256_11)).trans hw256_11), ((HB.out.cell (World.block_lt_of_cell? w _ hw260_0)).trans hw260_0), ((HB.out.cell (World.block_lt_of_cell? w _ hw260_1)).trans hw260_1), ((HB.out.cell (World.block_lt_of_cell? w _ hw260_2)).trans hw260_2), ((HB.out.cell (World.block_lt_of_cell? w _ hw260_3)).trans hw260_3), ((HB.out.cell (World.block_lt_of_cell? w _ hw260_4)).trans hw260_4), ((HB.out.cell (World.block_lt_of_cell? w _ hw260_5)).trans hw260_5), ((HB.out.cell (World.block_lt_of_cell? w _ hw260_6)).trans hw260_6), ((HB.out.cell (World.block_lt_of_cell? w _ hw260_7)).trans hw260_7), ((HB.out.cell (World.block_lt_of_cell? w _ hw260_8)).trans hw260_8), ((HB.out.cell (World.block_lt_of_cell? w _ hw260_9)).trans hw260_9), ((HB.out.cell (World.block_lt_of_cell? w _ hw260_10)).trans hw260_10), ((HB.out.cell (World.block_lt_of_cell? w _ hw260_11)).trans hw260_11)⟩ (fun hHeld => ?_); refine with_tabW spec_l6Names.tab5 spec_l6Names.bits5 (fun HT_ HW_ => ?_)
   generalize wr.drew = w10 at HO_3 BK252 HB HR256_9 HR260_9 hx256_0 hx256_1 hx256_10 hx256_11 hx256_2 hx256_3 hx256_4 hx256_5 hx256_6 hx256_7 hx256_8 hx256_9 hx260_0 hx260_1 hx260_10 hx260_11 hx260_2 hx260_3 hx260_4 hx260_5 hx260_6 hx260_7 hx260_8 hx260_9 hHeld ⊢
   refine pure_ (i := 0) (N := some 13) (v := ?_) (a' := ?_) #[true, false, false, false, false, false, false, false, false, false, false, false, false, false, false, false] rfl rfl (any_of HT_.out (by kernel_rfl)) (fun _ _ _ h => h) (Or.inl ⟨by rfl, ?_⟩) ?_ ?_
   rotate_left
   ·
    intro w'
    go_simp
    with_reducible rfl
   rotate_left
   ·
    simp only [Own.ps]
    rfl
   refine pure_ (i := 1) (N := some 14) (v := ?_) (a' := ?_) #[true, true, false, false, false, false, false, false, false, false, false, false, false, false, false, false] rfl rfl (any_of HT_.out (by kernel_rfl)) (fun _ _ _ h => h) (Or.inl ⟨by rfl, ?_⟩) ?_ ?_
   rotate_left
   ·
    intro w'
    go_simp
    with_reducible rfl
   rotate_left
   ·
    simp only [Own.ps]
    rfl
   refine pure_ (i := 3) (N := some 16) (v := ?_) (a' := ?_) #[true, true, false, true, false, false, false, false, false, false, false, false, false, false, false, false] rfl rfl (any_of HT_.out (by kernel_rfl)) (fun _ _ _ h => h) (Or.inl ⟨by rfl, ?_⟩) ?_ ?_
   rotate_left
   ·
    intro w'
    go_simp
    with_reducible rfl
   rotate_left
   ·
    simp only [Own.ps]
    rfl
   refine pure_ (i := 8) (N := some 21) (v := ?_) (a' := ?_) #[true, true, false, true, false, false, false, false, true, false, false, false, false, false, false, false] rfl rfl (any_of HT_.out (by kernel_rfl)) (fun _ _ _ h => h) (Or.inl ⟨by rfl, ?_⟩) ?_ ?_
   rotate_left
   ·
    intro w'
    go_simp
    with_reducible rfl
   rotate_left
   ·
    simp only [Own.ps]
    rfl
   refine pure_ (i := 10) (N := some 23) (v := ?_) (a' := ?_) #[true, true, false, true, false, false, false, false, true, false, true, false, false, false, false, false] rfl rfl (any_of HT_.out (by kernel_rfl)) (fun _ _ _ h => h) (Or.inl ⟨by rfl, ?_⟩) ?_ ?_
   rotate_left
   ·
    intro w'
    go_simp
    with_reducible rfl
   rotate_left
   ·
    simp only [Own.ps]
    rfl
   refine take_ (i := 2) (N := some 15) (v := ?_) (a' := ?_) #[true, true, true, true, false, false, false, false, true, false, true, false, false, false, false, false] rfl rfl (take_ofW HT_.out HW_.out (by kernel_rfl)) (fun _ _ _ h => h) (Or.inl ⟨by rfl, ?_⟩) hHeld ?_ ?_
   rotate_left
   ·
    rintro w' ⟨s0, s1, s2, s3, s4, s5, s6, s7, s8, s9, s10, s11, s12, s13, s14, s15, s16, s17, s18, s19, s20, s21, s22, s23, s24, s25⟩
    go_simp
    with_reducible rfl
   rotate_left
   ·
    simp only [Own.ps]
    rfl
   refine pure_ (i := 4) (N := some 17) (v := ?_) (a' := ?_) #[true, true, true, true, true, false, false, false, true, false, true, false, false, false, false, false] rfl rfl (any_of HT_.out (by kernel_rfl)) (fun _ _ _ h => h) (Or.inl ⟨by rfl, ?_⟩) ?_ ?_
   rotate_left
   ·
    intro w'
    go_simp
    with_reducible rfl
   rotate_left
   ·
    simp only [Own.ps]
    rfl
   refine pure_ (i := 5) (N := some 18) (v := ?_) (a' := ?_) #[true, true, true, true, true, true, false, false, true, false, true, false, false, false, false, false] rfl rfl (any_of HT_.out (by kernel_rfl)) (fun _ _ _ h => h) (Or.inl ⟨by rfl, ?_⟩) ?_ ?_
   rotate_left
   ·
    intro w'
    go_simp
    with_reducible rfl
   rotate_left
   ·
    simp only [Own.ps]
    rfl
   refine take_ (i := 6) (N := some 19) (v := ?_) (a' := ?_) #[true, true, true, true, true, true, true, false, true, false, true, false, false, false, false, false] rfl rfl (take_ofW HT_.out HW_.out (by kernel_rfl)) (fun _ _ _ h => h) (Or.inl ⟨by rfl, ?_⟩) hHeld ?_ ?_
   rotate_left
   ·
    rintro w' ⟨s0, s1, s2, s3, s4, s5, s6, s7, s8, s9, s10, s11, s12, s13, s14, s15, s16, s17, s18, s19, s20, s21, s22, s23, s24, s25⟩
    go_simp
    with_reducible rfl
   rotate_left
   ·
    simp only [Own.ps]
    rfl
   refine take_ (i := 9) (N := some 22) (v := ?_) (a' := ?_) #[true, true, true, true, true, true, true, false, true, true, true, false, false, false, false, false] rfl rfl (take_ofW HT_.out HW_.out (by kernel_rfl)) (fun _ _ _ h => h) (Or.inl ⟨by rfl, ?_⟩) hHeld ?_ ?_
   rotate_left
   ·
    rintro w' ⟨s0, s1, s2, s3, s4, s5, s6, s7, s8, s9, s10, s11, s12, s13, s14, s15, s16, s17, s18, s19, s20, s21, s22, s23, s24, s25⟩
    go_simp
    with_reducible rfl
   rotate_left
   ·
    simp only [Own.ps]
    rfl
   refine pure_ (i := 11) (N := some 24) (v := ?_) (a' := ?_) #[true, true, true, true, true, true, true, false, true, true, true, true, false, false, false, false] rfl rfl (any_of HT_.out (by kernel_rfl)) (fun _ _ _ h => h) (Or.inl ⟨by rfl, ?_⟩) ?_ ?_
   rotate_left
   ·
    intro w'
    go_simp
    with_reducible rfl
   rotate_left
   ·
    simp only [Own.ps]
    rfl
   refine pure_ (i := 12) (N := some 25) (v := ?_) (a' := ?_) #[true, true, true, true, true, true, true, false, true, true, true, true, true, false, false, false] rfl rfl (any_of HT_.out (by kernel_rfl)) (fun _ _ _ h => h) (Or.inl ⟨by rfl, ?_⟩) ?_ ?_
   rotate_left
   ·
    intro w'
    go_simp
    with_reducible rfl
   rotate_left
   ·
    simp only [Own.ps]
    rfl
   refine take_ (i := 13) (N := some 26) (v := ?_) (a' := ?_) #[true, true, true, true, true, true, true, false, true, true, true, true, true, true, false, false] rfl rfl (take_ofW HT_.out HW_.out (by kernel_rfl)) (fun _ _ _ h => h) (Or.inl ⟨by rfl, ?_⟩) hHeld ?_ ?_
   rotate_left
   ·
    rintro w' ⟨s0, s1, s2, s3, s4, s5, s6, s7, s8, s9, s10, s11, s12, s13, s14, s15, s16, s17, s18, s19, s20, s21, s22, s23, s24, s25⟩
    go_simp
    with_reducible rfl
   rotate_left
   ·
    simp only [Own.ps]
    rfl
   refine one_ (i := 7) (N := some 20) #[true, true, true, true, true, true, true, true, true, true, true, true, true, true, false, false] rfl rfl (one_of HT_.out (by kernel_rfl)) (by decide) (fun K hK => ?_)
   refine goes_ Tryd.func48 (by kernel_rfl) rfl #[.slice Ao11 x3_1.length co11, .string ((rd_T63 l0_1 x4_1).f3)] (by rfl) rfl rfl Own.ha ?_
   with_reducible refine (spec_l5Put.calls k1 (fun k_ => ((w.heap.size ≤ k_) ∧ k_ ≠ gb252)) _ _ x3_1 ((rd_T63 l0_1 x4_1).f3) t257 _ ?side1 A7.out).mono ?_
   (case side1 => exact HO_3.out)
   rintro e w12 ⟨v258, rfl, ho0, hb⟩
   refine ⟨_, rfl, ?_⟩
   have n0_ := Aside0.mk (Kd.V_below (Own.vd HO_3.out) hb)
   have n1_ := Aside0.mk (Kd.V_lower (Kd.V_mono (ok' := fun k_ => (w.heap.size ≤ k_) ∧ k_ ≠ gb252) ho0 (fun k_ hk_ => ⟨Or.elim hk_ (fun hs_ => hs_.1) (fun hn_ => (Nat.le_trans (below_size Own.bl) hn_)), Or.elim hk_ (fun hs_ => hs_.2) (fun hn_ => (Kd.freshB (Own.bkf BK252.out) k_ hn_))⟩)) (below_size Own.bl))
   have n2_ := Own.bb BK252.out hb
   have n3_ := Own.bs hb
   clear HO_3
   clear BK252
   clear HB
   have HO_3 := n0_
   have HO259 := n1_
   have BK252 := n2_
   have HB := n3_
   clear n0_ n1_ n2_ n3_
   (try clear hb)
   (try clear hb2)
   (try clear hk)
   (try clear hi)
   (try clear ho0)
   obtain ⟨Ao13, co13, eo13⟩ := Kd.V_slice HO259.out
   (first | subst eo13 | (injection eo13 with f1_ f2_ f3_; have f4_ := f1_.symm; have f5_ := f3_.symm; clear f1_ f2_ f3_; subst f4_; subst f5_))
   refine hK.out _ _ ⟨(blk_cell BK252.out 0).trans rfl, (blk_cell BK252.out 1).trans rfl, ((HB.out.cell (World.block_lt_of_cell? w _ hw256_0)).trans hw256_0), ((HB.out.cell (World.block_lt_of_cell? w _ hw256_1)).trans hw256_1), ((HB.out.cell (World.block_lt_of_cell? w _ hw256_2)).trans hw256_2), ((HB.out.cell (World.block_lt_of_cell? w _ hw256_3)).trans hw256_3), ((HB.out.cell (World.block_lt_of_cell? w _ hw256_4)).trans hw256_4), ((HB.out.cell (World.block_lt_of_cell? w _ hw256_5)).trans hw256_5), ((HB.out.cell (World.block_lt_of_cell? w _ hw256_6)).trans hw256_6), ((HB.out.cell (World.block_lt_of_cell? w _ hw256_7)).trans hw256_7), ((HB.out.cell (World.block_lt_of_cell? w _ hw256_8)).trans hw256_8), ((HB.out.cell (World.block_lt_of_cell? w _ hw256_9)).trans hw256_9), ((HB.out.cell (World.block_lt_of_cell? w _ hw256_10)).trans hw256_10), ((HB.out.cell (World.block_lt_of_cell? w _ hw256_11)).trans hw256_11), ((HB.out.cell (World.block_lt_of_cell? w _ hw260_0)).trans hw260_0), ((HB.out.cell (World.block_lt_of_cell? w _ hw260_1)).trans hw260_1), ((HB.out.cell (World.block_lt_of_cell? w _ hw260_2)).trans hw260_2), ((HB.out.cell (World.block_lt_of_cell? w _ hw260_3)).trans hw260_3), ((HB.out.cell (World.block_lt_of_cell? w _ hw260_4)).trans hw260_4), ((HB.out.cell (World.block_lt_of_cell? w _ hw260_5)).trans hw260_5), ((HB.out.cell (World.block_lt_of_cell? w _ hw260_6)).trans hw260_6), ((HB.out.cell (World.block_lt_of_cell? w _ hw260_7)).trans hw260_7), ((HB.out.cell (World.block_lt_of_cell? w _ hw260_8)).trans hw260_8), ((HB.out.cell (World.block_lt_of_cell? w _ hw260_9)).trans hw260_9), ((HB.out.cell (World.block_lt_of_cell? w _ hw260_10)).trans hw260_10), ((HB.out.cell (World.block_lt_of_cell? w _ hw260_11)).trans hw260_11)⟩ (fun hHeld => ?_)
   clear hK K
   refine norm_ (a' := ?_) ?_ ?_
   rotate_left
   ·
    show Act.put _ (some 20) _ = _
    simp only [Own.ps]
    rfl
   refine one_ (i := 14) (N := some 27) #[true, true, true, true, true, true, true, true, true, true, true, true, true, true, true, false] rfl rfl (one_of HT_.out (by kernel_rfl)) (by decide) (fun K hK => ?_)
   refine goes_ Tryd.func47 (by kernel_rfl) rfl #[.slice Ao13 t257.length co13, .agg #[.int .i64 ((rd_T63 l0_1 x4_1).f6.f0), .string ((rd_T63 l0_1 x4_1).f6.f1), .int .i64 ((rd_T63 l0_1 x4_1).f6.f2), .slice A256_9 ((rd_T63 l0_1 x4_1).f6.f3).length c256_9]] (by rfl) rfl rfl Own.ha ?_
   with_reducible refine (spec_l5Names.calls k1 (fun k_ => ((w.heap.size ≤ k_) ∧ k_ ≠ gb252)) _ _ t257 ((rd_T63 l0_1 x4_1).f6.f0) ((rd_T63 l0_1 x4_1).f6.f1) ((rd_T63 l0_1 x4_1).f6.f2) _ _ ((rd_T63 l0_1 x4_1).f6.f3) t261 _ ?side1 ?side2 ?side3 A8.out).mono ?_
   (case side1 => exact HO259.out)
   (case side2 => exact Kd.C_below HR260_9.out Own.bl)
   (case side3 => exact HC260_9.out)
   rintro e w14 ⟨v262, rfl, ho0, hb⟩
   refine ⟨_, rfl, ?_⟩
   have n0_ := Aside0.mk (Kd.V_below (Own.vd HO_3.out) hb)
   have n1_ := Aside0.mk (Kd.V_below (Own.vd HO259.out) hb)
   have n2_ := Aside0.mk (Kd.V_lower (Kd.V_mono (ok' := fun k_ => (w.heap.size ≤ k_) ∧ k_ ≠ gb252) ho0 (fun k_ hk_ => ⟨Or.elim hk_ (fun hs_ => hs_.1) (fun hn_ => (Nat.le_trans (below_size Own.bl) hn_)), Or.elim hk_ (fun hs_ => hs_.2) (fun hn_ => (Kd.freshB (Own.bkf BK252.out) k_ hn_))⟩)) (below_size Own.bl))
   have n3_ := Own.bb BK252.out hb
   have n4_ := Own.bs hb
   clear HO_3
   clear HO259
   clear BK252
   clear HB
   have HO_3 := n0_
   have HO259 := n1_
   have HO263 := n2_
   have BK252 := n3_
   have HB := n4_
   clear n0_ n1_ n2_ n3_ n4_
   (try clear hb)
   (try clear hb2)
   (try clear hk)
   (try clear hi)
   (try clear ho0)
   refine hK.out _ _ ⟨(blk_cell BK252.out 0).trans rfl, (blk_cell BK252.out 1).trans rfl, ((HB.out.cell (World.block_lt_of_cell? w _ hw256_0)).trans hw256_0), ((HB.out.cell (World.block_lt_of_cell? w _ hw256_1)).trans hw256_1), ((HB.out.cell (World.block_lt_of_cell? w _ hw256_2)).trans hw256_2), ((HB.out.cell (World.block_lt_of_cell? w _ hw256_3)).trans hw256_3), ((HB.out.cell (World.block_lt_of_cell? w _ hw256_4)).trans hw256_4), ((HB.out.cell (World.block_lt_of_cell? w _ hw256_5)).trans hw256_5), ((HB.out.cell (World.block_lt_of_cell? w _ hw256_6)).trans hw256_6), ((HB.out.cell (World.block_lt_of_cell? w _ hw256_7)).trans hw256_7), ((HB.out.cell (World.block_lt_of_cell? w _ hw256_8)).trans hw256_8), ((HB.out.cell (World.block_lt_of_cell? w _ hw256_9)).trans hw256_9), ((HB.out.cell (World.block_lt_of_cell? w _ hw256_10)).trans hw256_10), ((HB.out.cell (World.block_lt_of_cell? w _ hw256_11)).trans hw256_11), ((HB.out.cell (World.block_lt_of_cell? w _ hw260_0)).trans hw260_0), ((HB.out.cell (World.block_lt_of_cell? w _ hw260_1)).trans hw260_1), ((HB.out.cell (World.block_lt_of_cell? w _ hw260_2)).trans hw260_2), ((HB.out.cell (World.block_lt_of_cell? w _ hw260_3)).trans hw260_3), ((HB.out.cell (World.block_lt_of_cell? w _ hw260_4)).trans hw260_4), ((HB.out.cell (World.block_lt_of_cell? w _ hw260_5)).trans hw260_5), ((HB.out.cell (World.block_lt_of_cell? w _ hw260_6)).trans hw260_6), ((HB.out.cell (World.block_lt_of_cell? w _ hw260_7)).trans hw260_7), ((HB.out.cell (World.block_lt_of_cell? w _ hw260_8)).trans hw260_8), ((HB.out.cell (World.block_lt_of_cell? w _ hw260_9)).trans hw260_9), ((HB.out.cell (World.block_lt_of_cell? w _ hw260_10)).trans hw260_10), ((HB.out.cell (World.block_lt_of_cell? w _ hw260_11)).trans hw260_11)⟩ (fun hHeld => ?_)
   clear hK K
   refine norm_ (a' := ?_) ?_ ?_
   rotate_left
   ·
    show Act.put _ (some 27) _ = _
    simp only [Own.ps]
    rfl
   refine pure_ (i := 15) (N := some 3) (v := ?_) (a' := ?_) #[true, true, true, true, true, true, true, true, true, true, true, true, true, true, true, true] rfl rfl (any_of HT_.out (by kernel_rfl)) (fun _ _ _ h => h) (Or.inl ⟨by rfl, ?_⟩) ?_ ?_
   rotate_left
   ·
    intro w'
    go_simp
    with_reducible rfl
   rotate_left
   ·
    simp only [Own.ps]
    rfl
   refine done_ (done_of HT_.out (by kernel_rfl)) ?_
   try go_wp2
   go_roundg k1
   case measure => have := HK1.out; omega
   case rel => exact ⟨(t261), (wrap64 (x4_1 + 1)), Own.rs, H', ⟨by have := HK1.out; omega⟩, ⟨Own.vd HO263.out⟩, ⟨Own.bk⟩, ⟨Own.bl⟩⟩

/-! ### spec_l1In: function 35 -/
def spec_l1In.f (a0 : Int) (a1 : Int) (a2 : Int) : Option (Bool) := if a0 ≥ a1 then (some (decide (a0 ≤ a2))) else (some false)
set_option maxHeartbeats 8000000 in
set_option maxRecDepth 100000 in
theorem spec_l1In.calls (a0 : Int) (a1 : Int) (a2 : Int) (r : Bool) (w : World) (h : spec_l1In.f a0 a1 a2 = some r) :
  Calls Tryd.prog 35 #[.int .i64 a0, .int .i64 a1, .int .i64 a2] w fun e w' => e = .returned (.bool r) ∧ Drawn0 w w' := by
 have H : (if a0 ≥ a1 then (some (decide (a0 ≤ a2))) else (some false)) = some r := h
 clear h
 by_cases c4 : a0 ≥ a1
 ·
  rw [if_pos c4] at H
  have c4b0 : decide (a1 ≤ a0) = true := decide_eq_true c4
  clear c4
  obtain rfl := Option.some.inj H
  go_enter Tryd.func35, Tryd.ntmps35
  go_wp2
  go_ret
  exact ⟨by first | rfl | (simp; done) | (simp [*]; done), by repeat (first | exact Drawn0.refl _ | apply Drawn0.step)⟩
 rw [if_neg c4] at H
 have c4b0 : decide (a1 ≤ a0) = false := decide_eq_false c4
 clear c4
 obtain rfl := Option.some.inj H
 go_enter Tryd.func35, Tryd.ntmps35
 go_wp2
 go_ret
 exact ⟨by first | rfl | (simp; done) | (simp [*]; done), by repeat (first | exact Drawn0.refl _ | apply Drawn0.step)⟩

/-! ### spec_l5Sign: function 62 -/
def spec_l5Sign.f (a0 : Int) : Option (Bool) := if a0 ≥ 97 then (if a0 ≤ 122 then (some true) else (if a0 ≥ 48 then (some (decide (a0 ≤ 57))) else (some false))) else (if a0 ≥ 48 then (some (decide (a0 ≤ 57))) else (some false))
set_option maxHeartbeats 8000000 in
set_option maxRecDepth 100000 in
theorem spec_l5Sign.calls (a0 : Int) (r : Bool) (w : World) (h : spec_l5Sign.f a0 = some r) :
  Calls Tryd.prog 62 #[.int .u8 a0] w fun e w' => e = .returned (.bool r) ∧ Drawn0 w w' := by
 have H : (if a0 ≥ 97 then (if a0 ≤ 122 then (some true) else (if a0 ≥ 48 then (some (decide (a0 ≤ 57))) else (some false))) else (if a0 ≥ 48 then (some (decide (a0 ≤ 57))) else (some false))) = some r := h
 clear h
 by_cases c2 : a0 ≥ 97
 rotate_left
 ·
  rw [if_neg c2] at H
  have c2b0 : decide (97 ≤ a0) = false := decide_eq_false c2
  clear c2
  by_cases c5 : a0 ≥ 48
  ·
   rw [if_pos c5] at H
   have c5b0 : decide (48 ≤ a0) = true := decide_eq_true c5
   clear c5
   obtain rfl := Option.some.inj H
   go_enter Tryd.func62, Tryd.ntmps62
   go_wp2
   go_ret
   exact ⟨by first | rfl | (simp; done) | (simp [*]; done), by repeat (first | exact Drawn0.refl _ | apply Drawn0.step)⟩
  rw [if_neg c5] at H
  have c5b0 : decide (48 ≤ a0) = false := decide_eq_false c5
  clear c5
  obtain rfl := Option.some.inj H
  go_enter Tryd.func62, Tryd.ntmps62
  go_wp2
  go_ret
  exact ⟨by first | rfl | (simp; done) | (simp [*]; done), by repeat (first | exact Drawn0.refl _ | apply Drawn0.step)⟩
 rw [if_pos c2] at H
 have c2b0 : decide (97 ≤ a0) = true := decide_eq_true c2
 clear c2
 by_cases c3 : a0 ≤ 122
 ·
  rw [if_pos c3] at H
  replace c3 := decide_eq_true c3
  obtain rfl := Option.some.inj H
  go_enter Tryd.func62, Tryd.ntmps62
  go_wp2
  go_ret
  exact ⟨by first | rfl | (simp; done) | (simp [*]; done), by repeat (first | exact Drawn0.refl _ | apply Drawn0.step)⟩
 rw [if_neg c3] at H
 replace c3 := decide_eq_false c3
 by_cases c4 : a0 ≥ 48
 ·
  rw [if_pos c4] at H
  have c4b0 : decide (48 ≤ a0) = true := decide_eq_true c4
  clear c4
  obtain rfl := Option.some.inj H
  go_enter Tryd.func62, Tryd.ntmps62
  go_wp2
  go_ret
  exact ⟨by first | rfl | (simp; done) | (simp [*]; done), by repeat (first | exact Drawn0.refl _ | apply Drawn0.step)⟩
 rw [if_neg c4] at H
 have c4b0 : decide (48 ≤ a0) = false := decide_eq_false c4
 clear c4
 obtain rfl := Option.some.inj H
 go_enter Tryd.func62, Tryd.ntmps62
 go_wp2
 go_ret
 exact ⟨by first | rfl | (simp; done) | (simp [*]; done), by repeat (first | exact Drawn0.refl _ | apply Drawn0.step)⟩

end Go.Proofs.YtdfbfcgjcfbmpaaDoor.QFnExactFactNames
