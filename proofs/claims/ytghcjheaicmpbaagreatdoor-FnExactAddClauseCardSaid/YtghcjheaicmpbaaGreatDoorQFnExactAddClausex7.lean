-- Written by a program of this session out of the translation; Lean checks it.
import Derived.Test.YtghcjheaicmpbaaGreatDoorQFnExactAddClausex6
namespace Go.Proofs.YtghcjheaicmpbaaGreatDoor.QFnExactAddClause
open Go.RowKit Go.Proofs.YtghcjheaicmpbaaGreatDoorW.PrintWords Go.Proofs.YtghcjheaicmpbaaGreatDoorW.PrintLast
attribute [local go_sem] Instr.field asAgg
set_option linter.unusedVariables false
set_option linter.unusedSimpArgs false
/-! ### spec_l5Names: function 55 -/
mutual
def spec_l5Names.l0 : Nat → List ByteArray → Int → Int → ByteArray → Int → List (S41) → Option (List ByteArray)
 | 0, _, _, _, _, _, _ => none
 | k + 1, x0, x5, x238000, x238001, x238002, x238003 => if x5 < (x238003.length : Int) then (if 0 ≤ x5 then ((spec_l5Names.f k x0 ((rd_T41 x238003 x5).f0) ((rd_T41 x238003 x5).f1) ((rd_T41 x238003 x5).f2) ((rd_T41 x238003 x5).f3)).bind fun t242 => (spec_l5Names.l0 k t242 (wrap64 (x5 + 1)) x238000 x238001 x238002 x238003)) else (none)) else (some x0)
def spec_l5Names.f : Nat → List ByteArray → Int → ByteArray → Int → List (S41) → Option (List ByteArray)
 | 0, _, _, _, _, _ => none
 | k + 1, l0, a1_0, a1_1, a1_2, l1_3 => if a1_0 = 2 then ((spec_l5Put.f k l0 a1_1).bind fun t238 => (some t238)) else (spec_l5Names.l0 k l0 0 a1_0 a1_1 a1_2 l1_3)
end
set_option maxHeartbeats 8000000 in
set_option maxRecDepth 100000 in
theorem spec_l5Names.calls (k : Nat) : ∀ (P0_ : Nat → Prop) (A0 : Option Addr) (c0 : Nat) (l0 : List ByteArray) (a1_0 : Int) (a1_1 : ByteArray) (a1_2 : Int) (A1_3 : Option Addr) (c1_3 : Nat) (l1_3 : List (S41)) (r : List ByteArray) (w : World) (hs0 : Kd.V Kd.string 9 w w.heap.size (fun k_ => P0_ k_) (.slice A0 l0.length c0) l0) (hr1_3 : Kd.C k41 w A1_3 l1_3.length l1_3) (hc1_3 : l1_3.length ≤ c1_3) (h : spec_l5Names.f k l0 a1_0 a1_1 a1_2 l1_3 = some r),
  Calls Tryz.prog 55 #[.slice A0 l0.length c0, .agg #[.int .i64 a1_0, .string a1_1, .int .i64 a1_2, .slice A1_3 l1_3.length c1_3]] w fun e w' => ∃ v0_ : Value, e = .returned (v0_) ∧ Kd.V Kd.string 9 w' w.heap.size (fun k_ => (P0_ k_ ∨ w.heap.size ≤ k_)) v0_ r ∧ Below w.heap.size w w' := by
 induction k using Nat.strongRecOn with
 | _ k ih =>
 intro P0_ A0 c0 l0 a1_0 a1_1 a1_2 A1_3 c1_3 l1_3 r w hs0 hr1_3 hc1_3 h
 cases k with
 | zero => exact absurd h (by simp [spec_l5Names.f])
 | succ k =>
 simp only [spec_l5Names.f] at h
 have hu41 := Tryz.underlying41
 have HO0 := Aside0.mk (show Kd.V Kd.string 9 w w.heap.size (fun k_ => (P0_ k_ ∨ w.heap.size ≤ k_)) (.slice A0 l0.length c0) l0 from Kd.V_mono hs0 (fun k_ hk => .inl hk))
 have HR1_3 := Aside0.mk hr1_3
 have HC1_3 := Aside0.mk hc1_3
 clear hr1_3 hc1_3
 have HB := Aside0.mk (Below.refl w.heap.size w)
 have H : (if a1_0 = 2 then ((spec_l5Put.f k l0 a1_1).bind fun t238 => (some t238)) else (spec_l5Names.l0 k l0 0 a1_0 a1_1 a1_2 l1_3)) = some r := h
 clear h
 by_cases c3 : a1_0 = 2
 ·
  rw [if_pos c3] at H
  have c3b0 : (a1_0 == 2) = true := beq_iff_eq.mpr c3
  have c3b1 : (a1_0 != 2) = false := bne_eq_false_iff_eq.mpr c3
  clear c3
  replace H := Own.bd H; obtain ⟨t238, A4, H⟩ := H; obtain rfl := Option.some.inj H
  go_enter Tryz.func55, Tryz.ntmps55
  go_wp2_with (first | ((with_reducible refine gate_dst (N := 3) rfl ?_); refine Own.be (N := 3) (cs := #[.int .i64 a1_0, .string a1_1, .int .i64 a1_2, .slice A1_3 l1_3.length c1_3]) (t := 41) ?_; intro gb237 hg w5 hbox hb; have BK237 := Aside0.mk hbox; have GW237 := (Own.gs hg : Aside0 (w.heap.size ≤ gb237)); have GE237 := GW237; replace HO0 := Aside0.mk (Kd.V_below (Kd.V_elderB (Own.vd HO0.out) gb237 (Nat.le_of_eq hg.symm)) hb); replace HB := Own.bs hb; clear hb hbox hg; obtain ⟨z6_0, z6_1, z6_2, z6_3, y6_0, y6_1, y6_2, y6_3⟩ := Own.box4 BK237.out) | ((with_reducible refine gate_callee (f := 56) rfl ?_); refine goesL_ (some 12) rfl rfl Tryz.func56 (by kernel_rfl) rfl #[.slice A0 l0.length c0, .string a1_1] rfl Own.ha ?_; (with_reducible refine (spec_l5Put.calls k (fun k_ => ((P0_ k_ ∨ w.heap.size ≤ k_) ∧ k_ ≠ gb237)) _ _ l0 a1_1 t238 _ ?side1 A4.out).mono ?_); (case side1 => exact HO0.out); rintro e w7 ⟨v239, rfl, ho0, hb⟩; refine ⟨_, rfl, ?_⟩; have HO240 := Aside0.mk (Kd.V_lower (Kd.V_mono (ok' := fun k_ => (P0_ k_ ∨ w.heap.size ≤ k_) ∧ k_ ≠ gb237) ho0 (fun k_ hk_ => ⟨Or.elim hk_ (fun hs_ => hs_.1) (fun hn_ => (.inr (Nat.le_trans (below_size Own.bl) hn_))), Or.elim hk_ (fun hs_ => hs_.2) (fun hn_ => (Kd.freshB (Own.bkf BK237.out) k_ hn_))⟩)) (below_size Own.bl)); replace HO0 := Aside0.mk (Kd.V_below (Own.vd HO0.out) hb); replace BK237 := Own.bb BK237.out hb; replace HB := Own.bs hb; (try clear hb); (try clear ho0)))
  go_ret
  exact ⟨_, Own.rr, by (with_reducible repeat (first | apply Kd.V_alloc | apply Kd.V_drewN | apply Kd.V_drew)); exact Kd.V_mono HO240.out (fun _ hk => hk.1), Own.bl⟩
 rw [if_neg c3] at H
 have c3b0 : (a1_0 == 2) = false := beq_eq_false_iff_ne.mpr c3
 have c3b1 : (a1_0 != 2) = true := bne_iff_ne.mpr c3
 have H' := Aside0.mk H
 clear H
 go_enter Tryz.func55, Tryz.ntmps55
 go_wp2_with (first | ((with_reducible refine gate_dst (N := 3) rfl ?_); refine Own.be (N := 3) (cs := #[.int .i64 a1_0, .string a1_1, .int .i64 a1_2, .slice A1_3 l1_3.length c1_3]) (t := 41) ?_; intro gb237 hg w8 hbox hb; have BK237 := Aside0.mk hbox; have GW237 := (Own.gs hg : Aside0 (w.heap.size ≤ gb237)); have GE237 := GW237; replace HO0 := Aside0.mk (Kd.V_below (Kd.V_elderB (Own.vd HO0.out) gb237 (Nat.le_of_eq hg.symm)) hb); replace HB := Own.bs hb; clear hb hbox hg; obtain ⟨z9_0, z9_1, z9_2, z9_3, y9_0, y9_1, y9_2, y9_3⟩ := Own.box4 BK237.out))
 go_loopg [0, 5] k (fun kq v0 v5 w' => ∃ (x0_1 : List ByteArray) (x5_1 : Int), v5 = .int .i64 x5_1 ∧ Aside0 (spec_l5Names.l0 kq x0_1 x5_1 a1_0 a1_1 a1_2 l1_3 = some r) ∧ Aside0 (kq ≤ k) ∧ Aside0 (Kd.V Kd.string 9 w' w.heap.size (fun k_ => (P0_ k_ ∨ w.heap.size ≤ k_) ∧ k_ ≠ gb237) v0 x0_1) ∧ Aside0 (w'.heap[gb237]? = some (.cells #[.int .i64 a1_0, .string a1_1, .int .i64 a1_2, (.slice A1_3 l1_3.length c1_3)] 41 (0, 0))) ∧ Aside0 (Below w.heap.size w w'))
 case atStart => exact ⟨(l0), (0), Own.rs, H', ⟨Nat.le_refl _⟩, ⟨Own.vd HO0.out⟩, ⟨Own.bk⟩, ⟨Own.bl⟩⟩
 case round =>
  clear H'; try clear c3; try clear c3b0; try clear c3b1; try clear z9_0 z9_1 z9_2 z9_3; try clear y9_0 y9_1 y9_2 y9_3
  obtain ⟨x0_1, x5_1, rfl, HA, HK1, HO_0, BK237, HB⟩ := hrel
  cases gk with
  | zero => exact absurd HA.out (by simp [spec_l5Names.l0])
  | succ k1 =>
   have H := HA.out; clear HA
   simp only [spec_l5Names.l0] at H
   by_cases c10 : x5_1 < (l1_3.length : Int)
   rotate_left
   ·
    rw [if_neg c10] at H; replace c10 := decide_eq_false c10; obtain rfl := Option.some.inj H; obtain ⟨z16_0, z16_1, z16_2, z16_3, y16_0, y16_1, y16_2, y16_3⟩ := Own.box4 BK237.out
    go_wp2
    go_ret
    exact ⟨_, Own.rr, by (with_reducible repeat (first | apply Kd.V_alloc | apply Kd.V_drewN | apply Kd.V_drew)); exact Kd.V_mono HO_0.out (fun _ hk => hk.1), Own.bl⟩
   rw [if_pos c10] at H; replace c10 := decide_eq_true c10
   replace H := Own.ifd H; obtain ⟨c11, H⟩ := H
   replace H := Own.bd H; obtain ⟨t242, A12, H⟩ := H; have H' := Aside0.mk H; clear H; obtain ⟨z13_0, z13_1, z13_2, z13_3, y13_0, y13_1, y13_2, y13_3⟩ := Own.box4 BK237.out
   have p241 : 0 ≤ (x5_1 : Int) := Own.dp
   have q241 : x5_1 < (l1_3.length : Int) := Own.dp
   obtain ⟨ad241, A241_3, c241_3, e241, hx241_0, hx241_1, hx241_2, hx241_3, hl241_3, hi241_3⟩ := at_T41 HR1_3.out x5_1 p241 q241; cases e241; replace hx241_0 := Own.up HB.out hx241_0; replace hx241_1 := Own.up HB.out hx241_1; replace hx241_2 := Own.up HB.out hx241_2; replace hx241_3 := Own.up HB.out hx241_3; have HR241_3 := Aside0.mk hi241_3; have HC241_3 := Aside0.mk hl241_3; clear hi241_3 hl241_3; replace p241 := eq_true p241; replace q241 := eq_true q241; obtain ⟨Ao14, co14, eo14⟩ := Kd.V_slice HO_0.out; subst eo14
   go_wp2_with (first | ((with_reducible refine gate_callee (f := 55) rfl ?_); refine goesL_ (some 26) rfl rfl Tryz.func55 (by kernel_rfl) rfl #[.slice Ao14 x0_1.length co14, .agg #[.int .i64 ((rd_T41 l1_3 x5_1).f0), .string ((rd_T41 l1_3 x5_1).f1), .int .i64 ((rd_T41 l1_3 x5_1).f2), .slice A241_3 ((rd_T41 l1_3 x5_1).f3).length c241_3]] rfl Own.ha ?_; (with_reducible refine (ih k1 (by have := HK1.out; omega) (fun k_ => ((P0_ k_ ∨ w.heap.size ≤ k_) ∧ k_ ≠ gb237)) _ _ x0_1 ((rd_T41 l1_3 x5_1).f0) ((rd_T41 l1_3 x5_1).f1) ((rd_T41 l1_3 x5_1).f2) _ _ ((rd_T41 l1_3 x5_1).f3) t242 _ ?side1 ?side2 ?side3 A12.out).mono ?_); (case side1 => exact HO_0.out); (case side2 => exact Kd.C_below HR241_3.out Own.bl); (case side3 => exact HC241_3.out); rintro e w15 ⟨v243, rfl, ho0, hb⟩; refine ⟨_, rfl, ?_⟩; have HO244 := Aside0.mk (Kd.V_lower (Kd.V_mono (ok' := fun k_ => (P0_ k_ ∨ w.heap.size ≤ k_) ∧ k_ ≠ gb237) ho0 (fun k_ hk_ => ⟨Or.elim hk_ (fun hs_ => hs_.1) (fun hn_ => (.inr (Nat.le_trans (below_size Own.bl) hn_))), Or.elim hk_ (fun hs_ => hs_.2) (fun hn_ => (Kd.freshB (Own.bkf BK237.out) k_ hn_))⟩)) (below_size Own.bl)); replace HO_0 := Aside0.mk (Kd.V_below (Own.vd HO_0.out) hb); replace BK237 := Own.bb BK237.out hb; replace HB := Own.bs hb; (try clear hb); (try clear ho0)))
   go_roundg k1
   case measure => have := HK1.out; omega
   case rel => exact ⟨(t242), (wrap64 (x5_1 + 1)), Own.rs, H', ⟨by have := HK1.out; omega⟩, ⟨Own.vd HO244.out⟩, ⟨Own.bk⟩, ⟨Own.bl⟩⟩
/-! ### spec_l6Names: function 40 -/
def spec_l6Names.l0 : Nat → List ByteArray → Int → List ByteArray → List (S43) → Option (List ByteArray)
 | 0, _, _, _, _ => none
 | k + 1, x3, x4, x246000, x246001 => if x4 < (x246001.length : Int) then (if 0 ≤ x4 then ((spec_l5Put.f k x3 ((rd_T43 x246001 x4).f3)).bind fun t250 => ((spec_l5Names.f k t250 ((rd_T43 x246001 x4).f6.f0) ((rd_T43 x246001 x4).f6.f1) ((rd_T43 x246001 x4).f6.f2) ((rd_T43 x246001 x4).f6.f3)).bind fun t254 => (spec_l6Names.l0 k t254 (wrap64 (x4 + 1)) x246000 x246001))) else (none)) else (some x3)
def spec_l6Names.f (k : Nat) (l0_0 : List ByteArray) (l0_1 : List (S43)) : Option (List ByteArray) := spec_l6Names.l0 k (([] : List ByteArray)) 0 l0_0 l0_1
def spec_l6Names.T5 : Bool × List (List Nat × List Nat) := (true, [([], []), ([], []), ([1], [1]), ([], []), ([2, 3], [2, 3]), ([4], [4]), ([5], [5]), ([0, 6], [0, 6]), ([], []), ([8], [8]), ([], []), ([9, 10], [9, 10]), ([11], [11]), ([12], [12]), ([7, 13, 7], [7, 13]), ([14, 14, 0, 1, 2, 3, 4, 5, 6, 7, 8, 9, 10, 11, 12, 13, 14], [0, 14])])
def spec_l6Names.B5 : List Nat := [0, 0, 2, 0, 14, 30, 62, 127, 0, 256, 0, 1792, 3840, 7936, 16383, 32767]
theorem spec_l6Names.tab5 : rtab .any (opsOf Tryz.f40 5) = spec_l6Names.T5 := by kernel_rfl
theorem spec_l6Names.bits5 : waitsOk spec_l6Names.T5.2 spec_l6Names.B5 = true := by kernel_rfl
set_option maxHeartbeats 8000000 in
set_option maxRecDepth 100000 in
theorem spec_l6Names.calls (k : Nat) (A0_0 : Option Addr) (c0_0 : Nat) (l0_0 : List ByteArray) (A0_1 : Option Addr) (c0_1 : Nat) (l0_1 : List (S43)) (r : List ByteArray) (w : World) (hr0_0 : Kd.C Kd.string w A0_0 l0_0.length l0_0) (hc0_0 : l0_0.length ≤ c0_0) (hr0_1 : Kd.C k43 w A0_1 l0_1.length l0_1) (hc0_1 : l0_1.length ≤ c0_1) (h : spec_l6Names.f k l0_0 l0_1 = some r) :
  Calls Tryz.prog 40 #[.agg #[.slice A0_0 l0_0.length c0_0, .slice A0_1 l0_1.length c0_1]] w fun e w' => ∃ v0_ : Value, e = .returned (v0_) ∧ Kd.V Kd.string 9 w' w.heap.size (fun k_ => (w.heap.size ≤ k_)) v0_ r ∧ Below w.heap.size w w' := by
 have hu35 := Tryz.underlying35
 have hu41 := Tryz.underlying41
 have HR0_0 := Aside0.mk hr0_0
 have HC0_0 := Aside0.mk hc0_0
 clear hr0_0 hc0_0
 have HR0_1 := Aside0.mk hr0_1
 have HC0_1 := Aside0.mk hc0_1
 clear hr0_1 hc0_1
 have HB := Aside0.mk (Below.refl w.heap.size w)
 have H : (spec_l6Names.l0 k (([] : List ByteArray)) 0 l0_0 l0_1) = some r := h
 clear h
 obtain ⟨y246, hy246⟩ : ∃ y_ : List ByteArray, y_ = (([] : List ByteArray)) := ⟨_, rfl⟩
 replace H : (spec_l6Names.l0 k y246 0 l0_0 l0_1) = some r := by first | (rw [hy246]; with_reducible exact H) | (have H2_ := (Option.bind_some _ _).symm.trans H; rw [hy246]; with_reducible exact H2_) | (have H2_ := (Option.bind_some _ _).symm.trans H; with_reducible exact H2_) | with_reducible exact H | (rw [hy246]; exact H) | exact H
 have Ny246 := Aside0.mk hy246
 clear hy246
 have H' := Aside0.mk H
 clear H
 go_enter Tryz.func40, Tryz.ntmps40
 go_wp2_with (first | ((with_reducible refine gate_dst (N := 1) rfl ?_); refine Own.be (N := 1) (cs := #[.slice A0_0 l0_0.length c0_0, .slice A0_1 l0_1.length c0_1]) (t := 35) ?_; intro gb245 hg w2 hbox hb; have BK245 := Aside0.mk hbox; have GW245 := (Own.gs hg : Aside0 (w.heap.size ≤ gb245)); have GE245 := GW245; replace HB := Own.bs hb; clear hb hbox hg) | ((with_reducible refine gate_dst (N := 5) rfl ?_); refine Kd.R_lit Kd.string _ 9 ?hg (N := 5) ?hd (xs := ([] : List ByteArray)) (inner := []) (ok := fun _ => True) (okp := fun _ => True) ?hr ?hp (fun _ hk => hk) trivial (Below.refl _ _) (Nat.le_refl _) (by simp) ?_; (case hd => rfl); (case hg => rfl); (case hr => first | (go_simp; done) | (go_simp; rfl)); (case hp => exact (Reps.none _ _)); intro v247 w3 ho4 hb hg_ hnew_; clear hg_ hnew_; (first | rw [← Ny246.out] at ho4 | (simp only [Int.reduceToNat] at ho4; rw [← Ny246.out] at ho4)); have HO248 := Aside0.mk (Kd.R_lower (Kd.R_newM (M := fun k_ => (w.heap.size ≤ k_)) ho4 (below_size Own.bl) (fun k_ h_ => h_)) (below_size Own.bl)); replace BK245 := Own.bb BK245.out hb; replace HB := Own.bs hb; clear hb ho4))
 go_loopg [3, 4] k (fun kq v3 v4 w' => ∃ (x3_1 : List ByteArray) (x4_1 : Int), v4 = .int .i64 x4_1 ∧ Aside0 (spec_l6Names.l0 kq x3_1 x4_1 l0_0 l0_1 = some r) ∧ Aside0 (kq ≤ k) ∧ Aside0 (Kd.V Kd.string 9 w' w.heap.size (fun k_ => (w.heap.size ≤ k_) ∧ k_ ≠ gb245) v3 x3_1) ∧ Aside0 (w'.heap[gb245]? = some (.cells #[(.slice A0_0 l0_0.length c0_0), (.slice A0_1 l0_1.length c0_1)] 35 (0, 0))) ∧ Aside0 (Below w.heap.size w w'))
 case atStart => exact ⟨(y246), (0), Own.rs, H', ⟨Nat.le_refl _⟩, ⟨Kd.R_V (by (with_reducible repeat (first | apply Kd.R_alloc | apply Kd.R_drewN | apply Kd.R_drew)); exact Kd.R_mono (Kd.R_types HO248.out BK245.out (by decide)) (fun _ hk => ⟨hk.1.1, hk.2⟩))⟩, ⟨Own.bk⟩, ⟨Own.bl⟩⟩
 case round =>
  clear H'; try clear p2; try clear c4
  obtain ⟨x3_1, x4_1, rfl, HA, HK1, HO_3, BK245, HB⟩ := hrel
  cases gk with
  | zero => exact absurd HA.out (by simp [spec_l6Names.l0])
  | succ k1 =>
   have H := HA.out; clear HA
   simp only [spec_l6Names.l0] at H
   by_cases c5 : x4_1 < (l0_1.length : Int)
   rotate_left
   ·
    rw [if_neg c5] at H; replace c5 := decide_eq_false c5; obtain rfl := Option.some.inj H; obtain ⟨z15_0, z15_1, y15_0, y15_1⟩ := Own.box2 BK245.out
    go_wp2
    go_ret
    exact ⟨_, Own.rr, by (with_reducible repeat (first | apply Kd.V_alloc | apply Kd.V_drewN | apply Kd.V_drew)); exact Kd.V_mono HO_3.out (fun _ hk => hk.1), Own.bl⟩
   rw [if_pos c5] at H; replace c5 := decide_eq_true c5
   replace H := Own.ifd H; obtain ⟨c6, H⟩ := H
   replace H := Own.bd H; obtain ⟨t250, A7, H⟩ := H
   replace H := Own.bd H; obtain ⟨t254, A8, H⟩ := H; have H' := Aside0.mk H; clear H; obtain ⟨z9_0, z9_1, y9_0, y9_1⟩ := Own.box2 BK245.out
   try go_wp2
   have n0_ := Aside0.mk (Kd.V_drew HO_3.out)
   have n1_ := Aside0.mk (blk_drew BK245.out)
   have n2_ := Aside0.mk (below_drew1 HB.out)
   clear HO_3; clear BK245; clear HB; have HO_3 := n0_; have BK245 := n1_; have HB := n2_; clear n0_ n1_ n2_
   have p249 : 0 ≤ (x4_1 : Int) := Own.dp
   have q249 : x4_1 < (l0_1.length : Int) := Own.dp
   obtain ⟨ad249, A249_9, c249_9, e249, hx249_0, hx249_1, hx249_2, hx249_3, hx249_4, hx249_5, hx249_6, hx249_7, hx249_8, hx249_9, hx249_10, hx249_11, hl249_9, hi249_9⟩ := at_T43 HR0_1.out x4_1 p249 q249; have hw249_11 := hx249_11; have hw249_10 := hx249_10; have hw249_9 := hx249_9; have hw249_8 := hx249_8; have hw249_7 := hx249_7; have hw249_6 := hx249_6; have hw249_5 := hx249_5; have hw249_4 := hx249_4; have hw249_3 := hx249_3; have hw249_2 := hx249_2; have hw249_1 := hx249_1; have hw249_0 := hx249_0; cases e249; replace hx249_0 := Own.up HB.out hx249_0; replace hx249_1 := Own.up HB.out hx249_1; replace hx249_2 := Own.up HB.out hx249_2; replace hx249_3 := Own.up HB.out hx249_3; replace hx249_4 := Own.up HB.out hx249_4; replace hx249_5 := Own.up HB.out hx249_5; replace hx249_6 := Own.up HB.out hx249_6; replace hx249_7 := Own.up HB.out hx249_7; replace hx249_8 := Own.up HB.out hx249_8; replace hx249_9 := Own.up HB.out hx249_9; replace hx249_10 := Own.up HB.out hx249_10; replace hx249_11 := Own.up HB.out hx249_11; have HR249_9 := Aside0.mk hi249_9; have HC249_9 := Aside0.mk hl249_9; clear hi249_9 hl249_9; replace p249 := eq_true p249; replace q249 := eq_true q249
   have p253 : 0 ≤ (x4_1 : Int) := Own.dp
   have q253 : x4_1 < (l0_1.length : Int) := Own.dp
   obtain ⟨ad253, A253_9, c253_9, e253, hx253_0, hx253_1, hx253_2, hx253_3, hx253_4, hx253_5, hx253_6, hx253_7, hx253_8, hx253_9, hx253_10, hx253_11, hl253_9, hi253_9⟩ := at_T43 HR0_1.out x4_1 p253 q253; have hw253_11 := hx253_11; have hw253_10 := hx253_10; have hw253_9 := hx253_9; have hw253_8 := hx253_8; have hw253_7 := hx253_7; have hw253_6 := hx253_6; have hw253_5 := hx253_5; have hw253_4 := hx253_4; have hw253_3 := hx253_3; have hw253_2 := hx253_2; have hw253_1 := hx253_1; have hw253_0 := hx253_0
   obtain rfl : ad249 = ad253 := (by injection e253)
   replace hx253_0 := Own.up HB.out hx253_0; replace hx253_1 := Own.up HB.out hx253_1; replace hx253_2 := Own.up HB.out hx253_2; replace hx253_3 := Own.up HB.out hx253_3; replace hx253_4 := Own.up HB.out hx253_4; replace hx253_5 := Own.up HB.out hx253_5; replace hx253_6 := Own.up HB.out hx253_6; replace hx253_7 := Own.up HB.out hx253_7; replace hx253_8 := Own.up HB.out hx253_8; replace hx253_9 := Own.up HB.out hx253_9; replace hx253_10 := Own.up HB.out hx253_10; replace hx253_11 := Own.up HB.out hx253_11; have HR253_9 := Aside0.mk hi253_9; have HC253_9 := Aside0.mk hl253_9; clear hi253_9 hl253_9; replace p253 := eq_true p253; replace q253 := eq_true q253
   have ea_ := Option.some.inj (hx249_9.symm.trans hx253_9)
   injection ea_ with ea_ en_ ec_
   subst ea_; subst ec_; clear en_; obtain ⟨Ao11, co11, eo11⟩ := Kd.V_slice HO_3.out
   (first | subst eo11 | (injection eo11 with f1_ f2_ f3_; have f4_ := f1_.symm; have f5_ := f3_.symm; clear f1_ f2_ f3_; subst f4_; subst f5_))
   refine start_ (n := 16) (S := fun w' => w'.cell? ⟨gb245, 0, none⟩ = some (.slice A0_0 l0_0.length c0_0) ∧ w'.cell? ⟨gb245, 1, none⟩ = some (.slice (some ad249) l0_1.length c0_1) ∧ w'.cell? (ad249.add ((x4_1).toNat * 12)) = some (.string ((rd_T43 l0_1 x4_1).f0)) ∧ w'.cell? ⟨(ad249.add ((x4_1).toNat * 12)).block, (ad249.add ((x4_1).toNat * 12)).off + 1, none⟩ = some (.int .i64 ((rd_T43 l0_1 x4_1).f1)) ∧ w'.cell? ⟨(ad249.add ((x4_1).toNat * 12)).block, (ad249.add ((x4_1).toNat * 12)).off + 2, none⟩ = some (.int .i64 ((rd_T43 l0_1 x4_1).f2)) ∧ w'.cell? ⟨(ad249.add ((x4_1).toNat * 12)).block, (ad249.add ((x4_1).toNat * 12)).off + 3, none⟩ = some (.string ((rd_T43 l0_1 x4_1).f3)) ∧ w'.cell? ⟨(ad249.add ((x4_1).toNat * 12)).block, (ad249.add ((x4_1).toNat * 12)).off + 4, none⟩ = some (.int .i64 ((rd_T43 l0_1 x4_1).f4)) ∧ w'.cell? ⟨(ad249.add ((x4_1).toNat * 12)).block, (ad249.add ((x4_1).toNat * 12)).off + 5, none⟩ = some (.int .i64 ((rd_T43 l0_1 x4_1).f5)) ∧ w'.cell? ⟨(ad249.add ((x4_1).toNat * 12)).block, (ad249.add ((x4_1).toNat * 12)).off + 6, none⟩ = some (.int .i64 ((rd_T43 l0_1 x4_1).f6.f0)) ∧ w'.cell? ⟨(ad249.add ((x4_1).toNat * 12)).block, (ad249.add ((x4_1).toNat * 12)).off + 7, none⟩ = some (.string ((rd_T43 l0_1 x4_1).f6.f1)) ∧ w'.cell? ⟨(ad249.add ((x4_1).toNat * 12)).block, (ad249.add ((x4_1).toNat * 12)).off + 8, none⟩ = some (.int .i64 ((rd_T43 l0_1 x4_1).f6.f2)) ∧ w'.cell? ⟨(ad249.add ((x4_1).toNat * 12)).block, (ad249.add ((x4_1).toNat * 12)).off + 9, none⟩ = some (.slice A249_9 ((rd_T43 l0_1 x4_1).f6.f3).length c249_9) ∧ w'.cell? ⟨(ad249.add ((x4_1).toNat * 12)).block, (ad249.add ((x4_1).toNat * 12)).off + 10, none⟩ = some (.int .i64 ((rd_T43 l0_1 x4_1).f7)) ∧ w'.cell? ⟨(ad249.add ((x4_1).toNat * 12)).block, (ad249.add ((x4_1).toNat * 12)).off + 11, none⟩ = some (.string ((rd_T43 l0_1 x4_1).f8)) ∧ w'.cell? (ad249.add ((x4_1).toNat * 12)) = some (.string ((rd_T43 l0_1 x4_1).f0)) ∧ w'.cell? ⟨(ad249.add ((x4_1).toNat * 12)).block, (ad249.add ((x4_1).toNat * 12)).off + 1, none⟩ = some (.int .i64 ((rd_T43 l0_1 x4_1).f1)) ∧ w'.cell? ⟨(ad249.add ((x4_1).toNat * 12)).block, (ad249.add ((x4_1).toNat * 12)).off + 2, none⟩ = some (.int .i64 ((rd_T43 l0_1 x4_1).f2)) ∧ w'.cell? ⟨(ad249.add ((x4_1).toNat * 12)).block, (ad249.add ((x4_1).toNat * 12)).off + 3, none⟩ = some (.string ((rd_T43 l0_1 x4_1).f3)) ∧ w'.cell? ⟨(ad249.add ((x4_1).toNat * 12)).block, (ad249.add ((x4_1).toNat * 12)).off + 4, none⟩ = some (.int .i64 ((rd_T43 l0_1 x4_1).f4)) ∧ w'.cell? ⟨(ad249.add ((x4_1).toNat * 12)).block, (ad249.add ((x4_1).toNat * 12)).off + 5, none⟩ = some (.int .i64 ((rd_T43 l0_1 x4_1).f5)) ∧ w'.cell? ⟨(ad249.add ((x4_1).toNat * 12)).block, (ad249.add ((x4_1).toNat * 12)).off + 6, none⟩ = some (.int .i64 ((rd_T43 l0_1 x4_1).f6.f0)) ∧ w'.cell? ⟨(ad249.add ((x4_1).toNat * 12)).block, (ad249.add ((x4_1).toNat * 12)).off + 7, none⟩ = some (.string ((rd_T43 l0_1 x4_1).f6.f1)) ∧ w'.cell? ⟨(ad249.add ((x4_1).toNat * 12)).block, (ad249.add ((x4_1).toNat * 12)).off + 8, none⟩ = some (.int .i64 ((rd_T43 l0_1 x4_1).f6.f2)) ∧ w'.cell? ⟨(ad249.add ((x4_1).toNat * 12)).block, (ad249.add ((x4_1).toNat * 12)).off + 9, none⟩ = some (.slice A249_9 ((rd_T43 l0_1 x4_1).f6.f3).length c249_9) ∧ w'.cell? ⟨(ad249.add ((x4_1).toNat * 12)).block, (ad249.add ((x4_1).toNat * 12)).off + 10, none⟩ = some (.int .i64 ((rd_T43 l0_1 x4_1).f7)) ∧ w'.cell? ⟨(ad249.add ((x4_1).toNat * 12)).block, (ad249.add ((x4_1).toNat * 12)).off + 11, none⟩ = some (.string ((rd_T43 l0_1 x4_1).f8))) (ds := []) (Own.fl 16 0) (by kernel_rfl) rfl rfl ⟨(blk_cell BK245.out 0).trans rfl, (blk_cell BK245.out 1).trans rfl, (Own.up HB.out hw249_0), (Own.up HB.out hw249_1), (Own.up HB.out hw249_2), (Own.up HB.out hw249_3), (Own.up HB.out hw249_4), (Own.up HB.out hw249_5), (Own.up HB.out hw249_6), (Own.up HB.out hw249_7), (Own.up HB.out hw249_8), (Own.up HB.out hw249_9), (Own.up HB.out hw249_10), (Own.up HB.out hw249_11), (Own.up HB.out hw253_0), (Own.up HB.out hw253_1), (Own.up HB.out hw253_2), (Own.up HB.out hw253_3), (Own.up HB.out hw253_4), (Own.up HB.out hw253_5), (Own.up HB.out hw253_6), (Own.up HB.out hw253_7), (Own.up HB.out hw253_8), (Own.up HB.out hw253_9), (Own.up HB.out hw253_10), (Own.up HB.out hw253_11)⟩ (fun hHeld => ?_); refine with_tabW spec_l6Names.tab5 spec_l6Names.bits5 (fun HT_ HW_ => ?_)
   generalize wr.drew = w10 at HO_3 BK245 HB HR249_9 HR253_9 hx249_0 hx249_1 hx249_10 hx249_11 hx249_2 hx249_3 hx249_4 hx249_5 hx249_6 hx249_7 hx249_8 hx249_9 hx253_0 hx253_1 hx253_10 hx253_11 hx253_2 hx253_3 hx253_4 hx253_5 hx253_6 hx253_7 hx253_8 hx253_9 hHeld ⊢
   refine pure_ (i := 0) (N := some 13) (v := ?_) (a' := ?_) (Own.fl 16 1) rfl rfl (any_of HT_.out (by kernel_rfl)) (fun _ _ _ h => h) (Or.inl ⟨by rfl, ?_⟩) ?_ ?_; rotate_left; intro w'; go_simp; with_reducible rfl; rotate_left; simp only [Own.ps]; rfl
   refine pure_ (i := 1) (N := some 14) (v := ?_) (a' := ?_) (Own.fl 16 3) rfl rfl (any_of HT_.out (by kernel_rfl)) (fun _ _ _ h => h) (Or.inl ⟨by rfl, ?_⟩) ?_ ?_; rotate_left; intro w'; go_simp; with_reducible rfl; rotate_left; simp only [Own.ps]; rfl
   refine pure_ (i := 3) (N := some 16) (v := ?_) (a' := ?_) (Own.fl 16 11) rfl rfl (any_of HT_.out (by kernel_rfl)) (fun _ _ _ h => h) (Or.inl ⟨by rfl, ?_⟩) ?_ ?_; rotate_left; intro w'; go_simp; with_reducible rfl; rotate_left; simp only [Own.ps]; rfl
   refine pure_ (i := 8) (N := some 21) (v := ?_) (a' := ?_) (Own.fl 16 267) rfl rfl (any_of HT_.out (by kernel_rfl)) (fun _ _ _ h => h) (Or.inl ⟨by rfl, ?_⟩) ?_ ?_; rotate_left; intro w'; go_simp; with_reducible rfl; rotate_left; simp only [Own.ps]; rfl
   refine pure_ (i := 10) (N := some 23) (v := ?_) (a' := ?_) (Own.fl 16 1291) rfl rfl (any_of HT_.out (by kernel_rfl)) (fun _ _ _ h => h) (Or.inl ⟨by rfl, ?_⟩) ?_ ?_; rotate_left; intro w'; go_simp; with_reducible rfl; rotate_left; simp only [Own.ps]; rfl
   refine take_ (i := 2) (N := some 15) (v := ?_) (a' := ?_) (Own.fl 16 1295) rfl rfl (take_ofW HT_.out HW_.out (by kernel_rfl)) (fun _ _ _ h => h) (Or.inl ⟨by rfl, ?_⟩) hHeld ?_ ?_; rotate_left; rintro w' ⟨s0, s1, s2, s3, s4, s5, s6, s7, s8, s9, s10, s11, s12, s13, s14, s15, s16, s17, s18, s19, s20, s21, s22, s23, s24, s25⟩; go_simp; with_reducible rfl; rotate_left; simp only [Own.ps]; rfl
   refine pure_ (i := 4) (N := some 17) (v := ?_) (a' := ?_) (Own.fl 16 1311) rfl rfl (any_of HT_.out (by kernel_rfl)) (fun _ _ _ h => h) (Or.inl ⟨by rfl, ?_⟩) ?_ ?_; rotate_left; intro w'; go_simp; with_reducible rfl; rotate_left; simp only [Own.ps]; rfl
   refine pure_ (i := 5) (N := some 18) (v := ?_) (a' := ?_) (Own.fl 16 1343) rfl rfl (any_of HT_.out (by kernel_rfl)) (fun _ _ _ h => h) (Or.inl ⟨by rfl, ?_⟩) ?_ ?_; rotate_left; intro w'; go_simp; with_reducible rfl; rotate_left; simp only [Own.ps]; rfl
   refine take_ (i := 6) (N := some 19) (v := ?_) (a' := ?_) (Own.fl 16 1407) rfl rfl (take_ofW HT_.out HW_.out (by kernel_rfl)) (fun _ _ _ h => h) (Or.inl ⟨by rfl, ?_⟩) hHeld ?_ ?_; rotate_left; rintro w' ⟨s0, s1, s2, s3, s4, s5, s6, s7, s8, s9, s10, s11, s12, s13, s14, s15, s16, s17, s18, s19, s20, s21, s22, s23, s24, s25⟩; go_simp; with_reducible rfl; rotate_left; simp only [Own.ps]; rfl
   refine take_ (i := 9) (N := some 22) (v := ?_) (a' := ?_) (Own.fl 16 1919) rfl rfl (take_ofW HT_.out HW_.out (by kernel_rfl)) (fun _ _ _ h => h) (Or.inl ⟨by rfl, ?_⟩) hHeld ?_ ?_; rotate_left; rintro w' ⟨s0, s1, s2, s3, s4, s5, s6, s7, s8, s9, s10, s11, s12, s13, s14, s15, s16, s17, s18, s19, s20, s21, s22, s23, s24, s25⟩; go_simp; with_reducible rfl; rotate_left; simp only [Own.ps]; rfl
   refine pure_ (i := 11) (N := some 24) (v := ?_) (a' := ?_) (Own.fl 16 3967) rfl rfl (any_of HT_.out (by kernel_rfl)) (fun _ _ _ h => h) (Or.inl ⟨by rfl, ?_⟩) ?_ ?_; rotate_left; intro w'; go_simp; with_reducible rfl; rotate_left; simp only [Own.ps]; rfl
   refine pure_ (i := 12) (N := some 25) (v := ?_) (a' := ?_) (Own.fl 16 8063) rfl rfl (any_of HT_.out (by kernel_rfl)) (fun _ _ _ h => h) (Or.inl ⟨by rfl, ?_⟩) ?_ ?_; rotate_left; intro w'; go_simp; with_reducible rfl; rotate_left; simp only [Own.ps]; rfl
   refine take_ (i := 13) (N := some 26) (v := ?_) (a' := ?_) (Own.fl 16 16255) rfl rfl (take_ofW HT_.out HW_.out (by kernel_rfl)) (fun _ _ _ h => h) (Or.inl ⟨by rfl, ?_⟩) hHeld ?_ ?_; rotate_left; rintro w' ⟨s0, s1, s2, s3, s4, s5, s6, s7, s8, s9, s10, s11, s12, s13, s14, s15, s16, s17, s18, s19, s20, s21, s22, s23, s24, s25⟩; go_simp; with_reducible rfl; rotate_left; simp only [Own.ps]; rfl
   refine one_ (i := 7) (N := some 20) (Own.fl 16 16383) rfl rfl (one_of HT_.out (by kernel_rfl)) (by decide) (fun K hK => ?_)
   refine goes_ Tryz.func56 (by kernel_rfl) rfl #[.slice Ao11 x3_1.length co11, .string ((rd_T43 l0_1 x4_1).f3)] (by rfl) rfl rfl Own.ha ?_
   with_reducible refine (spec_l5Put.calls k1 (fun k_ => ((w.heap.size ≤ k_) ∧ k_ ≠ gb245)) _ _ x3_1 ((rd_T43 l0_1 x4_1).f3) t250 _ ?side1 A7.out).mono ?_
   (case side1 => exact HO_3.out)
   rintro e w12 ⟨v251, rfl, ho0, hb⟩
   refine ⟨_, rfl, ?_⟩
   have n0_ := Aside0.mk (Kd.V_below (Own.vd HO_3.out) hb)
   have n1_ := Aside0.mk (Kd.V_lower (Kd.V_mono (ok' := fun k_ => (w.heap.size ≤ k_) ∧ k_ ≠ gb245) ho0 (fun k_ hk_ => ⟨Or.elim hk_ (fun hs_ => hs_.1) (fun hn_ => (Nat.le_trans (below_size Own.bl) hn_)), Or.elim hk_ (fun hs_ => hs_.2) (fun hn_ => (Kd.freshB (Own.bkf BK245.out) k_ hn_))⟩)) (below_size Own.bl))
   have n2_ := Own.bb BK245.out hb; have n3_ := Own.bs hb; clear HO_3; clear BK245; clear HB; have HO_3 := n0_; have HO252 := n1_; have BK245 := n2_; have HB := n3_; clear n0_ n1_ n2_ n3_
   (try clear hb)
   (try clear hb2)
   (try clear hk)
   (try clear hi)
   (try clear ho0)
   obtain ⟨Ao13, co13, eo13⟩ := Kd.V_slice HO252.out
   (first | subst eo13 | (injection eo13 with f1_ f2_ f3_; have f4_ := f1_.symm; have f5_ := f3_.symm; clear f1_ f2_ f3_; subst f4_; subst f5_))
   refine hK.out _ _ ⟨(blk_cell BK245.out 0).trans rfl, (blk_cell BK245.out 1).trans rfl, (Own.up HB.out hw249_0), (Own.up HB.out hw249_1), (Own.up HB.out hw249_2), (Own.up HB.out hw249_3), (Own.up HB.out hw249_4), (Own.up HB.out hw249_5), (Own.up HB.out hw249_6), (Own.up HB.out hw249_7), (Own.up HB.out hw249_8), (Own.up HB.out hw249_9), (Own.up HB.out hw249_10), (Own.up HB.out hw249_11), (Own.up HB.out hw253_0), (Own.up HB.out hw253_1), (Own.up HB.out hw253_2), (Own.up HB.out hw253_3), (Own.up HB.out hw253_4), (Own.up HB.out hw253_5), (Own.up HB.out hw253_6), (Own.up HB.out hw253_7), (Own.up HB.out hw253_8), (Own.up HB.out hw253_9), (Own.up HB.out hw253_10), (Own.up HB.out hw253_11)⟩ (fun hHeld => ?_)
   clear hK K; refine norm_ (a' := ?_) ?_ ?_; rotate_left; show Act.put _ (some 20) _ = _; simp only [Own.ps]; rfl
   refine one_ (i := 14) (N := some 27) (Own.fl 16 32767) rfl rfl (one_of HT_.out (by kernel_rfl)) (by decide) (fun K hK => ?_)
   refine goes_ Tryz.func55 (by kernel_rfl) rfl #[.slice Ao13 t250.length co13, .agg #[.int .i64 ((rd_T43 l0_1 x4_1).f6.f0), .string ((rd_T43 l0_1 x4_1).f6.f1), .int .i64 ((rd_T43 l0_1 x4_1).f6.f2), .slice A249_9 ((rd_T43 l0_1 x4_1).f6.f3).length c249_9]] (by rfl) rfl rfl Own.ha ?_
   with_reducible refine (spec_l5Names.calls k1 (fun k_ => ((w.heap.size ≤ k_) ∧ k_ ≠ gb245)) _ _ t250 ((rd_T43 l0_1 x4_1).f6.f0) ((rd_T43 l0_1 x4_1).f6.f1) ((rd_T43 l0_1 x4_1).f6.f2) _ _ ((rd_T43 l0_1 x4_1).f6.f3) t254 _ ?side1 ?side2 ?side3 A8.out).mono ?_
   (case side1 => exact HO252.out)
   (case side2 => exact Kd.C_below HR253_9.out Own.bl)
   (case side3 => exact HC253_9.out)
   rintro e w14 ⟨v255, rfl, ho0, hb⟩
   refine ⟨_, rfl, ?_⟩
   have n0_ := Aside0.mk (Kd.V_below (Own.vd HO_3.out) hb)
   have n1_ := Aside0.mk (Kd.V_below (Own.vd HO252.out) hb)
   have n2_ := Aside0.mk (Kd.V_lower (Kd.V_mono (ok' := fun k_ => (w.heap.size ≤ k_) ∧ k_ ≠ gb245) ho0 (fun k_ hk_ => ⟨Or.elim hk_ (fun hs_ => hs_.1) (fun hn_ => (Nat.le_trans (below_size Own.bl) hn_)), Or.elim hk_ (fun hs_ => hs_.2) (fun hn_ => (Kd.freshB (Own.bkf BK245.out) k_ hn_))⟩)) (below_size Own.bl))
   have n3_ := Own.bb BK245.out hb; have n4_ := Own.bs hb; clear HO_3; clear HO252; clear BK245; clear HB; have HO_3 := n0_; have HO252 := n1_; have HO256 := n2_; have BK245 := n3_; have HB := n4_; clear n0_ n1_ n2_ n3_ n4_
   (try clear hb)
   (try clear hb2)
   (try clear hk)
   (try clear hi)
   (try clear ho0)
   refine hK.out _ _ ⟨(blk_cell BK245.out 0).trans rfl, (blk_cell BK245.out 1).trans rfl, (Own.up HB.out hw249_0), (Own.up HB.out hw249_1), (Own.up HB.out hw249_2), (Own.up HB.out hw249_3), (Own.up HB.out hw249_4), (Own.up HB.out hw249_5), (Own.up HB.out hw249_6), (Own.up HB.out hw249_7), (Own.up HB.out hw249_8), (Own.up HB.out hw249_9), (Own.up HB.out hw249_10), (Own.up HB.out hw249_11), (Own.up HB.out hw253_0), (Own.up HB.out hw253_1), (Own.up HB.out hw253_2), (Own.up HB.out hw253_3), (Own.up HB.out hw253_4), (Own.up HB.out hw253_5), (Own.up HB.out hw253_6), (Own.up HB.out hw253_7), (Own.up HB.out hw253_8), (Own.up HB.out hw253_9), (Own.up HB.out hw253_10), (Own.up HB.out hw253_11)⟩ (fun hHeld => ?_)
   clear hK K; refine norm_ (a' := ?_) ?_ ?_; rotate_left; show Act.put _ (some 27) _ = _; simp only [Own.ps]; rfl
   refine pure_ (i := 15) (N := some 3) (v := ?_) (a' := ?_) (Own.fl 16 65535) rfl rfl (any_of HT_.out (by kernel_rfl)) (fun _ _ _ h => h) (Or.inl ⟨by rfl, ?_⟩) ?_ ?_; rotate_left; intro w'; go_simp; with_reducible rfl; rotate_left; simp only [Own.ps]; rfl
   refine done_ (done_of HT_.out (by kernel_rfl)) ?_
   try go_wp2
   go_roundg k1
   case measure => have := HK1.out; omega
   case rel => exact ⟨(t254), (wrap64 (x4_1 + 1)), Own.rs, H', ⟨by have := HK1.out; omega⟩, ⟨Own.vd HO256.out⟩, ⟨Own.bk⟩, ⟨Own.bl⟩⟩
end Go.Proofs.YtghcjheaicmpbaaGreatDoor.QFnExactAddClause
