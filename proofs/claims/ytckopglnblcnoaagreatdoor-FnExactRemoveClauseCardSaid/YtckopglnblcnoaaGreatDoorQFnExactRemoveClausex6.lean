-- Written by a program of this session out of the translation; Lean checks it.
import Derived.Test.YtckopglnblcnoaaGreatDoorQFnExactRemoveClausex5
namespace Go.Proofs.YtckopglnblcnoaaGreatDoor.QFnExactRemoveClause
open Go.RowKit Go.Proofs.YtckopglnblcnoaaGreatDoorW.PrintWords Go.Proofs.YtckopglnblcnoaaGreatDoorW.PrintLast
attribute [local go_sem] Instr.field asAgg
set_option linter.unusedVariables false
set_option linter.unusedSimpArgs false
/-! ### spec_l5Names: function 50 -/
mutual
def spec_l5Names.l0 : Nat → List ByteArray → Int → Int → ByteArray → Int → List (S49) → Option (List ByteArray)
 | 0, _, _, _, _, _, _ => none
 | k + 1, x0, x5, x205000, x205001, x205002, x205003 => if x5 < (x205003.length : Int) then (if 0 ≤ x5 then ((spec_l5Names.f k x0 ((rd_T49 x205003 x5).f0) ((rd_T49 x205003 x5).f1) ((rd_T49 x205003 x5).f2) ((rd_T49 x205003 x5).f3)).bind fun t209 => (spec_l5Names.l0 k t209 (wrap64 (x5 + 1)) x205000 x205001 x205002 x205003)) else (none)) else (some x0)
def spec_l5Names.f : Nat → List ByteArray → Int → ByteArray → Int → List (S49) → Option (List ByteArray)
 | 0, _, _, _, _, _ => none
 | k + 1, l0, a1_0, a1_1, a1_2, l1_3 => if a1_0 = 2 then ((spec_l5Put.f k l0 a1_1).bind fun t205 => (some t205)) else (spec_l5Names.l0 k l0 0 a1_0 a1_1 a1_2 l1_3)
end
set_option maxHeartbeats 8000000 in
set_option maxRecDepth 100000 in
theorem spec_l5Names.calls (k : Nat) : ∀ (P0_ : Nat → Prop) (A0 : Option Addr) (c0 : Nat) (l0 : List ByteArray) (a1_0 : Int) (a1_1 : ByteArray) (a1_2 : Int) (A1_3 : Option Addr) (c1_3 : Nat) (l1_3 : List (S49)) (r : List ByteArray) (w : World) (hs0 : Kd.V Kd.string 9 w w.heap.size (fun k_ => P0_ k_) (.slice A0 l0.length c0) l0) (hr1_3 : Kd.C k49 w A1_3 l1_3.length l1_3) (hc1_3 : l1_3.length ≤ c1_3) (h : spec_l5Names.f k l0 a1_0 a1_1 a1_2 l1_3 = some r),
  Calls Tryz.prog 50 #[.slice A0 l0.length c0, .agg #[.int .i64 a1_0, .string a1_1, .int .i64 a1_2, .slice A1_3 l1_3.length c1_3]] w fun e w' => ∃ v0_ : Value, e = .returned (v0_) ∧ Kd.V Kd.string 9 w' w.heap.size (fun k_ => (P0_ k_ ∨ w.heap.size ≤ k_)) v0_ r ∧ Below w.heap.size w w' := by
 induction k using Nat.strongRecOn with
 | _ k ih =>
 intro P0_ A0 c0 l0 a1_0 a1_1 a1_2 A1_3 c1_3 l1_3 r w hs0 hr1_3 hc1_3 h
 cases k with
 | zero => exact absurd h (by simp [spec_l5Names.f])
 | succ k =>
 simp only [spec_l5Names.f] at h
 have hu49 := Tryz.underlying49
 have HO0 := Aside0.mk (show Kd.V Kd.string 9 w w.heap.size (fun k_ => (P0_ k_ ∨ w.heap.size ≤ k_)) (.slice A0 l0.length c0) l0 from Kd.V_mono hs0 (fun k_ hk => .inl hk))
 have HR1_3 := Aside0.mk hr1_3
 have HC1_3 := Aside0.mk hc1_3
 clear hr1_3 hc1_3
 have HB := Aside0.mk (Below.refl w.heap.size w)
 have H : (if a1_0 = 2 then ((spec_l5Put.f k l0 a1_1).bind fun t205 => (some t205)) else (spec_l5Names.l0 k l0 0 a1_0 a1_1 a1_2 l1_3)) = some r := h
 clear h
 by_cases c3 : a1_0 = 2
 ·
  rw [if_pos c3] at H
  have c3b0 : (a1_0 == 2) = true := beq_iff_eq.mpr c3
  have c3b1 : (a1_0 != 2) = false := bne_eq_false_iff_eq.mpr c3
  clear c3
  replace H := Own.bd H; obtain ⟨t205, A4, H⟩ := H; obtain rfl := Option.some.inj H
  go_enter Tryz.func50, Tryz.ntmps50
  go_wp2_with (first | ((with_reducible refine gate_dst (N := 3) rfl ?_); refine Own.be (N := 3) (cs := #[.int .i64 a1_0, .string a1_1, .int .i64 a1_2, .slice A1_3 l1_3.length c1_3]) (t := 49) ?_; intro gb204 hg w5 hbox hb; have BK204 := Aside0.mk hbox; have GW204 := (Own.gs hg : Aside0 (w.heap.size ≤ gb204)); have GE204 := GW204; replace HO0 := Aside0.mk (Kd.V_below (Kd.V_elderB (Own.vd HO0.out) gb204 (Nat.le_of_eq hg.symm)) hb); replace HB := Own.bs hb; clear hb hbox hg; obtain ⟨z6_0, z6_1, z6_2, z6_3, y6_0, y6_1, y6_2, y6_3⟩ := Own.box4 BK204.out) | ((with_reducible refine gate_callee (f := 51) rfl ?_); refine goesL_ (some 12) rfl rfl Tryz.func51 (by kernel_rfl) rfl #[.slice A0 l0.length c0, .string a1_1] rfl Own.ha ?_; (with_reducible refine (spec_l5Put.calls k (fun k_ => ((P0_ k_ ∨ w.heap.size ≤ k_) ∧ k_ ≠ gb204)) _ _ l0 a1_1 t205 _ ?side1 A4.out).mono ?_); (case side1 => exact HO0.out); rintro e w7 ⟨v206, rfl, ho0, hb⟩; refine ⟨_, rfl, ?_⟩; have HO207 := Aside0.mk (Kd.V_lower (Kd.V_mono (ok' := fun k_ => (P0_ k_ ∨ w.heap.size ≤ k_) ∧ k_ ≠ gb204) ho0 (fun k_ hk_ => ⟨Or.elim hk_ (fun hs_ => hs_.1) (fun hn_ => (.inr (Nat.le_trans (below_size Own.bl) hn_))), Or.elim hk_ (fun hs_ => hs_.2) (fun hn_ => (Kd.freshB (Own.bkf BK204.out) k_ hn_))⟩)) (below_size Own.bl)); replace HO0 := Aside0.mk (Kd.V_below (Own.vd HO0.out) hb); replace BK204 := Own.bb BK204.out hb; replace HB := Own.bs hb; (try clear hb); (try clear ho0)))
  go_ret
  exact ⟨_, Own.rr, by (with_reducible repeat (first | apply Kd.V_alloc | apply Kd.V_drewN | apply Kd.V_drew)); exact Kd.V_mono HO207.out (fun _ hk => hk.1), Own.bl⟩
 rw [if_neg c3] at H
 have c3b0 : (a1_0 == 2) = false := beq_eq_false_iff_ne.mpr c3
 have c3b1 : (a1_0 != 2) = true := bne_iff_ne.mpr c3
 have H' := Aside0.mk H
 clear H
 go_enter Tryz.func50, Tryz.ntmps50
 go_wp2_with (first | ((with_reducible refine gate_dst (N := 3) rfl ?_); refine Own.be (N := 3) (cs := #[.int .i64 a1_0, .string a1_1, .int .i64 a1_2, .slice A1_3 l1_3.length c1_3]) (t := 49) ?_; intro gb204 hg w8 hbox hb; have BK204 := Aside0.mk hbox; have GW204 := (Own.gs hg : Aside0 (w.heap.size ≤ gb204)); have GE204 := GW204; replace HO0 := Aside0.mk (Kd.V_below (Kd.V_elderB (Own.vd HO0.out) gb204 (Nat.le_of_eq hg.symm)) hb); replace HB := Own.bs hb; clear hb hbox hg; obtain ⟨z9_0, z9_1, z9_2, z9_3, y9_0, y9_1, y9_2, y9_3⟩ := Own.box4 BK204.out))
 go_loopg [0, 5] k (fun kq v0 v5 w' => ∃ (x0_1 : List ByteArray) (x5_1 : Int), v5 = .int .i64 x5_1 ∧ Aside0 (spec_l5Names.l0 kq x0_1 x5_1 a1_0 a1_1 a1_2 l1_3 = some r) ∧ Aside0 (kq ≤ k) ∧ Aside0 (Kd.V Kd.string 9 w' w.heap.size (fun k_ => (P0_ k_ ∨ w.heap.size ≤ k_) ∧ k_ ≠ gb204) v0 x0_1) ∧ Aside0 (w'.heap[gb204]? = some (.cells #[.int .i64 a1_0, .string a1_1, .int .i64 a1_2, (.slice A1_3 l1_3.length c1_3)] 49 (0, 0))) ∧ Aside0 (Below w.heap.size w w'))
 case atStart => exact ⟨(l0), (0), Own.rs, H', ⟨Nat.le_refl _⟩, ⟨Own.vd HO0.out⟩, ⟨Own.bk⟩, ⟨Own.bl⟩⟩
 case round =>
  clear H'; try clear c3; try clear c3b0; try clear c3b1; try clear z9_0 z9_1 z9_2 z9_3; try clear y9_0 y9_1 y9_2 y9_3
  obtain ⟨x0_1, x5_1, rfl, HA, HK1, HO_0, BK204, HB⟩ := hrel
  cases gk with
  | zero => exact absurd HA.out (by simp [spec_l5Names.l0])
  | succ k1 =>
   have H := HA.out; clear HA
   simp only [spec_l5Names.l0] at H
   by_cases c10 : x5_1 < (l1_3.length : Int)
   rotate_left
   ·
    rw [if_neg c10] at H; replace c10 := decide_eq_false c10; obtain rfl := Option.some.inj H; obtain ⟨z16_0, z16_1, z16_2, z16_3, y16_0, y16_1, y16_2, y16_3⟩ := Own.box4 BK204.out
    go_wp2
    go_ret
    exact ⟨_, Own.rr, by (with_reducible repeat (first | apply Kd.V_alloc | apply Kd.V_drewN | apply Kd.V_drew)); exact Kd.V_mono HO_0.out (fun _ hk => hk.1), Own.bl⟩
   rw [if_pos c10] at H; replace c10 := decide_eq_true c10
   replace H := Own.ifd H; obtain ⟨c11, H⟩ := H
   replace H := Own.bd H; obtain ⟨t209, A12, H⟩ := H; have H' := Aside0.mk H; clear H; obtain ⟨z13_0, z13_1, z13_2, z13_3, y13_0, y13_1, y13_2, y13_3⟩ := Own.box4 BK204.out
   have p208 : 0 ≤ (x5_1 : Int) := Own.dp
   have q208 : x5_1 < (l1_3.length : Int) := Own.dp
   obtain ⟨ad208, A208_3, c208_3, e208, hx208_0, hx208_1, hx208_2, hx208_3, hl208_3, hi208_3⟩ := at_T49 HR1_3.out x5_1 p208 q208; cases e208; replace hx208_0 := Own.up HB.out hx208_0; replace hx208_1 := Own.up HB.out hx208_1; replace hx208_2 := Own.up HB.out hx208_2; replace hx208_3 := Own.up HB.out hx208_3; have HR208_3 := Aside0.mk hi208_3; have HC208_3 := Aside0.mk hl208_3; clear hi208_3 hl208_3; replace p208 := eq_true p208; replace q208 := eq_true q208; obtain ⟨Ao14, co14, eo14⟩ := Kd.V_slice HO_0.out; subst eo14
   go_wp2_with (first | ((with_reducible refine gate_callee (f := 50) rfl ?_); refine goesL_ (some 26) rfl rfl Tryz.func50 (by kernel_rfl) rfl #[.slice Ao14 x0_1.length co14, .agg #[.int .i64 ((rd_T49 l1_3 x5_1).f0), .string ((rd_T49 l1_3 x5_1).f1), .int .i64 ((rd_T49 l1_3 x5_1).f2), .slice A208_3 ((rd_T49 l1_3 x5_1).f3).length c208_3]] rfl Own.ha ?_; (with_reducible refine (ih k1 (by have := HK1.out; omega) (fun k_ => ((P0_ k_ ∨ w.heap.size ≤ k_) ∧ k_ ≠ gb204)) _ _ x0_1 ((rd_T49 l1_3 x5_1).f0) ((rd_T49 l1_3 x5_1).f1) ((rd_T49 l1_3 x5_1).f2) _ _ ((rd_T49 l1_3 x5_1).f3) t209 _ ?side1 ?side2 ?side3 A12.out).mono ?_); (case side1 => exact HO_0.out); (case side2 => exact Kd.C_below HR208_3.out Own.bl); (case side3 => exact HC208_3.out); rintro e w15 ⟨v210, rfl, ho0, hb⟩; refine ⟨_, rfl, ?_⟩; have HO211 := Aside0.mk (Kd.V_lower (Kd.V_mono (ok' := fun k_ => (P0_ k_ ∨ w.heap.size ≤ k_) ∧ k_ ≠ gb204) ho0 (fun k_ hk_ => ⟨Or.elim hk_ (fun hs_ => hs_.1) (fun hn_ => (.inr (Nat.le_trans (below_size Own.bl) hn_))), Or.elim hk_ (fun hs_ => hs_.2) (fun hn_ => (Kd.freshB (Own.bkf BK204.out) k_ hn_))⟩)) (below_size Own.bl)); replace HO_0 := Aside0.mk (Kd.V_below (Own.vd HO_0.out) hb); replace BK204 := Own.bb BK204.out hb; replace HB := Own.bs hb; (try clear hb); (try clear ho0)))
   go_roundg k1
   case measure => have := HK1.out; omega
   case rel => exact ⟨(t209), (wrap64 (x5_1 + 1)), Own.rs, H', ⟨by have := HK1.out; omega⟩, ⟨Own.vd HO211.out⟩, ⟨Own.bk⟩, ⟨Own.bl⟩⟩
/-! ### spec_l6Names: function 33 -/
def spec_l6Names.l0 : Nat → List ByteArray → Int → List ByteArray → List (S51) → Option (List ByteArray)
 | 0, _, _, _, _ => none
 | k + 1, x3, x4, x213000, x213001 => if x4 < (x213001.length : Int) then (if 0 ≤ x4 then ((spec_l5Put.f k x3 ((rd_T51 x213001 x4).f3)).bind fun t217 => ((spec_l5Names.f k t217 ((rd_T51 x213001 x4).f6.f0) ((rd_T51 x213001 x4).f6.f1) ((rd_T51 x213001 x4).f6.f2) ((rd_T51 x213001 x4).f6.f3)).bind fun t221 => (spec_l6Names.l0 k t221 (wrap64 (x4 + 1)) x213000 x213001))) else (none)) else (some x3)
def spec_l6Names.f (k : Nat) (l0_0 : List ByteArray) (l0_1 : List (S51)) : Option (List ByteArray) := spec_l6Names.l0 k (([] : List ByteArray)) 0 l0_0 l0_1
def spec_l6Names.T5 : Bool × List (List Nat × List Nat) := (true, [([], []), ([], []), ([1], [1]), ([], []), ([2, 3], [2, 3]), ([4], [4]), ([5], [5]), ([0, 6], [0, 6]), ([], []), ([8], [8]), ([], []), ([9, 10], [9, 10]), ([11], [11]), ([12], [12]), ([7, 13, 7], [7, 13]), ([14, 14, 0, 1, 2, 3, 4, 5, 6, 7, 8, 9, 10, 11, 12, 13, 14], [0, 14])])
def spec_l6Names.B5 : List Nat := [0, 0, 2, 0, 14, 30, 62, 127, 0, 256, 0, 1792, 3840, 7936, 16383, 32767]
theorem spec_l6Names.tab5 : rtab .any (opsOf Tryz.f33 5) = spec_l6Names.T5 := by kernel_rfl
theorem spec_l6Names.bits5 : waitsOk spec_l6Names.T5.2 spec_l6Names.B5 = true := by kernel_rfl
set_option maxHeartbeats 8000000 in
set_option maxRecDepth 100000 in
theorem spec_l6Names.calls (k : Nat) (A0_0 : Option Addr) (c0_0 : Nat) (l0_0 : List ByteArray) (A0_1 : Option Addr) (c0_1 : Nat) (l0_1 : List (S51)) (r : List ByteArray) (w : World) (hr0_0 : Kd.C Kd.string w A0_0 l0_0.length l0_0) (hc0_0 : l0_0.length ≤ c0_0) (hr0_1 : Kd.C k51 w A0_1 l0_1.length l0_1) (hc0_1 : l0_1.length ≤ c0_1) (h : spec_l6Names.f k l0_0 l0_1 = some r) :
  Calls Tryz.prog 33 #[.agg #[.slice A0_0 l0_0.length c0_0, .slice A0_1 l0_1.length c0_1]] w fun e w' => ∃ v0_ : Value, e = .returned (v0_) ∧ Kd.V Kd.string 9 w' w.heap.size (fun k_ => (w.heap.size ≤ k_)) v0_ r ∧ Below w.heap.size w w' := by
 have hu29 := Tryz.underlying29
 have hu49 := Tryz.underlying49
 have HR0_0 := Aside0.mk hr0_0
 have HC0_0 := Aside0.mk hc0_0
 clear hr0_0 hc0_0
 have HR0_1 := Aside0.mk hr0_1
 have HC0_1 := Aside0.mk hc0_1
 clear hr0_1 hc0_1
 have HB := Aside0.mk (Below.refl w.heap.size w)
 have H : (spec_l6Names.l0 k (([] : List ByteArray)) 0 l0_0 l0_1) = some r := h
 clear h
 obtain ⟨y213, hy213⟩ : ∃ y_ : List ByteArray, y_ = (([] : List ByteArray)) := ⟨_, rfl⟩
 replace H : (spec_l6Names.l0 k y213 0 l0_0 l0_1) = some r := by first | (rw [hy213]; with_reducible exact H) | (have H2_ := (Option.bind_some _ _).symm.trans H; rw [hy213]; with_reducible exact H2_) | (have H2_ := (Option.bind_some _ _).symm.trans H; with_reducible exact H2_) | with_reducible exact H | (rw [hy213]; exact H) | exact H
 have Ny213 := Aside0.mk hy213
 clear hy213
 have H' := Aside0.mk H
 clear H
 go_enter Tryz.func33, Tryz.ntmps33
 go_wp2_with (first | ((with_reducible refine gate_dst (N := 1) rfl ?_); refine Own.be (N := 1) (cs := #[.slice A0_0 l0_0.length c0_0, .slice A0_1 l0_1.length c0_1]) (t := 29) ?_; intro gb212 hg w2 hbox hb; have BK212 := Aside0.mk hbox; have GW212 := (Own.gs hg : Aside0 (w.heap.size ≤ gb212)); have GE212 := GW212; replace HB := Own.bs hb; clear hb hbox hg) | ((with_reducible refine gate_dst (N := 5) rfl ?_); refine Kd.R_lit Kd.string _ 9 ?hg (N := 5) ?hd (xs := ([] : List ByteArray)) (inner := []) (ok := fun _ => True) (okp := fun _ => True) ?hr ?hp (fun _ hk => hk) trivial (Below.refl _ _) (Nat.le_refl _) (by simp) ?_; (case hd => rfl); (case hg => rfl); (case hr => first | (go_simp; done) | (go_simp; rfl)); (case hp => exact (Reps.none _ _)); intro v214 w3 ho4 hb hg_ hnew_; clear hg_ hnew_; (first | rw [← Ny213.out] at ho4 | (simp only [Int.reduceToNat] at ho4; rw [← Ny213.out] at ho4)); have HO215 := Aside0.mk (Kd.R_lower (Kd.R_newM (M := fun k_ => (w.heap.size ≤ k_)) ho4 (below_size Own.bl) (fun k_ h_ => h_)) (below_size Own.bl)); replace BK212 := Own.bb BK212.out hb; replace HB := Own.bs hb; clear hb ho4))
 go_loopg [3, 4] k (fun kq v3 v4 w' => ∃ (x3_1 : List ByteArray) (x4_1 : Int), v4 = .int .i64 x4_1 ∧ Aside0 (spec_l6Names.l0 kq x3_1 x4_1 l0_0 l0_1 = some r) ∧ Aside0 (kq ≤ k) ∧ Aside0 (Kd.V Kd.string 9 w' w.heap.size (fun k_ => (w.heap.size ≤ k_) ∧ k_ ≠ gb212) v3 x3_1) ∧ Aside0 (w'.heap[gb212]? = some (.cells #[(.slice A0_0 l0_0.length c0_0), (.slice A0_1 l0_1.length c0_1)] 29 (0, 0))) ∧ Aside0 (Below w.heap.size w w'))
 case atStart => exact ⟨(y213), (0), Own.rs, H', ⟨Nat.le_refl _⟩, ⟨Kd.R_V (by (with_reducible repeat (first | apply Kd.R_alloc | apply Kd.R_drewN | apply Kd.R_drew)); exact Kd.R_mono (Kd.R_types HO215.out BK212.out (by decide)) (fun _ hk => ⟨hk.1.1, hk.2⟩))⟩, ⟨Own.bk⟩, ⟨Own.bl⟩⟩
 case round =>
  clear H'; try clear p2; try clear c3
  obtain ⟨x3_1, x4_1, rfl, HA, HK1, HO_3, BK212, HB⟩ := hrel
  cases gk with
  | zero => exact absurd HA.out (by simp [spec_l6Names.l0])
  | succ k1 =>
   have H := HA.out; clear HA
   simp only [spec_l6Names.l0] at H
   by_cases c5 : x4_1 < (l0_1.length : Int)
   rotate_left
   ·
    rw [if_neg c5] at H; replace c5 := decide_eq_false c5; obtain rfl := Option.some.inj H; obtain ⟨z15_0, z15_1, y15_0, y15_1⟩ := Own.box2 BK212.out
    go_wp2
    go_ret
    exact ⟨_, Own.rr, by (with_reducible repeat (first | apply Kd.V_alloc | apply Kd.V_drewN | apply Kd.V_drew)); exact Kd.V_mono HO_3.out (fun _ hk => hk.1), Own.bl⟩
   rw [if_pos c5] at H; replace c5 := decide_eq_true c5
   replace H := Own.ifd H; obtain ⟨c6, H⟩ := H
   replace H := Own.bd H; obtain ⟨t217, A7, H⟩ := H
   replace H := Own.bd H; obtain ⟨t221, A8, H⟩ := H; have H' := Aside0.mk H; clear H; obtain ⟨z9_0, z9_1, y9_0, y9_1⟩ := Own.box2 BK212.out
   try go_wp2
   have n0_ := Aside0.mk (Kd.V_drew HO_3.out)
   have n1_ := Aside0.mk (blk_drew BK212.out)
   have n2_ := Aside0.mk (below_drew1 HB.out)
   clear HO_3; clear BK212; clear HB; have HO_3 := n0_; have BK212 := n1_; have HB := n2_; clear n0_ n1_ n2_
   have p216 : 0 ≤ (x4_1 : Int) := Own.dp
   have q216 : x4_1 < (l0_1.length : Int) := Own.dp
   obtain ⟨ad216, A216_9, c216_9, e216, hx216_0, hx216_1, hx216_2, hx216_3, hx216_4, hx216_5, hx216_6, hx216_7, hx216_8, hx216_9, hx216_10, hx216_11, hl216_9, hi216_9⟩ := at_T51 HR0_1.out x4_1 p216 q216; have hw216_11 := hx216_11; have hw216_10 := hx216_10; have hw216_9 := hx216_9; have hw216_8 := hx216_8; have hw216_7 := hx216_7; have hw216_6 := hx216_6; have hw216_5 := hx216_5; have hw216_4 := hx216_4; have hw216_3 := hx216_3; have hw216_2 := hx216_2; have hw216_1 := hx216_1; have hw216_0 := hx216_0; cases e216; replace hx216_0 := Own.up HB.out hx216_0; replace hx216_1 := Own.up HB.out hx216_1; replace hx216_2 := Own.up HB.out hx216_2; replace hx216_3 := Own.up HB.out hx216_3; replace hx216_4 := Own.up HB.out hx216_4; replace hx216_5 := Own.up HB.out hx216_5; replace hx216_6 := Own.up HB.out hx216_6; replace hx216_7 := Own.up HB.out hx216_7; replace hx216_8 := Own.up HB.out hx216_8; replace hx216_9 := Own.up HB.out hx216_9; replace hx216_10 := Own.up HB.out hx216_10; replace hx216_11 := Own.up HB.out hx216_11; have HR216_9 := Aside0.mk hi216_9; have HC216_9 := Aside0.mk hl216_9; clear hi216_9 hl216_9; replace p216 := eq_true p216; replace q216 := eq_true q216
   have p220 : 0 ≤ (x4_1 : Int) := Own.dp
   have q220 : x4_1 < (l0_1.length : Int) := Own.dp
   obtain ⟨ad220, A220_9, c220_9, e220, hx220_0, hx220_1, hx220_2, hx220_3, hx220_4, hx220_5, hx220_6, hx220_7, hx220_8, hx220_9, hx220_10, hx220_11, hl220_9, hi220_9⟩ := at_T51 HR0_1.out x4_1 p220 q220; have hw220_11 := hx220_11; have hw220_10 := hx220_10; have hw220_9 := hx220_9; have hw220_8 := hx220_8; have hw220_7 := hx220_7; have hw220_6 := hx220_6; have hw220_5 := hx220_5; have hw220_4 := hx220_4; have hw220_3 := hx220_3; have hw220_2 := hx220_2; have hw220_1 := hx220_1; have hw220_0 := hx220_0
   obtain rfl : ad216 = ad220 := (by injection e220)
   replace hx220_0 := Own.up HB.out hx220_0; replace hx220_1 := Own.up HB.out hx220_1; replace hx220_2 := Own.up HB.out hx220_2; replace hx220_3 := Own.up HB.out hx220_3; replace hx220_4 := Own.up HB.out hx220_4; replace hx220_5 := Own.up HB.out hx220_5; replace hx220_6 := Own.up HB.out hx220_6; replace hx220_7 := Own.up HB.out hx220_7; replace hx220_8 := Own.up HB.out hx220_8; replace hx220_9 := Own.up HB.out hx220_9; replace hx220_10 := Own.up HB.out hx220_10; replace hx220_11 := Own.up HB.out hx220_11; have HR220_9 := Aside0.mk hi220_9; have HC220_9 := Aside0.mk hl220_9; clear hi220_9 hl220_9; replace p220 := eq_true p220; replace q220 := eq_true q220
   have ea_ := Option.some.inj (hx216_9.symm.trans hx220_9)
   injection ea_ with ea_ en_ ec_
   subst ea_; subst ec_; clear en_; obtain ⟨Ao11, co11, eo11⟩ := Kd.V_slice HO_3.out
   (first | subst eo11 | (injection eo11 with f1_ f2_ f3_; have f4_ := f1_.symm; have f5_ := f3_.symm; clear f1_ f2_ f3_; subst f4_; subst f5_))
   refine start_ (n := 16) (S := fun w' => w'.cell? ⟨gb212, 0, none⟩ = some (.slice A0_0 l0_0.length c0_0) ∧ w'.cell? ⟨gb212, 1, none⟩ = some (.slice (some ad216) l0_1.length c0_1) ∧ w'.cell? (ad216.add ((x4_1).toNat * 12)) = some (.string ((rd_T51 l0_1 x4_1).f0)) ∧ w'.cell? ⟨(ad216.add ((x4_1).toNat * 12)).block, (ad216.add ((x4_1).toNat * 12)).off + 1, none⟩ = some (.int .i64 ((rd_T51 l0_1 x4_1).f1)) ∧ w'.cell? ⟨(ad216.add ((x4_1).toNat * 12)).block, (ad216.add ((x4_1).toNat * 12)).off + 2, none⟩ = some (.int .i64 ((rd_T51 l0_1 x4_1).f2)) ∧ w'.cell? ⟨(ad216.add ((x4_1).toNat * 12)).block, (ad216.add ((x4_1).toNat * 12)).off + 3, none⟩ = some (.string ((rd_T51 l0_1 x4_1).f3)) ∧ w'.cell? ⟨(ad216.add ((x4_1).toNat * 12)).block, (ad216.add ((x4_1).toNat * 12)).off + 4, none⟩ = some (.int .i64 ((rd_T51 l0_1 x4_1).f4)) ∧ w'.cell? ⟨(ad216.add ((x4_1).toNat * 12)).block, (ad216.add ((x4_1).toNat * 12)).off + 5, none⟩ = some (.int .i64 ((rd_T51 l0_1 x4_1).f5)) ∧ w'.cell? ⟨(ad216.add ((x4_1).toNat * 12)).block, (ad216.add ((x4_1).toNat * 12)).off + 6, none⟩ = some (.int .i64 ((rd_T51 l0_1 x4_1).f6.f0)) ∧ w'.cell? ⟨(ad216.add ((x4_1).toNat * 12)).block, (ad216.add ((x4_1).toNat * 12)).off + 7, none⟩ = some (.string ((rd_T51 l0_1 x4_1).f6.f1)) ∧ w'.cell? ⟨(ad216.add ((x4_1).toNat * 12)).block, (ad216.add ((x4_1).toNat * 12)).off + 8, none⟩ = some (.int .i64 ((rd_T51 l0_1 x4_1).f6.f2)) ∧ w'.cell? ⟨(ad216.add ((x4_1).toNat * 12)).block, (ad216.add ((x4_1).toNat * 12)).off + 9, none⟩ = some (.slice A216_9 ((rd_T51 l0_1 x4_1).f6.f3).length c216_9) ∧ w'.cell? ⟨(ad216.add ((x4_1).toNat * 12)).block, (ad216.add ((x4_1).toNat * 12)).off + 10, none⟩ = some (.int .i64 ((rd_T51 l0_1 x4_1).f7)) ∧ w'.cell? ⟨(ad216.add ((x4_1).toNat * 12)).block, (ad216.add ((x4_1).toNat * 12)).off + 11, none⟩ = some (.string ((rd_T51 l0_1 x4_1).f8)) ∧ w'.cell? (ad216.add ((x4_1).toNat * 12)) = some (.string ((rd_T51 l0_1 x4_1).f0)) ∧ w'.cell? ⟨(ad216.add ((x4_1).toNat * 12)).block, (ad216.add ((x4_1).toNat * 12)).off + 1, none⟩ = some (.int .i64 ((rd_T51 l0_1 x4_1).f1)) ∧ w'.cell? ⟨(ad216.add ((x4_1).toNat * 12)).block, (ad216.add ((x4_1).toNat * 12)).off + 2, none⟩ = some (.int .i64 ((rd_T51 l0_1 x4_1).f2)) ∧ w'.cell? ⟨(ad216.add ((x4_1).toNat * 12)).block, (ad216.add ((x4_1).toNat * 12)).off + 3, none⟩ = some (.string ((rd_T51 l0_1 x4_1).f3)) ∧ w'.cell? ⟨(ad216.add ((x4_1).toNat * 12)).block, (ad216.add ((x4_1).toNat * 12)).off + 4, none⟩ = some (.int .i64 ((rd_T51 l0_1 x4_1).f4)) ∧ w'.cell? ⟨(ad216.add ((x4_1).toNat * 12)).block, (ad216.add ((x4_1).toNat * 12)).off + 5, none⟩ = some (.int .i64 ((rd_T51 l0_1 x4_1).f5)) ∧ w'.cell? ⟨(ad216.add ((x4_1).toNat * 12)).block, (ad216.add ((x4_1).toNat * 12)).off + 6, none⟩ = some (.int .i64 ((rd_T51 l0_1 x4_1).f6.f0)) ∧ w'.cell? ⟨(ad216.add ((x4_1).toNat * 12)).block, (ad216.add ((x4_1).toNat * 12)).off + 7, none⟩ = some (.string ((rd_T51 l0_1 x4_1).f6.f1)) ∧ w'.cell? ⟨(ad216.add ((x4_1).toNat * 12)).block, (ad216.add ((x4_1).toNat * 12)).off + 8, none⟩ = some (.int .i64 ((rd_T51 l0_1 x4_1).f6.f2)) ∧ w'.cell? ⟨(ad216.add ((x4_1).toNat * 12)).block, (ad216.add ((x4_1).toNat * 12)).off + 9, none⟩ = some (.slice A216_9 ((rd_T51 l0_1 x4_1).f6.f3).length c216_9) ∧ w'.cell? ⟨(ad216.add ((x4_1).toNat * 12)).block, (ad216.add ((x4_1).toNat * 12)).off + 10, none⟩ = some (.int .i64 ((rd_T51 l0_1 x4_1).f7)) ∧ w'.cell? ⟨(ad216.add ((x4_1).toNat * 12)).block, (ad216.add ((x4_1).toNat * 12)).off + 11, none⟩ = some (.string ((rd_T51 l0_1 x4_1).f8))) (ds := []) (Own.fl 16 0) (by kernel_rfl) rfl rfl ⟨(blk_cell BK212.out 0).trans rfl, (blk_cell BK212.out 1).trans rfl, (Own.up HB.out hw216_0), (Own.up HB.out hw216_1), (Own.up HB.out hw216_2), (Own.up HB.out hw216_3), (Own.up HB.out hw216_4), (Own.up HB.out hw216_5), (Own.up HB.out hw216_6), (Own.up HB.out hw216_7), (Own.up HB.out hw216_8), (Own.up HB.out hw216_9), (Own.up HB.out hw216_10), (Own.up HB.out hw216_11), (Own.up HB.out hw220_0), (Own.up HB.out hw220_1), (Own.up HB.out hw220_2), (Own.up HB.out hw220_3), (Own.up HB.out hw220_4), (Own.up HB.out hw220_5), (Own.up HB.out hw220_6), (Own.up HB.out hw220_7), (Own.up HB.out hw220_8), (Own.up HB.out hw220_9), (Own.up HB.out hw220_10), (Own.up HB.out hw220_11)⟩ (fun hHeld => ?_); refine with_tabW spec_l6Names.tab5 spec_l6Names.bits5 (fun HT_ HW_ => ?_)
   generalize wr.drew = w10 at HO_3 BK212 HB HR216_9 HR220_9 hx216_0 hx216_1 hx216_10 hx216_11 hx216_2 hx216_3 hx216_4 hx216_5 hx216_6 hx216_7 hx216_8 hx216_9 hx220_0 hx220_1 hx220_10 hx220_11 hx220_2 hx220_3 hx220_4 hx220_5 hx220_6 hx220_7 hx220_8 hx220_9 hHeld ⊢
   refine pure_ (i := 0) (N := some 13) (v := ?_) (a' := ?_) (Own.fl 16 1) rfl rfl (any_of HT_.out (by kernel_rfl)) (fun _ _ _ h => h) (Or.inl ⟨by rfl, ?_⟩) ?_ ?_; rotate_left; intro w'; go_simp; with_reducible rfl; rotate_left; simp only [Own.ps]; rfl
   refine pure_ (i := 1) (N := some 14) (v := ?_) (a' := ?_) (Own.fl 16 3) rfl rfl (any_of HT_.out (by kernel_rfl)) (fun _ _ _ h => h) (Or.inl ⟨by rfl, ?_⟩) ?_ ?_; rotate_left; intro w'; go_simp; with_reducible rfl; rotate_left; simp only [Own.ps]; rfl
   refine pure_ (i := 3) (N := some 16) (v := ?_) (a' := ?_) (Own.fl 16 11) rfl rfl (any_of HT_.out (by kernel_rfl)) (fun _ _ _ h => h) (Or.inl ⟨by rfl, ?_⟩) ?_ ?_; rotate_left; intro w'; go_simp; with_reducible rfl; rotate_left; simp only [Own.ps]; rfl
   refine pure_ (i := 8) (N := some 21) (v := ?_) (a' := ?_) (Own.fl 16 267) rfl rfl (any_of HT_.out (by kernel_rfl)) (fun _ _ _ h => h) (Or.inl ⟨by rfl, ?_⟩) ?_ ?_; rotate_left; intro w'; go_simp; with_reducible rfl; rotate_left; simp only [Own.ps]; rfl
   refine pure_ (i := 10) (N := some 23) (v := ?_) (a' := ?_) (Own.fl 16 1291) rfl rfl (any_of HT_.out (by kernel_rfl)) (fun _ _ _ h => h) (Or.inl ⟨by rfl, ?_⟩) ?_ ?_; rotate_left; intro w'; go_simp; with_reducible rfl; rotate_left; simp only [Own.ps]; rfl
   refine take_ (i := 2) (N := some 15) (v := ?_) (a' := ?_) (Own.fl 16 1295) rfl rfl (take_ofW HT_.out HW_.out (by kernel_rfl)) (fun _ _ _ h => h) (Or.inl ⟨by rfl, ?_⟩) hHeld ?_ ?_; rotate_left; rintro w' ⟨s0, s1, s2, s3, s4, s5, s6, s7, s8, s9, s10, s11, s12, s13, s14, s15, s16, s17, s18, s19, s20, s21, s22, s23, s24, s25⟩; go_simp; with_reducible rfl; rotate_left; simp only [Own.ps]; rfl
   refine pure_ (i := 4) (N := some 17) (v := ?_) (a' := ?_) (Own.fl 16 1311) rfl rfl (any_of HT_.out (by kernel_rfl)) (fun _ _ _ h => h) (Or.inl ⟨by rfl, ?_⟩) ?_ ?_; rotate_left; intro w'; go_simp; with_reducible rfl; rotate_left; simp only [Own.ps]; rfl
   refine pure_ (i := 5) (N := some 18) (v := ?_) (a' := ?_) (Own.fl 16 1343) rfl rfl (any_of HT_.out (by kernel_rfl)) (fun _ _ _ h => h) (Or.inl ⟨by rfl, ?_⟩) ?_ ?_; rotate_left; intro w'; go_simp; with_reducible rfl; rotate_left; simp only [Own.ps]; rfl
   refine take_ (i := 6) (N := some 19) (v := ?_) (a' := ?_) (Own.fl 16 1407) rfl rfl (take_ofW HT_.out HW_.out (by kernel_rfl)) (fun _ _ _ h => h) (Or.inl ⟨by rfl, ?_⟩) hHeld ?_ ?_; rotate_left; rintro w' ⟨s0, s1, s2, s3, s4, s5, s6, s7, s8, s9, s10, s11, s12, s13, s14, s15, s16, s17, s18, s19, s20, s21, s22, s23, s24, s25⟩; go_simp; with_reducible rfl; rotate_left; simp only [Own.ps]; rfl
   refine take_ (i := 9) (N := some 22) (v := ?_) (a' := ?_) (Own.fl 16 1919) rfl rfl (take_ofW HT_.out HW_.out (by kernel_rfl)) (fun _ _ _ h => h) (Or.inl ⟨by rfl, ?_⟩) hHeld ?_ ?_; rotate_left; rintro w' ⟨s0, s1, s2, s3, s4, s5, s6, s7, s8, s9, s10, s11, s12, s13, s14, s15, s16, s17, s18, s19, s20, s21, s22, s23, s24, s25⟩; go_simp; with_reducible rfl; rotate_left; simp only [Own.ps]; rfl
   refine pure_ (i := 11) (N := some 24) (v := ?_) (a' := ?_) (Own.fl 16 3967) rfl rfl (any_of HT_.out (by kernel_rfl)) (fun _ _ _ h => h) (Or.inl ⟨by rfl, ?_⟩) ?_ ?_; rotate_left; intro w'; go_simp; with_reducible rfl; rotate_left; simp only [Own.ps]; rfl
   refine pure_ (i := 12) (N := some 25) (v := ?_) (a' := ?_) (Own.fl 16 8063) rfl rfl (any_of HT_.out (by kernel_rfl)) (fun _ _ _ h => h) (Or.inl ⟨by rfl, ?_⟩) ?_ ?_; rotate_left; intro w'; go_simp; with_reducible rfl; rotate_left; simp only [Own.ps]; rfl
   refine take_ (i := 13) (N := some 26) (v := ?_) (a' := ?_) (Own.fl 16 16255) rfl rfl (take_ofW HT_.out HW_.out (by kernel_rfl)) (fun _ _ _ h => h) (Or.inl ⟨by rfl, ?_⟩) hHeld ?_ ?_; rotate_left; rintro w' ⟨s0, s1, s2, s3, s4, s5, s6, s7, s8, s9, s10, s11, s12, s13, s14, s15, s16, s17, s18, s19, s20, s21, s22, s23, s24, s25⟩; go_simp; with_reducible rfl; rotate_left; simp only [Own.ps]; rfl
   refine one_ (i := 7) (N := some 20) (Own.fl 16 16383) rfl rfl (one_of HT_.out (by kernel_rfl)) (by decide) (fun K hK => ?_)
   refine goes_ Tryz.func51 (by kernel_rfl) rfl #[.slice Ao11 x3_1.length co11, .string ((rd_T51 l0_1 x4_1).f3)] (by rfl) rfl rfl Own.ha ?_
   with_reducible refine (spec_l5Put.calls k1 (fun k_ => ((w.heap.size ≤ k_) ∧ k_ ≠ gb212)) _ _ x3_1 ((rd_T51 l0_1 x4_1).f3) t217 _ ?side1 A7.out).mono ?_
   (case side1 => exact HO_3.out)
   rintro e w12 ⟨v218, rfl, ho0, hb⟩
   refine ⟨_, rfl, ?_⟩
   have n0_ := Aside0.mk (Kd.V_below (Own.vd HO_3.out) hb)
   have n1_ := Aside0.mk (Kd.V_lower (Kd.V_mono (ok' := fun k_ => (w.heap.size ≤ k_) ∧ k_ ≠ gb212) ho0 (fun k_ hk_ => ⟨Or.elim hk_ (fun hs_ => hs_.1) (fun hn_ => (Nat.le_trans (below_size Own.bl) hn_)), Or.elim hk_ (fun hs_ => hs_.2) (fun hn_ => (Kd.freshB (Own.bkf BK212.out) k_ hn_))⟩)) (below_size Own.bl))
   have n2_ := Own.bb BK212.out hb; have n3_ := Own.bs hb; clear HO_3; clear BK212; clear HB; have HO_3 := n0_; have HO219 := n1_; have BK212 := n2_; have HB := n3_; clear n0_ n1_ n2_ n3_
   (try clear hb)
   (try clear hb2)
   (try clear hk)
   (try clear hi)
   (try clear ho0)
   obtain ⟨Ao13, co13, eo13⟩ := Kd.V_slice HO219.out
   (first | subst eo13 | (injection eo13 with f1_ f2_ f3_; have f4_ := f1_.symm; have f5_ := f3_.symm; clear f1_ f2_ f3_; subst f4_; subst f5_))
   refine hK.out _ _ ⟨(blk_cell BK212.out 0).trans rfl, (blk_cell BK212.out 1).trans rfl, (Own.up HB.out hw216_0), (Own.up HB.out hw216_1), (Own.up HB.out hw216_2), (Own.up HB.out hw216_3), (Own.up HB.out hw216_4), (Own.up HB.out hw216_5), (Own.up HB.out hw216_6), (Own.up HB.out hw216_7), (Own.up HB.out hw216_8), (Own.up HB.out hw216_9), (Own.up HB.out hw216_10), (Own.up HB.out hw216_11), (Own.up HB.out hw220_0), (Own.up HB.out hw220_1), (Own.up HB.out hw220_2), (Own.up HB.out hw220_3), (Own.up HB.out hw220_4), (Own.up HB.out hw220_5), (Own.up HB.out hw220_6), (Own.up HB.out hw220_7), (Own.up HB.out hw220_8), (Own.up HB.out hw220_9), (Own.up HB.out hw220_10), (Own.up HB.out hw220_11)⟩ (fun hHeld => ?_)
   clear hK K; refine norm_ (a' := ?_) ?_ ?_; rotate_left; show Act.put _ (some 20) _ = _; simp only [Own.ps]; rfl
   refine one_ (i := 14) (N := some 27) (Own.fl 16 32767) rfl rfl (one_of HT_.out (by kernel_rfl)) (by decide) (fun K hK => ?_)
   refine goes_ Tryz.func50 (by kernel_rfl) rfl #[.slice Ao13 t217.length co13, .agg #[.int .i64 ((rd_T51 l0_1 x4_1).f6.f0), .string ((rd_T51 l0_1 x4_1).f6.f1), .int .i64 ((rd_T51 l0_1 x4_1).f6.f2), .slice A216_9 ((rd_T51 l0_1 x4_1).f6.f3).length c216_9]] (by rfl) rfl rfl Own.ha ?_
   with_reducible refine (spec_l5Names.calls k1 (fun k_ => ((w.heap.size ≤ k_) ∧ k_ ≠ gb212)) _ _ t217 ((rd_T51 l0_1 x4_1).f6.f0) ((rd_T51 l0_1 x4_1).f6.f1) ((rd_T51 l0_1 x4_1).f6.f2) _ _ ((rd_T51 l0_1 x4_1).f6.f3) t221 _ ?side1 ?side2 ?side3 A8.out).mono ?_
   (case side1 => exact HO219.out)
   (case side2 => exact Kd.C_below HR220_9.out Own.bl)
   (case side3 => exact HC220_9.out)
   rintro e w14 ⟨v222, rfl, ho0, hb⟩
   refine ⟨_, rfl, ?_⟩
   have n0_ := Aside0.mk (Kd.V_below (Own.vd HO_3.out) hb)
   have n1_ := Aside0.mk (Kd.V_below (Own.vd HO219.out) hb)
   have n2_ := Aside0.mk (Kd.V_lower (Kd.V_mono (ok' := fun k_ => (w.heap.size ≤ k_) ∧ k_ ≠ gb212) ho0 (fun k_ hk_ => ⟨Or.elim hk_ (fun hs_ => hs_.1) (fun hn_ => (Nat.le_trans (below_size Own.bl) hn_)), Or.elim hk_ (fun hs_ => hs_.2) (fun hn_ => (Kd.freshB (Own.bkf BK212.out) k_ hn_))⟩)) (below_size Own.bl))
   have n3_ := Own.bb BK212.out hb; have n4_ := Own.bs hb; clear HO_3; clear HO219; clear BK212; clear HB; have HO_3 := n0_; have HO219 := n1_; have HO223 := n2_; have BK212 := n3_; have HB := n4_; clear n0_ n1_ n2_ n3_ n4_
   (try clear hb)
   (try clear hb2)
   (try clear hk)
   (try clear hi)
   (try clear ho0)
   refine hK.out _ _ ⟨(blk_cell BK212.out 0).trans rfl, (blk_cell BK212.out 1).trans rfl, (Own.up HB.out hw216_0), (Own.up HB.out hw216_1), (Own.up HB.out hw216_2), (Own.up HB.out hw216_3), (Own.up HB.out hw216_4), (Own.up HB.out hw216_5), (Own.up HB.out hw216_6), (Own.up HB.out hw216_7), (Own.up HB.out hw216_8), (Own.up HB.out hw216_9), (Own.up HB.out hw216_10), (Own.up HB.out hw216_11), (Own.up HB.out hw220_0), (Own.up HB.out hw220_1), (Own.up HB.out hw220_2), (Own.up HB.out hw220_3), (Own.up HB.out hw220_4), (Own.up HB.out hw220_5), (Own.up HB.out hw220_6), (Own.up HB.out hw220_7), (Own.up HB.out hw220_8), (Own.up HB.out hw220_9), (Own.up HB.out hw220_10), (Own.up HB.out hw220_11)⟩ (fun hHeld => ?_)
   clear hK K; refine norm_ (a' := ?_) ?_ ?_; rotate_left; show Act.put _ (some 27) _ = _; simp only [Own.ps]; rfl
   refine pure_ (i := 15) (N := some 3) (v := ?_) (a' := ?_) (Own.fl 16 65535) rfl rfl (any_of HT_.out (by kernel_rfl)) (fun _ _ _ h => h) (Or.inl ⟨by rfl, ?_⟩) ?_ ?_; rotate_left; intro w'; go_simp; with_reducible rfl; rotate_left; simp only [Own.ps]; rfl
   refine done_ (done_of HT_.out (by kernel_rfl)) ?_
   try go_wp2
   go_roundg k1
   case measure => have := HK1.out; omega
   case rel => exact ⟨(t221), (wrap64 (x4_1 + 1)), Own.rs, H', ⟨by have := HK1.out; omega⟩, ⟨Own.vd HO223.out⟩, ⟨Own.bk⟩, ⟨Own.bl⟩⟩
end Go.Proofs.YtckopglnblcnoaaGreatDoor.QFnExactRemoveClause
