-- Written by a program of this session out of the translation; Lean checks it.
import Derived.Test.YtdfbfcgjcfbmpaaGreatDoorQFnExactClausesOfx0
import Derived.Test.YtdfbfcgjcfbmpaaGreatDoorQFnExactClausesOfx5
import Derived.Test.YtdfbfcgjcfbmpaaGreatDoorQFnExactClausesOfx10
namespace Go.Proofs.YtdfbfcgjcfbmpaaGreatDoor.QFnExactClausesOf
open Go.RowKit Go.Proofs.YtdfbfcgjcfbmpaaGreatDoorW.PrintWords Go.Proofs.YtdfbfcgjcfbmpaaGreatDoorW.PrintLast Go.Proofs.YtdfbfcgjcfbmpaaGreatDoorW.PrintMore
attribute [local go_sem] Instr.field asAgg Own.str_leq Own.str_gtr Own.str_geq
attribute [local go_sem] max2_int min2_int max_two min_two max_three min_three max_four min_four   -- for this text's walks alone
set_option linter.unusedVariables false
set_option linter.unusedSimpArgs false

/-! ### spec_ClausesOf: function 26 -/
mutual
def spec_ClausesOf.j0 : Nat → Int → Int → List Int → Bool → List ByteArray → List (S51) → Option (List Int × Bool)
 | 0, _, _, _, _, _, _ => none
 | k + 1, x1, x2, x8, x27, x324000, x324001 => if x27 = true then (some (x8, false)) else (spec_ClausesOf.l0 k x1 x2 x8 0 x324000 x324001)
def spec_ClausesOf.l0 : Nat → Int → Int → List Int → Int → List ByteArray → List (S51) → Option (List Int × Bool)
 | 0, _, _, _, _, _, _ => none
 | k + 1, x1, x2, x8, x9, x324000, x324001 => if x9 < (x324001.length : Int) then (if 0 ≤ x9 then (if ((rd_T51 x324001 x9).f2) = x1 then (if x2 = 0 then (if x8.length < 17592186044416 then (spec_ClausesOf.l0 k x1 x2 (x8 ++ [x9]) (wrap64 (x9 + 1)) x324000 x324001) else (none)) else (if ((rd_T51 x324001 x9).f1) = x2 then (if x8.length < 17592186044416 then (spec_ClausesOf.l0 k x1 x2 (x8 ++ [x9]) (wrap64 (x9 + 1)) x324000 x324001) else (none)) else (spec_ClausesOf.l0 k x1 x2 x8 (wrap64 (x9 + 1)) x324000 x324001))) else (spec_ClausesOf.l0 k x1 x2 x8 (wrap64 (x9 + 1)) x324000 x324001)) else (none)) else (some (x8, true))
end
def spec_ClausesOf.f (k : Nat) (l0_0 : List ByteArray) (l0_1 : List (S51)) (a1 : Int) (a2 : Int) : Option (List Int × Bool) := (some (([] : List Int) : List Int)).bind fun y324 => ((spec_l6Good.f k l0_0 l0_1).bind fun t327 => (if t327 = true then ((spec_l1In.f a1 0 (wrap64 ((l0_0.length : Int) - 1))).bind fun t328 => (if t328 = true then ((spec_l1In.f a2 0 4).bind fun t329 => (spec_ClausesOf.j0 k a1 a2 y324 (!t329) l0_0 l0_1)) else (spec_ClausesOf.j0 k a1 a2 y324 true l0_0 l0_1))) else (spec_ClausesOf.j0 k a1 a2 y324 true l0_0 l0_1)))
theorem spec_ClausesOf.mono_l : ∀ k, (∀ y0 y1 y2 y3 y4 y5, LeO (spec_ClausesOf.j0 k y0 y1 y2 y3 y4 y5) (spec_ClausesOf.j0 (k + 1) y0 y1 y2 y3 y4 y5)) ∧ (∀ y0 y1 y2 y3 y4 y5, LeO (spec_ClausesOf.l0 k y0 y1 y2 y3 y4 y5) (spec_ClausesOf.l0 (k + 1) y0 y1 y2 y3 y4 y5))
 | 0 => ⟨fun _ _ _ _ _ _ r h => by simp [spec_ClausesOf.j0] at h, fun _ _ _ _ _ _ r h => by simp [spec_ClausesOf.l0] at h⟩
 | k + 1 => by
  obtain ⟨ih0, ih1⟩ := spec_ClausesOf.mono_l k
  refine ⟨?_, ?_⟩
  ·
   intro y0 y1 y2 y3 y4 y5
   unfold spec_ClausesOf.j0
   repeat' first
   | (with_reducible first | exact ih0 _ _ _ _ _ _ | exact ih1 _ _ _ _ _ _ | exact spec_l6Good.mono _ _ _ | exact LeO.refl _ | exact LeO.none _ | refine LeO.ite ?_ ?_ | refine LeO.bind ?_ (fun _ => ?_))
  ·
   intro y0 y1 y2 y3 y4 y5
   unfold spec_ClausesOf.l0
   repeat' first
   | (with_reducible first | exact ih0 _ _ _ _ _ _ | exact ih1 _ _ _ _ _ _ | exact spec_l6Good.mono _ _ _ | exact LeO.refl _ | exact LeO.none _ | refine LeO.ite ?_ ?_ | refine LeO.bind ?_ (fun _ => ?_))
theorem spec_ClausesOf.mono : ∀ a0 a1 a2 a3 k, LeO (spec_ClausesOf.f k a0 a1 a2 a3) (spec_ClausesOf.f (k + 1) a0 a1 a2 a3) := by
 intro a0 a1 a2 a3 k
 obtain ⟨ih0, ih1⟩ := spec_ClausesOf.mono_l k
 unfold spec_ClausesOf.f
 repeat' first
   | (with_reducible first | exact ih0 _ _ _ _ _ _ | exact ih1 _ _ _ _ _ _ | exact spec_l6Good.mono _ _ _ | exact LeO.refl _ | exact LeO.none _ | refine LeO.ite ?_ ?_ | refine LeO.bind ?_ (fun _ => ?_))
set_option maxHeartbeats 8000000 in
set_option maxRecDepth 100000 in
theorem spec_ClausesOf.calls (k : Nat) (A0_0 : Option Addr) (c0_0 : Nat) (l0_0 : List ByteArray) (A0_1 : Option Addr) (c0_1 : Nat) (l0_1 : List (S51)) (a1 : Int) (a2 : Int) (r1 : List Int) (r2 : Bool) (w : World) (hr0_0 : Kd.C Kd.string w A0_0 l0_0.length l0_0) (hc0_0 : l0_0.length ≤ c0_0) (hr0_1 : Kd.C k51 w A0_1 l0_1.length l0_1) (hc0_1 : l0_1.length ≤ c0_1) (h : spec_ClausesOf.f k l0_0 l0_1 a1 a2 = some (r1, r2)) :
  Calls Tryz.prog 26 #[.agg #[.slice A0_0 l0_0.length c0_0, .slice A0_1 l0_1.length c0_1], .int .i64 a1, .int .i64 a2] w fun e w' => ∃ v0_ : Value, e = .returned (.tuple #[v0_, .bool r2]) ∧ Kd.R (Kd.int .i64) 3 w' w.heap.size (fun _ => True) v0_ r1 ∧ Below w.heap.size w w' := by
 have hu32 := Tryz.underlying32
 have HR0_0 := Aside0.mk hr0_0
 have HC0_0 := Aside0.mk hc0_0
 clear hr0_0 hc0_0
 have HR0_1 := Aside0.mk hr0_1
 have HC0_1 := Aside0.mk hc0_1
 clear hr0_1 hc0_1
 have HB := Aside0.mk (Below.refl w.heap.size w)
 have H : ((some (([] : List Int) : List Int)).bind fun y324 => ((spec_l6Good.f k l0_0 l0_1).bind fun t327 => (if t327 = true then ((spec_l1In.f a1 0 (wrap64 ((l0_0.length : Int) - 1))).bind fun t328 => (if t328 = true then ((spec_l1In.f a2 0 4).bind fun t329 => (spec_ClausesOf.j0 k a1 a2 y324 (!t329) l0_0 l0_1)) else (spec_ClausesOf.j0 k a1 a2 y324 true l0_0 l0_1))) else (spec_ClausesOf.j0 k a1 a2 y324 true l0_0 l0_1)))) = some (r1, r2) := h
 clear h
 obtain ⟨y324, hy324⟩ : ∃ y_ : List Int, y_ = (([] : List Int)) := ⟨_, rfl⟩
 replace H : ((spec_l6Good.f k l0_0 l0_1).bind fun t327 => (if t327 = true then ((spec_l1In.f a1 0 (wrap64 ((l0_0.length : Int) - 1))).bind fun t328 => (if t328 = true then ((spec_l1In.f a2 0 4).bind fun t329 => (spec_ClausesOf.j0 k a1 a2 y324 (!t329) l0_0 l0_1)) else (spec_ClausesOf.j0 k a1 a2 y324 true l0_0 l0_1))) else (spec_ClausesOf.j0 k a1 a2 y324 true l0_0 l0_1))) = some (r1, r2) := by first | (rw [hy324]; with_reducible exact H) | (have H2_ := (Option.bind_some _ _).symm.trans H; rw [hy324]; with_reducible exact H2_) | (have H2_ := (Option.bind_some _ _).symm.trans H; with_reducible exact H2_) | with_reducible exact H | (rw [hy324]; exact H) | exact H
 have Ny324 := Aside0.mk hy324
 clear hy324
 have HC4 := Aside0.mk H
 clear H
 go_enter Tryz.func26, Tryz.ntmps26
 go_upto_region 2 with (first | ((with_reducible refine gate_dst (N := 3) rfl ?_); refine Own.be (N := 3) (cs := #[.slice A0_0 l0_0.length c0_0, .slice A0_1 l0_1.length c0_1]) (t := 32) ?_; intro gb323 hg w5 hbox hb; have BK323 := Aside0.mk hbox; have GW323 := (Own.gs hg : Aside0 (w.heap.size ≤ gb323)); have GE323 := GW323; replace HB := Own.bs hb; clear hb hbox hg) | ((with_reducible refine gate_dst (N := 10) rfl ?_); refine Kd.R_lit (Kd.int .i64) _ 3 ?hg (N := 10) ?hd (xs := ([] : List Int)) (inner := []) (ok := fun _ => True) (okp := fun _ => True) ?hr ?hp (fun _ hk => hk) trivial (Below.refl _ _) (Nat.le_refl _) (by simp) ?_; (case hd => rfl); (case hg => rfl); (case hr => first | (go_simp; done) | (go_simp; rfl)); (case hp => exact (Reps.none _ _)); intro v325 w6 ho7 hb hg_ hnew_; clear hg_ hnew_; (first | rw [← Ny324.out] at ho7 | (simp only [Int.reduceToNat] at ho7; rw [← Ny324.out] at ho7)); have HO326 := Aside0.mk (Kd.R_lower ho7 (below_size Own.bl)); replace BK323 := Own.bb BK323.out hb; replace HB := Own.bs hb; clear hb ho7))
 (try simp only [Own.ps])
 go_cut [27] (fun v27 wc => ∃ (kq : Nat) (x27_3 : Bool), v27 = .bool x27_3 ∧ Aside0 (spec_ClausesOf.j0 kq a1 a2 y324 x27_3 l0_0 l0_1 = some (r1, r2)) ∧ Aside0 (kq ≤ k) ∧ Aside0 (Kd.R (Kd.int .i64) 3 wc w.heap.size (fun _ => True) v325 y324) ∧ Aside0 (wc.heap[gb323]? = some (.cells #[(.slice A0_0 l0_0.length c0_0), (.slice A0_1 l0_1.length c0_1)] 32 (0, 0))) ∧ Aside0 (Below w.heap.size w wc))
 case first =>
  have H := HC4.out
  clear HC4
  replace H := Own.bd H; obtain ⟨t327, A8, H⟩ := H
  replace H := Own.ift H; obtain ⟨rfl, H⟩ | ⟨rfl, H⟩ := H
  ·
   have H' := Aside0.mk H
   clear H
   obtain ⟨z19_0, z19_1, y19_0, y19_1⟩ := Own.box2 BK323.out
   go_wp2_with (first | ((with_reducible refine gate_callee (f := 32) rfl ?_); refine goesL_ (some 12) rfl rfl Tryz.func32 (by kernel_rfl) rfl #[.agg #[.slice A0_0 l0_0.length c0_0, .slice A0_1 l0_1.length c0_1]] rfl Own.ha ?_; (with_reducible refine (spec_l6Good.calls k _ _ l0_0 _ _ l0_1 false _ ?side1 ?side2 ?side3 ?side4 A8.out).mono ?_); (case side1 => exact Kd.C_below HR0_0.out Own.bl); (case side2 => exact HC0_0.out); (case side3 => exact Kd.C_below HR0_1.out Own.bl); (case side4 => exact HC0_1.out); rintro e w20 ⟨rfl, hb⟩; refine ⟨_, rfl, ?_⟩; replace HO326 := Aside0.mk (Kd.R_below (Own.rd HO326.out) hb); replace BK323 := Own.bb BK323.out hb; replace HB := Own.bs hb; (try clear hb)))
   go_meet
   case rel => exact ⟨_, (true), Own.rs, H', ⟨by first | omega | exact Nat.le_refl _⟩, ⟨Own.rd HO326.out⟩, ⟨Own.bk⟩, ⟨Own.bl⟩⟩
  replace H := Own.bd H; obtain ⟨t328, A10, H⟩ := H
  replace H := Own.ifu H; obtain ⟨rfl, H⟩ | ⟨rfl, H⟩ := H
  ·
   replace H := Own.bd H; obtain ⟨t329, A12, H⟩ := H
   have H' := Aside0.mk H
   clear H
   obtain ⟨z13_0, z13_1, y13_0, y13_1⟩ := Own.box2 BK323.out
   go_wp2_with (first | ((with_reducible refine gate_callee (f := 32) rfl ?_); refine goesL_ (some 12) rfl rfl Tryz.func32 (by kernel_rfl) rfl #[.agg #[.slice A0_0 l0_0.length c0_0, .slice A0_1 l0_1.length c0_1]] rfl Own.ha ?_; (with_reducible refine (spec_l6Good.calls k _ _ l0_0 _ _ l0_1 true _ ?side1 ?side2 ?side3 ?side4 A8.out).mono ?_); (case side1 => exact Kd.C_below HR0_0.out Own.bl); (case side2 => exact HC0_0.out); (case side3 => exact Kd.C_below HR0_1.out Own.bl); (case side4 => exact HC0_1.out); rintro e w14 ⟨rfl, hb⟩; refine ⟨_, rfl, ?_⟩; replace HO326 := Aside0.mk (Kd.R_below (Own.rd HO326.out) hb); replace BK323 := Own.bb BK323.out hb; replace HB := Own.bs hb; (try clear hb); obtain ⟨z15_0, z15_1, y15_0, y15_1⟩ := Own.box2 BK323.out) | (go_at_call 57; (with_reducible refine (spec_l1In.calls a1 0 (wrap64 ((l0_0.length : Int) - 1)) true _ A10.out).mono ?_); rintro e w' ⟨rfl, ⟨nd, rfl⟩⟩) | (go_at_call 57; (with_reducible refine (spec_l1In.calls a2 0 4 t329 _ A12.out).mono ?_); rintro e w' ⟨rfl, ⟨nd, rfl⟩⟩))
   go_meet
   case rel => exact ⟨_, (!t329), Own.rs, H', ⟨by first | omega | exact Nat.le_refl _⟩, ⟨Own.rd HO326.out⟩, ⟨Own.bk⟩, ⟨Own.bl⟩⟩
  have H' := Aside0.mk H
  clear H
  obtain ⟨z16_0, z16_1, y16_0, y16_1⟩ := Own.box2 BK323.out
  go_wp2_with (first | ((with_reducible refine gate_callee (f := 32) rfl ?_); refine goesL_ (some 12) rfl rfl Tryz.func32 (by kernel_rfl) rfl #[.agg #[.slice A0_0 l0_0.length c0_0, .slice A0_1 l0_1.length c0_1]] rfl Own.ha ?_; (with_reducible refine (spec_l6Good.calls k _ _ l0_0 _ _ l0_1 true _ ?side1 ?side2 ?side3 ?side4 A8.out).mono ?_); (case side1 => exact Kd.C_below HR0_0.out Own.bl); (case side2 => exact HC0_0.out); (case side3 => exact Kd.C_below HR0_1.out Own.bl); (case side4 => exact HC0_1.out); rintro e w17 ⟨rfl, hb⟩; refine ⟨_, rfl, ?_⟩; replace HO326 := Aside0.mk (Kd.R_below (Own.rd HO326.out) hb); replace BK323 := Own.bb BK323.out hb; replace HB := Own.bs hb; (try clear hb); obtain ⟨z18_0, z18_1, y18_0, y18_1⟩ := Own.box2 BK323.out) | (go_at_call 57; (with_reducible refine (spec_l1In.calls a1 0 (wrap64 ((l0_0.length : Int) - 1)) false _ A10.out).mono ?_); rintro e w' ⟨rfl, ⟨nd, rfl⟩⟩))
  go_meet
  case rel => exact ⟨_, (true), Own.rs, H', ⟨by first | omega | exact Nat.le_refl _⟩, ⟨Own.rd HO326.out⟩, ⟨Own.bk⟩, ⟨Own.bl⟩⟩
 case rest =>
  clear HC4
  try clear c1; try clear c2; try clear p2; try clear c3; try clear p6; try clear c9; try clear c11; try clear z13_0 z13_1; try clear z15_0 z15_1; try clear z16_0 z16_1; try clear z18_0 z18_1; try clear z19_0 z19_1; try clear y13_0 y13_1; try clear y15_0 y15_1; try clear y16_0 y16_1; try clear y18_0 y18_1; try clear y19_0 y19_1
  obtain ⟨kq, x27_3, rfl, HA, HJ3, HO_8, BK323, HB⟩ := hcut
  cases kq with
  | zero => exact absurd HA.out (by simp [spec_ClausesOf.j0])
  | succ kj3 =>
   have H := HA.out
   clear HA
   simp only [spec_ClausesOf.j0] at H
   replace H := Own.ifu H; obtain ⟨rfl, H⟩ | ⟨rfl, H⟩ := H
   ·
    simp only [Option.some.injEq, Prod.mk.injEq] at H
    obtain ⟨rfl, rfl⟩ := H
    go_wp2
    go_ret2
    exact ⟨_, Own.rr, Own.rd HO_8.out, Own.bl⟩
   have H' := Aside0.mk H
   clear H
   go_wp2
   go_loopg [8, 9] kj3 (fun kq v8 v9 w' => ∃ (x8_2 : List Int) (x9_2 : Int), v9 = .int .i64 x9_2 ∧ Aside0 (spec_ClausesOf.l0 kq a1 a2 x8_2 x9_2 l0_0 l0_1 = some (r1, r2)) ∧ Aside0 (kq ≤ kj3) ∧ Aside0 (Kd.R (Kd.int .i64) 3 w' w.heap.size (fun _ => True) v8 x8_2) ∧ Aside0 (w'.heap[gb323]? = some (.cells #[(.slice A0_0 l0_0.length c0_0), (.slice A0_1 l0_1.length c0_1)] 32 (0, 0))) ∧ Aside0 (Below w.heap.size w w'))
   case atStart => exact ⟨(y324), (0), Own.rs, H', ⟨Nat.le_refl _⟩, ⟨Own.rd HO_8.out⟩, ⟨Own.bk⟩, ⟨Own.bl⟩⟩
   case round =>
    clear H'
    try clear c1; try clear c2; try clear p2; try clear c3; try clear p6; try clear c9; try clear c11; try clear c21; try clear z13_0 z13_1; try clear z15_0 z15_1; try clear z16_0 z16_1; try clear z18_0 z18_1; try clear z19_0 z19_1; try clear y13_0 y13_1; try clear y15_0 y15_1; try clear y16_0 y16_1; try clear y18_0 y18_1; try clear y19_0 y19_1; try clear p2; try clear p6
    obtain ⟨x8_2, x9_2, rfl, HA, HK2, HO_8, BK323, HB⟩ := hrel
    cases gk with
    | zero => exact absurd HA.out (by simp [spec_ClausesOf.l0])
    | succ k2 =>
     have H := HA.out
     clear HA
     simp only [spec_ClausesOf.l0] at H
     by_cases c22 : x9_2 < (l0_1.length : Int)
     rotate_left
     ·
      rw [if_neg c22] at H
      replace c22 := decide_eq_false c22
      simp only [Option.some.injEq, Prod.mk.injEq] at H
      obtain ⟨rfl, rfl⟩ := H
      obtain ⟨z35_0, z35_1, y35_0, y35_1⟩ := Own.box2 BK323.out
      go_wp2
      go_ret2
      exact ⟨_, Own.rr, Own.rd HO_8.out, Own.bl⟩
     rw [if_pos c22] at H
     replace c22 := decide_eq_true c22
     replace H := Own.ifd H; obtain ⟨c23, H⟩ := H
     by_cases c24 : ((rd_T51 l0_1 x9_2).f2) = a1
     rotate_left
     ·
      rw [if_neg c24] at H
      have c24b0 : (((rd_T51 l0_1 x9_2).f2) == a1) = false := beq_eq_false_iff_ne.mpr c24
      have c24b1 : (((rd_T51 l0_1 x9_2).f2) != a1) = true := bne_iff_ne.mpr c24
      have H' := Aside0.mk H
      clear H
      obtain ⟨z34_0, z34_1, y34_0, y34_1⟩ := Own.box2 BK323.out
      have p330 : 0 ≤ (x9_2 : Int) := Own.dp
      have q330 : x9_2 < (l0_1.length : Int) := Own.dp
      obtain ⟨ad330, A330_9, c330_9, e330, hx330_0, hx330_1, hx330_2, hx330_3, hx330_4, hx330_5, hx330_6, hx330_7, hx330_8, hx330_9, hx330_10, hx330_11, hl330_9, hi330_9⟩ := at_T51 HR0_1.out x9_2 p330 q330
      cases e330
      replace hx330_0 := Own.up HB.out hx330_0
      replace hx330_1 := Own.up HB.out hx330_1
      replace hx330_2 := Own.up HB.out hx330_2
      replace hx330_3 := Own.up HB.out hx330_3
      replace hx330_4 := Own.up HB.out hx330_4
      replace hx330_5 := Own.up HB.out hx330_5
      replace hx330_6 := Own.up HB.out hx330_6
      replace hx330_7 := Own.up HB.out hx330_7
      replace hx330_8 := Own.up HB.out hx330_8
      replace hx330_9 := Own.up HB.out hx330_9
      replace hx330_10 := Own.up HB.out hx330_10
      replace hx330_11 := Own.up HB.out hx330_11
      have HR330_9 := Aside0.mk hi330_9
      have HC330_9 := Aside0.mk hl330_9
      clear hi330_9 hl330_9
      replace p330 := eq_true p330
      replace q330 := eq_true q330
      go_wp2
      go_roundg k2
      case measure => have := HJ3.out; have := HK2.out; omega
      case rel => exact ⟨(x8_2), (wrap64 (x9_2 + 1)), Own.rs, H', ⟨by have := HJ3.out; have := HK2.out; omega⟩, ⟨Own.rd HO_8.out⟩, ⟨Own.bk⟩, ⟨Own.bl⟩⟩
     rw [if_pos c24] at H
     have c24b0 : (((rd_T51 l0_1 x9_2).f2) == a1) = true := beq_iff_eq.mpr c24
     have c24b1 : (((rd_T51 l0_1 x9_2).f2) != a1) = false := bne_eq_false_iff_eq.mpr c24
     clear c24
     by_cases c25 : a2 = 0
     ·
      rw [if_pos c25] at H
      have c25b0 : (a2 == 0) = true := beq_iff_eq.mpr c25
      have c25b1 : (a2 != 0) = false := bne_eq_false_iff_eq.mpr c25
      clear c25
      replace H := Own.ifn H; obtain ⟨c26, H⟩ := H
      have LMc26 := Aside0.mk c26
      clear c26
      obtain ⟨y331, hy331⟩ : ∃ y_ : List Int, y_ = (x8_2 ++ [x9_2]) := ⟨_, rfl⟩
      replace H : (spec_ClausesOf.l0 k2 a1 a2 y331 (wrap64 (x9_2 + 1)) l0_0 l0_1) = some (r1, r2) := by first | (rw [hy331]; with_reducible exact H) | (have H2_ := (Option.bind_some _ _).symm.trans H; rw [hy331]; with_reducible exact H2_) | (have H2_ := (Option.bind_some _ _).symm.trans H; with_reducible exact H2_) | with_reducible exact H | (rw [hy331]; exact H) | exact H
      have Ny331 := Aside0.mk hy331
      clear hy331
      have H' := Aside0.mk H
      clear H
      obtain ⟨z27_0, z27_1, y27_0, y27_1⟩ := Own.box2 BK323.out
      have p330 : 0 ≤ (x9_2 : Int) := Own.dp
      have q330 : x9_2 < (l0_1.length : Int) := Own.dp
      obtain ⟨ad330, A330_9, c330_9, e330, hx330_0, hx330_1, hx330_2, hx330_3, hx330_4, hx330_5, hx330_6, hx330_7, hx330_8, hx330_9, hx330_10, hx330_11, hl330_9, hi330_9⟩ := at_T51 HR0_1.out x9_2 p330 q330
      cases e330
      replace hx330_0 := Own.up HB.out hx330_0
      replace hx330_1 := Own.up HB.out hx330_1
      replace hx330_2 := Own.up HB.out hx330_2
      replace hx330_3 := Own.up HB.out hx330_3
      replace hx330_4 := Own.up HB.out hx330_4
      replace hx330_5 := Own.up HB.out hx330_5
      replace hx330_6 := Own.up HB.out hx330_6
      replace hx330_7 := Own.up HB.out hx330_7
      replace hx330_8 := Own.up HB.out hx330_8
      replace hx330_9 := Own.up HB.out hx330_9
      replace hx330_10 := Own.up HB.out hx330_10
      replace hx330_11 := Own.up HB.out hx330_11
      have HR330_9 := Aside0.mk hi330_9
      have HC330_9 := Aside0.mk hl330_9
      clear hi330_9 hl330_9
      replace p330 := eq_true p330
      replace q330 := eq_true q330
      go_wp2_with (first | ((with_reducible refine gate_builtin (b := .append) (xs := #[.tmp 58, .tmp 60]) rfl ?_); at_builtin; refine Kd.R_append (Kd.int .i64) (w0 := w) w.heap.size rfl (.tmp 58) (.tmp 60) 27 3 (.int .i64 0) 8 rfl Tryz.underlying27 info3 rfl (by decide) (by omega) u8 x8_2 x9_2 [.int .i64 x9_2] (fun _ => True) (fun _ => False) rfl rfl ?aP (fun _ hk => hk.elim) ?aF ?aO ?aB ?aS ?aL ?_; (case aP => exact rfl); (case aB => exact Own.bl); (case aF => exact (fun _ _ => trivial)); (case aO => exact (Own.rd HO_8.out)); (case aS => exact (below_size Own.bl)); (case aL => have := LMc26.out; omega); intro v332 w28 ho hb hg hat; rw [← Ny331.out] at ho; have HO333 := Aside0.mk ho; replace BK323 := Aside0.mk (blk_grown (Own.bkf BK323.out) hg (Kd.R_ne HO_8.out BK323.out (by decide))); replace HB := Aside0.mk hb; clear HO_8; clear ho hb hg hat))
      go_roundg k2
      case measure => have := HJ3.out; have := HK2.out; omega
      case rel => exact ⟨(y331), (wrap64 (x9_2 + 1)), Own.rs, H', ⟨by have := HJ3.out; have := HK2.out; omega⟩, ⟨Own.rd HO333.out⟩, ⟨Own.bk⟩, ⟨Own.bl⟩⟩
     rw [if_neg c25] at H
     have c25b0 : (a2 == 0) = false := beq_eq_false_iff_ne.mpr c25
     have c25b1 : (a2 != 0) = true := bne_iff_ne.mpr c25
     by_cases c29 : ((rd_T51 l0_1 x9_2).f1) = a2
     rotate_left
     ·
      rw [if_neg c29] at H
      have c29b0 : (((rd_T51 l0_1 x9_2).f1) == a2) = false := beq_eq_false_iff_ne.mpr c29
      have c29b1 : (((rd_T51 l0_1 x9_2).f1) != a2) = true := bne_iff_ne.mpr c29
      have H' := Aside0.mk H
      clear H
      obtain ⟨z33_0, z33_1, y33_0, y33_1⟩ := Own.box2 BK323.out
      have p330 : 0 ≤ (x9_2 : Int) := Own.dp
      have q330 : x9_2 < (l0_1.length : Int) := Own.dp
      obtain ⟨ad330, A330_9, c330_9, e330, hx330_0, hx330_1, hx330_2, hx330_3, hx330_4, hx330_5, hx330_6, hx330_7, hx330_8, hx330_9, hx330_10, hx330_11, hl330_9, hi330_9⟩ := at_T51 HR0_1.out x9_2 p330 q330
      cases e330
      replace hx330_0 := Own.up HB.out hx330_0
      replace hx330_1 := Own.up HB.out hx330_1
      replace hx330_2 := Own.up HB.out hx330_2
      replace hx330_3 := Own.up HB.out hx330_3
      replace hx330_4 := Own.up HB.out hx330_4
      replace hx330_5 := Own.up HB.out hx330_5
      replace hx330_6 := Own.up HB.out hx330_6
      replace hx330_7 := Own.up HB.out hx330_7
      replace hx330_8 := Own.up HB.out hx330_8
      replace hx330_9 := Own.up HB.out hx330_9
      replace hx330_10 := Own.up HB.out hx330_10
      replace hx330_11 := Own.up HB.out hx330_11
      have HR330_9 := Aside0.mk hi330_9
      have HC330_9 := Aside0.mk hl330_9
      clear hi330_9 hl330_9
      replace p330 := eq_true p330
      replace q330 := eq_true q330
      have p334 : 0 ≤ (x9_2 : Int) := Own.dp
      have q334 : x9_2 < (l0_1.length : Int) := Own.dp
      obtain ⟨ad334, A334_9, c334_9, e334, hx334_0, hx334_1, hx334_2, hx334_3, hx334_4, hx334_5, hx334_6, hx334_7, hx334_8, hx334_9, hx334_10, hx334_11, hl334_9, hi334_9⟩ := at_T51 HR0_1.out x9_2 p334 q334
      obtain rfl : ad330 = ad334 := (by injection e334)
      replace hx334_0 := Own.up HB.out hx334_0
      replace hx334_1 := Own.up HB.out hx334_1
      replace hx334_2 := Own.up HB.out hx334_2
      replace hx334_3 := Own.up HB.out hx334_3
      replace hx334_4 := Own.up HB.out hx334_4
      replace hx334_5 := Own.up HB.out hx334_5
      replace hx334_6 := Own.up HB.out hx334_6
      replace hx334_7 := Own.up HB.out hx334_7
      replace hx334_8 := Own.up HB.out hx334_8
      replace hx334_9 := Own.up HB.out hx334_9
      replace hx334_10 := Own.up HB.out hx334_10
      replace hx334_11 := Own.up HB.out hx334_11
      have HR334_9 := Aside0.mk hi334_9
      have HC334_9 := Aside0.mk hl334_9
      clear hi334_9 hl334_9
      replace p334 := eq_true p334
      replace q334 := eq_true q334
      have ea_ := Option.some.inj (hx330_9.symm.trans hx334_9)
      injection ea_ with ea_ en_ ec_
      subst ea_
      subst ec_
      clear en_
      go_wp2
      go_roundg k2
      case measure => have := HJ3.out; have := HK2.out; omega
      case rel => exact ⟨(x8_2), (wrap64 (x9_2 + 1)), Own.rs, H', ⟨by have := HJ3.out; have := HK2.out; omega⟩, ⟨Own.rd HO_8.out⟩, ⟨Own.bk⟩, ⟨Own.bl⟩⟩
     rw [if_pos c29] at H
     have c29b0 : (((rd_T51 l0_1 x9_2).f1) == a2) = true := beq_iff_eq.mpr c29
     have c29b1 : (((rd_T51 l0_1 x9_2).f1) != a2) = false := bne_eq_false_iff_eq.mpr c29
     clear c29
     replace H := Own.ifn H; obtain ⟨c30, H⟩ := H
     have LMc30 := Aside0.mk c30
     clear c30
     obtain ⟨y335, hy335⟩ : ∃ y_ : List Int, y_ = (x8_2 ++ [x9_2]) := ⟨_, rfl⟩
     replace H : (spec_ClausesOf.l0 k2 a1 a2 y335 (wrap64 (x9_2 + 1)) l0_0 l0_1) = some (r1, r2) := by first | (rw [hy335]; with_reducible exact H) | (have H2_ := (Option.bind_some _ _).symm.trans H; rw [hy335]; with_reducible exact H2_) | (have H2_ := (Option.bind_some _ _).symm.trans H; with_reducible exact H2_) | with_reducible exact H | (rw [hy335]; exact H) | exact H
     have Ny335 := Aside0.mk hy335
     clear hy335
     have H' := Aside0.mk H
     clear H
     obtain ⟨z31_0, z31_1, y31_0, y31_1⟩ := Own.box2 BK323.out
     have p330 : 0 ≤ (x9_2 : Int) := Own.dp
     have q330 : x9_2 < (l0_1.length : Int) := Own.dp
     obtain ⟨ad330, A330_9, c330_9, e330, hx330_0, hx330_1, hx330_2, hx330_3, hx330_4, hx330_5, hx330_6, hx330_7, hx330_8, hx330_9, hx330_10, hx330_11, hl330_9, hi330_9⟩ := at_T51 HR0_1.out x9_2 p330 q330
     cases e330
     replace hx330_0 := Own.up HB.out hx330_0
     replace hx330_1 := Own.up HB.out hx330_1
     replace hx330_2 := Own.up HB.out hx330_2
     replace hx330_3 := Own.up HB.out hx330_3
     replace hx330_4 := Own.up HB.out hx330_4
     replace hx330_5 := Own.up HB.out hx330_5
     replace hx330_6 := Own.up HB.out hx330_6
     replace hx330_7 := Own.up HB.out hx330_7
     replace hx330_8 := Own.up HB.out hx330_8
     replace hx330_9 := Own.up HB.out hx330_9
     replace hx330_10 := Own.up HB.out hx330_10
     replace hx330_11 := Own.up HB.out hx330_11
     have HR330_9 := Aside0.mk hi330_9
     have HC330_9 := Aside0.mk hl330_9
     clear hi330_9 hl330_9
     replace p330 := eq_true p330
     replace q330 := eq_true q330
     have p334 : 0 ≤ (x9_2 : Int) := Own.dp
     have q334 : x9_2 < (l0_1.length : Int) := Own.dp
     obtain ⟨ad334, A334_9, c334_9, e334, hx334_0, hx334_1, hx334_2, hx334_3, hx334_4, hx334_5, hx334_6, hx334_7, hx334_8, hx334_9, hx334_10, hx334_11, hl334_9, hi334_9⟩ := at_T51 HR0_1.out x9_2 p334 q334
     obtain rfl : ad330 = ad334 := (by injection e334)
     replace hx334_0 := Own.up HB.out hx334_0
     replace hx334_1 := Own.up HB.out hx334_1
     replace hx334_2 := Own.up HB.out hx334_2
     replace hx334_3 := Own.up HB.out hx334_3
     replace hx334_4 := Own.up HB.out hx334_4
     replace hx334_5 := Own.up HB.out hx334_5
     replace hx334_6 := Own.up HB.out hx334_6
     replace hx334_7 := Own.up HB.out hx334_7
     replace hx334_8 := Own.up HB.out hx334_8
     replace hx334_9 := Own.up HB.out hx334_9
     replace hx334_10 := Own.up HB.out hx334_10
     replace hx334_11 := Own.up HB.out hx334_11
     have HR334_9 := Aside0.mk hi334_9
     have HC334_9 := Aside0.mk hl334_9
     clear hi334_9 hl334_9
     replace p334 := eq_true p334
     replace q334 := eq_true q334
     have ea_ := Option.some.inj (hx330_9.symm.trans hx334_9)
     injection ea_ with ea_ en_ ec_
     subst ea_
     subst ec_
     clear en_
     go_wp2_with (first | ((with_reducible refine gate_builtin (b := .append) (xs := #[.tmp 58, .tmp 60]) rfl ?_); at_builtin; refine Kd.R_append (Kd.int .i64) (w0 := w) w.heap.size rfl (.tmp 58) (.tmp 60) 27 3 (.int .i64 0) 8 rfl Tryz.underlying27 info3 rfl (by decide) (by omega) u8 x8_2 x9_2 [.int .i64 x9_2] (fun _ => True) (fun _ => False) rfl rfl ?aP (fun _ hk => hk.elim) ?aF ?aO ?aB ?aS ?aL ?_; (case aP => exact rfl); (case aB => exact Own.bl); (case aF => exact (fun _ _ => trivial)); (case aO => exact (Own.rd HO_8.out)); (case aS => exact (below_size Own.bl)); (case aL => have := LMc30.out; omega); intro v336 w32 ho hb hg hat; rw [← Ny335.out] at ho; have HO337 := Aside0.mk ho; replace BK323 := Aside0.mk (blk_grown (Own.bkf BK323.out) hg (Kd.R_ne HO_8.out BK323.out (by decide))); replace HB := Aside0.mk hb; clear HO_8; clear ho hb hg hat))
     go_roundg k2
     case measure => have := HJ3.out; have := HK2.out; omega
     case rel => exact ⟨(y335), (wrap64 (x9_2 + 1)), Own.rs, H', ⟨by have := HJ3.out; have := HK2.out; omega⟩, ⟨Own.rd HO337.out⟩, ⟨Own.bk⟩, ⟨Own.bl⟩⟩

/-! ### impl_within: function 58 -/
def impl_within.f (a0 : Int) (a1 : Int) (a2 : Int) : Option (Bool) := if a0 ≥ a1 then (some (decide (a0 ≤ a2))) else (some false)
set_option maxHeartbeats 8000000 in
set_option maxRecDepth 100000 in
theorem impl_within.calls (a0 : Int) (a1 : Int) (a2 : Int) (r : Bool) (w : World) (h : impl_within.f a0 a1 a2 = some r) :
  Calls Tryz.prog 58 #[.int .i64 a0, .int .i64 a1, .int .i64 a2] w fun e w' => e = .returned (.bool r) ∧ Drawn0 w w' := by
 have H : (if a0 ≥ a1 then (some (decide (a0 ≤ a2))) else (some false)) = some r := h
 clear h
 by_cases c4 : a0 ≥ a1
 ·
  rw [if_pos c4] at H
  have c4b0 : decide (a1 ≤ a0) = true := decide_eq_true c4
  clear c4
  obtain rfl := Option.some.inj H
  go_enter Tryz.func58, Tryz.ntmps58
  go_wp2
  go_ret
  exact ⟨by first | rfl | (simp; done) | (simp [*]; done), by repeat (first | exact Drawn0.refl _ | apply Drawn0.step)⟩
 rw [if_neg c4] at H
 have c4b0 : decide (a1 ≤ a0) = false := decide_eq_false c4
 clear c4
 obtain rfl := Option.some.inj H
 go_enter Tryz.func58, Tryz.ntmps58
 go_wp2
 go_ret
 exact ⟨by first | rfl | (simp; done) | (simp [*]; done), by repeat (first | exact Drawn0.refl _ | apply Drawn0.step)⟩

/-! ### slices_Index_string_string: function 97 -/
def slices_Index_string_string.l0 : Nat → List ByteArray → ByteArray → Int → Int → Option (Int)
 | 0, _, _, _, _ => none
 | k + 1, x0, x1, x7, x8 => if x8 < x7 then (if 0 ≤ x8 then (if x8 < (x0.length : Int) then (if x1.toList = (rdOf ByteArray.empty x0 x8).toList then (some x8) else (slices_Index_string_string.l0 k x0 x1 x7 (wrap64 (x8 + 1)))) else (none)) else (none)) else (some (-1))
def slices_Index_string_string.f (k : Nat) (l0 : List ByteArray) (a1 : ByteArray) : Option (Int) := slices_Index_string_string.l0 k l0 a1 (l0.length : Int) 0
theorem slices_Index_string_string.mono_l : ∀ k, (∀ y0 y1 y2 y3, LeO (slices_Index_string_string.l0 k y0 y1 y2 y3) (slices_Index_string_string.l0 (k + 1) y0 y1 y2 y3))
 | 0 => fun _ _ _ _ r h => by simp [slices_Index_string_string.l0] at h
 | k + 1 => by
  have ih0 := slices_Index_string_string.mono_l k
  ·
   intro y0 y1 y2 y3
   unfold slices_Index_string_string.l0
   repeat' first
   | (with_reducible first | exact ih0 _ _ _ _ | exact LeO.refl _ | exact LeO.none _ | refine LeO.ite ?_ ?_ | refine LeO.bind ?_ (fun _ => ?_))
theorem slices_Index_string_string.mono : ∀ a0 a1 k, LeO (slices_Index_string_string.f k a0 a1) (slices_Index_string_string.f (k + 1) a0 a1) := by
 intro a0 a1 k
 have ih0 := slices_Index_string_string.mono_l k
 unfold slices_Index_string_string.f
 repeat' first
   | (with_reducible first | exact ih0 _ _ _ _ | exact LeO.refl _ | exact LeO.none _ | refine LeO.ite ?_ ?_ | refine LeO.bind ?_ (fun _ => ?_))
set_option maxHeartbeats 8000000 in
set_option maxRecDepth 100000 in
theorem slices_Index_string_string.calls (k : Nat) (A0 : Option Addr) (c0 : Nat) (l0 : List ByteArray) (a1 : ByteArray) (r : Int) (w : World) (hr0 : Kd.C Kd.string w A0 l0.length l0) (hc0 : l0.length ≤ c0) (h : slices_Index_string_string.f k l0 a1 = some r) :
  Calls Tryz.prog 97 #[.slice A0 l0.length c0, .string a1] w fun e w' => e = .returned (.int .i64 r) ∧ Drawn0 w w' := by
 have HR0 := Aside0.mk hr0
 have HC0 := Aside0.mk hc0
 clear hr0 hc0
 have H : (slices_Index_string_string.l0 k l0 a1 (l0.length : Int) 0) = some r := h
 clear h
 have H' := Aside0.mk H
 clear H
 go_enter Tryz.func97, Tryz.ntmps97
 go_wp2
 go_loopg [8] k (fun kq v8 w' => ∃ (x8_1 : Int), v8 = .int .i64 x8_1 ∧ Aside0 (slices_Index_string_string.l0 kq l0 a1 (l0.length : Int) x8_1 = some r) ∧ Aside0 (kq ≤ k) ∧ Drawn0 w w')
 case atStart => exact ⟨(0), Own.rs, H', ⟨Nat.le_refl _⟩, by repeat (first | exact Drawn0.refl _ | apply Drawn0.step)⟩
 case round =>
  clear H'
  try clear p2
  obtain ⟨x8_1, rfl, HA, HK1, ⟨m1, rfl⟩⟩ := hrel
  cases gk with
  | zero => exact absurd HA.out (by simp [slices_Index_string_string.l0])
  | succ k1 =>
   have H := HA.out
   clear HA
   simp only [slices_Index_string_string.l0] at H
   by_cases c3 : x8_1 < (l0.length : Int)
   rotate_left
   ·
    rw [if_neg c3] at H
    replace c3 := decide_eq_false c3
    obtain rfl := Option.some.inj H
    go_wp2
    go_ret
    exact ⟨by first | rfl | (simp; done) | (simp [*]; done), by repeat (first | exact Drawn0.refl _ | apply Drawn0.step)⟩
   rw [if_pos c3] at H
   replace c3 := decide_eq_true c3
   replace H := Own.ifd H; obtain ⟨c4, H⟩ := H
   replace H := Own.ifd H; obtain ⟨c5, H⟩ := H
   by_cases c6 : a1.toList = (rdOf ByteArray.empty l0 x8_1).toList
   ·
    rw [if_pos c6] at H
    have c6b0 : (a1.toList == (rdOf ByteArray.empty l0 x8_1).toList) = true := beq_iff_eq.mpr c6
    have c6b1 : (a1.toList != (rdOf ByteArray.empty l0 x8_1).toList) = false := bne_eq_false_iff_eq.mpr c6
    clear c6
    obtain rfl := Option.some.inj H
    have p338 : 0 ≤ (x8_1 : Int) := Own.dp
    have q338 : x8_1 < (l0.length : Int) := Own.dp
    obtain ⟨ad338, e338, hx338_0⟩ := Kd.at_string HR0.out x8_1 p338 q338
    cases e338
    replace p338 := eq_true p338
    replace q338 := eq_true q338
    go_wp2
    go_ret
    exact ⟨by first | rfl | (simp; done) | (simp [*]; done), by repeat (first | exact Drawn0.refl _ | apply Drawn0.step)⟩
   rw [if_neg c6] at H
   have c6b0 : (a1.toList == (rdOf ByteArray.empty l0 x8_1).toList) = false := beq_eq_false_iff_ne.mpr c6
   have c6b1 : (a1.toList != (rdOf ByteArray.empty l0 x8_1).toList) = true := bne_iff_ne.mpr c6
   have H' := Aside0.mk H
   clear H
   have p338 : 0 ≤ (x8_1 : Int) := Own.dp
   have q338 : x8_1 < (l0.length : Int) := Own.dp
   obtain ⟨ad338, e338, hx338_0⟩ := Kd.at_string HR0.out x8_1 p338 q338
   cases e338
   replace p338 := eq_true p338
   replace q338 := eq_true q338
   go_wp2
   go_roundg k1
   case measure => have := HK1.out; omega
   case rel => exact ⟨(wrap64 (x8_1 + 1)), Own.rs, H', ⟨by have := HK1.out; omega⟩, by repeat (first | exact Drawn0.refl _ | apply Drawn0.step)⟩

/-! ### slices_Contains_string_string: function 89 -/
def slices_Contains_string_string.f (k : Nat) (l0 : List ByteArray) (a1 : ByteArray) : Option (Bool) := (slices_Index_string_string.f k l0 a1).bind fun t339 => (some (decide (t339 ≥ 0)))
theorem slices_Contains_string_string.mono : ∀ a0 a1 k, LeO (slices_Contains_string_string.f k a0 a1) (slices_Contains_string_string.f (k + 1) a0 a1) := by
 intro a0 a1 k
 unfold slices_Contains_string_string.f
 repeat' first
   | (with_reducible first | exact slices_Index_string_string.mono _ _ _ | exact LeO.refl _ | exact LeO.none _ | refine LeO.ite ?_ ?_ | refine LeO.bind ?_ (fun _ => ?_))
set_option maxHeartbeats 8000000 in
set_option maxRecDepth 100000 in
theorem slices_Contains_string_string.calls (k : Nat) (A0 : Option Addr) (c0 : Nat) (l0 : List ByteArray) (a1 : ByteArray) (r : Bool) (w : World) (hr0 : Kd.C Kd.string w A0 l0.length l0) (hc0 : l0.length ≤ c0) (h : slices_Contains_string_string.f k l0 a1 = some r) :
  Calls Tryz.prog 89 #[.slice A0 l0.length c0, .string a1] w fun e w' => e = .returned (.bool r) ∧ Drawn0 w w' := by
 have HR0 := Aside0.mk hr0
 have HC0 := Aside0.mk hc0
 clear hr0 hc0
 have H : ((slices_Index_string_string.f k l0 a1).bind fun t339 => (some (decide (t339 ≥ 0)))) = some r := h
 clear h
 replace H := Own.bd H; obtain ⟨t339, A3, H⟩ := H
 obtain rfl := Option.some.inj H
 go_enter Tryz.func89, Tryz.ntmps89
 go_wp2_with (first | ((with_reducible refine gate_callee (f := 97) rfl ?_); refine goesL_ (some 7) rfl rfl Tryz.func97 (by kernel_rfl) rfl #[.slice A0 l0.length c0, .string a1] rfl Own.ha ?_; (with_reducible refine (slices_Index_string_string.calls k _ _ l0 a1 t339 _ ?side1 ?side2 A3.out).mono ?_); (case side1 => repeat (first | exact HR0.out | (with_reducible refine Kd.C_alloc ?_ _) | (with_reducible refine Kd.C_drewN ?_ _) | (with_reducible refine Kd.C_drew ?_))); (case side2 => exact HC0.out); rintro e w' ⟨rfl, ⟨nd, rfl⟩⟩; refine ⟨_, rfl, ?_⟩))
 go_ret
 exact ⟨by first | rfl | (simp; done) | (simp [*]; done), by repeat (first | exact Drawn0.refl _ | apply Drawn0.step)⟩

/-! ### strings_Split: function 96 -/
def strings_Split.f (a0 : ByteArray) (a1 : ByteArray) : Option (List ByteArray) := Own.splitF a0 a1
theorem strings_Split.calls (a0 : ByteArray) (a1 : ByteArray) (r : List ByteArray) (w : World) (hG : Own.Glob w) (h : strings_Split.f a0 a1 = some r) :
  Calls Tryz.prog 96 #[.string a0, .string a1] w fun e w' => ∃ v0_ : Value, e = .returned (v0_) ∧ Kd.R Kd.string 9 w' w.heap.size (fun _ => True) v0_ r ∧ Below w.heap.size w w' :=
 Own.split_calls a0 a1 r w hG.maxLen h


end Go.Proofs.YtdfbfcgjcfbmpaaGreatDoor.QFnExactClausesOf
