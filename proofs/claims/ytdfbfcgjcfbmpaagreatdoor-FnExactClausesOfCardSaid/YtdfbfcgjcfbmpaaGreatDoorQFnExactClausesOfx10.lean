-- Written by a program of this session out of the translation; Lean checks it.
import Derived.Test.YtdfbfcgjcfbmpaaGreatDoorQFnExactClausesOfx0
import Derived.Test.YtdfbfcgjcfbmpaaGreatDoorQFnExactClausesOfx5
import Derived.Test.YtdfbfcgjcfbmpaaGreatDoorQFnExactClausesOfx6
import Derived.Test.YtdfbfcgjcfbmpaaGreatDoorQFnExactClausesOfx7
import Derived.Test.YtdfbfcgjcfbmpaaGreatDoorQFnExactClausesOfx9
namespace Go.Proofs.YtdfbfcgjcfbmpaaGreatDoor.QFnExactClausesOf
open Go.RowKit Go.Proofs.YtdfbfcgjcfbmpaaGreatDoorW.PrintWords Go.Proofs.YtdfbfcgjcfbmpaaGreatDoorW.PrintLast Go.Proofs.YtdfbfcgjcfbmpaaGreatDoorW.PrintMore
attribute [local go_sem] Instr.field asAgg Own.str_leq Own.str_gtr Own.str_geq
attribute [local go_sem] max2_int min2_int max_two min_two max_three min_three max_four min_four   -- for this text's walks alone
set_option linter.unusedVariables false
set_option linter.unusedSimpArgs false

/-! ### spec_l6Good: function 32 -/
mutual
def spec_l6Good.j0 : Nat → Bool → List ByteArray → List (S51) → Option (Bool)
 | 0, _, _, _ => none
 | k + 1, x13, x315000, x315001 => if x13 = true then (some false) else (spec_l6Good.l0 k 0 x315000 x315001)
def spec_l6Good.l0 : Nat → Int → List ByteArray → List (S51) → Option (Bool)
 | 0, _, _, _ => none
 | k + 1, x3, x315000, x315001 => if x3 < (x315001.length : Int) then (if 0 ≤ x3 then ((spec_l6Find.f k x315000 x315001 ((rd_T51 x315001 x3).f0)).bind fun t321 => (if t321 = x3 then ((spec_l6Clause.f k x315000 x315001 x3).bind fun t322 => (if t322 = true then (spec_l6Good.l0 k (wrap64 (x3 + 1)) x315000 x315001) else (some false))) else (some false))) else (none)) else ((spec_l6Names.f k x315000 x315001).bind fun t317 => (some (decide ((t317.length : Int) ≤ 16))))
end
def spec_l6Good.f (k : Nat) (l0_0 : List ByteArray) (l0_1 : List (S51)) : Option (Bool) := (spec_l1In.f (l0_1.length : Int) 1 12).bind fun t315 => (if t315 = true then ((spec_l6Parties.f k l0_0 l0_1).bind fun t316 => (spec_l6Good.j0 k (!t316) l0_0 l0_1)) else (spec_l6Good.j0 k true l0_0 l0_1))
theorem spec_l6Good.mono_l : ∀ k, (∀ y0 y1 y2, LeO (spec_l6Good.j0 k y0 y1 y2) (spec_l6Good.j0 (k + 1) y0 y1 y2)) ∧ (∀ y0 y1 y2, LeO (spec_l6Good.l0 k y0 y1 y2) (spec_l6Good.l0 (k + 1) y0 y1 y2))
 | 0 => ⟨fun _ _ _ r h => by simp [spec_l6Good.j0] at h, fun _ _ _ r h => by simp [spec_l6Good.l0] at h⟩
 | k + 1 => by
  obtain ⟨ih0, ih1⟩ := spec_l6Good.mono_l k
  refine ⟨?_, ?_⟩
  ·
   intro y0 y1 y2
   unfold spec_l6Good.j0
   repeat' first
   | (with_reducible first | exact ih0 _ _ _ | exact ih1 _ _ _ | exact spec_l6Clause.mono _ _ _ _ | exact spec_l6Find.mono _ _ _ _ | exact spec_l6Names.mono _ _ _ | exact spec_l6Parties.mono _ _ _ | exact LeO.refl _ | exact LeO.none _ | refine LeO.ite ?_ ?_ | refine LeO.bind ?_ (fun _ => ?_))
  ·
   intro y0 y1 y2
   unfold spec_l6Good.l0
   repeat' first
   | (with_reducible first | exact ih0 _ _ _ | exact ih1 _ _ _ | exact spec_l6Clause.mono _ _ _ _ | exact spec_l6Find.mono _ _ _ _ | exact spec_l6Names.mono _ _ _ | exact spec_l6Parties.mono _ _ _ | exact LeO.refl _ | exact LeO.none _ | refine LeO.ite ?_ ?_ | refine LeO.bind ?_ (fun _ => ?_))
theorem spec_l6Good.mono : ∀ a0 a1 k, LeO (spec_l6Good.f k a0 a1) (spec_l6Good.f (k + 1) a0 a1) := by
 intro a0 a1 k
 obtain ⟨ih0, ih1⟩ := spec_l6Good.mono_l k
 unfold spec_l6Good.f
 repeat' first
   | (with_reducible first | exact ih0 _ _ _ | exact ih1 _ _ _ | exact spec_l6Clause.mono _ _ _ _ | exact spec_l6Find.mono _ _ _ _ | exact spec_l6Names.mono _ _ _ | exact spec_l6Parties.mono _ _ _ | exact LeO.refl _ | exact LeO.none _ | refine LeO.ite ?_ ?_ | refine LeO.bind ?_ (fun _ => ?_))
def spec_l6Good.T6 : Bool × List (List Nat × List Nat) := (true, [([], []), ([], []), ([1], [1]), ([], []), ([2, 3], [2, 3]), ([4], [4]), ([5], [5]), ([0, 6], [0, 6]), ([], []), ([7, 8], [7, 8]), ([9, 7], [9]), ([10], [10]), ([10], [10]), ([11, 12, 10, 10], [10, 11, 12]), ([13, 10], [10, 13]), ([10, 14], [10, 14])])
def spec_l6Good.B6 : List Nat := [0, 0, 2, 0, 14, 30, 62, 127, 0, 511, 1023, 2047, 2047, 8191, 16383, 32767]
theorem spec_l6Good.tab6 : rtab .any (opsOf Tryz.f32 6) = spec_l6Good.T6 := by kernel_rfl
theorem spec_l6Good.bits6 : waitsOk spec_l6Good.T6.2 spec_l6Good.B6 = true := by kernel_rfl
set_option maxHeartbeats 8000000 in
set_option maxRecDepth 100000 in
theorem spec_l6Good.calls (k : Nat) (A0_0 : Option Addr) (c0_0 : Nat) (l0_0 : List ByteArray) (A0_1 : Option Addr) (c0_1 : Nat) (l0_1 : List (S51)) (r : Bool) (w : World) (hr0_0 : Kd.C Kd.string w A0_0 l0_0.length l0_0) (hc0_0 : l0_0.length ≤ c0_0) (hr0_1 : Kd.C k51 w A0_1 l0_1.length l0_1) (hc0_1 : l0_1.length ≤ c0_1) (h : spec_l6Good.f k l0_0 l0_1 = some r) :
  Calls Tryz.prog 32 #[.agg #[.slice A0_0 l0_0.length c0_0, .slice A0_1 l0_1.length c0_1]] w fun e w' => e = .returned (.bool r) ∧ Below w.heap.size w w' := by
 have hu32 := Tryz.underlying32
 have HR0_0 := Aside0.mk hr0_0
 have HC0_0 := Aside0.mk hc0_0
 clear hr0_0 hc0_0
 have HR0_1 := Aside0.mk hr0_1
 have HC0_1 := Aside0.mk hc0_1
 clear hr0_1 hc0_1
 have HB := Aside0.mk (Below.refl w.heap.size w)
 have H : ((spec_l1In.f (l0_1.length : Int) 1 12).bind fun t315 => (if t315 = true then ((spec_l6Parties.f k l0_0 l0_1).bind fun t316 => (spec_l6Good.j0 k (!t316) l0_0 l0_1)) else (spec_l6Good.j0 k true l0_0 l0_1))) = some r := h
 clear h
 have HC2 := Aside0.mk H
 clear H
 go_enter Tryz.func32, Tryz.ntmps32
 go_upto_region 1 with (first | ((with_reducible refine gate_dst (N := 1) rfl ?_); refine Own.be (N := 1) (cs := #[.slice A0_0 l0_0.length c0_0, .slice A0_1 l0_1.length c0_1]) (t := 32) ?_; intro gb314 hg w3 hbox hb; have BK314 := Aside0.mk hbox; have GW314 := (Own.gs hg : Aside0 (w.heap.size ≤ gb314)); have GE314 := GW314; replace HB := Own.bs hb; clear hb hbox hg))
 (try simp only [Own.ps])
 go_cut [13] (fun v13 wc => ∃ (kq : Nat) (x13_1 : Bool), v13 = .bool x13_1 ∧ Aside0 (spec_l6Good.j0 kq x13_1 l0_0 l0_1 = some r) ∧ Aside0 (kq ≤ k) ∧ Aside0 (wc.heap[gb314]? = some (.cells #[(.slice A0_0 l0_0.length c0_0), (.slice A0_1 l0_1.length c0_1)] 32 (0, 0))) ∧ Aside0 (Below w.heap.size w wc))
 case first =>
  have H := HC2.out
  clear HC2
  replace H := Own.bd H; obtain ⟨t315, A4, H⟩ := H
  replace H := Own.ifu H; obtain ⟨rfl, H⟩ | ⟨rfl, H⟩ := H
  ·
   replace H := Own.bd H; obtain ⟨t316, A6, H⟩ := H
   have H' := Aside0.mk H
   clear H
   obtain ⟨z7_0, z7_1, y7_0, y7_1⟩ := Own.box2 BK314.out
   go_wp2_with (first | ((with_reducible refine gate_callee (f := 57) rfl ?_); refine goesL_ (some 7) rfl rfl Tryz.func57 (by kernel_rfl) rfl #[.int .i64 (l0_1.length : Int), .int .i64 1, .int .i64 12] rfl Own.ha ?_; (with_reducible refine (spec_l1In.calls (l0_1.length : Int) 1 12 true _ A4.out).mono ?_); rintro e w' ⟨rfl, ⟨nd, rfl⟩⟩; refine ⟨_, rfl, ?_⟩) | (go_at_call 63; (with_reducible refine (spec_l6Parties.calls k _ _ l0_0 _ _ l0_1 t316 _ ?side1 ?side2 ?side3 ?side4 A6.out).mono ?_); (case side1 => exact Kd.C_below HR0_0.out Own.bl); (case side2 => exact HC0_0.out); (case side3 => exact Kd.C_below HR0_1.out Own.bl); (case side4 => exact HC0_1.out); rintro e w8 ⟨rfl, hb⟩; replace BK314 := Own.bb BK314.out hb; replace HB := Own.bs hb; (try clear hb)))
   go_meet
   case rel => exact ⟨_, (!t316), Own.rs, H', ⟨by first | omega | exact Nat.le_refl _⟩, ⟨Own.bk⟩, ⟨Own.bl⟩⟩
  have H' := Aside0.mk H
  clear H
  obtain ⟨z9_0, z9_1, y9_0, y9_1⟩ := Own.box2 BK314.out
  go_wp2_with (first | ((with_reducible refine gate_callee (f := 57) rfl ?_); refine goesL_ (some 7) rfl rfl Tryz.func57 (by kernel_rfl) rfl #[.int .i64 (l0_1.length : Int), .int .i64 1, .int .i64 12] rfl Own.ha ?_; (with_reducible refine (spec_l1In.calls (l0_1.length : Int) 1 12 false _ A4.out).mono ?_); rintro e w' ⟨rfl, ⟨nd, rfl⟩⟩; refine ⟨_, rfl, ?_⟩))
  go_meet
  case rel => exact ⟨_, (true), Own.rs, H', ⟨by first | omega | exact Nat.le_refl _⟩, ⟨Own.bk⟩, ⟨Own.bl⟩⟩
 case rest =>
  clear HC2
  try clear p2; try clear c3; try clear c5; try clear z7_0 z7_1; try clear z9_0 z9_1; try clear y7_0 y7_1; try clear y9_0 y9_1
  obtain ⟨kq, x13_1, rfl, HA, HJ1, BK314, HB⟩ := hcut
  cases kq with
  | zero => exact absurd HA.out (by simp [spec_l6Good.j0])
  | succ kj1 =>
   have H := HA.out
   clear HA
   simp only [spec_l6Good.j0] at H
   replace H := Own.ifu H; obtain ⟨rfl, H⟩ | ⟨rfl, H⟩ := H
   ·
    obtain rfl := Option.some.inj H
    go_wp2
    go_ret
    exact ⟨Own.rr, Own.bl⟩
   have H' := Aside0.mk H
   clear H
   go_wp2
   go_loopg [3] kj1 (fun kq v3 w' => ∃ (x3_2 : Int), v3 = .int .i64 x3_2 ∧ Aside0 (spec_l6Good.l0 kq x3_2 l0_0 l0_1 = some r) ∧ Aside0 (kq ≤ kj1) ∧ Aside0 (w'.heap[gb314]? = some (.cells #[(.slice A0_0 l0_0.length c0_0), (.slice A0_1 l0_1.length c0_1)] 32 (0, 0))) ∧ Aside0 (Below w.heap.size w w'))
   case atStart => exact ⟨(0), Own.rs, H', ⟨Nat.le_refl _⟩, ⟨Own.bk⟩, ⟨Own.bl⟩⟩
   case round =>
    clear H'
    try clear c1; try clear p2; try clear c3; try clear c5; try clear c10; try clear z7_0 z7_1; try clear z9_0 z9_1; try clear y7_0 y7_1; try clear y9_0 y9_1; try clear p2
    obtain ⟨x3_2, rfl, HA, HK2, BK314, HB⟩ := hrel
    cases gk with
    | zero => exact absurd HA.out (by simp [spec_l6Good.l0])
    | succ k2 =>
     have H := HA.out
     clear HA
     simp only [spec_l6Good.l0] at H
     by_cases c11 : x3_2 < (l0_1.length : Int)
     rotate_left
     ·
      rw [if_neg c11] at H
      replace c11 := decide_eq_false c11
      replace H := Own.bd H; obtain ⟨t317, A28, H⟩ := H
      obtain rfl := Option.some.inj H
      obtain ⟨z29_0, z29_1, y29_0, y29_1⟩ := Own.box2 BK314.out
      go_wp2_with (first | ((with_reducible refine gate_callee (f := 65) rfl ?_); refine goesL_ (some 38) rfl rfl Tryz.func65 (by kernel_rfl) rfl #[.agg #[.slice A0_0 l0_0.length c0_0, .slice A0_1 l0_1.length c0_1]] rfl Own.ha ?_; (with_reducible refine (spec_l6Names.calls k2 _ _ l0_0 _ _ l0_1 t317 _ ?side1 ?side2 ?side3 ?side4 A28.out).mono ?_); (case side1 => exact Kd.C_below HR0_0.out Own.bl); (case side2 => exact HC0_0.out); (case side3 => exact Kd.C_below HR0_1.out Own.bl); (case side4 => exact HC0_1.out); rintro e w30 ⟨v318, rfl, ho0, hb⟩; refine ⟨_, rfl, ?_⟩; have HO319 := Aside0.mk (Kd.V_lower (Kd.V_mono (ok' := fun k_ => k_ ≠ gb314) ho0 (fun k_ hk_ => (Kd.freshB (Own.bkf BK314.out) k_ hk_))) (below_size Own.bl)); replace BK314 := Own.bb BK314.out hb; replace HB := Own.bs hb; (try clear hb); (try clear ho0); obtain ⟨Ao31, co31, eo31⟩ := Kd.V_slice HO319.out; subst eo31))
      go_ret
      exact ⟨Own.rr, Own.bl⟩
     rw [if_pos c11] at H
     replace c11 := decide_eq_true c11
     replace H := Own.ifd H; obtain ⟨c12, H⟩ := H
     replace H := Own.bd H; obtain ⟨t321, A13, H⟩ := H
     by_cases c14 : t321 = x3_2
     rotate_left
     ·
      rw [if_neg c14] at H
      have c14b0 : (t321 == x3_2) = false := beq_eq_false_iff_ne.mpr c14
      have c14b1 : (t321 != x3_2) = true := bne_iff_ne.mpr c14
      obtain rfl := Option.some.inj H
      obtain ⟨z25_0, z25_1, y25_0, y25_1⟩ := Own.box2 BK314.out
      try go_wp2
      have n0_ := Aside0.mk (blk_drew BK314.out)
      have n1_ := Aside0.mk (below_drew1 HB.out)
      clear BK314
      clear HB
      have BK314 := n0_
      have HB := n1_
      clear n0_ n1_
      have p320 : 0 ≤ (x3_2 : Int) := Own.dp
      have q320 : x3_2 < (l0_1.length : Int) := Own.dp
      obtain ⟨ad320, A320_9, c320_9, e320, hx320_0, hx320_1, hx320_2, hx320_3, hx320_4, hx320_5, hx320_6, hx320_7, hx320_8, hx320_9, hx320_10, hx320_11, hl320_9, hi320_9⟩ := at_T51 HR0_1.out x3_2 p320 q320
      have hw320_11 := hx320_11
      have hw320_10 := hx320_10
      have hw320_9 := hx320_9
      have hw320_8 := hx320_8
      have hw320_7 := hx320_7
      have hw320_6 := hx320_6
      have hw320_5 := hx320_5
      have hw320_4 := hx320_4
      have hw320_3 := hx320_3
      have hw320_2 := hx320_2
      have hw320_1 := hx320_1
      have hw320_0 := hx320_0
      cases e320
      replace hx320_0 := Own.up HB.out hx320_0
      replace hx320_1 := Own.up HB.out hx320_1
      replace hx320_2 := Own.up HB.out hx320_2
      replace hx320_3 := Own.up HB.out hx320_3
      replace hx320_4 := Own.up HB.out hx320_4
      replace hx320_5 := Own.up HB.out hx320_5
      replace hx320_6 := Own.up HB.out hx320_6
      replace hx320_7 := Own.up HB.out hx320_7
      replace hx320_8 := Own.up HB.out hx320_8
      replace hx320_9 := Own.up HB.out hx320_9
      replace hx320_10 := Own.up HB.out hx320_10
      replace hx320_11 := Own.up HB.out hx320_11
      have HR320_9 := Aside0.mk hi320_9
      have HC320_9 := Aside0.mk hl320_9
      clear hi320_9 hl320_9
      replace p320 := eq_true p320
      replace q320 := eq_true q320
      refine start_ (n := 16) (S := fun w' => w'.cell? ⟨gb314, 0, none⟩ = some (.slice A0_0 l0_0.length c0_0) ∧ w'.cell? ⟨gb314, 1, none⟩ = some (.slice (some ad320) l0_1.length c0_1) ∧ w'.cell? (ad320.add ((x3_2).toNat * 12)) = some (.string ((rd_T51 l0_1 x3_2).f0)) ∧ w'.cell? ⟨(ad320.add ((x3_2).toNat * 12)).block, (ad320.add ((x3_2).toNat * 12)).off + 1, none⟩ = some (.int .i64 ((rd_T51 l0_1 x3_2).f1)) ∧ w'.cell? ⟨(ad320.add ((x3_2).toNat * 12)).block, (ad320.add ((x3_2).toNat * 12)).off + 2, none⟩ = some (.int .i64 ((rd_T51 l0_1 x3_2).f2)) ∧ w'.cell? ⟨(ad320.add ((x3_2).toNat * 12)).block, (ad320.add ((x3_2).toNat * 12)).off + 3, none⟩ = some (.string ((rd_T51 l0_1 x3_2).f3)) ∧ w'.cell? ⟨(ad320.add ((x3_2).toNat * 12)).block, (ad320.add ((x3_2).toNat * 12)).off + 4, none⟩ = some (.int .i64 ((rd_T51 l0_1 x3_2).f4)) ∧ w'.cell? ⟨(ad320.add ((x3_2).toNat * 12)).block, (ad320.add ((x3_2).toNat * 12)).off + 5, none⟩ = some (.int .i64 ((rd_T51 l0_1 x3_2).f5)) ∧ w'.cell? ⟨(ad320.add ((x3_2).toNat * 12)).block, (ad320.add ((x3_2).toNat * 12)).off + 6, none⟩ = some (.int .i64 ((rd_T51 l0_1 x3_2).f6.f0)) ∧ w'.cell? ⟨(ad320.add ((x3_2).toNat * 12)).block, (ad320.add ((x3_2).toNat * 12)).off + 7, none⟩ = some (.string ((rd_T51 l0_1 x3_2).f6.f1)) ∧ w'.cell? ⟨(ad320.add ((x3_2).toNat * 12)).block, (ad320.add ((x3_2).toNat * 12)).off + 8, none⟩ = some (.int .i64 ((rd_T51 l0_1 x3_2).f6.f2)) ∧ w'.cell? ⟨(ad320.add ((x3_2).toNat * 12)).block, (ad320.add ((x3_2).toNat * 12)).off + 9, none⟩ = some (.slice A320_9 ((rd_T51 l0_1 x3_2).f6.f3).length c320_9) ∧ w'.cell? ⟨(ad320.add ((x3_2).toNat * 12)).block, (ad320.add ((x3_2).toNat * 12)).off + 10, none⟩ = some (.int .i64 ((rd_T51 l0_1 x3_2).f7)) ∧ w'.cell? ⟨(ad320.add ((x3_2).toNat * 12)).block, (ad320.add ((x3_2).toNat * 12)).off + 11, none⟩ = some (.string ((rd_T51 l0_1 x3_2).f8))) (ds := []) #[false, false, false, false, false, false, false, false, false, false, false, false, false, false, false, false] (by kernel_rfl) rfl rfl ⟨(blk_cell BK314.out 0).trans rfl, (blk_cell BK314.out 1).trans rfl, ((HB.out.cell (World.block_lt_of_cell? w _ hw320_0)).trans hw320_0), ((HB.out.cell (World.block_lt_of_cell? w _ hw320_1)).trans hw320_1), ((HB.out.cell (World.block_lt_of_cell? w _ hw320_2)).trans hw320_2), ((HB.out.cell (World.block_lt_of_cell? w _ hw320_3)).trans hw320_3), ((HB.out.cell (World.block_lt_of_cell? w _ hw320_4)).trans hw320_4), ((HB.out.cell (World.block_lt_of_cell? w _ hw320_5)).trans hw320_5), ((HB.out.cell (World.block_lt_of_cell? w _ hw320_6)).trans hw320_6), ((HB.out.cell (World.block_lt_of_cell? w _ hw320_7)).trans hw320_7), ((HB.out.cell (World.block_lt_of_cell? w _ hw320_8)).trans hw320_8), ((HB.out.cell (World.block_lt_of_cell? w _ hw320_9)).trans hw320_9), ((HB.out.cell (World.block_lt_of_cell? w _ hw320_10)).trans hw320_10), ((HB.out.cell (World.block_lt_of_cell? w _ hw320_11)).trans hw320_11)⟩ (fun hHeld => ?_); refine with_tabW spec_l6Good.tab6 spec_l6Good.bits6 (fun HT_ HW_ => ?_)
      generalize wr.drew = w26 at BK314 HB HR320_9 hx320_0 hx320_1 hx320_10 hx320_11 hx320_2 hx320_3 hx320_4 hx320_5 hx320_6 hx320_7 hx320_8 hx320_9 hHeld ⊢
      refine pure_ (i := 1) (N := some 22) (v := ?_) (a' := ?_) #[false, true, false, false, false, false, false, false, false, false, false, false, false, false, false, false] rfl rfl (any_of HT_.out (by kernel_rfl)) (fun _ _ _ h => h) (Or.inl ⟨by rfl, ?_⟩) ?_ ?_
      rotate_left
      ·
       intro w'
       go_simp
       with_reducible rfl
      rotate_left
      ·
       simp only [Own.ps]
       rfl
      refine pure_ (i := 3) (N := some 24) (v := ?_) (a' := ?_) #[false, true, false, true, false, false, false, false, false, false, false, false, false, false, false, false] rfl rfl (any_of HT_.out (by kernel_rfl)) (fun _ _ _ h => h) (Or.inl ⟨by rfl, ?_⟩) ?_ ?_
      rotate_left
      ·
       intro w'
       go_simp
       with_reducible rfl
      rotate_left
      ·
       simp only [Own.ps]
       rfl
      refine pure_ (i := 8) (N := some 29) (v := ?_) (a' := ?_) #[false, true, false, true, false, false, false, false, true, false, false, false, false, false, false, false] rfl rfl (any_of HT_.out (by kernel_rfl)) (fun _ _ _ h => h) (Or.inl ⟨by rfl, ?_⟩) ?_ ?_
      rotate_left
      ·
       intro w'
       go_simp
       with_reducible rfl
      rotate_left
      ·
       simp only [Own.ps]
       rfl
      refine take_ (i := 0) (N := some 21) (v := ?_) (a' := ?_) #[true, true, false, true, false, false, false, false, true, false, false, false, false, false, false, false] rfl rfl (take_ofW HT_.out HW_.out (by kernel_rfl)) (fun _ _ _ h => h) (Or.inl ⟨by rfl, ?_⟩) hHeld ?_ ?_
      rotate_left
      ·
       rintro w' ⟨s0, s1, s2, s3, s4, s5, s6, s7, s8, s9, s10, s11, s12, s13⟩
       go_simp
       with_reducible rfl
      rotate_left
      ·
       simp only [Own.ps]
       rfl
      refine take_ (i := 2) (N := some 23) (v := ?_) (a' := ?_) #[true, true, true, true, false, false, false, false, true, false, false, false, false, false, false, false] rfl rfl (take_ofW HT_.out HW_.out (by kernel_rfl)) (fun _ _ _ h => h) (Or.inl ⟨by rfl, ?_⟩) hHeld ?_ ?_
      rotate_left
      ·
       rintro w' ⟨s0, s1, s2, s3, s4, s5, s6, s7, s8, s9, s10, s11, s12, s13⟩
       go_simp
       with_reducible rfl
      rotate_left
      ·
       simp only [Own.ps]
       rfl
      refine pure_ (i := 4) (N := some 25) (v := ?_) (a' := ?_) #[true, true, true, true, true, false, false, false, true, false, false, false, false, false, false, false] rfl rfl (any_of HT_.out (by kernel_rfl)) (fun _ _ _ h => h) (Or.inl ⟨by rfl, ?_⟩) ?_ ?_
      rotate_left
      ·
       intro w'
       go_simp
       with_reducible rfl
      rotate_left
      ·
       simp only [Own.ps]
       rfl
      refine pure_ (i := 5) (N := some 26) (v := ?_) (a' := ?_) #[true, true, true, true, true, true, false, false, true, false, false, false, false, false, false, false] rfl rfl (any_of HT_.out (by kernel_rfl)) (fun _ _ _ h => h) (Or.inl ⟨by rfl, ?_⟩) ?_ ?_
      rotate_left
      ·
       intro w'
       go_simp
       with_reducible rfl
      rotate_left
      ·
       simp only [Own.ps]
       rfl
      refine take_ (i := 6) (N := some 27) (v := ?_) (a' := ?_) #[true, true, true, true, true, true, true, false, true, false, false, false, false, false, false, false] rfl rfl (take_ofW HT_.out HW_.out (by kernel_rfl)) (fun _ _ _ h => h) (Or.inl ⟨by rfl, ?_⟩) hHeld ?_ ?_
      rotate_left
      ·
       rintro w' ⟨s0, s1, s2, s3, s4, s5, s6, s7, s8, s9, s10, s11, s12, s13⟩
       go_simp
       with_reducible rfl
      rotate_left
      ·
       simp only [Own.ps]
       rfl
      refine one_ (i := 7) (N := some 28) #[true, true, true, true, true, true, true, true, true, false, false, false, false, false, false, false] rfl rfl (one_of HT_.out (by kernel_rfl)) (by decide) (fun K hK => ?_)
      refine goes_ Tryz.func54 (by kernel_rfl) rfl #[.agg #[.slice A0_0 l0_0.length c0_0, .slice (some ad320) l0_1.length c0_1], .string ((rd_T51 l0_1 x3_2).f0)] (by rfl) rfl rfl Own.ha ?_
      with_reducible refine (spec_l6Find.calls k2 _ _ l0_0 _ _ l0_1 ((rd_T51 l0_1 x3_2).f0) t321 _ ?side1 ?side2 ?side3 ?side4 A13.out).mono ?_
      (case side1 => exact Kd.C_below HR0_0.out Own.bl)
      (case side2 => exact HC0_0.out)
      (case side3 => exact Kd.C_below HR0_1.out Own.bl)
      (case side4 => exact HC0_1.out)
      rintro e w27 ⟨rfl, hb⟩
      refine ⟨_, rfl, ?_⟩
      have n0_ := Own.bb BK314.out hb
      have n1_ := Own.bs hb
      clear BK314
      clear HB
      have BK314 := n0_
      have HB := n1_
      clear n0_ n1_
      (try clear hb)
      (try clear hb2)
      (try clear hk)
      (try clear hi)
      refine hK.out _ _ ⟨(blk_cell BK314.out 0).trans rfl, (blk_cell BK314.out 1).trans rfl, ((HB.out.cell (World.block_lt_of_cell? w _ hw320_0)).trans hw320_0), ((HB.out.cell (World.block_lt_of_cell? w _ hw320_1)).trans hw320_1), ((HB.out.cell (World.block_lt_of_cell? w _ hw320_2)).trans hw320_2), ((HB.out.cell (World.block_lt_of_cell? w _ hw320_3)).trans hw320_3), ((HB.out.cell (World.block_lt_of_cell? w _ hw320_4)).trans hw320_4), ((HB.out.cell (World.block_lt_of_cell? w _ hw320_5)).trans hw320_5), ((HB.out.cell (World.block_lt_of_cell? w _ hw320_6)).trans hw320_6), ((HB.out.cell (World.block_lt_of_cell? w _ hw320_7)).trans hw320_7), ((HB.out.cell (World.block_lt_of_cell? w _ hw320_8)).trans hw320_8), ((HB.out.cell (World.block_lt_of_cell? w _ hw320_9)).trans hw320_9), ((HB.out.cell (World.block_lt_of_cell? w _ hw320_10)).trans hw320_10), ((HB.out.cell (World.block_lt_of_cell? w _ hw320_11)).trans hw320_11)⟩ (fun hHeld => ?_)
      clear hK K
      refine norm_ (a' := ?_) ?_ ?_
      rotate_left
      ·
       show Act.put _ (some 28) _ = _
       simp only [Own.ps]
       rfl
      refine pure_ (i := 9) (N := some 30) (v := ?_) (a' := ?_) #[true, true, true, true, true, true, true, true, true, true, false, false, false, false, false, false] rfl rfl (any_of HT_.out (by kernel_rfl)) (fun _ _ _ h => h) (Or.inl ⟨by rfl, ?_⟩) ?_ ?_
      rotate_left
      ·
       intro w'
       go_simp
       with_reducible rfl
      rotate_left
      ·
       simp only [Own.ps]
       rfl
      refine pure_ (i := 10) (N := some 31) (v := ?_) (a' := ?_) #[true, true, true, true, true, true, true, true, true, true, true, false, false, false, false, false] rfl rfl (any_of HT_.out (by kernel_rfl)) (fun _ _ _ h => h) (Or.inl ⟨by rfl, ?_⟩) ?_ ?_
      rotate_left
      ·
       intro w'
       go_simp
       with_reducible rfl
      rotate_left
      ·
       simp only [Own.ps]
       rfl
      refine pure_ (i := 11) (N := some 32) (v := undef) (a' := ?_) #[true, true, true, true, true, true, true, true, true, true, true, true, false, false, false, false] rfl rfl (any_of HT_.out (by kernel_rfl)) (fun _ _ _ h => h) (Or.inr ⟨by rfl, rfl⟩) ?_ ?_
      rotate_left
      ·
       simp only [Own.ps]
       rfl
      refine pure_ (i := 12) (N := some 33) (v := undef) (a' := ?_) #[true, true, true, true, true, true, true, true, true, true, true, true, true, false, false, false] rfl rfl (any_of HT_.out (by kernel_rfl)) (fun _ _ _ h => h) (Or.inr ⟨by rfl, rfl⟩) ?_ ?_
      rotate_left
      ·
       simp only [Own.ps]
       rfl
      refine pure_ (i := 13) (N := some 34) (v := undef) (a' := ?_) #[true, true, true, true, true, true, true, true, true, true, true, true, true, true, false, false] rfl rfl (any_of HT_.out (by kernel_rfl)) (fun _ _ _ h => h) (Or.inr ⟨by rfl, rfl⟩) ?_ ?_
      rotate_left
      ·
       simp only [Own.ps]
       rfl
      refine pure_ (i := 14) (N := some 35) (v := undef) (a' := ?_) #[true, true, true, true, true, true, true, true, true, true, true, true, true, true, true, false] rfl rfl (any_of HT_.out (by kernel_rfl)) (fun _ _ _ h => h) (Or.inr ⟨by rfl, rfl⟩) ?_ ?_
      rotate_left
      ·
       simp only [Own.ps]
       rfl
      refine pure_ (i := 15) (N := some 36) (v := ?_) (a' := ?_) #[true, true, true, true, true, true, true, true, true, true, true, true, true, true, true, true] rfl rfl (any_of HT_.out (by kernel_rfl)) (fun _ _ _ h => h) (Or.inl ⟨by rfl, ?_⟩) ?_ ?_
      rotate_left
      ·
       intro w'
       go_simp
       with_reducible rfl
      rotate_left
      ·
       simp only [Own.ps]
       rfl
      refine done_ (done_of HT_.out (by kernel_rfl)) ?_
      try go_wp2
      go_ret
      exact ⟨Own.rr, Own.bl⟩
     rw [if_pos c14] at H
     have c14b0 : (t321 == x3_2) = true := beq_iff_eq.mpr c14
     have c14b1 : (t321 != x3_2) = false := bne_eq_false_iff_eq.mpr c14
     clear c14
     replace H := Own.bd H; obtain ⟨t322, A15, H⟩ := H
     replace H := Own.ift H; obtain ⟨rfl, H⟩ | ⟨rfl, H⟩ := H
     ·
      obtain rfl := Option.some.inj H
      obtain ⟨z21_0, z21_1, y21_0, y21_1⟩ := Own.box2 BK314.out
      try go_wp2
      have n0_ := Aside0.mk (blk_drew BK314.out)
      have n1_ := Aside0.mk (below_drew1 HB.out)
      clear BK314
      clear HB
      have BK314 := n0_
      have HB := n1_
      clear n0_ n1_
      have p320 : 0 ≤ (x3_2 : Int) := Own.dp
      have q320 : x3_2 < (l0_1.length : Int) := Own.dp
      obtain ⟨ad320, A320_9, c320_9, e320, hx320_0, hx320_1, hx320_2, hx320_3, hx320_4, hx320_5, hx320_6, hx320_7, hx320_8, hx320_9, hx320_10, hx320_11, hl320_9, hi320_9⟩ := at_T51 HR0_1.out x3_2 p320 q320
      have hw320_11 := hx320_11
      have hw320_10 := hx320_10
      have hw320_9 := hx320_9
      have hw320_8 := hx320_8
      have hw320_7 := hx320_7
      have hw320_6 := hx320_6
      have hw320_5 := hx320_5
      have hw320_4 := hx320_4
      have hw320_3 := hx320_3
      have hw320_2 := hx320_2
      have hw320_1 := hx320_1
      have hw320_0 := hx320_0
      cases e320
      replace hx320_0 := Own.up HB.out hx320_0
      replace hx320_1 := Own.up HB.out hx320_1
      replace hx320_2 := Own.up HB.out hx320_2
      replace hx320_3 := Own.up HB.out hx320_3
      replace hx320_4 := Own.up HB.out hx320_4
      replace hx320_5 := Own.up HB.out hx320_5
      replace hx320_6 := Own.up HB.out hx320_6
      replace hx320_7 := Own.up HB.out hx320_7
      replace hx320_8 := Own.up HB.out hx320_8
      replace hx320_9 := Own.up HB.out hx320_9
      replace hx320_10 := Own.up HB.out hx320_10
      replace hx320_11 := Own.up HB.out hx320_11
      have HR320_9 := Aside0.mk hi320_9
      have HC320_9 := Aside0.mk hl320_9
      clear hi320_9 hl320_9
      replace p320 := eq_true p320
      replace q320 := eq_true q320
      refine start_ (n := 16) (S := fun w' => w'.cell? ⟨gb314, 0, none⟩ = some (.slice A0_0 l0_0.length c0_0) ∧ w'.cell? ⟨gb314, 1, none⟩ = some (.slice (some ad320) l0_1.length c0_1) ∧ w'.cell? (ad320.add ((x3_2).toNat * 12)) = some (.string ((rd_T51 l0_1 x3_2).f0)) ∧ w'.cell? ⟨(ad320.add ((x3_2).toNat * 12)).block, (ad320.add ((x3_2).toNat * 12)).off + 1, none⟩ = some (.int .i64 ((rd_T51 l0_1 x3_2).f1)) ∧ w'.cell? ⟨(ad320.add ((x3_2).toNat * 12)).block, (ad320.add ((x3_2).toNat * 12)).off + 2, none⟩ = some (.int .i64 ((rd_T51 l0_1 x3_2).f2)) ∧ w'.cell? ⟨(ad320.add ((x3_2).toNat * 12)).block, (ad320.add ((x3_2).toNat * 12)).off + 3, none⟩ = some (.string ((rd_T51 l0_1 x3_2).f3)) ∧ w'.cell? ⟨(ad320.add ((x3_2).toNat * 12)).block, (ad320.add ((x3_2).toNat * 12)).off + 4, none⟩ = some (.int .i64 ((rd_T51 l0_1 x3_2).f4)) ∧ w'.cell? ⟨(ad320.add ((x3_2).toNat * 12)).block, (ad320.add ((x3_2).toNat * 12)).off + 5, none⟩ = some (.int .i64 ((rd_T51 l0_1 x3_2).f5)) ∧ w'.cell? ⟨(ad320.add ((x3_2).toNat * 12)).block, (ad320.add ((x3_2).toNat * 12)).off + 6, none⟩ = some (.int .i64 ((rd_T51 l0_1 x3_2).f6.f0)) ∧ w'.cell? ⟨(ad320.add ((x3_2).toNat * 12)).block, (ad320.add ((x3_2).toNat * 12)).off + 7, none⟩ = some (.string ((rd_T51 l0_1 x3_2).f6.f1)) ∧ w'.cell? ⟨(ad320.add ((x3_2).toNat * 12)).block, (ad320.add ((x3_2).toNat * 12)).off + 8, none⟩ = some (.int .i64 ((rd_T51 l0_1 x3_2).f6.f2)) ∧ w'.cell? ⟨(ad320.add ((x3_2).toNat * 12)).block, (ad320.add ((x3_2).toNat * 12)).off + 9, none⟩ = some (.slice A320_9 ((rd_T51 l0_1 x3_2).f6.f3).length c320_9) ∧ w'.cell? ⟨(ad320.add ((x3_2).toNat * 12)).block, (ad320.add ((x3_2).toNat * 12)).off + 10, none⟩ = some (.int .i64 ((rd_T51 l0_1 x3_2).f7)) ∧ w'.cell? ⟨(ad320.add ((x3_2).toNat * 12)).block, (ad320.add ((x3_2).toNat * 12)).off + 11, none⟩ = some (.string ((rd_T51 l0_1 x3_2).f8))) (ds := []) #[false, false, false, false, false, false, false, false, false, false, false, false, false, false, false, false] (by kernel_rfl) rfl rfl ⟨(blk_cell BK314.out 0).trans rfl, (blk_cell BK314.out 1).trans rfl, ((HB.out.cell (World.block_lt_of_cell? w _ hw320_0)).trans hw320_0), ((HB.out.cell (World.block_lt_of_cell? w _ hw320_1)).trans hw320_1), ((HB.out.cell (World.block_lt_of_cell? w _ hw320_2)).trans hw320_2), ((HB.out.cell (World.block_lt_of_cell? w _ hw320_3)).trans hw320_3), ((HB.out.cell (World.block_lt_of_cell? w _ hw320_4)).trans hw320_4), ((HB.out.cell (World.block_lt_of_cell? w _ hw320_5)).trans hw320_5), ((HB.out.cell (World.block_lt_of_cell? w _ hw320_6)).trans hw320_6), ((HB.out.cell (World.block_lt_of_cell? w _ hw320_7)).trans hw320_7), ((HB.out.cell (World.block_lt_of_cell? w _ hw320_8)).trans hw320_8), ((HB.out.cell (World.block_lt_of_cell? w _ hw320_9)).trans hw320_9), ((HB.out.cell (World.block_lt_of_cell? w _ hw320_10)).trans hw320_10), ((HB.out.cell (World.block_lt_of_cell? w _ hw320_11)).trans hw320_11)⟩ (fun hHeld => ?_); refine with_tabW spec_l6Good.tab6 spec_l6Good.bits6 (fun HT_ HW_ => ?_)
      generalize wr.drew = w22 at BK314 HB HR320_9 hx320_0 hx320_1 hx320_10 hx320_11 hx320_2 hx320_3 hx320_4 hx320_5 hx320_6 hx320_7 hx320_8 hx320_9 hHeld ⊢
      refine pure_ (i := 1) (N := some 22) (v := ?_) (a' := ?_) #[false, true, false, false, false, false, false, false, false, false, false, false, false, false, false, false] rfl rfl (any_of HT_.out (by kernel_rfl)) (fun _ _ _ h => h) (Or.inl ⟨by rfl, ?_⟩) ?_ ?_
      rotate_left
      ·
       intro w'
       go_simp
       with_reducible rfl
      rotate_left
      ·
       simp only [Own.ps]
       rfl
      refine pure_ (i := 3) (N := some 24) (v := ?_) (a' := ?_) #[false, true, false, true, false, false, false, false, false, false, false, false, false, false, false, false] rfl rfl (any_of HT_.out (by kernel_rfl)) (fun _ _ _ h => h) (Or.inl ⟨by rfl, ?_⟩) ?_ ?_
      rotate_left
      ·
       intro w'
       go_simp
       with_reducible rfl
      rotate_left
      ·
       simp only [Own.ps]
       rfl
      refine pure_ (i := 8) (N := some 29) (v := ?_) (a' := ?_) #[false, true, false, true, false, false, false, false, true, false, false, false, false, false, false, false] rfl rfl (any_of HT_.out (by kernel_rfl)) (fun _ _ _ h => h) (Or.inl ⟨by rfl, ?_⟩) ?_ ?_
      rotate_left
      ·
       intro w'
       go_simp
       with_reducible rfl
      rotate_left
      ·
       simp only [Own.ps]
       rfl
      refine take_ (i := 0) (N := some 21) (v := ?_) (a' := ?_) #[true, true, false, true, false, false, false, false, true, false, false, false, false, false, false, false] rfl rfl (take_ofW HT_.out HW_.out (by kernel_rfl)) (fun _ _ _ h => h) (Or.inl ⟨by rfl, ?_⟩) hHeld ?_ ?_
      rotate_left
      ·
       rintro w' ⟨s0, s1, s2, s3, s4, s5, s6, s7, s8, s9, s10, s11, s12, s13⟩
       go_simp
       with_reducible rfl
      rotate_left
      ·
       simp only [Own.ps]
       rfl
      refine take_ (i := 2) (N := some 23) (v := ?_) (a' := ?_) #[true, true, true, true, false, false, false, false, true, false, false, false, false, false, false, false] rfl rfl (take_ofW HT_.out HW_.out (by kernel_rfl)) (fun _ _ _ h => h) (Or.inl ⟨by rfl, ?_⟩) hHeld ?_ ?_
      rotate_left
      ·
       rintro w' ⟨s0, s1, s2, s3, s4, s5, s6, s7, s8, s9, s10, s11, s12, s13⟩
       go_simp
       with_reducible rfl
      rotate_left
      ·
       simp only [Own.ps]
       rfl
      refine pure_ (i := 4) (N := some 25) (v := ?_) (a' := ?_) #[true, true, true, true, true, false, false, false, true, false, false, false, false, false, false, false] rfl rfl (any_of HT_.out (by kernel_rfl)) (fun _ _ _ h => h) (Or.inl ⟨by rfl, ?_⟩) ?_ ?_
      rotate_left
      ·
       intro w'
       go_simp
       with_reducible rfl
      rotate_left
      ·
       simp only [Own.ps]
       rfl
      refine pure_ (i := 5) (N := some 26) (v := ?_) (a' := ?_) #[true, true, true, true, true, true, false, false, true, false, false, false, false, false, false, false] rfl rfl (any_of HT_.out (by kernel_rfl)) (fun _ _ _ h => h) (Or.inl ⟨by rfl, ?_⟩) ?_ ?_
      rotate_left
      ·
       intro w'
       go_simp
       with_reducible rfl
      rotate_left
      ·
       simp only [Own.ps]
       rfl
      refine take_ (i := 6) (N := some 27) (v := ?_) (a' := ?_) #[true, true, true, true, true, true, true, false, true, false, false, false, false, false, false, false] rfl rfl (take_ofW HT_.out HW_.out (by kernel_rfl)) (fun _ _ _ h => h) (Or.inl ⟨by rfl, ?_⟩) hHeld ?_ ?_
      rotate_left
      ·
       rintro w' ⟨s0, s1, s2, s3, s4, s5, s6, s7, s8, s9, s10, s11, s12, s13⟩
       go_simp
       with_reducible rfl
      rotate_left
      ·
       simp only [Own.ps]
       rfl
      refine one_ (i := 7) (N := some 28) #[true, true, true, true, true, true, true, true, true, false, false, false, false, false, false, false] rfl rfl (one_of HT_.out (by kernel_rfl)) (by decide) (fun K hK => ?_)
      refine goes_ Tryz.func54 (by kernel_rfl) rfl #[.agg #[.slice A0_0 l0_0.length c0_0, .slice (some ad320) l0_1.length c0_1], .string ((rd_T51 l0_1 x3_2).f0)] (by rfl) rfl rfl Own.ha ?_
      with_reducible refine (spec_l6Find.calls k2 _ _ l0_0 _ _ l0_1 ((rd_T51 l0_1 x3_2).f0) t321 _ ?side1 ?side2 ?side3 ?side4 A13.out).mono ?_
      (case side1 => exact Kd.C_below HR0_0.out Own.bl)
      (case side2 => exact HC0_0.out)
      (case side3 => exact Kd.C_below HR0_1.out Own.bl)
      (case side4 => exact HC0_1.out)
      rintro e w23 ⟨rfl, hb⟩
      refine ⟨_, rfl, ?_⟩
      have n0_ := Own.bb BK314.out hb
      have n1_ := Own.bs hb
      clear BK314
      clear HB
      have BK314 := n0_
      have HB := n1_
      clear n0_ n1_
      (try clear hb)
      (try clear hb2)
      (try clear hk)
      (try clear hi)
      refine hK.out _ _ ⟨(blk_cell BK314.out 0).trans rfl, (blk_cell BK314.out 1).trans rfl, ((HB.out.cell (World.block_lt_of_cell? w _ hw320_0)).trans hw320_0), ((HB.out.cell (World.block_lt_of_cell? w _ hw320_1)).trans hw320_1), ((HB.out.cell (World.block_lt_of_cell? w _ hw320_2)).trans hw320_2), ((HB.out.cell (World.block_lt_of_cell? w _ hw320_3)).trans hw320_3), ((HB.out.cell (World.block_lt_of_cell? w _ hw320_4)).trans hw320_4), ((HB.out.cell (World.block_lt_of_cell? w _ hw320_5)).trans hw320_5), ((HB.out.cell (World.block_lt_of_cell? w _ hw320_6)).trans hw320_6), ((HB.out.cell (World.block_lt_of_cell? w _ hw320_7)).trans hw320_7), ((HB.out.cell (World.block_lt_of_cell? w _ hw320_8)).trans hw320_8), ((HB.out.cell (World.block_lt_of_cell? w _ hw320_9)).trans hw320_9), ((HB.out.cell (World.block_lt_of_cell? w _ hw320_10)).trans hw320_10), ((HB.out.cell (World.block_lt_of_cell? w _ hw320_11)).trans hw320_11)⟩ (fun hHeld => ?_)
      clear hK K
      refine norm_ (a' := ?_) ?_ ?_
      rotate_left
      ·
       show Act.put _ (some 28) _ = _
       simp only [Own.ps]
       rfl
      refine pure_ (i := 9) (N := some 30) (v := ?_) (a' := ?_) #[true, true, true, true, true, true, true, true, true, true, false, false, false, false, false, false] rfl rfl (any_of HT_.out (by kernel_rfl)) (fun _ _ _ h => h) (Or.inl ⟨by rfl, ?_⟩) ?_ ?_
      rotate_left
      ·
       intro w'
       go_simp
       with_reducible rfl
      rotate_left
      ·
       simp only [Own.ps]
       rfl
      refine pure_ (i := 10) (N := some 31) (v := ?_) (a' := ?_) #[true, true, true, true, true, true, true, true, true, true, true, false, false, false, false, false] rfl rfl (any_of HT_.out (by kernel_rfl)) (fun _ _ _ h => h) (Or.inl ⟨by rfl, ?_⟩) ?_ ?_
      rotate_left
      ·
       intro w'
       go_simp
       with_reducible rfl
      rotate_left
      ·
       simp only [Own.ps]
       rfl
      refine pure_ (i := 12) (N := some 33) (v := ?_) (a' := ?_) #[true, true, true, true, true, true, true, true, true, true, true, false, true, false, false, false] rfl rfl (any_of HT_.out (by kernel_rfl)) (fun _ _ _ h => h) (Or.inl ⟨by rfl, ?_⟩) ?_ ?_
      rotate_left
      ·
       intro w'
       go_simp
       with_reducible rfl
      rotate_left
      ·
       simp only [Own.ps]
       rfl
      refine take_ (i := 11) (N := some 32) (v := ?_) (a' := ?_) #[true, true, true, true, true, true, true, true, true, true, true, true, true, false, false, false] rfl rfl (take_ofW HT_.out HW_.out (by kernel_rfl)) (fun _ _ _ h => h) (Or.inl ⟨by rfl, ?_⟩) hHeld ?_ ?_
      rotate_left
      ·
       rintro w' ⟨s0, s1, s2, s3, s4, s5, s6, s7, s8, s9, s10, s11, s12, s13⟩
       go_simp
       with_reducible rfl
      rotate_left
      ·
       simp only [Own.ps]
       rfl
      refine one_ (i := 13) (N := some 34) #[true, true, true, true, true, true, true, true, true, true, true, true, true, true, false, false] rfl rfl (one_of HT_.out (by kernel_rfl)) (by decide) (fun K hK => ?_)
      refine goes_ Tryz.func64 (by kernel_rfl) rfl #[.agg #[.slice A0_0 l0_0.length c0_0, .slice (some ad320) l0_1.length c0_1], .int .i64 x3_2] (by rfl) rfl rfl Own.ha ?_
      with_reducible refine (spec_l6Clause.calls k2 _ _ l0_0 _ _ l0_1 x3_2 false _ ?side1 ?side2 ?side3 ?side4 A15.out).mono ?_
      (case side1 => exact Kd.C_below HR0_0.out Own.bl)
      (case side2 => exact HC0_0.out)
      (case side3 => exact Kd.C_below HR0_1.out Own.bl)
      (case side4 => exact HC0_1.out)
      rintro e w24 ⟨rfl, hb⟩
      refine ⟨_, rfl, ?_⟩
      have n0_ := Own.bb BK314.out hb
      have n1_ := Own.bs hb
      clear BK314
      clear HB
      have BK314 := n0_
      have HB := n1_
      clear n0_ n1_
      (try clear hb)
      (try clear hb2)
      (try clear hk)
      (try clear hi)
      refine hK.out _ _ ⟨(blk_cell BK314.out 0).trans rfl, (blk_cell BK314.out 1).trans rfl, ((HB.out.cell (World.block_lt_of_cell? w _ hw320_0)).trans hw320_0), ((HB.out.cell (World.block_lt_of_cell? w _ hw320_1)).trans hw320_1), ((HB.out.cell (World.block_lt_of_cell? w _ hw320_2)).trans hw320_2), ((HB.out.cell (World.block_lt_of_cell? w _ hw320_3)).trans hw320_3), ((HB.out.cell (World.block_lt_of_cell? w _ hw320_4)).trans hw320_4), ((HB.out.cell (World.block_lt_of_cell? w _ hw320_5)).trans hw320_5), ((HB.out.cell (World.block_lt_of_cell? w _ hw320_6)).trans hw320_6), ((HB.out.cell (World.block_lt_of_cell? w _ hw320_7)).trans hw320_7), ((HB.out.cell (World.block_lt_of_cell? w _ hw320_8)).trans hw320_8), ((HB.out.cell (World.block_lt_of_cell? w _ hw320_9)).trans hw320_9), ((HB.out.cell (World.block_lt_of_cell? w _ hw320_10)).trans hw320_10), ((HB.out.cell (World.block_lt_of_cell? w _ hw320_11)).trans hw320_11)⟩ (fun hHeld => ?_)
      clear hK K
      refine norm_ (a' := ?_) ?_ ?_
      rotate_left
      ·
       show Act.put _ (some 34) _ = _
       simp only [Own.ps]
       rfl
      refine pure_ (i := 14) (N := some 35) (v := ?_) (a' := ?_) #[true, true, true, true, true, true, true, true, true, true, true, true, true, true, true, false] rfl rfl (any_of HT_.out (by kernel_rfl)) (fun _ _ _ h => h) (Or.inl ⟨by rfl, ?_⟩) ?_ ?_
      rotate_left
      ·
       intro w'
       go_simp
       with_reducible rfl
      rotate_left
      ·
       simp only [Own.ps]
       rfl
      refine pure_ (i := 15) (N := some 36) (v := ?_) (a' := ?_) #[true, true, true, true, true, true, true, true, true, true, true, true, true, true, true, true] rfl rfl (any_of HT_.out (by kernel_rfl)) (fun _ _ _ h => h) (Or.inl ⟨by rfl, ?_⟩) ?_ ?_
      rotate_left
      ·
       intro w'
       go_simp
       with_reducible rfl
      rotate_left
      ·
       simp only [Own.ps]
       rfl
      refine done_ (done_of HT_.out (by kernel_rfl)) ?_
      try go_wp2
      go_ret
      exact ⟨Own.rr, Own.bl⟩
     have H' := Aside0.mk H
     clear H
     obtain ⟨z17_0, z17_1, y17_0, y17_1⟩ := Own.box2 BK314.out
     try go_wp2
     have n0_ := Aside0.mk (blk_drew BK314.out)
     have n1_ := Aside0.mk (below_drew1 HB.out)
     clear BK314
     clear HB
     have BK314 := n0_
     have HB := n1_
     clear n0_ n1_
     have p320 : 0 ≤ (x3_2 : Int) := Own.dp
     have q320 : x3_2 < (l0_1.length : Int) := Own.dp
     obtain ⟨ad320, A320_9, c320_9, e320, hx320_0, hx320_1, hx320_2, hx320_3, hx320_4, hx320_5, hx320_6, hx320_7, hx320_8, hx320_9, hx320_10, hx320_11, hl320_9, hi320_9⟩ := at_T51 HR0_1.out x3_2 p320 q320
     have hw320_11 := hx320_11
     have hw320_10 := hx320_10
     have hw320_9 := hx320_9
     have hw320_8 := hx320_8
     have hw320_7 := hx320_7
     have hw320_6 := hx320_6
     have hw320_5 := hx320_5
     have hw320_4 := hx320_4
     have hw320_3 := hx320_3
     have hw320_2 := hx320_2
     have hw320_1 := hx320_1
     have hw320_0 := hx320_0
     cases e320
     replace hx320_0 := Own.up HB.out hx320_0
     replace hx320_1 := Own.up HB.out hx320_1
     replace hx320_2 := Own.up HB.out hx320_2
     replace hx320_3 := Own.up HB.out hx320_3
     replace hx320_4 := Own.up HB.out hx320_4
     replace hx320_5 := Own.up HB.out hx320_5
     replace hx320_6 := Own.up HB.out hx320_6
     replace hx320_7 := Own.up HB.out hx320_7
     replace hx320_8 := Own.up HB.out hx320_8
     replace hx320_9 := Own.up HB.out hx320_9
     replace hx320_10 := Own.up HB.out hx320_10
     replace hx320_11 := Own.up HB.out hx320_11
     have HR320_9 := Aside0.mk hi320_9
     have HC320_9 := Aside0.mk hl320_9
     clear hi320_9 hl320_9
     replace p320 := eq_true p320
     replace q320 := eq_true q320
     refine start_ (n := 16) (S := fun w' => w'.cell? ⟨gb314, 0, none⟩ = some (.slice A0_0 l0_0.length c0_0) ∧ w'.cell? ⟨gb314, 1, none⟩ = some (.slice (some ad320) l0_1.length c0_1) ∧ w'.cell? (ad320.add ((x3_2).toNat * 12)) = some (.string ((rd_T51 l0_1 x3_2).f0)) ∧ w'.cell? ⟨(ad320.add ((x3_2).toNat * 12)).block, (ad320.add ((x3_2).toNat * 12)).off + 1, none⟩ = some (.int .i64 ((rd_T51 l0_1 x3_2).f1)) ∧ w'.cell? ⟨(ad320.add ((x3_2).toNat * 12)).block, (ad320.add ((x3_2).toNat * 12)).off + 2, none⟩ = some (.int .i64 ((rd_T51 l0_1 x3_2).f2)) ∧ w'.cell? ⟨(ad320.add ((x3_2).toNat * 12)).block, (ad320.add ((x3_2).toNat * 12)).off + 3, none⟩ = some (.string ((rd_T51 l0_1 x3_2).f3)) ∧ w'.cell? ⟨(ad320.add ((x3_2).toNat * 12)).block, (ad320.add ((x3_2).toNat * 12)).off + 4, none⟩ = some (.int .i64 ((rd_T51 l0_1 x3_2).f4)) ∧ w'.cell? ⟨(ad320.add ((x3_2).toNat * 12)).block, (ad320.add ((x3_2).toNat * 12)).off + 5, none⟩ = some (.int .i64 ((rd_T51 l0_1 x3_2).f5)) ∧ w'.cell? ⟨(ad320.add ((x3_2).toNat * 12)).block, (ad320.add ((x3_2).toNat * 12)).off + 6, none⟩ = some (.int .i64 ((rd_T51 l0_1 x3_2).f6.f0)) ∧ w'.cell? ⟨(ad320.add ((x3_2).toNat * 12)).block, (ad320.add ((x3_2).toNat * 12)).off + 7, none⟩ = some (.string ((rd_T51 l0_1 x3_2).f6.f1)) ∧ w'.cell? ⟨(ad320.add ((x3_2).toNat * 12)).block, (ad320.add ((x3_2).toNat * 12)).off + 8, none⟩ = some (.int .i64 ((rd_T51 l0_1 x3_2).f6.f2)) ∧ w'.cell? ⟨(ad320.add ((x3_2).toNat * 12)).block, (ad320.add ((x3_2).toNat * 12)).off + 9, none⟩ = some (.slice A320_9 ((rd_T51 l0_1 x3_2).f6.f3).length c320_9) ∧ w'.cell? ⟨(ad320.add ((x3_2).toNat * 12)).block, (ad320.add ((x3_2).toNat * 12)).off + 10, none⟩ = some (.int .i64 ((rd_T51 l0_1 x3_2).f7)) ∧ w'.cell? ⟨(ad320.add ((x3_2).toNat * 12)).block, (ad320.add ((x3_2).toNat * 12)).off + 11, none⟩ = some (.string ((rd_T51 l0_1 x3_2).f8))) (ds := []) #[false, false, false, false, false, false, false, false, false, false, false, false, false, false, false, false] (by kernel_rfl) rfl rfl ⟨(blk_cell BK314.out 0).trans rfl, (blk_cell BK314.out 1).trans rfl, ((HB.out.cell (World.block_lt_of_cell? w _ hw320_0)).trans hw320_0), ((HB.out.cell (World.block_lt_of_cell? w _ hw320_1)).trans hw320_1), ((HB.out.cell (World.block_lt_of_cell? w _ hw320_2)).trans hw320_2), ((HB.out.cell (World.block_lt_of_cell? w _ hw320_3)).trans hw320_3), ((HB.out.cell (World.block_lt_of_cell? w _ hw320_4)).trans hw320_4), ((HB.out.cell (World.block_lt_of_cell? w _ hw320_5)).trans hw320_5), ((HB.out.cell (World.block_lt_of_cell? w _ hw320_6)).trans hw320_6), ((HB.out.cell (World.block_lt_of_cell? w _ hw320_7)).trans hw320_7), ((HB.out.cell (World.block_lt_of_cell? w _ hw320_8)).trans hw320_8), ((HB.out.cell (World.block_lt_of_cell? w _ hw320_9)).trans hw320_9), ((HB.out.cell (World.block_lt_of_cell? w _ hw320_10)).trans hw320_10), ((HB.out.cell (World.block_lt_of_cell? w _ hw320_11)).trans hw320_11)⟩ (fun hHeld => ?_); refine with_tabW spec_l6Good.tab6 spec_l6Good.bits6 (fun HT_ HW_ => ?_)
     generalize wr.drew = w18 at BK314 HB HR320_9 hx320_0 hx320_1 hx320_10 hx320_11 hx320_2 hx320_3 hx320_4 hx320_5 hx320_6 hx320_7 hx320_8 hx320_9 hHeld ⊢
     refine pure_ (i := 1) (N := some 22) (v := ?_) (a' := ?_) #[false, true, false, false, false, false, false, false, false, false, false, false, false, false, false, false] rfl rfl (any_of HT_.out (by kernel_rfl)) (fun _ _ _ h => h) (Or.inl ⟨by rfl, ?_⟩) ?_ ?_
     rotate_left
     ·
      intro w'
      go_simp
      with_reducible rfl
     rotate_left
     ·
      simp only [Own.ps]
      rfl
     refine pure_ (i := 3) (N := some 24) (v := ?_) (a' := ?_) #[false, true, false, true, false, false, false, false, false, false, false, false, false, false, false, false] rfl rfl (any_of HT_.out (by kernel_rfl)) (fun _ _ _ h => h) (Or.inl ⟨by rfl, ?_⟩) ?_ ?_
     rotate_left
     ·
      intro w'
      go_simp
      with_reducible rfl
     rotate_left
     ·
      simp only [Own.ps]
      rfl
     refine pure_ (i := 8) (N := some 29) (v := ?_) (a' := ?_) #[false, true, false, true, false, false, false, false, true, false, false, false, false, false, false, false] rfl rfl (any_of HT_.out (by kernel_rfl)) (fun _ _ _ h => h) (Or.inl ⟨by rfl, ?_⟩) ?_ ?_
     rotate_left
     ·
      intro w'
      go_simp
      with_reducible rfl
     rotate_left
     ·
      simp only [Own.ps]
      rfl
     refine take_ (i := 0) (N := some 21) (v := ?_) (a' := ?_) #[true, true, false, true, false, false, false, false, true, false, false, false, false, false, false, false] rfl rfl (take_ofW HT_.out HW_.out (by kernel_rfl)) (fun _ _ _ h => h) (Or.inl ⟨by rfl, ?_⟩) hHeld ?_ ?_
     rotate_left
     ·
      rintro w' ⟨s0, s1, s2, s3, s4, s5, s6, s7, s8, s9, s10, s11, s12, s13⟩
      go_simp
      with_reducible rfl
     rotate_left
     ·
      simp only [Own.ps]
      rfl
     refine take_ (i := 2) (N := some 23) (v := ?_) (a' := ?_) #[true, true, true, true, false, false, false, false, true, false, false, false, false, false, false, false] rfl rfl (take_ofW HT_.out HW_.out (by kernel_rfl)) (fun _ _ _ h => h) (Or.inl ⟨by rfl, ?_⟩) hHeld ?_ ?_
     rotate_left
     ·
      rintro w' ⟨s0, s1, s2, s3, s4, s5, s6, s7, s8, s9, s10, s11, s12, s13⟩
      go_simp
      with_reducible rfl
     rotate_left
     ·
      simp only [Own.ps]
      rfl
     refine pure_ (i := 4) (N := some 25) (v := ?_) (a' := ?_) #[true, true, true, true, true, false, false, false, true, false, false, false, false, false, false, false] rfl rfl (any_of HT_.out (by kernel_rfl)) (fun _ _ _ h => h) (Or.inl ⟨by rfl, ?_⟩) ?_ ?_
     rotate_left
     ·
      intro w'
      go_simp
      with_reducible rfl
     rotate_left
     ·
      simp only [Own.ps]
      rfl
     refine pure_ (i := 5) (N := some 26) (v := ?_) (a' := ?_) #[true, true, true, true, true, true, false, false, true, false, false, false, false, false, false, false] rfl rfl (any_of HT_.out (by kernel_rfl)) (fun _ _ _ h => h) (Or.inl ⟨by rfl, ?_⟩) ?_ ?_
     rotate_left
     ·
      intro w'
      go_simp
      with_reducible rfl
     rotate_left
     ·
      simp only [Own.ps]
      rfl
     refine take_ (i := 6) (N := some 27) (v := ?_) (a' := ?_) #[true, true, true, true, true, true, true, false, true, false, false, false, false, false, false, false] rfl rfl (take_ofW HT_.out HW_.out (by kernel_rfl)) (fun _ _ _ h => h) (Or.inl ⟨by rfl, ?_⟩) hHeld ?_ ?_
     rotate_left
     ·
      rintro w' ⟨s0, s1, s2, s3, s4, s5, s6, s7, s8, s9, s10, s11, s12, s13⟩
      go_simp
      with_reducible rfl
     rotate_left
     ·
      simp only [Own.ps]
      rfl
     refine one_ (i := 7) (N := some 28) #[true, true, true, true, true, true, true, true, true, false, false, false, false, false, false, false] rfl rfl (one_of HT_.out (by kernel_rfl)) (by decide) (fun K hK => ?_)
     refine goes_ Tryz.func54 (by kernel_rfl) rfl #[.agg #[.slice A0_0 l0_0.length c0_0, .slice (some ad320) l0_1.length c0_1], .string ((rd_T51 l0_1 x3_2).f0)] (by rfl) rfl rfl Own.ha ?_
     with_reducible refine (spec_l6Find.calls k2 _ _ l0_0 _ _ l0_1 ((rd_T51 l0_1 x3_2).f0) t321 _ ?side1 ?side2 ?side3 ?side4 A13.out).mono ?_
     (case side1 => exact Kd.C_below HR0_0.out Own.bl)
     (case side2 => exact HC0_0.out)
     (case side3 => exact Kd.C_below HR0_1.out Own.bl)
     (case side4 => exact HC0_1.out)
     rintro e w19 ⟨rfl, hb⟩
     refine ⟨_, rfl, ?_⟩
     have n0_ := Own.bb BK314.out hb
     have n1_ := Own.bs hb
     clear BK314
     clear HB
     have BK314 := n0_
     have HB := n1_
     clear n0_ n1_
     (try clear hb)
     (try clear hb2)
     (try clear hk)
     (try clear hi)
     refine hK.out _ _ ⟨(blk_cell BK314.out 0).trans rfl, (blk_cell BK314.out 1).trans rfl, ((HB.out.cell (World.block_lt_of_cell? w _ hw320_0)).trans hw320_0), ((HB.out.cell (World.block_lt_of_cell? w _ hw320_1)).trans hw320_1), ((HB.out.cell (World.block_lt_of_cell? w _ hw320_2)).trans hw320_2), ((HB.out.cell (World.block_lt_of_cell? w _ hw320_3)).trans hw320_3), ((HB.out.cell (World.block_lt_of_cell? w _ hw320_4)).trans hw320_4), ((HB.out.cell (World.block_lt_of_cell? w _ hw320_5)).trans hw320_5), ((HB.out.cell (World.block_lt_of_cell? w _ hw320_6)).trans hw320_6), ((HB.out.cell (World.block_lt_of_cell? w _ hw320_7)).trans hw320_7), ((HB.out.cell (World.block_lt_of_cell? w _ hw320_8)).trans hw320_8), ((HB.out.cell (World.block_lt_of_cell? w _ hw320_9)).trans hw320_9), ((HB.out.cell (World.block_lt_of_cell? w _ hw320_10)).trans hw320_10), ((HB.out.cell (World.block_lt_of_cell? w _ hw320_11)).trans hw320_11)⟩ (fun hHeld => ?_)
     clear hK K
     refine norm_ (a' := ?_) ?_ ?_
     rotate_left
     ·
      show Act.put _ (some 28) _ = _
      simp only [Own.ps]
      rfl
     refine pure_ (i := 9) (N := some 30) (v := ?_) (a' := ?_) #[true, true, true, true, true, true, true, true, true, true, false, false, false, false, false, false] rfl rfl (any_of HT_.out (by kernel_rfl)) (fun _ _ _ h => h) (Or.inl ⟨by rfl, ?_⟩) ?_ ?_
     rotate_left
     ·
      intro w'
      go_simp
      with_reducible rfl
     rotate_left
     ·
      simp only [Own.ps]
      rfl
     refine pure_ (i := 10) (N := some 31) (v := ?_) (a' := ?_) #[true, true, true, true, true, true, true, true, true, true, true, false, false, false, false, false] rfl rfl (any_of HT_.out (by kernel_rfl)) (fun _ _ _ h => h) (Or.inl ⟨by rfl, ?_⟩) ?_ ?_
     rotate_left
     ·
      intro w'
      go_simp
      with_reducible rfl
     rotate_left
     ·
      simp only [Own.ps]
      rfl
     refine pure_ (i := 12) (N := some 33) (v := ?_) (a' := ?_) #[true, true, true, true, true, true, true, true, true, true, true, false, true, false, false, false] rfl rfl (any_of HT_.out (by kernel_rfl)) (fun _ _ _ h => h) (Or.inl ⟨by rfl, ?_⟩) ?_ ?_
     rotate_left
     ·
      intro w'
      go_simp
      with_reducible rfl
     rotate_left
     ·
      simp only [Own.ps]
      rfl
     refine take_ (i := 11) (N := some 32) (v := ?_) (a' := ?_) #[true, true, true, true, true, true, true, true, true, true, true, true, true, false, false, false] rfl rfl (take_ofW HT_.out HW_.out (by kernel_rfl)) (fun _ _ _ h => h) (Or.inl ⟨by rfl, ?_⟩) hHeld ?_ ?_
     rotate_left
     ·
      rintro w' ⟨s0, s1, s2, s3, s4, s5, s6, s7, s8, s9, s10, s11, s12, s13⟩
      go_simp
      with_reducible rfl
     rotate_left
     ·
      simp only [Own.ps]
      rfl
     refine one_ (i := 13) (N := some 34) #[true, true, true, true, true, true, true, true, true, true, true, true, true, true, false, false] rfl rfl (one_of HT_.out (by kernel_rfl)) (by decide) (fun K hK => ?_)
     refine goes_ Tryz.func64 (by kernel_rfl) rfl #[.agg #[.slice A0_0 l0_0.length c0_0, .slice (some ad320) l0_1.length c0_1], .int .i64 x3_2] (by rfl) rfl rfl Own.ha ?_
     with_reducible refine (spec_l6Clause.calls k2 _ _ l0_0 _ _ l0_1 x3_2 true _ ?side1 ?side2 ?side3 ?side4 A15.out).mono ?_
     (case side1 => exact Kd.C_below HR0_0.out Own.bl)
     (case side2 => exact HC0_0.out)
     (case side3 => exact Kd.C_below HR0_1.out Own.bl)
     (case side4 => exact HC0_1.out)
     rintro e w20 ⟨rfl, hb⟩
     refine ⟨_, rfl, ?_⟩
     have n0_ := Own.bb BK314.out hb
     have n1_ := Own.bs hb
     clear BK314
     clear HB
     have BK314 := n0_
     have HB := n1_
     clear n0_ n1_
     (try clear hb)
     (try clear hb2)
     (try clear hk)
     (try clear hi)
     refine hK.out _ _ ⟨(blk_cell BK314.out 0).trans rfl, (blk_cell BK314.out 1).trans rfl, ((HB.out.cell (World.block_lt_of_cell? w _ hw320_0)).trans hw320_0), ((HB.out.cell (World.block_lt_of_cell? w _ hw320_1)).trans hw320_1), ((HB.out.cell (World.block_lt_of_cell? w _ hw320_2)).trans hw320_2), ((HB.out.cell (World.block_lt_of_cell? w _ hw320_3)).trans hw320_3), ((HB.out.cell (World.block_lt_of_cell? w _ hw320_4)).trans hw320_4), ((HB.out.cell (World.block_lt_of_cell? w _ hw320_5)).trans hw320_5), ((HB.out.cell (World.block_lt_of_cell? w _ hw320_6)).trans hw320_6), ((HB.out.cell (World.block_lt_of_cell? w _ hw320_7)).trans hw320_7), ((HB.out.cell (World.block_lt_of_cell? w _ hw320_8)).trans hw320_8), ((HB.out.cell (World.block_lt_of_cell? w _ hw320_9)).trans hw320_9), ((HB.out.cell (World.block_lt_of_cell? w _ hw320_10)).trans hw320_10), ((HB.out.cell (World.block_lt_of_cell? w _ hw320_11)).trans hw320_11)⟩ (fun hHeld => ?_)
     clear hK K
     refine norm_ (a' := ?_) ?_ ?_
     rotate_left
     ·
      show Act.put _ (some 34) _ = _
      simp only [Own.ps]
      rfl
     refine pure_ (i := 14) (N := some 35) (v := ?_) (a' := ?_) #[true, true, true, true, true, true, true, true, true, true, true, true, true, true, true, false] rfl rfl (any_of HT_.out (by kernel_rfl)) (fun _ _ _ h => h) (Or.inl ⟨by rfl, ?_⟩) ?_ ?_
     rotate_left
     ·
      intro w'
      go_simp
      with_reducible rfl
     rotate_left
     ·
      simp only [Own.ps]
      rfl
     refine pure_ (i := 15) (N := some 36) (v := ?_) (a' := ?_) #[true, true, true, true, true, true, true, true, true, true, true, true, true, true, true, true] rfl rfl (any_of HT_.out (by kernel_rfl)) (fun _ _ _ h => h) (Or.inl ⟨by rfl, ?_⟩) ?_ ?_
     rotate_left
     ·
      intro w'
      go_simp
      with_reducible rfl
     rotate_left
     ·
      simp only [Own.ps]
      rfl
     refine done_ (done_of HT_.out (by kernel_rfl)) ?_
     try go_wp2
     go_roundg k2
     case measure => have := HJ1.out; have := HK2.out; omega
     case rel => exact ⟨(wrap64 (x3_2 + 1)), Own.rs, H', ⟨by have := HJ1.out; have := HK2.out; omega⟩, ⟨Own.bk⟩, ⟨Own.bl⟩⟩

end Go.Proofs.YtdfbfcgjcfbmpaaGreatDoor.QFnExactClausesOf
