-- Written by a program of this session out of the translation; Lean checks it.
import Derived.Test.YtckopglnblcnoaaGreatDoorQFnExactRemoveClausex4
import Derived.Test.YtckopglnblcnoaaGreatDoorQFnExactRemoveClausex6
namespace Go.Proofs.YtckopglnblcnoaaGreatDoor.QFnExactRemoveClause
open Go.RowKit Go.Proofs.YtckopglnblcnoaaGreatDoorW.PrintWords Go.Proofs.YtckopglnblcnoaaGreatDoorW.PrintLast
attribute [local go_sem] Instr.field asAgg
set_option linter.unusedVariables false
set_option linter.unusedSimpArgs false
/-! ### spec_l6Good: function 14 -/
mutual
def spec_l6Good.j0 : Nat → Bool → List ByteArray → List (S51) → Option (Bool)
 | 0, _, _, _ => none
 | k + 1, x13, x225000, x225001 => if x13 = true then (some false) else (spec_l6Good.l0 k 0 x225000 x225001)
def spec_l6Good.l0 : Nat → Int → List ByteArray → List (S51) → Option (Bool)
 | 0, _, _, _ => none
 | k + 1, x3, x225000, x225001 => if x3 < (x225001.length : Int) then (if 0 ≤ x3 then ((spec_l6Find.f k x225000 x225001 ((rd_T51 x225001 x3).f0)).bind fun t231 => (if t231 = x3 then ((spec_l6Clause.f k x225000 x225001 x3).bind fun t232 => (if t232 = true then (spec_l6Good.l0 k (wrap64 (x3 + 1)) x225000 x225001) else (some false))) else (some false))) else (none)) else ((spec_l6Names.f k x225000 x225001).bind fun t227 => (some (decide ((t227.length : Int) ≤ 16))))
end
def spec_l6Good.f (k : Nat) (l0_0 : List ByteArray) (l0_1 : List (S51)) : Option (Bool) := (spec_l1In.f (l0_1.length : Int) 1 12).bind fun t225 => (if t225 = true then ((spec_l6Parties.f k l0_0 l0_1).bind fun t226 => (spec_l6Good.j0 k (!t226) l0_0 l0_1)) else (spec_l6Good.j0 k true l0_0 l0_1))
def spec_l6Good.T6 : Bool × List (List Nat × List Nat) := (true, [([], []), ([], []), ([1], [1]), ([], []), ([2, 3], [2, 3]), ([4], [4]), ([5], [5]), ([0, 6], [0, 6]), ([], []), ([7, 8], [7, 8]), ([9, 7], [9]), ([10], [10]), ([10], [10]), ([11, 12, 10, 10], [10, 11, 12]), ([13, 10], [10, 13]), ([10, 14], [10, 14])])
def spec_l6Good.B6 : List Nat := [0, 0, 2, 0, 14, 30, 62, 127, 0, 511, 1023, 2047, 2047, 8191, 16383, 32767]
theorem spec_l6Good.tab6 : rtab .any (opsOf Tryz.f14 6) = spec_l6Good.T6 := by kernel_rfl
theorem spec_l6Good.bits6 : waitsOk spec_l6Good.T6.2 spec_l6Good.B6 = true := by kernel_rfl
set_option maxHeartbeats 8000000 in
set_option maxRecDepth 100000 in
theorem spec_l6Good.calls (k : Nat) (A0_0 : Option Addr) (c0_0 : Nat) (l0_0 : List ByteArray) (A0_1 : Option Addr) (c0_1 : Nat) (l0_1 : List (S51)) (r : Bool) (w : World) (hr0_0 : Kd.C Kd.string w A0_0 l0_0.length l0_0) (hc0_0 : l0_0.length ≤ c0_0) (hr0_1 : Kd.C k51 w A0_1 l0_1.length l0_1) (hc0_1 : l0_1.length ≤ c0_1) (h : spec_l6Good.f k l0_0 l0_1 = some r) :
  Calls Tryz.prog 14 #[.agg #[.slice A0_0 l0_0.length c0_0, .slice A0_1 l0_1.length c0_1]] w fun e w' => e = .returned (.bool r) ∧ Below w.heap.size w w' := by
 have hu29 := Tryz.underlying29
 have HR0_0 := Aside0.mk hr0_0
 have HC0_0 := Aside0.mk hc0_0
 clear hr0_0 hc0_0
 have HR0_1 := Aside0.mk hr0_1
 have HC0_1 := Aside0.mk hc0_1
 clear hr0_1 hc0_1
 have HB := Aside0.mk (Below.refl w.heap.size w)
 have H : ((spec_l1In.f (l0_1.length : Int) 1 12).bind fun t225 => (if t225 = true then ((spec_l6Parties.f k l0_0 l0_1).bind fun t226 => (spec_l6Good.j0 k (!t226) l0_0 l0_1)) else (spec_l6Good.j0 k true l0_0 l0_1))) = some r := h
 clear h
 have HC2 := Aside0.mk H
 clear H
 go_enter Tryz.func14, Tryz.ntmps14
 go_upto_region 1 with (first | ((with_reducible refine gate_dst (N := 1) rfl ?_); refine Own.be (N := 1) (cs := #[.slice A0_0 l0_0.length c0_0, .slice A0_1 l0_1.length c0_1]) (t := 29) ?_; intro gb224 hg w3 hbox hb; have BK224 := Aside0.mk hbox; have GW224 := (Own.gs hg : Aside0 (w.heap.size ≤ gb224)); have GE224 := GW224; replace HB := Own.bs hb; clear hb hbox hg))
 (try simp only [Own.ps])
 go_cut [13] (fun v13 wc => ∃ (kq : Nat) (x13_1 : Bool), v13 = .bool x13_1 ∧ Aside0 (spec_l6Good.j0 kq x13_1 l0_0 l0_1 = some r) ∧ Aside0 (kq ≤ k) ∧ Aside0 (wc.heap[gb224]? = some (.cells #[(.slice A0_0 l0_0.length c0_0), (.slice A0_1 l0_1.length c0_1)] 29 (0, 0))) ∧ Aside0 (Below w.heap.size w wc))
 case first =>
  have H := HC2.out; clear HC2
  replace H := Own.bd H; obtain ⟨t225, A4, H⟩ := H
  replace H := Own.ifu H; obtain ⟨rfl, H⟩ | ⟨rfl, H⟩ := H
  ·
   replace H := Own.bd H; obtain ⟨t226, A6, H⟩ := H; have H' := Aside0.mk H; clear H; obtain ⟨z7_0, z7_1, y7_0, y7_1⟩ := Own.box2 BK224.out
   go_wp2_with (first | ((with_reducible refine gate_callee (f := 30) rfl ?_); refine goesL_ (some 7) rfl rfl Tryz.func30 (by kernel_rfl) rfl #[.int .i64 (l0_1.length : Int), .int .i64 1, .int .i64 12] rfl Own.ha ?_; (with_reducible refine (spec_l1In.calls (l0_1.length : Int) 1 12 true _ A4.out).mono ?_); rintro e w' ⟨rfl, ⟨nd, rfl⟩⟩; refine ⟨_, rfl, ?_⟩) | (go_at_call 31; (with_reducible refine (spec_l6Parties.calls k _ _ l0_0 _ _ l0_1 t226 _ ?side1 ?side2 ?side3 ?side4 A6.out).mono ?_); (case side1 => exact Kd.C_below HR0_0.out Own.bl); (case side2 => exact HC0_0.out); (case side3 => exact Kd.C_below HR0_1.out Own.bl); (case side4 => exact HC0_1.out); rintro e w8 ⟨rfl, hb⟩; replace BK224 := Own.bb BK224.out hb; replace HB := Own.bs hb; (try clear hb)))
   go_meet
   case rel => exact ⟨_, (!t226), Own.rs, H', ⟨by first | omega | exact Nat.le_refl _⟩, ⟨Own.bk⟩, ⟨Own.bl⟩⟩
  have H' := Aside0.mk H; clear H; obtain ⟨z9_0, z9_1, y9_0, y9_1⟩ := Own.box2 BK224.out
  go_wp2_with (first | ((with_reducible refine gate_callee (f := 30) rfl ?_); refine goesL_ (some 7) rfl rfl Tryz.func30 (by kernel_rfl) rfl #[.int .i64 (l0_1.length : Int), .int .i64 1, .int .i64 12] rfl Own.ha ?_; (with_reducible refine (spec_l1In.calls (l0_1.length : Int) 1 12 false _ A4.out).mono ?_); rintro e w' ⟨rfl, ⟨nd, rfl⟩⟩; refine ⟨_, rfl, ?_⟩))
  go_meet
  case rel => exact ⟨_, (true), Own.rs, H', ⟨by first | omega | exact Nat.le_refl _⟩, ⟨Own.bk⟩, ⟨Own.bl⟩⟩
 case rest =>
  clear HC2
  skip
  obtain ⟨kq, x13_1, rfl, HA, HJ1, BK224, HB⟩ := hcut
  cases kq with
  | zero => exact absurd HA.out (by simp [spec_l6Good.j0])
  | succ kj1 =>
   have H := HA.out; clear HA
   simp only [spec_l6Good.j0] at H
   replace H := Own.ifu H; obtain ⟨rfl, H⟩ | ⟨rfl, H⟩ := H
   ·
    obtain rfl := Option.some.inj H
    go_wp2
    go_ret
    exact ⟨Own.rr, Own.bl⟩
   have H' := Aside0.mk H; clear H
   go_wp2
   go_loopg [3] kj1 (fun kq v3 w' => ∃ (x3_2 : Int), v3 = .int .i64 x3_2 ∧ Aside0 (spec_l6Good.l0 kq x3_2 l0_0 l0_1 = some r) ∧ Aside0 (kq ≤ kj1) ∧ Aside0 (w'.heap[gb224]? = some (.cells #[(.slice A0_0 l0_0.length c0_0), (.slice A0_1 l0_1.length c0_1)] 29 (0, 0))) ∧ Aside0 (Below w.heap.size w w'))
   case atStart => exact ⟨(0), Own.rs, H', ⟨Nat.le_refl _⟩, ⟨Own.bk⟩, ⟨Own.bl⟩⟩
   case round =>
    clear H'
    skip
    obtain ⟨x3_2, rfl, HA, HK2, BK224, HB⟩ := hrel
    cases gk with
    | zero => exact absurd HA.out (by simp [spec_l6Good.l0])
    | succ k2 =>
     have H := HA.out; clear HA
     simp only [spec_l6Good.l0] at H
     by_cases c11 : x3_2 < (l0_1.length : Int)
     rotate_left
     ·
      rw [if_neg c11] at H; replace c11 := decide_eq_false c11
      replace H := Own.bd H; obtain ⟨t227, A28, H⟩ := H; obtain rfl := Option.some.inj H; obtain ⟨z29_0, z29_1, y29_0, y29_1⟩ := Own.box2 BK224.out
      go_wp2_with (first | ((with_reducible refine gate_callee (f := 33) rfl ?_); refine goesL_ (some 38) rfl rfl Tryz.func33 (by kernel_rfl) rfl #[.agg #[.slice A0_0 l0_0.length c0_0, .slice A0_1 l0_1.length c0_1]] rfl Own.ha ?_; (with_reducible refine (spec_l6Names.calls k2 _ _ l0_0 _ _ l0_1 t227 _ ?side1 ?side2 ?side3 ?side4 A28.out).mono ?_); (case side1 => exact Kd.C_below HR0_0.out Own.bl); (case side2 => exact HC0_0.out); (case side3 => exact Kd.C_below HR0_1.out Own.bl); (case side4 => exact HC0_1.out); rintro e w30 ⟨v228, rfl, ho0, hb⟩; refine ⟨_, rfl, ?_⟩; have HO229 := Aside0.mk (Kd.V_lower (Kd.V_mono (ok' := fun k_ => k_ ≠ gb224) ho0 (fun k_ hk_ => (Kd.freshB (Own.bkf BK224.out) k_ hk_))) (below_size Own.bl)); replace BK224 := Own.bb BK224.out hb; replace HB := Own.bs hb; (try clear hb); (try clear ho0); obtain ⟨Ao31, co31, eo31⟩ := Kd.V_slice HO229.out; subst eo31))
      go_ret
      exact ⟨Own.rr, Own.bl⟩
     rw [if_pos c11] at H; replace c11 := decide_eq_true c11
     replace H := Own.ifd H; obtain ⟨c12, H⟩ := H
     replace H := Own.bd H; obtain ⟨t231, A13, H⟩ := H
     by_cases c14 : t231 = x3_2
     rotate_left
     ·
      rw [if_neg c14] at H
      have c14b0 : (t231 == x3_2) = false := beq_eq_false_iff_ne.mpr c14
      have c14b1 : (t231 != x3_2) = true := bne_iff_ne.mpr c14
      obtain rfl := Option.some.inj H; obtain ⟨z25_0, z25_1, y25_0, y25_1⟩ := Own.box2 BK224.out
      try go_wp2
      have n0_ := Aside0.mk (blk_drew BK224.out)
      have n1_ := Aside0.mk (below_drew1 HB.out)
      clear BK224; clear HB; have BK224 := n0_; have HB := n1_; clear n0_ n1_
      have p230 : 0 ≤ (x3_2 : Int) := Own.dp
      have q230 : x3_2 < (l0_1.length : Int) := Own.dp
      obtain ⟨ad230, A230_9, c230_9, e230, hx230_0, hx230_1, hx230_2, hx230_3, hx230_4, hx230_5, hx230_6, hx230_7, hx230_8, hx230_9, hx230_10, hx230_11, hl230_9, hi230_9⟩ := at_T51 HR0_1.out x3_2 p230 q230; have hw230_11 := hx230_11; have hw230_10 := hx230_10; have hw230_9 := hx230_9; have hw230_8 := hx230_8; have hw230_7 := hx230_7; have hw230_6 := hx230_6; have hw230_5 := hx230_5; have hw230_4 := hx230_4; have hw230_3 := hx230_3; have hw230_2 := hx230_2; have hw230_1 := hx230_1; have hw230_0 := hx230_0; cases e230; replace hx230_0 := Own.up HB.out hx230_0; replace hx230_1 := Own.up HB.out hx230_1; replace hx230_2 := Own.up HB.out hx230_2; replace hx230_3 := Own.up HB.out hx230_3; replace hx230_4 := Own.up HB.out hx230_4; replace hx230_5 := Own.up HB.out hx230_5; replace hx230_6 := Own.up HB.out hx230_6; replace hx230_7 := Own.up HB.out hx230_7; replace hx230_8 := Own.up HB.out hx230_8; replace hx230_9 := Own.up HB.out hx230_9; replace hx230_10 := Own.up HB.out hx230_10; replace hx230_11 := Own.up HB.out hx230_11; have HR230_9 := Aside0.mk hi230_9; have HC230_9 := Aside0.mk hl230_9; clear hi230_9 hl230_9; replace p230 := eq_true p230; replace q230 := eq_true q230
      refine start_ (n := 16) (S := fun w' => w'.cell? ⟨gb224, 0, none⟩ = some (.slice A0_0 l0_0.length c0_0) ∧ w'.cell? ⟨gb224, 1, none⟩ = some (.slice (some ad230) l0_1.length c0_1) ∧ w'.cell? (ad230.add ((x3_2).toNat * 12)) = some (.string ((rd_T51 l0_1 x3_2).f0)) ∧ w'.cell? ⟨(ad230.add ((x3_2).toNat * 12)).block, (ad230.add ((x3_2).toNat * 12)).off + 1, none⟩ = some (.int .i64 ((rd_T51 l0_1 x3_2).f1)) ∧ w'.cell? ⟨(ad230.add ((x3_2).toNat * 12)).block, (ad230.add ((x3_2).toNat * 12)).off + 2, none⟩ = some (.int .i64 ((rd_T51 l0_1 x3_2).f2)) ∧ w'.cell? ⟨(ad230.add ((x3_2).toNat * 12)).block, (ad230.add ((x3_2).toNat * 12)).off + 3, none⟩ = some (.string ((rd_T51 l0_1 x3_2).f3)) ∧ w'.cell? ⟨(ad230.add ((x3_2).toNat * 12)).block, (ad230.add ((x3_2).toNat * 12)).off + 4, none⟩ = some (.int .i64 ((rd_T51 l0_1 x3_2).f4)) ∧ w'.cell? ⟨(ad230.add ((x3_2).toNat * 12)).block, (ad230.add ((x3_2).toNat * 12)).off + 5, none⟩ = some (.int .i64 ((rd_T51 l0_1 x3_2).f5)) ∧ w'.cell? ⟨(ad230.add ((x3_2).toNat * 12)).block, (ad230.add ((x3_2).toNat * 12)).off + 6, none⟩ = some (.int .i64 ((rd_T51 l0_1 x3_2).f6.f0)) ∧ w'.cell? ⟨(ad230.add ((x3_2).toNat * 12)).block, (ad230.add ((x3_2).toNat * 12)).off + 7, none⟩ = some (.string ((rd_T51 l0_1 x3_2).f6.f1)) ∧ w'.cell? ⟨(ad230.add ((x3_2).toNat * 12)).block, (ad230.add ((x3_2).toNat * 12)).off + 8, none⟩ = some (.int .i64 ((rd_T51 l0_1 x3_2).f6.f2)) ∧ w'.cell? ⟨(ad230.add ((x3_2).toNat * 12)).block, (ad230.add ((x3_2).toNat * 12)).off + 9, none⟩ = some (.slice A230_9 ((rd_T51 l0_1 x3_2).f6.f3).length c230_9) ∧ w'.cell? ⟨(ad230.add ((x3_2).toNat * 12)).block, (ad230.add ((x3_2).toNat * 12)).off + 10, none⟩ = some (.int .i64 ((rd_T51 l0_1 x3_2).f7)) ∧ w'.cell? ⟨(ad230.add ((x3_2).toNat * 12)).block, (ad230.add ((x3_2).toNat * 12)).off + 11, none⟩ = some (.string ((rd_T51 l0_1 x3_2).f8))) (ds := []) (Own.fl 16 0) (by kernel_rfl) rfl rfl ⟨(blk_cell BK224.out 0).trans rfl, (blk_cell BK224.out 1).trans rfl, (Own.up HB.out hw230_0), (Own.up HB.out hw230_1), (Own.up HB.out hw230_2), (Own.up HB.out hw230_3), (Own.up HB.out hw230_4), (Own.up HB.out hw230_5), (Own.up HB.out hw230_6), (Own.up HB.out hw230_7), (Own.up HB.out hw230_8), (Own.up HB.out hw230_9), (Own.up HB.out hw230_10), (Own.up HB.out hw230_11)⟩ (fun hHeld => ?_); refine with_tabW spec_l6Good.tab6 spec_l6Good.bits6 (fun HT_ HW_ => ?_)
      generalize wr.drew = w26 at BK224 HB HR230_9 hx230_0 hx230_1 hx230_10 hx230_11 hx230_2 hx230_3 hx230_4 hx230_5 hx230_6 hx230_7 hx230_8 hx230_9 hHeld ⊢
      refine pure_ (i := 1) (N := some 22) (v := ?_) (a' := ?_) (Own.fl 16 2) rfl rfl (any_of HT_.out (by kernel_rfl)) (fun _ _ _ h => h) (Or.inl ⟨by rfl, ?_⟩) ?_ ?_; rotate_left; intro w'; go_simp; with_reducible rfl; rotate_left; simp only [Own.ps]; rfl
      refine pure_ (i := 3) (N := some 24) (v := ?_) (a' := ?_) (Own.fl 16 10) rfl rfl (any_of HT_.out (by kernel_rfl)) (fun _ _ _ h => h) (Or.inl ⟨by rfl, ?_⟩) ?_ ?_; rotate_left; intro w'; go_simp; with_reducible rfl; rotate_left; simp only [Own.ps]; rfl
      refine pure_ (i := 8) (N := some 29) (v := ?_) (a' := ?_) (Own.fl 16 266) rfl rfl (any_of HT_.out (by kernel_rfl)) (fun _ _ _ h => h) (Or.inl ⟨by rfl, ?_⟩) ?_ ?_; rotate_left; intro w'; go_simp; with_reducible rfl; rotate_left; simp only [Own.ps]; rfl
      refine take_ (i := 0) (N := some 21) (v := ?_) (a' := ?_) (Own.fl 16 267) rfl rfl (take_ofW HT_.out HW_.out (by kernel_rfl)) (fun _ _ _ h => h) (Or.inl ⟨by rfl, ?_⟩) hHeld ?_ ?_; rotate_left; rintro w' ⟨s0, s1, s2, s3, s4, s5, s6, s7, s8, s9, s10, s11, s12, s13⟩; go_simp; with_reducible rfl; rotate_left; simp only [Own.ps]; rfl
      refine take_ (i := 2) (N := some 23) (v := ?_) (a' := ?_) (Own.fl 16 271) rfl rfl (take_ofW HT_.out HW_.out (by kernel_rfl)) (fun _ _ _ h => h) (Or.inl ⟨by rfl, ?_⟩) hHeld ?_ ?_; rotate_left; rintro w' ⟨s0, s1, s2, s3, s4, s5, s6, s7, s8, s9, s10, s11, s12, s13⟩; go_simp; with_reducible rfl; rotate_left; simp only [Own.ps]; rfl
      refine pure_ (i := 4) (N := some 25) (v := ?_) (a' := ?_) (Own.fl 16 287) rfl rfl (any_of HT_.out (by kernel_rfl)) (fun _ _ _ h => h) (Or.inl ⟨by rfl, ?_⟩) ?_ ?_; rotate_left; intro w'; go_simp; with_reducible rfl; rotate_left; simp only [Own.ps]; rfl
      refine pure_ (i := 5) (N := some 26) (v := ?_) (a' := ?_) (Own.fl 16 319) rfl rfl (any_of HT_.out (by kernel_rfl)) (fun _ _ _ h => h) (Or.inl ⟨by rfl, ?_⟩) ?_ ?_; rotate_left; intro w'; go_simp; with_reducible rfl; rotate_left; simp only [Own.ps]; rfl
      refine take_ (i := 6) (N := some 27) (v := ?_) (a' := ?_) (Own.fl 16 383) rfl rfl (take_ofW HT_.out HW_.out (by kernel_rfl)) (fun _ _ _ h => h) (Or.inl ⟨by rfl, ?_⟩) hHeld ?_ ?_; rotate_left; rintro w' ⟨s0, s1, s2, s3, s4, s5, s6, s7, s8, s9, s10, s11, s12, s13⟩; go_simp; with_reducible rfl; rotate_left; simp only [Own.ps]; rfl
      refine one_ (i := 7) (N := some 28) (Own.fl 16 511) rfl rfl (one_of HT_.out (by kernel_rfl)) (by decide) (fun K hK => ?_)
      refine goes_ Tryz.func13 (by kernel_rfl) rfl #[.agg #[.slice A0_0 l0_0.length c0_0, .slice (some ad230) l0_1.length c0_1], .string ((rd_T51 l0_1 x3_2).f0)] (by rfl) rfl rfl Own.ha ?_
      with_reducible refine (spec_l6Find.calls k2 _ _ l0_0 _ _ l0_1 ((rd_T51 l0_1 x3_2).f0) t231 _ ?side1 ?side2 ?side3 ?side4 A13.out).mono ?_
      (case side1 => exact Kd.C_below HR0_0.out Own.bl)
      (case side2 => exact HC0_0.out)
      (case side3 => exact Kd.C_below HR0_1.out Own.bl)
      (case side4 => exact HC0_1.out)
      rintro e w27 ⟨rfl, hb⟩
      refine ⟨_, rfl, ?_⟩
      have n0_ := Own.bb BK224.out hb; have n1_ := Own.bs hb; clear BK224; clear HB; have BK224 := n0_; have HB := n1_; clear n0_ n1_
      (try clear hb)
      (try clear hb2)
      (try clear hk)
      (try clear hi)
      refine hK.out _ _ ⟨(blk_cell BK224.out 0).trans rfl, (blk_cell BK224.out 1).trans rfl, (Own.up HB.out hw230_0), (Own.up HB.out hw230_1), (Own.up HB.out hw230_2), (Own.up HB.out hw230_3), (Own.up HB.out hw230_4), (Own.up HB.out hw230_5), (Own.up HB.out hw230_6), (Own.up HB.out hw230_7), (Own.up HB.out hw230_8), (Own.up HB.out hw230_9), (Own.up HB.out hw230_10), (Own.up HB.out hw230_11)⟩ (fun hHeld => ?_)
      clear hK K; refine norm_ (a' := ?_) ?_ ?_; rotate_left; show Act.put _ (some 28) _ = _; simp only [Own.ps]; rfl
      refine pure_ (i := 9) (N := some 30) (v := ?_) (a' := ?_) (Own.fl 16 1023) rfl rfl (any_of HT_.out (by kernel_rfl)) (fun _ _ _ h => h) (Or.inl ⟨by rfl, ?_⟩) ?_ ?_; rotate_left; intro w'; go_simp; with_reducible rfl; rotate_left; simp only [Own.ps]; rfl
      refine pure_ (i := 10) (N := some 31) (v := ?_) (a' := ?_) (Own.fl 16 2047) rfl rfl (any_of HT_.out (by kernel_rfl)) (fun _ _ _ h => h) (Or.inl ⟨by rfl, ?_⟩) ?_ ?_; rotate_left; intro w'; go_simp; with_reducible rfl; rotate_left; simp only [Own.ps]; rfl
      refine pure_ (i := 11) (N := some 32) (v := undef) (a' := ?_) (Own.fl 16 4095) rfl rfl (any_of HT_.out (by kernel_rfl)) (fun _ _ _ h => h) (Or.inr ⟨by rfl, rfl⟩) ?_ ?_
      rotate_left
      ·
       simp only [Own.ps]
       rfl
      refine pure_ (i := 12) (N := some 33) (v := undef) (a' := ?_) (Own.fl 16 8191) rfl rfl (any_of HT_.out (by kernel_rfl)) (fun _ _ _ h => h) (Or.inr ⟨by rfl, rfl⟩) ?_ ?_
      rotate_left
      ·
       simp only [Own.ps]
       rfl
      refine pure_ (i := 13) (N := some 34) (v := undef) (a' := ?_) (Own.fl 16 16383) rfl rfl (any_of HT_.out (by kernel_rfl)) (fun _ _ _ h => h) (Or.inr ⟨by rfl, rfl⟩) ?_ ?_
      rotate_left
      ·
       simp only [Own.ps]
       rfl
      refine pure_ (i := 14) (N := some 35) (v := undef) (a' := ?_) (Own.fl 16 32767) rfl rfl (any_of HT_.out (by kernel_rfl)) (fun _ _ _ h => h) (Or.inr ⟨by rfl, rfl⟩) ?_ ?_
      rotate_left
      ·
       simp only [Own.ps]
       rfl
      refine pure_ (i := 15) (N := some 36) (v := ?_) (a' := ?_) (Own.fl 16 65535) rfl rfl (any_of HT_.out (by kernel_rfl)) (fun _ _ _ h => h) (Or.inl ⟨by rfl, ?_⟩) ?_ ?_; rotate_left; intro w'; go_simp; with_reducible rfl; rotate_left; simp only [Own.ps]; rfl
      refine done_ (done_of HT_.out (by kernel_rfl)) ?_
      try go_wp2
      go_ret
      exact ⟨Own.rr, Own.bl⟩
     rw [if_pos c14] at H
     have c14b0 : (t231 == x3_2) = true := beq_iff_eq.mpr c14
     have c14b1 : (t231 != x3_2) = false := bne_eq_false_iff_eq.mpr c14
     clear c14
     replace H := Own.bd H; obtain ⟨t232, A15, H⟩ := H
     replace H := Own.ift H; obtain ⟨rfl, H⟩ | ⟨rfl, H⟩ := H
     ·
      obtain rfl := Option.some.inj H; obtain ⟨z21_0, z21_1, y21_0, y21_1⟩ := Own.box2 BK224.out
      try go_wp2
      have n0_ := Aside0.mk (blk_drew BK224.out)
      have n1_ := Aside0.mk (below_drew1 HB.out)
      clear BK224; clear HB; have BK224 := n0_; have HB := n1_; clear n0_ n1_
      have p230 : 0 ≤ (x3_2 : Int) := Own.dp
      have q230 : x3_2 < (l0_1.length : Int) := Own.dp
      obtain ⟨ad230, A230_9, c230_9, e230, hx230_0, hx230_1, hx230_2, hx230_3, hx230_4, hx230_5, hx230_6, hx230_7, hx230_8, hx230_9, hx230_10, hx230_11, hl230_9, hi230_9⟩ := at_T51 HR0_1.out x3_2 p230 q230; have hw230_11 := hx230_11; have hw230_10 := hx230_10; have hw230_9 := hx230_9; have hw230_8 := hx230_8; have hw230_7 := hx230_7; have hw230_6 := hx230_6; have hw230_5 := hx230_5; have hw230_4 := hx230_4; have hw230_3 := hx230_3; have hw230_2 := hx230_2; have hw230_1 := hx230_1; have hw230_0 := hx230_0; cases e230; replace hx230_0 := Own.up HB.out hx230_0; replace hx230_1 := Own.up HB.out hx230_1; replace hx230_2 := Own.up HB.out hx230_2; replace hx230_3 := Own.up HB.out hx230_3; replace hx230_4 := Own.up HB.out hx230_4; replace hx230_5 := Own.up HB.out hx230_5; replace hx230_6 := Own.up HB.out hx230_6; replace hx230_7 := Own.up HB.out hx230_7; replace hx230_8 := Own.up HB.out hx230_8; replace hx230_9 := Own.up HB.out hx230_9; replace hx230_10 := Own.up HB.out hx230_10; replace hx230_11 := Own.up HB.out hx230_11; have HR230_9 := Aside0.mk hi230_9; have HC230_9 := Aside0.mk hl230_9; clear hi230_9 hl230_9; replace p230 := eq_true p230; replace q230 := eq_true q230
      refine start_ (n := 16) (S := fun w' => w'.cell? ⟨gb224, 0, none⟩ = some (.slice A0_0 l0_0.length c0_0) ∧ w'.cell? ⟨gb224, 1, none⟩ = some (.slice (some ad230) l0_1.length c0_1) ∧ w'.cell? (ad230.add ((x3_2).toNat * 12)) = some (.string ((rd_T51 l0_1 x3_2).f0)) ∧ w'.cell? ⟨(ad230.add ((x3_2).toNat * 12)).block, (ad230.add ((x3_2).toNat * 12)).off + 1, none⟩ = some (.int .i64 ((rd_T51 l0_1 x3_2).f1)) ∧ w'.cell? ⟨(ad230.add ((x3_2).toNat * 12)).block, (ad230.add ((x3_2).toNat * 12)).off + 2, none⟩ = some (.int .i64 ((rd_T51 l0_1 x3_2).f2)) ∧ w'.cell? ⟨(ad230.add ((x3_2).toNat * 12)).block, (ad230.add ((x3_2).toNat * 12)).off + 3, none⟩ = some (.string ((rd_T51 l0_1 x3_2).f3)) ∧ w'.cell? ⟨(ad230.add ((x3_2).toNat * 12)).block, (ad230.add ((x3_2).toNat * 12)).off + 4, none⟩ = some (.int .i64 ((rd_T51 l0_1 x3_2).f4)) ∧ w'.cell? ⟨(ad230.add ((x3_2).toNat * 12)).block, (ad230.add ((x3_2).toNat * 12)).off + 5, none⟩ = some (.int .i64 ((rd_T51 l0_1 x3_2).f5)) ∧ w'.cell? ⟨(ad230.add ((x3_2).toNat * 12)).block, (ad230.add ((x3_2).toNat * 12)).off + 6, none⟩ = some (.int .i64 ((rd_T51 l0_1 x3_2).f6.f0)) ∧ w'.cell? ⟨(ad230.add ((x3_2).toNat * 12)).block, (ad230.add ((x3_2).toNat * 12)).off + 7, none⟩ = some (.string ((rd_T51 l0_1 x3_2).f6.f1)) ∧ w'.cell? ⟨(ad230.add ((x3_2).toNat * 12)).block, (ad230.add ((x3_2).toNat * 12)).off + 8, none⟩ = some (.int .i64 ((rd_T51 l0_1 x3_2).f6.f2)) ∧ w'.cell? ⟨(ad230.add ((x3_2).toNat * 12)).block, (ad230.add ((x3_2).toNat * 12)).off + 9, none⟩ = some (.slice A230_9 ((rd_T51 l0_1 x3_2).f6.f3).length c230_9) ∧ w'.cell? ⟨(ad230.add ((x3_2).toNat * 12)).block, (ad230.add ((x3_2).toNat * 12)).off + 10, none⟩ = some (.int .i64 ((rd_T51 l0_1 x3_2).f7)) ∧ w'.cell? ⟨(ad230.add ((x3_2).toNat * 12)).block, (ad230.add ((x3_2).toNat * 12)).off + 11, none⟩ = some (.string ((rd_T51 l0_1 x3_2).f8))) (ds := []) (Own.fl 16 0) (by kernel_rfl) rfl rfl ⟨(blk_cell BK224.out 0).trans rfl, (blk_cell BK224.out 1).trans rfl, (Own.up HB.out hw230_0), (Own.up HB.out hw230_1), (Own.up HB.out hw230_2), (Own.up HB.out hw230_3), (Own.up HB.out hw230_4), (Own.up HB.out hw230_5), (Own.up HB.out hw230_6), (Own.up HB.out hw230_7), (Own.up HB.out hw230_8), (Own.up HB.out hw230_9), (Own.up HB.out hw230_10), (Own.up HB.out hw230_11)⟩ (fun hHeld => ?_); refine with_tabW spec_l6Good.tab6 spec_l6Good.bits6 (fun HT_ HW_ => ?_)
      generalize wr.drew = w22 at BK224 HB HR230_9 hx230_0 hx230_1 hx230_10 hx230_11 hx230_2 hx230_3 hx230_4 hx230_5 hx230_6 hx230_7 hx230_8 hx230_9 hHeld ⊢
      refine pure_ (i := 1) (N := some 22) (v := ?_) (a' := ?_) (Own.fl 16 2) rfl rfl (any_of HT_.out (by kernel_rfl)) (fun _ _ _ h => h) (Or.inl ⟨by rfl, ?_⟩) ?_ ?_; rotate_left; intro w'; go_simp; with_reducible rfl; rotate_left; simp only [Own.ps]; rfl
      refine pure_ (i := 3) (N := some 24) (v := ?_) (a' := ?_) (Own.fl 16 10) rfl rfl (any_of HT_.out (by kernel_rfl)) (fun _ _ _ h => h) (Or.inl ⟨by rfl, ?_⟩) ?_ ?_; rotate_left; intro w'; go_simp; with_reducible rfl; rotate_left; simp only [Own.ps]; rfl
      refine pure_ (i := 8) (N := some 29) (v := ?_) (a' := ?_) (Own.fl 16 266) rfl rfl (any_of HT_.out (by kernel_rfl)) (fun _ _ _ h => h) (Or.inl ⟨by rfl, ?_⟩) ?_ ?_; rotate_left; intro w'; go_simp; with_reducible rfl; rotate_left; simp only [Own.ps]; rfl
      refine take_ (i := 0) (N := some 21) (v := ?_) (a' := ?_) (Own.fl 16 267) rfl rfl (take_ofW HT_.out HW_.out (by kernel_rfl)) (fun _ _ _ h => h) (Or.inl ⟨by rfl, ?_⟩) hHeld ?_ ?_; rotate_left; rintro w' ⟨s0, s1, s2, s3, s4, s5, s6, s7, s8, s9, s10, s11, s12, s13⟩; go_simp; with_reducible rfl; rotate_left; simp only [Own.ps]; rfl
      refine take_ (i := 2) (N := some 23) (v := ?_) (a' := ?_) (Own.fl 16 271) rfl rfl (take_ofW HT_.out HW_.out (by kernel_rfl)) (fun _ _ _ h => h) (Or.inl ⟨by rfl, ?_⟩) hHeld ?_ ?_; rotate_left; rintro w' ⟨s0, s1, s2, s3, s4, s5, s6, s7, s8, s9, s10, s11, s12, s13⟩; go_simp; with_reducible rfl; rotate_left; simp only [Own.ps]; rfl
      refine pure_ (i := 4) (N := some 25) (v := ?_) (a' := ?_) (Own.fl 16 287) rfl rfl (any_of HT_.out (by kernel_rfl)) (fun _ _ _ h => h) (Or.inl ⟨by rfl, ?_⟩) ?_ ?_; rotate_left; intro w'; go_simp; with_reducible rfl; rotate_left; simp only [Own.ps]; rfl
      refine pure_ (i := 5) (N := some 26) (v := ?_) (a' := ?_) (Own.fl 16 319) rfl rfl (any_of HT_.out (by kernel_rfl)) (fun _ _ _ h => h) (Or.inl ⟨by rfl, ?_⟩) ?_ ?_; rotate_left; intro w'; go_simp; with_reducible rfl; rotate_left; simp only [Own.ps]; rfl
      refine take_ (i := 6) (N := some 27) (v := ?_) (a' := ?_) (Own.fl 16 383) rfl rfl (take_ofW HT_.out HW_.out (by kernel_rfl)) (fun _ _ _ h => h) (Or.inl ⟨by rfl, ?_⟩) hHeld ?_ ?_; rotate_left; rintro w' ⟨s0, s1, s2, s3, s4, s5, s6, s7, s8, s9, s10, s11, s12, s13⟩; go_simp; with_reducible rfl; rotate_left; simp only [Own.ps]; rfl
      refine one_ (i := 7) (N := some 28) (Own.fl 16 511) rfl rfl (one_of HT_.out (by kernel_rfl)) (by decide) (fun K hK => ?_)
      refine goes_ Tryz.func13 (by kernel_rfl) rfl #[.agg #[.slice A0_0 l0_0.length c0_0, .slice (some ad230) l0_1.length c0_1], .string ((rd_T51 l0_1 x3_2).f0)] (by rfl) rfl rfl Own.ha ?_
      with_reducible refine (spec_l6Find.calls k2 _ _ l0_0 _ _ l0_1 ((rd_T51 l0_1 x3_2).f0) t231 _ ?side1 ?side2 ?side3 ?side4 A13.out).mono ?_
      (case side1 => exact Kd.C_below HR0_0.out Own.bl)
      (case side2 => exact HC0_0.out)
      (case side3 => exact Kd.C_below HR0_1.out Own.bl)
      (case side4 => exact HC0_1.out)
      rintro e w23 ⟨rfl, hb⟩
      refine ⟨_, rfl, ?_⟩
      have n0_ := Own.bb BK224.out hb; have n1_ := Own.bs hb; clear BK224; clear HB; have BK224 := n0_; have HB := n1_; clear n0_ n1_
      (try clear hb)
      (try clear hb2)
      (try clear hk)
      (try clear hi)
      refine hK.out _ _ ⟨(blk_cell BK224.out 0).trans rfl, (blk_cell BK224.out 1).trans rfl, (Own.up HB.out hw230_0), (Own.up HB.out hw230_1), (Own.up HB.out hw230_2), (Own.up HB.out hw230_3), (Own.up HB.out hw230_4), (Own.up HB.out hw230_5), (Own.up HB.out hw230_6), (Own.up HB.out hw230_7), (Own.up HB.out hw230_8), (Own.up HB.out hw230_9), (Own.up HB.out hw230_10), (Own.up HB.out hw230_11)⟩ (fun hHeld => ?_)
      clear hK K; refine norm_ (a' := ?_) ?_ ?_; rotate_left; show Act.put _ (some 28) _ = _; simp only [Own.ps]; rfl
      refine pure_ (i := 9) (N := some 30) (v := ?_) (a' := ?_) (Own.fl 16 1023) rfl rfl (any_of HT_.out (by kernel_rfl)) (fun _ _ _ h => h) (Or.inl ⟨by rfl, ?_⟩) ?_ ?_; rotate_left; intro w'; go_simp; with_reducible rfl; rotate_left; simp only [Own.ps]; rfl
      refine pure_ (i := 10) (N := some 31) (v := ?_) (a' := ?_) (Own.fl 16 2047) rfl rfl (any_of HT_.out (by kernel_rfl)) (fun _ _ _ h => h) (Or.inl ⟨by rfl, ?_⟩) ?_ ?_; rotate_left; intro w'; go_simp; with_reducible rfl; rotate_left; simp only [Own.ps]; rfl
      refine pure_ (i := 12) (N := some 33) (v := ?_) (a' := ?_) (Own.fl 16 6143) rfl rfl (any_of HT_.out (by kernel_rfl)) (fun _ _ _ h => h) (Or.inl ⟨by rfl, ?_⟩) ?_ ?_; rotate_left; intro w'; go_simp; with_reducible rfl; rotate_left; simp only [Own.ps]; rfl
      refine take_ (i := 11) (N := some 32) (v := ?_) (a' := ?_) (Own.fl 16 8191) rfl rfl (take_ofW HT_.out HW_.out (by kernel_rfl)) (fun _ _ _ h => h) (Or.inl ⟨by rfl, ?_⟩) hHeld ?_ ?_; rotate_left; rintro w' ⟨s0, s1, s2, s3, s4, s5, s6, s7, s8, s9, s10, s11, s12, s13⟩; go_simp; with_reducible rfl; rotate_left; simp only [Own.ps]; rfl
      refine one_ (i := 13) (N := some 34) (Own.fl 16 16383) rfl rfl (one_of HT_.out (by kernel_rfl)) (by decide) (fun K hK => ?_)
      refine goes_ Tryz.func32 (by kernel_rfl) rfl #[.agg #[.slice A0_0 l0_0.length c0_0, .slice (some ad230) l0_1.length c0_1], .int .i64 x3_2] (by rfl) rfl rfl Own.ha ?_
      with_reducible refine (spec_l6Clause.calls k2 _ _ l0_0 _ _ l0_1 x3_2 false _ ?side1 ?side2 ?side3 ?side4 A15.out).mono ?_
      (case side1 => exact Kd.C_below HR0_0.out Own.bl)
      (case side2 => exact HC0_0.out)
      (case side3 => exact Kd.C_below HR0_1.out Own.bl)
      (case side4 => exact HC0_1.out)
      rintro e w24 ⟨rfl, hb⟩
      refine ⟨_, rfl, ?_⟩
      have n0_ := Own.bb BK224.out hb; have n1_ := Own.bs hb; clear BK224; clear HB; have BK224 := n0_; have HB := n1_; clear n0_ n1_
      (try clear hb)
      (try clear hb2)
      (try clear hk)
      (try clear hi)
      refine hK.out _ _ ⟨(blk_cell BK224.out 0).trans rfl, (blk_cell BK224.out 1).trans rfl, (Own.up HB.out hw230_0), (Own.up HB.out hw230_1), (Own.up HB.out hw230_2), (Own.up HB.out hw230_3), (Own.up HB.out hw230_4), (Own.up HB.out hw230_5), (Own.up HB.out hw230_6), (Own.up HB.out hw230_7), (Own.up HB.out hw230_8), (Own.up HB.out hw230_9), (Own.up HB.out hw230_10), (Own.up HB.out hw230_11)⟩ (fun hHeld => ?_)
      clear hK K; refine norm_ (a' := ?_) ?_ ?_; rotate_left; show Act.put _ (some 34) _ = _; simp only [Own.ps]; rfl
      refine pure_ (i := 14) (N := some 35) (v := ?_) (a' := ?_) (Own.fl 16 32767) rfl rfl (any_of HT_.out (by kernel_rfl)) (fun _ _ _ h => h) (Or.inl ⟨by rfl, ?_⟩) ?_ ?_; rotate_left; intro w'; go_simp; with_reducible rfl; rotate_left; simp only [Own.ps]; rfl
      refine pure_ (i := 15) (N := some 36) (v := ?_) (a' := ?_) (Own.fl 16 65535) rfl rfl (any_of HT_.out (by kernel_rfl)) (fun _ _ _ h => h) (Or.inl ⟨by rfl, ?_⟩) ?_ ?_; rotate_left; intro w'; go_simp; with_reducible rfl; rotate_left; simp only [Own.ps]; rfl
      refine done_ (done_of HT_.out (by kernel_rfl)) ?_
      try go_wp2
      go_ret
      exact ⟨Own.rr, Own.bl⟩
     have H' := Aside0.mk H; clear H; obtain ⟨z17_0, z17_1, y17_0, y17_1⟩ := Own.box2 BK224.out
     try go_wp2
     have n0_ := Aside0.mk (blk_drew BK224.out)
     have n1_ := Aside0.mk (below_drew1 HB.out)
     clear BK224; clear HB; have BK224 := n0_; have HB := n1_; clear n0_ n1_
     have p230 : 0 ≤ (x3_2 : Int) := Own.dp
     have q230 : x3_2 < (l0_1.length : Int) := Own.dp
     obtain ⟨ad230, A230_9, c230_9, e230, hx230_0, hx230_1, hx230_2, hx230_3, hx230_4, hx230_5, hx230_6, hx230_7, hx230_8, hx230_9, hx230_10, hx230_11, hl230_9, hi230_9⟩ := at_T51 HR0_1.out x3_2 p230 q230; have hw230_11 := hx230_11; have hw230_10 := hx230_10; have hw230_9 := hx230_9; have hw230_8 := hx230_8; have hw230_7 := hx230_7; have hw230_6 := hx230_6; have hw230_5 := hx230_5; have hw230_4 := hx230_4; have hw230_3 := hx230_3; have hw230_2 := hx230_2; have hw230_1 := hx230_1; have hw230_0 := hx230_0; cases e230; replace hx230_0 := Own.up HB.out hx230_0; replace hx230_1 := Own.up HB.out hx230_1; replace hx230_2 := Own.up HB.out hx230_2; replace hx230_3 := Own.up HB.out hx230_3; replace hx230_4 := Own.up HB.out hx230_4; replace hx230_5 := Own.up HB.out hx230_5; replace hx230_6 := Own.up HB.out hx230_6; replace hx230_7 := Own.up HB.out hx230_7; replace hx230_8 := Own.up HB.out hx230_8; replace hx230_9 := Own.up HB.out hx230_9; replace hx230_10 := Own.up HB.out hx230_10; replace hx230_11 := Own.up HB.out hx230_11; have HR230_9 := Aside0.mk hi230_9; have HC230_9 := Aside0.mk hl230_9; clear hi230_9 hl230_9; replace p230 := eq_true p230; replace q230 := eq_true q230
     refine start_ (n := 16) (S := fun w' => w'.cell? ⟨gb224, 0, none⟩ = some (.slice A0_0 l0_0.length c0_0) ∧ w'.cell? ⟨gb224, 1, none⟩ = some (.slice (some ad230) l0_1.length c0_1) ∧ w'.cell? (ad230.add ((x3_2).toNat * 12)) = some (.string ((rd_T51 l0_1 x3_2).f0)) ∧ w'.cell? ⟨(ad230.add ((x3_2).toNat * 12)).block, (ad230.add ((x3_2).toNat * 12)).off + 1, none⟩ = some (.int .i64 ((rd_T51 l0_1 x3_2).f1)) ∧ w'.cell? ⟨(ad230.add ((x3_2).toNat * 12)).block, (ad230.add ((x3_2).toNat * 12)).off + 2, none⟩ = some (.int .i64 ((rd_T51 l0_1 x3_2).f2)) ∧ w'.cell? ⟨(ad230.add ((x3_2).toNat * 12)).block, (ad230.add ((x3_2).toNat * 12)).off + 3, none⟩ = some (.string ((rd_T51 l0_1 x3_2).f3)) ∧ w'.cell? ⟨(ad230.add ((x3_2).toNat * 12)).block, (ad230.add ((x3_2).toNat * 12)).off + 4, none⟩ = some (.int .i64 ((rd_T51 l0_1 x3_2).f4)) ∧ w'.cell? ⟨(ad230.add ((x3_2).toNat * 12)).block, (ad230.add ((x3_2).toNat * 12)).off + 5, none⟩ = some (.int .i64 ((rd_T51 l0_1 x3_2).f5)) ∧ w'.cell? ⟨(ad230.add ((x3_2).toNat * 12)).block, (ad230.add ((x3_2).toNat * 12)).off + 6, none⟩ = some (.int .i64 ((rd_T51 l0_1 x3_2).f6.f0)) ∧ w'.cell? ⟨(ad230.add ((x3_2).toNat * 12)).block, (ad230.add ((x3_2).toNat * 12)).off + 7, none⟩ = some (.string ((rd_T51 l0_1 x3_2).f6.f1)) ∧ w'.cell? ⟨(ad230.add ((x3_2).toNat * 12)).block, (ad230.add ((x3_2).toNat * 12)).off + 8, none⟩ = some (.int .i64 ((rd_T51 l0_1 x3_2).f6.f2)) ∧ w'.cell? ⟨(ad230.add ((x3_2).toNat * 12)).block, (ad230.add ((x3_2).toNat * 12)).off + 9, none⟩ = some (.slice A230_9 ((rd_T51 l0_1 x3_2).f6.f3).length c230_9) ∧ w'.cell? ⟨(ad230.add ((x3_2).toNat * 12)).block, (ad230.add ((x3_2).toNat * 12)).off + 10, none⟩ = some (.int .i64 ((rd_T51 l0_1 x3_2).f7)) ∧ w'.cell? ⟨(ad230.add ((x3_2).toNat * 12)).block, (ad230.add ((x3_2).toNat * 12)).off + 11, none⟩ = some (.string ((rd_T51 l0_1 x3_2).f8))) (ds := []) (Own.fl 16 0) (by kernel_rfl) rfl rfl ⟨(blk_cell BK224.out 0).trans rfl, (blk_cell BK224.out 1).trans rfl, (Own.up HB.out hw230_0), (Own.up HB.out hw230_1), (Own.up HB.out hw230_2), (Own.up HB.out hw230_3), (Own.up HB.out hw230_4), (Own.up HB.out hw230_5), (Own.up HB.out hw230_6), (Own.up HB.out hw230_7), (Own.up HB.out hw230_8), (Own.up HB.out hw230_9), (Own.up HB.out hw230_10), (Own.up HB.out hw230_11)⟩ (fun hHeld => ?_); refine with_tabW spec_l6Good.tab6 spec_l6Good.bits6 (fun HT_ HW_ => ?_)
     generalize wr.drew = w18 at BK224 HB HR230_9 hx230_0 hx230_1 hx230_10 hx230_11 hx230_2 hx230_3 hx230_4 hx230_5 hx230_6 hx230_7 hx230_8 hx230_9 hHeld ⊢
     refine pure_ (i := 1) (N := some 22) (v := ?_) (a' := ?_) (Own.fl 16 2) rfl rfl (any_of HT_.out (by kernel_rfl)) (fun _ _ _ h => h) (Or.inl ⟨by rfl, ?_⟩) ?_ ?_; rotate_left; intro w'; go_simp; with_reducible rfl; rotate_left; simp only [Own.ps]; rfl
     refine pure_ (i := 3) (N := some 24) (v := ?_) (a' := ?_) (Own.fl 16 10) rfl rfl (any_of HT_.out (by kernel_rfl)) (fun _ _ _ h => h) (Or.inl ⟨by rfl, ?_⟩) ?_ ?_; rotate_left; intro w'; go_simp; with_reducible rfl; rotate_left; simp only [Own.ps]; rfl
     refine pure_ (i := 8) (N := some 29) (v := ?_) (a' := ?_) (Own.fl 16 266) rfl rfl (any_of HT_.out (by kernel_rfl)) (fun _ _ _ h => h) (Or.inl ⟨by rfl, ?_⟩) ?_ ?_; rotate_left; intro w'; go_simp; with_reducible rfl; rotate_left; simp only [Own.ps]; rfl
     refine take_ (i := 0) (N := some 21) (v := ?_) (a' := ?_) (Own.fl 16 267) rfl rfl (take_ofW HT_.out HW_.out (by kernel_rfl)) (fun _ _ _ h => h) (Or.inl ⟨by rfl, ?_⟩) hHeld ?_ ?_; rotate_left; rintro w' ⟨s0, s1, s2, s3, s4, s5, s6, s7, s8, s9, s10, s11, s12, s13⟩; go_simp; with_reducible rfl; rotate_left; simp only [Own.ps]; rfl
     refine take_ (i := 2) (N := some 23) (v := ?_) (a' := ?_) (Own.fl 16 271) rfl rfl (take_ofW HT_.out HW_.out (by kernel_rfl)) (fun _ _ _ h => h) (Or.inl ⟨by rfl, ?_⟩) hHeld ?_ ?_; rotate_left; rintro w' ⟨s0, s1, s2, s3, s4, s5, s6, s7, s8, s9, s10, s11, s12, s13⟩; go_simp; with_reducible rfl; rotate_left; simp only [Own.ps]; rfl
     refine pure_ (i := 4) (N := some 25) (v := ?_) (a' := ?_) (Own.fl 16 287) rfl rfl (any_of HT_.out (by kernel_rfl)) (fun _ _ _ h => h) (Or.inl ⟨by rfl, ?_⟩) ?_ ?_; rotate_left; intro w'; go_simp; with_reducible rfl; rotate_left; simp only [Own.ps]; rfl
     refine pure_ (i := 5) (N := some 26) (v := ?_) (a' := ?_) (Own.fl 16 319) rfl rfl (any_of HT_.out (by kernel_rfl)) (fun _ _ _ h => h) (Or.inl ⟨by rfl, ?_⟩) ?_ ?_; rotate_left; intro w'; go_simp; with_reducible rfl; rotate_left; simp only [Own.ps]; rfl
     refine take_ (i := 6) (N := some 27) (v := ?_) (a' := ?_) (Own.fl 16 383) rfl rfl (take_ofW HT_.out HW_.out (by kernel_rfl)) (fun _ _ _ h => h) (Or.inl ⟨by rfl, ?_⟩) hHeld ?_ ?_; rotate_left; rintro w' ⟨s0, s1, s2, s3, s4, s5, s6, s7, s8, s9, s10, s11, s12, s13⟩; go_simp; with_reducible rfl; rotate_left; simp only [Own.ps]; rfl
     refine one_ (i := 7) (N := some 28) (Own.fl 16 511) rfl rfl (one_of HT_.out (by kernel_rfl)) (by decide) (fun K hK => ?_)
     refine goes_ Tryz.func13 (by kernel_rfl) rfl #[.agg #[.slice A0_0 l0_0.length c0_0, .slice (some ad230) l0_1.length c0_1], .string ((rd_T51 l0_1 x3_2).f0)] (by rfl) rfl rfl Own.ha ?_
     with_reducible refine (spec_l6Find.calls k2 _ _ l0_0 _ _ l0_1 ((rd_T51 l0_1 x3_2).f0) t231 _ ?side1 ?side2 ?side3 ?side4 A13.out).mono ?_
     (case side1 => exact Kd.C_below HR0_0.out Own.bl)
     (case side2 => exact HC0_0.out)
     (case side3 => exact Kd.C_below HR0_1.out Own.bl)
     (case side4 => exact HC0_1.out)
     rintro e w19 ⟨rfl, hb⟩
     refine ⟨_, rfl, ?_⟩
     have n0_ := Own.bb BK224.out hb; have n1_ := Own.bs hb; clear BK224; clear HB; have BK224 := n0_; have HB := n1_; clear n0_ n1_
     (try clear hb)
     (try clear hb2)
     (try clear hk)
     (try clear hi)
     refine hK.out _ _ ⟨(blk_cell BK224.out 0).trans rfl, (blk_cell BK224.out 1).trans rfl, (Own.up HB.out hw230_0), (Own.up HB.out hw230_1), (Own.up HB.out hw230_2), (Own.up HB.out hw230_3), (Own.up HB.out hw230_4), (Own.up HB.out hw230_5), (Own.up HB.out hw230_6), (Own.up HB.out hw230_7), (Own.up HB.out hw230_8), (Own.up HB.out hw230_9), (Own.up HB.out hw230_10), (Own.up HB.out hw230_11)⟩ (fun hHeld => ?_)
     clear hK K; refine norm_ (a' := ?_) ?_ ?_; rotate_left; show Act.put _ (some 28) _ = _; simp only [Own.ps]; rfl
     refine pure_ (i := 9) (N := some 30) (v := ?_) (a' := ?_) (Own.fl 16 1023) rfl rfl (any_of HT_.out (by kernel_rfl)) (fun _ _ _ h => h) (Or.inl ⟨by rfl, ?_⟩) ?_ ?_; rotate_left; intro w'; go_simp; with_reducible rfl; rotate_left; simp only [Own.ps]; rfl
     refine pure_ (i := 10) (N := some 31) (v := ?_) (a' := ?_) (Own.fl 16 2047) rfl rfl (any_of HT_.out (by kernel_rfl)) (fun _ _ _ h => h) (Or.inl ⟨by rfl, ?_⟩) ?_ ?_; rotate_left; intro w'; go_simp; with_reducible rfl; rotate_left; simp only [Own.ps]; rfl
     refine pure_ (i := 12) (N := some 33) (v := ?_) (a' := ?_) (Own.fl 16 6143) rfl rfl (any_of HT_.out (by kernel_rfl)) (fun _ _ _ h => h) (Or.inl ⟨by rfl, ?_⟩) ?_ ?_; rotate_left; intro w'; go_simp; with_reducible rfl; rotate_left; simp only [Own.ps]; rfl
     refine take_ (i := 11) (N := some 32) (v := ?_) (a' := ?_) (Own.fl 16 8191) rfl rfl (take_ofW HT_.out HW_.out (by kernel_rfl)) (fun _ _ _ h => h) (Or.inl ⟨by rfl, ?_⟩) hHeld ?_ ?_; rotate_left; rintro w' ⟨s0, s1, s2, s3, s4, s5, s6, s7, s8, s9, s10, s11, s12, s13⟩; go_simp; with_reducible rfl; rotate_left; simp only [Own.ps]; rfl
     refine one_ (i := 13) (N := some 34) (Own.fl 16 16383) rfl rfl (one_of HT_.out (by kernel_rfl)) (by decide) (fun K hK => ?_)
     refine goes_ Tryz.func32 (by kernel_rfl) rfl #[.agg #[.slice A0_0 l0_0.length c0_0, .slice (some ad230) l0_1.length c0_1], .int .i64 x3_2] (by rfl) rfl rfl Own.ha ?_
     with_reducible refine (spec_l6Clause.calls k2 _ _ l0_0 _ _ l0_1 x3_2 true _ ?side1 ?side2 ?side3 ?side4 A15.out).mono ?_
     (case side1 => exact Kd.C_below HR0_0.out Own.bl)
     (case side2 => exact HC0_0.out)
     (case side3 => exact Kd.C_below HR0_1.out Own.bl)
     (case side4 => exact HC0_1.out)
     rintro e w20 ⟨rfl, hb⟩
     refine ⟨_, rfl, ?_⟩
     have n0_ := Own.bb BK224.out hb; have n1_ := Own.bs hb; clear BK224; clear HB; have BK224 := n0_; have HB := n1_; clear n0_ n1_
     (try clear hb)
     (try clear hb2)
     (try clear hk)
     (try clear hi)
     refine hK.out _ _ ⟨(blk_cell BK224.out 0).trans rfl, (blk_cell BK224.out 1).trans rfl, (Own.up HB.out hw230_0), (Own.up HB.out hw230_1), (Own.up HB.out hw230_2), (Own.up HB.out hw230_3), (Own.up HB.out hw230_4), (Own.up HB.out hw230_5), (Own.up HB.out hw230_6), (Own.up HB.out hw230_7), (Own.up HB.out hw230_8), (Own.up HB.out hw230_9), (Own.up HB.out hw230_10), (Own.up HB.out hw230_11)⟩ (fun hHeld => ?_)
     clear hK K; refine norm_ (a' := ?_) ?_ ?_; rotate_left; show Act.put _ (some 34) _ = _; simp only [Own.ps]; rfl
     refine pure_ (i := 14) (N := some 35) (v := ?_) (a' := ?_) (Own.fl 16 32767) rfl rfl (any_of HT_.out (by kernel_rfl)) (fun _ _ _ h => h) (Or.inl ⟨by rfl, ?_⟩) ?_ ?_; rotate_left; intro w'; go_simp; with_reducible rfl; rotate_left; simp only [Own.ps]; rfl
     refine pure_ (i := 15) (N := some 36) (v := ?_) (a' := ?_) (Own.fl 16 65535) rfl rfl (any_of HT_.out (by kernel_rfl)) (fun _ _ _ h => h) (Or.inl ⟨by rfl, ?_⟩) ?_ ?_; rotate_left; intro w'; go_simp; with_reducible rfl; rotate_left; simp only [Own.ps]; rfl
     refine done_ (done_of HT_.out (by kernel_rfl)) ?_
     try go_wp2
     go_roundg k2
     case measure => have := HJ1.out; have := HK2.out; omega
     case rel => exact ⟨(wrap64 (x3_2 + 1)), Own.rs, H', ⟨by have := HJ1.out; have := HK2.out; omega⟩, ⟨Own.bk⟩, ⟨Own.bl⟩⟩
end Go.Proofs.YtckopglnblcnoaaGreatDoor.QFnExactRemoveClause
