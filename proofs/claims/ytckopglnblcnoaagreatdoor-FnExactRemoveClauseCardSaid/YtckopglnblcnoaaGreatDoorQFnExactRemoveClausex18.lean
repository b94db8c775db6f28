-- Written by a program of this session out of the translation; Lean checks it.
import Derived.Test.YtckopglnblcnoaaGreatDoorQFnExactRemoveClausex16
import Derived.Test.YtckopglnblcnoaaGreatDoorQFnExactRemoveClausex17
namespace Go.Proofs.YtckopglnblcnoaaGreatDoor.QFnExactRemoveClause
open Go.RowKit Go.Proofs.YtckopglnblcnoaaGreatDoorW.PrintWords Go.Proofs.YtckopglnblcnoaaGreatDoorW.PrintLast
attribute [local go_sem] Instr.field asAgg
set_option linter.unusedVariables false
set_option linter.unusedSimpArgs false
/-! ### laws_eqClauseS: function 24 -/
def laws_eqClauseS.l0 : Nat → List (S51) → List (S51) → Int → Option (Bool)
 | 0, _, _, _ => none
 | k + 1, x0, x1, x5 => if x5 < (x0.length : Int) then (if 0 ≤ x5 then (if x5 < (x1.length : Int) then ((laws_eqClause.f k ((rd_T51 x0 x5).f0) ((rd_T51 x0 x5).f1) ((rd_T51 x0 x5).f2) ((rd_T51 x0 x5).f3) ((rd_T51 x0 x5).f4) ((rd_T51 x0 x5).f5) ((rd_T51 x0 x5).f6.f0) ((rd_T51 x0 x5).f6.f1) ((rd_T51 x0 x5).f6.f2) ((rd_T51 x0 x5).f6.f3) ((rd_T51 x0 x5).f7) ((rd_T51 x0 x5).f8) ((rd_T51 x1 x5).f0) ((rd_T51 x1 x5).f1) ((rd_T51 x1 x5).f2) ((rd_T51 x1 x5).f3) ((rd_T51 x1 x5).f4) ((rd_T51 x1 x5).f5) ((rd_T51 x1 x5).f6.f0) ((rd_T51 x1 x5).f6.f1) ((rd_T51 x1 x5).f6.f2) ((rd_T51 x1 x5).f6.f3) ((rd_T51 x1 x5).f7) ((rd_T51 x1 x5).f8)).bind fun t470 => (if t470 = true then (laws_eqClauseS.l0 k x0 x1 (wrap64 (x5 + 1))) else (some false))) else (none)) else (none)) else (some true)
def laws_eqClauseS.f (k : Nat) (l0 : List (S51)) (l1 : List (S51)) : Option (Bool) := if (l0.length : Int) = (l1.length : Int) then (laws_eqClauseS.l0 k l0 l1 0) else (some false)
def laws_eqClauseS.T6 : Bool × List (List Nat × List Nat) := (true, [([], []), ([], []), ([0, 1], [0, 1]), ([2], [2]), ([], []), ([], []), ([4, 5], [4, 5]), ([6], [6]), ([3, 7], [3, 7]), ([8], [8])])
def laws_eqClauseS.B6 : List Nat := [0, 0, 3, 7, 0, 0, 48, 112, 255, 511]
theorem laws_eqClauseS.tab6 : rtab .any (opsOf Tryz.f24 6) = laws_eqClauseS.T6 := by kernel_rfl
theorem laws_eqClauseS.bits6 : waitsOk laws_eqClauseS.T6.2 laws_eqClauseS.B6 = true := by kernel_rfl
set_option maxHeartbeats 8000000 in
set_option maxRecDepth 100000 in
theorem laws_eqClauseS.calls (k : Nat) (A0 : Option Addr) (c0 : Nat) (l0 : List (S51)) (A1 : Option Addr) (c1 : Nat) (l1 : List (S51)) (r : Bool) (w : World) (hr0 : Kd.C k51 w A0 l0.length l0) (hc0 : l0.length ≤ c0) (hr1 : Kd.C k51 w A1 l1.length l1) (hc1 : l1.length ≤ c1) (h : laws_eqClauseS.f k l0 l1 = some r) :
  Calls Tryz.prog 24 #[.slice A0 l0.length c0, .slice A1 l1.length c1] w fun e w' => e = .returned (.bool r) ∧ Below w.heap.size w w' := by
 have hu51 := Tryz.underlying51
 have HR0 := Aside0.mk hr0
 have HC0 := Aside0.mk hc0
 clear hr0 hc0
 have HR1 := Aside0.mk hr1
 have HC1 := Aside0.mk hc1
 clear hr1 hc1
 have HB := Aside0.mk (Below.refl w.heap.size w)
 have H : (if (l0.length : Int) = (l1.length : Int) then (laws_eqClauseS.l0 k l0 l1 0) else (some false)) = some r := h
 clear h
 by_cases c3 : (l0.length : Int) = (l1.length : Int)
 rotate_left
 ·
  rw [if_neg c3] at H
  have c3b0 : ((l0.length : Int) == (l1.length : Int)) = false := beq_eq_false_iff_ne.mpr c3
  have c3b1 : ((l0.length : Int) != (l1.length : Int)) = true := bne_iff_ne.mpr c3
  have c3b2 : (l0.length == l1.length) = false := by first | simpa using c3 | (simp at c3 ⊢; omega)
  obtain rfl := Option.some.inj H
  go_enter Tryz.func24, Tryz.ntmps24
  go_wp2
  go_ret
  exact ⟨Own.rr, Own.bl⟩
 rw [if_pos c3] at H
 have c3b0 : ((l0.length : Int) == (l1.length : Int)) = true := beq_iff_eq.mpr c3
 have c3b1 : ((l0.length : Int) != (l1.length : Int)) = false := bne_eq_false_iff_eq.mpr c3
 have c3b2 : (l0.length == l1.length) = true := by first | simpa using c3 | (simp at c3 ⊢; omega)
 clear c3
 have H' := Aside0.mk H
 clear H
 go_enter Tryz.func24, Tryz.ntmps24
 go_wp2
 go_loopg [5] k (fun kq v5 w' => ∃ (x5_1 : Int), v5 = .int .i64 x5_1 ∧ Aside0 (laws_eqClauseS.l0 kq l0 l1 x5_1 = some r) ∧ Aside0 (kq ≤ k) ∧ Aside0 (Below w.heap.size w w'))
 case atStart => exact ⟨(0), Own.rs, H', ⟨Nat.le_refl _⟩, ⟨Own.bl⟩⟩
 case round =>
  clear H'; try clear c3; try clear c3b0; try clear c3b1; try clear c3b2
  obtain ⟨x5_1, rfl, HA, HK1, HB⟩ := hrel
  cases gk with
  | zero => exact absurd HA.out (by simp [laws_eqClauseS.l0])
  | succ k1 =>
   have H := HA.out; clear HA
   simp only [laws_eqClauseS.l0] at H
   by_cases c4 : x5_1 < (l0.length : Int)
   rotate_left
   ·
    rw [if_neg c4] at H; replace c4 := decide_eq_false c4; obtain rfl := Option.some.inj H
    go_wp2
    go_ret
    exact ⟨Own.rr, Own.bl⟩
   rw [if_pos c4] at H; replace c4 := decide_eq_true c4
   replace H := Own.ifd H; obtain ⟨c5, H⟩ := H
   replace H := Own.ifd H; obtain ⟨c6, H⟩ := H
   replace H := Own.bd H; obtain ⟨t470, A7, H⟩ := H
   replace H := Own.ift H; obtain ⟨rfl, H⟩ | ⟨rfl, H⟩ := H
   ·
    obtain rfl := Option.some.inj H
    try go_wp2
    have n0_ := Aside0.mk (below_drew1 HB.out)
    clear HB; have HB := n0_; clear n0_
    have p468 : 0 ≤ (x5_1 : Int) := Own.dp
    have q468 : x5_1 < (l0.length : Int) := Own.dp
    obtain ⟨ad468, A468_9, c468_9, e468, hx468_0, hx468_1, hx468_2, hx468_3, hx468_4, hx468_5, hx468_6, hx468_7, hx468_8, hx468_9, hx468_10, hx468_11, hl468_9, hi468_9⟩ := at_T51 HR0.out x5_1 p468 q468; have hw468_11 := hx468_11; have hw468_10 := hx468_10; have hw468_9 := hx468_9; have hw468_8 := hx468_8; have hw468_7 := hx468_7; have hw468_6 := hx468_6; have hw468_5 := hx468_5; have hw468_4 := hx468_4; have hw468_3 := hx468_3; have hw468_2 := hx468_2; have hw468_1 := hx468_1; have hw468_0 := hx468_0; cases e468; replace hx468_0 := Own.up HB.out hx468_0; replace hx468_1 := Own.up HB.out hx468_1; replace hx468_2 := Own.up HB.out hx468_2; replace hx468_3 := Own.up HB.out hx468_3; replace hx468_4 := Own.up HB.out hx468_4; replace hx468_5 := Own.up HB.out hx468_5; replace hx468_6 := Own.up HB.out hx468_6; replace hx468_7 := Own.up HB.out hx468_7; replace hx468_8 := Own.up HB.out hx468_8; replace hx468_9 := Own.up HB.out hx468_9; replace hx468_10 := Own.up HB.out hx468_10; replace hx468_11 := Own.up HB.out hx468_11; have HR468_9 := Aside0.mk hi468_9; have HC468_9 := Aside0.mk hl468_9; clear hi468_9 hl468_9; replace p468 := eq_true p468; replace q468 := eq_true q468
    have p469 : 0 ≤ (x5_1 : Int) := Own.dp
    have q469 : x5_1 < (l1.length : Int) := Own.dp
    obtain ⟨ad469, A469_9, c469_9, e469, hx469_0, hx469_1, hx469_2, hx469_3, hx469_4, hx469_5, hx469_6, hx469_7, hx469_8, hx469_9, hx469_10, hx469_11, hl469_9, hi469_9⟩ := at_T51 HR1.out x5_1 p469 q469; have hw469_11 := hx469_11; have hw469_10 := hx469_10; have hw469_9 := hx469_9; have hw469_8 := hx469_8; have hw469_7 := hx469_7; have hw469_6 := hx469_6; have hw469_5 := hx469_5; have hw469_4 := hx469_4; have hw469_3 := hx469_3; have hw469_2 := hx469_2; have hw469_1 := hx469_1; have hw469_0 := hx469_0; cases e469; replace hx469_0 := Own.up HB.out hx469_0; replace hx469_1 := Own.up HB.out hx469_1; replace hx469_2 := Own.up HB.out hx469_2; replace hx469_3 := Own.up HB.out hx469_3; replace hx469_4 := Own.up HB.out hx469_4; replace hx469_5 := Own.up HB.out hx469_5; replace hx469_6 := Own.up HB.out hx469_6; replace hx469_7 := Own.up HB.out hx469_7; replace hx469_8 := Own.up HB.out hx469_8; replace hx469_9 := Own.up HB.out hx469_9; replace hx469_10 := Own.up HB.out hx469_10; replace hx469_11 := Own.up HB.out hx469_11; have HR469_9 := Aside0.mk hi469_9; have HC469_9 := Aside0.mk hl469_9; clear hi469_9 hl469_9; replace p469 := eq_true p469; replace q469 := eq_true q469
    refine start_ (n := 10) (S := fun w' => w'.cell? (ad468.add ((x5_1).toNat * 12)) = some (.string ((rd_T51 l0 x5_1).f0)) ∧ w'.cell? ⟨(ad468.add ((x5_1).toNat * 12)).block, (ad468.add ((x5_1).toNat * 12)).off + 1, none⟩ = some (.int .i64 ((rd_T51 l0 x5_1).f1)) ∧ w'.cell? ⟨(ad468.add ((x5_1).toNat * 12)).block, (ad468.add ((x5_1).toNat * 12)).off + 2, none⟩ = some (.int .i64 ((rd_T51 l0 x5_1).f2)) ∧ w'.cell? ⟨(ad468.add ((x5_1).toNat * 12)).block, (ad468.add ((x5_1).toNat * 12)).off + 3, none⟩ = some (.string ((rd_T51 l0 x5_1).f3)) ∧ w'.cell? ⟨(ad468.add ((x5_1).toNat * 12)).block, (ad468.add ((x5_1).toNat * 12)).off + 4, none⟩ = some (.int .i64 ((rd_T51 l0 x5_1).f4)) ∧ w'.cell? ⟨(ad468.add ((x5_1).toNat * 12)).block, (ad468.add ((x5_1).toNat * 12)).off + 5, none⟩ = some (.int .i64 ((rd_T51 l0 x5_1).f5)) ∧ w'.cell? ⟨(ad468.add ((x5_1).toNat * 12)).block, (ad468.add ((x5_1).toNat * 12)).off + 6, none⟩ = some (.int .i64 ((rd_T51 l0 x5_1).f6.f0)) ∧ w'.cell? ⟨(ad468.add ((x5_1).toNat * 12)).block, (ad468.add ((x5_1).toNat * 12)).off + 7, none⟩ = some (.string ((rd_T51 l0 x5_1).f6.f1)) ∧ w'.cell? ⟨(ad468.add ((x5_1).toNat * 12)).block, (ad468.add ((x5_1).toNat * 12)).off + 8, none⟩ = some (.int .i64 ((rd_T51 l0 x5_1).f6.f2)) ∧ w'.cell? ⟨(ad468.add ((x5_1).toNat * 12)).block, (ad468.add ((x5_1).toNat * 12)).off + 9, none⟩ = some (.slice A468_9 ((rd_T51 l0 x5_1).f6.f3).length c468_9) ∧ w'.cell? ⟨(ad468.add ((x5_1).toNat * 12)).block, (ad468.add ((x5_1).toNat * 12)).off + 10, none⟩ = some (.int .i64 ((rd_T51 l0 x5_1).f7)) ∧ w'.cell? ⟨(ad468.add ((x5_1).toNat * 12)).block, (ad468.add ((x5_1).toNat * 12)).off + 11, none⟩ = some (.string ((rd_T51 l0 x5_1).f8)) ∧ w'.cell? (ad469.add ((x5_1).toNat * 12)) = some (.string ((rd_T51 l1 x5_1).f0)) ∧ w'.cell? ⟨(ad469.add ((x5_1).toNat * 12)).block, (ad469.add ((x5_1).toNat * 12)).off + 1, none⟩ = some (.int .i64 ((rd_T51 l1 x5_1).f1)) ∧ w'.cell? ⟨(ad469.add ((x5_1).toNat * 12)).block, (ad469.add ((x5_1).toNat * 12)).off + 2, none⟩ = some (.int .i64 ((rd_T51 l1 x5_1).f2)) ∧ w'.cell? ⟨(ad469.add ((x5_1).toNat * 12)).block, (ad469.add ((x5_1).toNat * 12)).off + 3, none⟩ = some (.string ((rd_T51 l1 x5_1).f3)) ∧ w'.cell? ⟨(ad469.add ((x5_1).toNat * 12)).block, (ad469.add ((x5_1).toNat * 12)).off + 4, none⟩ = some (.int .i64 ((rd_T51 l1 x5_1).f4)) ∧ w'.cell? ⟨(ad469.add ((x5_1).toNat * 12)).block, (ad469.add ((x5_1).toNat * 12)).off + 5, none⟩ = some (.int .i64 ((rd_T51 l1 x5_1).f5)) ∧ w'.cell? ⟨(ad469.add ((x5_1).toNat * 12)).block, (ad469.add ((x5_1).toNat * 12)).off + 6, none⟩ = some (.int .i64 ((rd_T51 l1 x5_1).f6.f0)) ∧ w'.cell? ⟨(ad469.add ((x5_1).toNat * 12)).block, (ad469.add ((x5_1).toNat * 12)).off + 7, none⟩ = some (.string ((rd_T51 l1 x5_1).f6.f1)) ∧ w'.cell? ⟨(ad469.add ((x5_1).toNat * 12)).block, (ad469.add ((x5_1).toNat * 12)).off + 8, none⟩ = some (.int .i64 ((rd_T51 l1 x5_1).f6.f2)) ∧ w'.cell? ⟨(ad469.add ((x5_1).toNat * 12)).block, (ad469.add ((x5_1).toNat * 12)).off + 9, none⟩ = some (.slice A469_9 ((rd_T51 l1 x5_1).f6.f3).length c469_9) ∧ w'.cell? ⟨(ad469.add ((x5_1).toNat * 12)).block, (ad469.add ((x5_1).toNat * 12)).off + 10, none⟩ = some (.int .i64 ((rd_T51 l1 x5_1).f7)) ∧ w'.cell? ⟨(ad469.add ((x5_1).toNat * 12)).block, (ad469.add ((x5_1).toNat * 12)).off + 11, none⟩ = some (.string ((rd_T51 l1 x5_1).f8))) (ds := []) (Own.fl 10 0) (by kernel_rfl) rfl rfl ⟨(Own.up HB.out hw468_0), (Own.up HB.out hw468_1), (Own.up HB.out hw468_2), (Own.up HB.out hw468_3), (Own.up HB.out hw468_4), (Own.up HB.out hw468_5), (Own.up HB.out hw468_6), (Own.up HB.out hw468_7), (Own.up HB.out hw468_8), (Own.up HB.out hw468_9), (Own.up HB.out hw468_10), (Own.up HB.out hw468_11), (Own.up HB.out hw469_0), (Own.up HB.out hw469_1), (Own.up HB.out hw469_2), (Own.up HB.out hw469_3), (Own.up HB.out hw469_4), (Own.up HB.out hw469_5), (Own.up HB.out hw469_6), (Own.up HB.out hw469_7), (Own.up HB.out hw469_8), (Own.up HB.out hw469_9), (Own.up HB.out hw469_10), (Own.up HB.out hw469_11)⟩ (fun hHeld => ?_); refine with_tabW laws_eqClauseS.tab6 laws_eqClauseS.bits6 (fun HT_ HW_ => ?_)
    generalize wr.drew = w11 at HB HR468_9 HR469_9 hx468_0 hx468_1 hx468_10 hx468_11 hx468_2 hx468_3 hx468_4 hx468_5 hx468_6 hx468_7 hx468_8 hx468_9 hx469_0 hx469_1 hx469_10 hx469_11 hx469_2 hx469_3 hx469_4 hx469_5 hx469_6 hx469_7 hx469_8 hx469_9 hHeld ⊢
    refine pure_ (i := 0) (N := some 17) (v := ?_) (a' := ?_) (Own.fl 10 1) rfl rfl (any_of HT_.out (by kernel_rfl)) (fun _ _ _ h => h) (Or.inl ⟨by rfl, ?_⟩) ?_ ?_; rotate_left; intro w'; go_simp; with_reducible rfl; rotate_left; simp only [Own.ps]; rfl
    refine pure_ (i := 1) (N := some 18) (v := ?_) (a' := ?_) (Own.fl 10 3) rfl rfl (any_of HT_.out (by kernel_rfl)) (fun _ _ _ h => h) (Or.inl ⟨by rfl, ?_⟩) ?_ ?_; rotate_left; intro w'; go_simp; with_reducible rfl; rotate_left; simp only [Own.ps]; rfl
    refine pure_ (i := 2) (N := some 19) (v := ?_) (a' := ?_) (Own.fl 10 7) rfl rfl (any_of HT_.out (by kernel_rfl)) (fun _ _ _ h => h) (Or.inl ⟨by rfl, ?_⟩) ?_ ?_; rotate_left; intro w'; go_simp; with_reducible rfl; rotate_left; simp only [Own.ps]; rfl
    refine pure_ (i := 4) (N := some 21) (v := ?_) (a' := ?_) (Own.fl 10 23) rfl rfl (any_of HT_.out (by kernel_rfl)) (fun _ _ _ h => h) (Or.inl ⟨by rfl, ?_⟩) ?_ ?_; rotate_left; intro w'; go_simp; with_reducible rfl; rotate_left; simp only [Own.ps]; rfl
    refine pure_ (i := 5) (N := some 22) (v := ?_) (a' := ?_) (Own.fl 10 55) rfl rfl (any_of HT_.out (by kernel_rfl)) (fun _ _ _ h => h) (Or.inl ⟨by rfl, ?_⟩) ?_ ?_; rotate_left; intro w'; go_simp; with_reducible rfl; rotate_left; simp only [Own.ps]; rfl
    refine pure_ (i := 6) (N := some 23) (v := ?_) (a' := ?_) (Own.fl 10 119) rfl rfl (any_of HT_.out (by kernel_rfl)) (fun _ _ _ h => h) (Or.inl ⟨by rfl, ?_⟩) ?_ ?_; rotate_left; intro w'; go_simp; with_reducible rfl; rotate_left; simp only [Own.ps]; rfl
    refine take_ (i := 3) (N := some 20) (v := ?_) (a' := ?_) (Own.fl 10 127) rfl rfl (take_ofW HT_.out HW_.out (by kernel_rfl)) (fun _ _ _ h => h) (Or.inl ⟨by rfl, ?_⟩) hHeld ?_ ?_; rotate_left; rintro w' ⟨s0, s1, s2, s3, s4, s5, s6, s7, s8, s9, s10, s11, s12, s13, s14, s15, s16, s17, s18, s19, s20, s21, s22, s23⟩; go_simp; with_reducible rfl; rotate_left; simp only [Own.ps]; rfl
    refine take_ (i := 7) (N := some 24) (v := ?_) (a' := ?_) (Own.fl 10 255) rfl rfl (take_ofW HT_.out HW_.out (by kernel_rfl)) (fun _ _ _ h => h) (Or.inl ⟨by rfl, ?_⟩) hHeld ?_ ?_; rotate_left; rintro w' ⟨s0, s1, s2, s3, s4, s5, s6, s7, s8, s9, s10, s11, s12, s13, s14, s15, s16, s17, s18, s19, s20, s21, s22, s23⟩; go_simp; with_reducible rfl; rotate_left; simp only [Own.ps]; rfl
    refine one_ (i := 8) (N := some 25) (Own.fl 10 511) rfl rfl (one_of HT_.out (by kernel_rfl)) (by decide) (fun K hK => ?_)
    refine goes_ Tryz.func42 (by kernel_rfl) rfl #[.agg #[.string ((rd_T51 l0 x5_1).f0), .int .i64 ((rd_T51 l0 x5_1).f1), .int .i64 ((rd_T51 l0 x5_1).f2), .string ((rd_T51 l0 x5_1).f3), .int .i64 ((rd_T51 l0 x5_1).f4), .int .i64 ((rd_T51 l0 x5_1).f5), .int .i64 ((rd_T51 l0 x5_1).f6.f0), .string ((rd_T51 l0 x5_1).f6.f1), .int .i64 ((rd_T51 l0 x5_1).f6.f2), .slice A468_9 ((rd_T51 l0 x5_1).f6.f3).length c468_9, .int .i64 ((rd_T51 l0 x5_1).f7), .string ((rd_T51 l0 x5_1).f8)], .agg #[.string ((rd_T51 l1 x5_1).f0), .int .i64 ((rd_T51 l1 x5_1).f1), .int .i64 ((rd_T51 l1 x5_1).f2), .string ((rd_T51 l1 x5_1).f3), .int .i64 ((rd_T51 l1 x5_1).f4), .int .i64 ((rd_T51 l1 x5_1).f5), .int .i64 ((rd_T51 l1 x5_1).f6.f0), .string ((rd_T51 l1 x5_1).f6.f1), .int .i64 ((rd_T51 l1 x5_1).f6.f2), .slice A469_9 ((rd_T51 l1 x5_1).f6.f3).length c469_9, .int .i64 ((rd_T51 l1 x5_1).f7), .string ((rd_T51 l1 x5_1).f8)]] (by rfl) rfl rfl Own.ha ?_
    with_reducible refine (laws_eqClause.calls k1 ((rd_T51 l0 x5_1).f0) ((rd_T51 l0 x5_1).f1) ((rd_T51 l0 x5_1).f2) ((rd_T51 l0 x5_1).f3) ((rd_T51 l0 x5_1).f4) ((rd_T51 l0 x5_1).f5) ((rd_T51 l0 x5_1).f6.f0) ((rd_T51 l0 x5_1).f6.f1) ((rd_T51 l0 x5_1).f6.f2) _ _ ((rd_T51 l0 x5_1).f6.f3) ((rd_T51 l0 x5_1).f7) ((rd_T51 l0 x5_1).f8) ((rd_T51 l1 x5_1).f0) ((rd_T51 l1 x5_1).f1) ((rd_T51 l1 x5_1).f2) ((rd_T51 l1 x5_1).f3) ((rd_T51 l1 x5_1).f4) ((rd_T51 l1 x5_1).f5) ((rd_T51 l1 x5_1).f6.f0) ((rd_T51 l1 x5_1).f6.f1) ((rd_T51 l1 x5_1).f6.f2) _ _ ((rd_T51 l1 x5_1).f6.f3) ((rd_T51 l1 x5_1).f7) ((rd_T51 l1 x5_1).f8) false _ ?side1 ?side2 ?side3 ?side4 A7.out).mono ?_
    (case side1 => exact Kd.C_below HR468_9.out Own.bl)
    (case side2 => exact HC468_9.out)
    (case side3 => exact Kd.C_below HR469_9.out Own.bl)
    (case side4 => exact HC469_9.out)
    rintro e w12 ⟨rfl, hb⟩
    refine ⟨_, rfl, ?_⟩
    have n0_ := Own.bs hb; clear HB; have HB := n0_; clear n0_
    (try clear hb)
    (try clear hb2)
    (try clear hk)
    (try clear hi)
    refine hK.out _ _ ⟨(Own.up HB.out hw468_0), (Own.up HB.out hw468_1), (Own.up HB.out hw468_2), (Own.up HB.out hw468_3), (Own.up HB.out hw468_4), (Own.up HB.out hw468_5), (Own.up HB.out hw468_6), (Own.up HB.out hw468_7), (Own.up HB.out hw468_8), (Own.up HB.out hw468_9), (Own.up HB.out hw468_10), (Own.up HB.out hw468_11), (Own.up HB.out hw469_0), (Own.up HB.out hw469_1), (Own.up HB.out hw469_2), (Own.up HB.out hw469_3), (Own.up HB.out hw469_4), (Own.up HB.out hw469_5), (Own.up HB.out hw469_6), (Own.up HB.out hw469_7), (Own.up HB.out hw469_8), (Own.up HB.out hw469_9), (Own.up HB.out hw469_10), (Own.up HB.out hw469_11)⟩ (fun hHeld => ?_)
    clear hK K; refine norm_ (a' := ?_) ?_ ?_; rotate_left; show Act.put _ (some 25) _ = _; simp only [Own.ps]; rfl
    refine pure_ (i := 9) (N := some 26) (v := ?_) (a' := ?_) (Own.fl 10 1023) rfl rfl (any_of HT_.out (by kernel_rfl)) (fun _ _ _ h => h) (Or.inl ⟨by rfl, ?_⟩) ?_ ?_; rotate_left; intro w'; go_simp; with_reducible rfl; rotate_left; simp only [Own.ps]; rfl
    refine done_ (done_of HT_.out (by kernel_rfl)) ?_
    try go_wp2
    go_ret
    exact ⟨Own.rr, Own.bl⟩
   have H' := Aside0.mk H; clear H
   try go_wp2
   have n0_ := Aside0.mk (below_drew1 HB.out)
   clear HB; have HB := n0_; clear n0_
   have p468 : 0 ≤ (x5_1 : Int) := Own.dp
   have q468 : x5_1 < (l0.length : Int) := Own.dp
   obtain ⟨ad468, A468_9, c468_9, e468, hx468_0, hx468_1, hx468_2, hx468_3, hx468_4, hx468_5, hx468_6, hx468_7, hx468_8, hx468_9, hx468_10, hx468_11, hl468_9, hi468_9⟩ := at_T51 HR0.out x5_1 p468 q468; have hw468_11 := hx468_11; have hw468_10 := hx468_10; have hw468_9 := hx468_9; have hw468_8 := hx468_8; have hw468_7 := hx468_7; have hw468_6 := hx468_6; have hw468_5 := hx468_5; have hw468_4 := hx468_4; have hw468_3 := hx468_3; have hw468_2 := hx468_2; have hw468_1 := hx468_1; have hw468_0 := hx468_0; cases e468; replace hx468_0 := Own.up HB.out hx468_0; replace hx468_1 := Own.up HB.out hx468_1; replace hx468_2 := Own.up HB.out hx468_2; replace hx468_3 := Own.up HB.out hx468_3; replace hx468_4 := Own.up HB.out hx468_4; replace hx468_5 := Own.up HB.out hx468_5; replace hx468_6 := Own.up HB.out hx468_6; replace hx468_7 := Own.up HB.out hx468_7; replace hx468_8 := Own.up HB.out hx468_8; replace hx468_9 := Own.up HB.out hx468_9; replace hx468_10 := Own.up HB.out hx468_10; replace hx468_11 := Own.up HB.out hx468_11; have HR468_9 := Aside0.mk hi468_9; have HC468_9 := Aside0.mk hl468_9; clear hi468_9 hl468_9; replace p468 := eq_true p468; replace q468 := eq_true q468
   have p469 : 0 ≤ (x5_1 : Int) := Own.dp
   have q469 : x5_1 < (l1.length : Int) := Own.dp
   obtain ⟨ad469, A469_9, c469_9, e469, hx469_0, hx469_1, hx469_2, hx469_3, hx469_4, hx469_5, hx469_6, hx469_7, hx469_8, hx469_9, hx469_10, hx469_11, hl469_9, hi469_9⟩ := at_T51 HR1.out x5_1 p469 q469; have hw469_11 := hx469_11; have hw469_10 := hx469_10; have hw469_9 := hx469_9; have hw469_8 := hx469_8; have hw469_7 := hx469_7; have hw469_6 := hx469_6; have hw469_5 := hx469_5; have hw469_4 := hx469_4; have hw469_3 := hx469_3; have hw469_2 := hx469_2; have hw469_1 := hx469_1; have hw469_0 := hx469_0; cases e469; replace hx469_0 := Own.up HB.out hx469_0; replace hx469_1 := Own.up HB.out hx469_1; replace hx469_2 := Own.up HB.out hx469_2; replace hx469_3 := Own.up HB.out hx469_3; replace hx469_4 := Own.up HB.out hx469_4; replace hx469_5 := Own.up HB.out hx469_5; replace hx469_6 := Own.up HB.out hx469_6; replace hx469_7 := Own.up HB.out hx469_7; replace hx469_8 := Own.up HB.out hx469_8; replace hx469_9 := Own.up HB.out hx469_9; replace hx469_10 := Own.up HB.out hx469_10; replace hx469_11 := Own.up HB.out hx469_11; have HR469_9 := Aside0.mk hi469_9; have HC469_9 := Aside0.mk hl469_9; clear hi469_9 hl469_9; replace p469 := eq_true p469; replace q469 := eq_true q469
   refine start_ (n := 10) (S := fun w' => w'.cell? (ad468.add ((x5_1).toNat * 12)) = some (.string ((rd_T51 l0 x5_1).f0)) ∧ w'.cell? ⟨(ad468.add ((x5_1).toNat * 12)).block, (ad468.add ((x5_1).toNat * 12)).off + 1, none⟩ = some (.int .i64 ((rd_T51 l0 x5_1).f1)) ∧ w'.cell? ⟨(ad468.add ((x5_1).toNat * 12)).block, (ad468.add ((x5_1).toNat * 12)).off + 2, none⟩ = some (.int .i64 ((rd_T51 l0 x5_1).f2)) ∧ w'.cell? ⟨(ad468.add ((x5_1).toNat * 12)).block, (ad468.add ((x5_1).toNat * 12)).off + 3, none⟩ = some (.string ((rd_T51 l0 x5_1).f3)) ∧ w'.cell? ⟨(ad468.add ((x5_1).toNat * 12)).block, (ad468.add ((x5_1).toNat * 12)).off + 4, none⟩ = some (.int .i64 ((rd_T51 l0 x5_1).f4)) ∧ w'.cell? ⟨(ad468.add ((x5_1).toNat * 12)).block, (ad468.add ((x5_1).toNat * 12)).off + 5, none⟩ = some (.int .i64 ((rd_T51 l0 x5_1).f5)) ∧ w'.cell? ⟨(ad468.add ((x5_1).toNat * 12)).block, (ad468.add ((x5_1).toNat * 12)).off + 6, none⟩ = some (.int .i64 ((rd_T51 l0 x5_1).f6.f0)) ∧ w'.cell? ⟨(ad468.add ((x5_1).toNat * 12)).block, (ad468.add ((x5_1).toNat * 12)).off + 7, none⟩ = some (.string ((rd_T51 l0 x5_1).f6.f1)) ∧ w'.cell? ⟨(ad468.add ((x5_1).toNat * 12)).block, (ad468.add ((x5_1).toNat * 12)).off + 8, none⟩ = some (.int .i64 ((rd_T51 l0 x5_1).f6.f2)) ∧ w'.cell? ⟨(ad468.add ((x5_1).toNat * 12)).block, (ad468.add ((x5_1).toNat * 12)).off + 9, none⟩ = some (.slice A468_9 ((rd_T51 l0 x5_1).f6.f3).length c468_9) ∧ w'.cell? ⟨(ad468.add ((x5_1).toNat * 12)).block, (ad468.add ((x5_1).toNat * 12)).off + 10, none⟩ = some (.int .i64 ((rd_T51 l0 x5_1).f7)) ∧ w'.cell? ⟨(ad468.add ((x5_1).toNat * 12)).block, (ad468.add ((x5_1).toNat * 12)).off + 11, none⟩ = some (.string ((rd_T51 l0 x5_1).f8)) ∧ w'.cell? (ad469.add ((x5_1).toNat * 12)) = some (.string ((rd_T51 l1 x5_1).f0)) ∧ w'.cell? ⟨(ad469.add ((x5_1).toNat * 12)).block, (ad469.add ((x5_1).toNat * 12)).off + 1, none⟩ = some (.int .i64 ((rd_T51 l1 x5_1).f1)) ∧ w'.cell? ⟨(ad469.add ((x5_1).toNat * 12)).block, (ad469.add ((x5_1).toNat * 12)).off + 2, none⟩ = some (.int .i64 ((rd_T51 l1 x5_1).f2)) ∧ w'.cell? ⟨(ad469.add ((x5_1).toNat * 12)).block, (ad469.add ((x5_1).toNat * 12)).off + 3, none⟩ = some (.string ((rd_T51 l1 x5_1).f3)) ∧ w'.cell? ⟨(ad469.add ((x5_1).toNat * 12)).block, (ad469.add ((x5_1).toNat * 12)).off + 4, none⟩ = some (.int .i64 ((rd_T51 l1 x5_1).f4)) ∧ w'.cell? ⟨(ad469.add ((x5_1).toNat * 12)).block, (ad469.add ((x5_1).toNat * 12)).off + 5, none⟩ = some (.int .i64 ((rd_T51 l1 x5_1).f5)) ∧ w'.cell? ⟨(ad469.add ((x5_1).toNat * 12)).block, (ad469.add ((x5_1).toNat * 12)).off + 6, none⟩ = some (.int .i64 ((rd_T51 l1 x5_1).f6.f0)) ∧ w'.cell? ⟨(ad469.add ((x5_1).toNat * 12)).block, (ad469.add ((x5_1).toNat * 12)).off + 7, none⟩ = some (.string ((rd_T51 l1 x5_1).f6.f1)) ∧ w'.cell? ⟨(ad469.add ((x5_1).toNat * 12)).block, (ad469.add ((x5_1).toNat * 12)).off + 8, none⟩ = some (.int .i64 ((rd_T51 l1 x5_1).f6.f2)) ∧ w'.cell? ⟨(ad469.add ((x5_1).toNat * 12)).block, (ad469.add ((x5_1).toNat * 12)).off + 9, none⟩ = some (.slice A469_9 ((rd_T51 l1 x5_1).f6.f3).length c469_9) ∧ w'.cell? ⟨(ad469.add ((x5_1).toNat * 12)).block, (ad469.add ((x5_1).toNat * 12)).off + 10, none⟩ = some (.int .i64 ((rd_T51 l1 x5_1).f7)) ∧ w'.cell? ⟨(ad469.add ((x5_1).toNat * 12)).block, (ad469.add ((x5_1).toNat * 12)).off + 11, none⟩ = some (.string ((rd_T51 l1 x5_1).f8))) (ds := []) (Own.fl 10 0) (by kernel_rfl) rfl rfl ⟨(Own.up HB.out hw468_0), (Own.up HB.out hw468_1), (Own.up HB.out hw468_2), (Own.up HB.out hw468_3), (Own.up HB.out hw468_4), (Own.up HB.out hw468_5), (Own.up HB.out hw468_6), (Own.up HB.out hw468_7), (Own.up HB.out hw468_8), (Own.up HB.out hw468_9), (Own.up HB.out hw468_10), (Own.up HB.out hw468_11), (Own.up HB.out hw469_0), (Own.up HB.out hw469_1), (Own.up HB.out hw469_2), (Own.up HB.out hw469_3), (Own.up HB.out hw469_4), (Own.up HB.out hw469_5), (Own.up HB.out hw469_6), (Own.up HB.out hw469_7), (Own.up HB.out hw469_8), (Own.up HB.out hw469_9), (Own.up HB.out hw469_10), (Own.up HB.out hw469_11)⟩ (fun hHeld => ?_); refine with_tabW laws_eqClauseS.tab6 laws_eqClauseS.bits6 (fun HT_ HW_ => ?_)
   generalize wr.drew = w9 at HB HR468_9 HR469_9 hx468_0 hx468_1 hx468_10 hx468_11 hx468_2 hx468_3 hx468_4 hx468_5 hx468_6 hx468_7 hx468_8 hx468_9 hx469_0 hx469_1 hx469_10 hx469_11 hx469_2 hx469_3 hx469_4 hx469_5 hx469_6 hx469_7 hx469_8 hx469_9 hHeld ⊢
   refine pure_ (i := 0) (N := some 17) (v := ?_) (a' := ?_) (Own.fl 10 1) rfl rfl (any_of HT_.out (by kernel_rfl)) (fun _ _ _ h => h) (Or.inl ⟨by rfl, ?_⟩) ?_ ?_; rotate_left; intro w'; go_simp; with_reducible rfl; rotate_left; simp only [Own.ps]; rfl
   refine pure_ (i := 1) (N := some 18) (v := ?_) (a' := ?_) (Own.fl 10 3) rfl rfl (any_of HT_.out (by kernel_rfl)) (fun _ _ _ h => h) (Or.inl ⟨by rfl, ?_⟩) ?_ ?_; rotate_left; intro w'; go_simp; with_reducible rfl; rotate_left; simp only [Own.ps]; rfl
   refine pure_ (i := 2) (N := some 19) (v := ?_) (a' := ?_) (Own.fl 10 7) rfl rfl (any_of HT_.out (by kernel_rfl)) (fun _ _ _ h => h) (Or.inl ⟨by rfl, ?_⟩) ?_ ?_; rotate_left; intro w'; go_simp; with_reducible rfl; rotate_left; simp only [Own.ps]; rfl
   refine pure_ (i := 4) (N := some 21) (v := ?_) (a' := ?_) (Own.fl 10 23) rfl rfl (any_of HT_.out (by kernel_rfl)) (fun _ _ _ h => h) (Or.inl ⟨by rfl, ?_⟩) ?_ ?_; rotate_left; intro w'; go_simp; with_reducible rfl; rotate_left; simp only [Own.ps]; rfl
   refine pure_ (i := 5) (N := some 22) (v := ?_) (a' := ?_) (Own.fl 10 55) rfl rfl (any_of HT_.out (by kernel_rfl)) (fun _ _ _ h => h) (Or.inl ⟨by rfl, ?_⟩) ?_ ?_; rotate_left; intro w'; go_simp; with_reducible rfl; rotate_left; simp only [Own.ps]; rfl
   refine pure_ (i := 6) (N := some 23) (v := ?_) (a' := ?_) (Own.fl 10 119) rfl rfl (any_of HT_.out (by kernel_rfl)) (fun _ _ _ h => h) (Or.inl ⟨by rfl, ?_⟩) ?_ ?_; rotate_left; intro w'; go_simp; with_reducible rfl; rotate_left; simp only [Own.ps]; rfl
   refine take_ (i := 3) (N := some 20) (v := ?_) (a' := ?_) (Own.fl 10 127) rfl rfl (take_ofW HT_.out HW_.out (by kernel_rfl)) (fun _ _ _ h => h) (Or.inl ⟨by rfl, ?_⟩) hHeld ?_ ?_; rotate_left; rintro w' ⟨s0, s1, s2, s3, s4, s5, s6, s7, s8, s9, s10, s11, s12, s13, s14, s15, s16, s17, s18, s19, s20, s21, s22, s23⟩; go_simp; with_reducible rfl; rotate_left; simp only [Own.ps]; rfl
   refine take_ (i := 7) (N := some 24) (v := ?_) (a' := ?_) (Own.fl 10 255) rfl rfl (take_ofW HT_.out HW_.out (by kernel_rfl)) (fun _ _ _ h => h) (Or.inl ⟨by rfl, ?_⟩) hHeld ?_ ?_; rotate_left; rintro w' ⟨s0, s1, s2, s3, s4, s5, s6, s7, s8, s9, s10, s11, s12, s13, s14, s15, s16, s17, s18, s19, s20, s21, s22, s23⟩; go_simp; with_reducible rfl; rotate_left; simp only [Own.ps]; rfl
   refine one_ (i := 8) (N := some 25) (Own.fl 10 511) rfl rfl (one_of HT_.out (by kernel_rfl)) (by decide) (fun K hK => ?_)
   refine goes_ Tryz.func42 (by kernel_rfl) rfl #[.agg #[.string ((rd_T51 l0 x5_1).f0), .int .i64 ((rd_T51 l0 x5_1).f1), .int .i64 ((rd_T51 l0 x5_1).f2), .string ((rd_T51 l0 x5_1).f3), .int .i64 ((rd_T51 l0 x5_1).f4), .int .i64 ((rd_T51 l0 x5_1).f5), .int .i64 ((rd_T51 l0 x5_1).f6.f0), .string ((rd_T51 l0 x5_1).f6.f1), .int .i64 ((rd_T51 l0 x5_1).f6.f2), .slice A468_9 ((rd_T51 l0 x5_1).f6.f3).length c468_9, .int .i64 ((rd_T51 l0 x5_1).f7), .string ((rd_T51 l0 x5_1).f8)], .agg #[.string ((rd_T51 l1 x5_1).f0), .int .i64 ((rd_T51 l1 x5_1).f1), .int .i64 ((rd_T51 l1 x5_1).f2), .string ((rd_T51 l1 x5_1).f3), .int .i64 ((rd_T51 l1 x5_1).f4), .int .i64 ((rd_T51 l1 x5_1).f5), .int .i64 ((rd_T51 l1 x5_1).f6.f0), .string ((rd_T51 l1 x5_1).f6.f1), .int .i64 ((rd_T51 l1 x5_1).f6.f2), .slice A469_9 ((rd_T51 l1 x5_1).f6.f3).length c469_9, .int .i64 ((rd_T51 l1 x5_1).f7), .string ((rd_T51 l1 x5_1).f8)]] (by rfl) rfl rfl Own.ha ?_
   with_reducible refine (laws_eqClause.calls k1 ((rd_T51 l0 x5_1).f0) ((rd_T51 l0 x5_1).f1) ((rd_T51 l0 x5_1).f2) ((rd_T51 l0 x5_1).f3) ((rd_T51 l0 x5_1).f4) ((rd_T51 l0 x5_1).f5) ((rd_T51 l0 x5_1).f6.f0) ((rd_T51 l0 x5_1).f6.f1) ((rd_T51 l0 x5_1).f6.f2) _ _ ((rd_T51 l0 x5_1).f6.f3) ((rd_T51 l0 x5_1).f7) ((rd_T51 l0 x5_1).f8) ((rd_T51 l1 x5_1).f0) ((rd_T51 l1 x5_1).f1) ((rd_T51 l1 x5_1).f2) ((rd_T51 l1 x5_1).f3) ((rd_T51 l1 x5_1).f4) ((rd_T51 l1 x5_1).f5) ((rd_T51 l1 x5_1).f6.f0) ((rd_T51 l1 x5_1).f6.f1) ((rd_T51 l1 x5_1).f6.f2) _ _ ((rd_T51 l1 x5_1).f6.f3) ((rd_T51 l1 x5_1).f7) ((rd_T51 l1 x5_1).f8) true _ ?side1 ?side2 ?side3 ?side4 A7.out).mono ?_
   (case side1 => exact Kd.C_below HR468_9.out Own.bl)
   (case side2 => exact HC468_9.out)
   (case side3 => exact Kd.C_below HR469_9.out Own.bl)
   (case side4 => exact HC469_9.out)
   rintro e w10 ⟨rfl, hb⟩
   refine ⟨_, rfl, ?_⟩
   have n0_ := Own.bs hb; clear HB; have HB := n0_; clear n0_
   (try clear hb)
   (try clear hb2)
   (try clear hk)
   (try clear hi)
   refine hK.out _ _ ⟨(Own.up HB.out hw468_0), (Own.up HB.out hw468_1), (Own.up HB.out hw468_2), (Own.up HB.out hw468_3), (Own.up HB.out hw468_4), (Own.up HB.out hw468_5), (Own.up HB.out hw468_6), (Own.up HB.out hw468_7), (Own.up HB.out hw468_8), (Own.up HB.out hw468_9), (Own.up HB.out hw468_10), (Own.up HB.out hw468_11), (Own.up HB.out hw469_0), (Own.up HB.out hw469_1), (Own.up HB.out hw469_2), (Own.up HB.out hw469_3), (Own.up HB.out hw469_4), (Own.up HB.out hw469_5), (Own.up HB.out hw469_6), (Own.up HB.out hw469_7), (Own.up HB.out hw469_8), (Own.up HB.out hw469_9), (Own.up HB.out hw469_10), (Own.up HB.out hw469_11)⟩ (fun hHeld => ?_)
   clear hK K; refine norm_ (a' := ?_) ?_ ?_; rotate_left; show Act.put _ (some 25) _ = _; simp only [Own.ps]; rfl
   refine pure_ (i := 9) (N := some 26) (v := ?_) (a' := ?_) (Own.fl 10 1023) rfl rfl (any_of HT_.out (by kernel_rfl)) (fun _ _ _ h => h) (Or.inl ⟨by rfl, ?_⟩) ?_ ?_; rotate_left; intro w'; go_simp; with_reducible rfl; rotate_left; simp only [Own.ps]; rfl
   refine done_ (done_of HT_.out (by kernel_rfl)) ?_
   try go_wp2
   go_roundg k1
   case measure => have := HK1.out; omega
   case rel => exact ⟨(wrap64 (x5_1 + 1)), Own.rs, H', ⟨by have := HK1.out; omega⟩, ⟨Own.bl⟩⟩
/-! ### laws_eqContract: function 8 -/
def laws_eqContract.f (k : Nat) (l0_0 : List ByteArray) (l0_1 : List (S51)) (l1_0 : List ByteArray) (l1_1 : List (S51)) : Option (Bool) := (laws_eqStringS.f k l0_0 l1_0).bind fun t473 => (if t473 = true then ((laws_eqClauseS.f k l0_1 l1_1).bind fun t474 => (if t474 = true then (some true) else (some false))) else (some false))
set_option maxHeartbeats 8000000 in
set_option maxRecDepth 100000 in
theorem laws_eqContract.calls (k : Nat) (A0_0 : Option Addr) (c0_0 : Nat) (l0_0 : List ByteArray) (A0_1 : Option Addr) (c0_1 : Nat) (l0_1 : List (S51)) (A1_0 : Option Addr) (c1_0 : Nat) (l1_0 : List ByteArray) (A1_1 : Option Addr) (c1_1 : Nat) (l1_1 : List (S51)) (r : Bool) (w : World) (hr0_0 : Kd.C Kd.string w A0_0 l0_0.length l0_0) (hc0_0 : l0_0.length ≤ c0_0) (hr0_1 : Kd.C k51 w A0_1 l0_1.length l0_1) (hc0_1 : l0_1.length ≤ c0_1) (hr1_0 : Kd.C Kd.string w A1_0 l1_0.length l1_0) (hc1_0 : l1_0.length ≤ c1_0) (hr1_1 : Kd.C k51 w A1_1 l1_1.length l1_1) (hc1_1 : l1_1.length ≤ c1_1) (h : laws_eqContract.f k l0_0 l0_1 l1_0 l1_1 = some r) :
  Calls Tryz.prog 8 #[.agg #[.slice A0_0 l0_0.length c0_0, .slice A0_1 l0_1.length c0_1], .agg #[.slice A1_0 l1_0.length c1_0, .slice A1_1 l1_1.length c1_1]] w fun e w' => e = .returned (.bool r) ∧ Below w.heap.size w w' := by
 have hu29 := Tryz.underlying29
 have HR0_0 := Aside0.mk hr0_0
 have HC0_0 := Aside0.mk hc0_0
 clear hr0_0 hc0_0
 have HR0_1 := Aside0.mk hr0_1
 have HC0_1 := Aside0.mk hc0_1
 clear hr0_1 hc0_1
 have HR1_0 := Aside0.mk hr1_0
 have HC1_0 := Aside0.mk hc1_0
 clear hr1_0 hc1_0
 have HR1_1 := Aside0.mk hr1_1
 have HC1_1 := Aside0.mk hc1_1
 clear hr1_1 hc1_1
 have HB := Aside0.mk (Below.refl w.heap.size w)
 have H : ((laws_eqStringS.f k l0_0 l1_0).bind fun t473 => (if t473 = true then ((laws_eqClauseS.f k l0_1 l1_1).bind fun t474 => (if t474 = true then (some true) else (some false))) else (some false))) = some r := h
 clear h
 replace H := Own.bd H; obtain ⟨t473, A3, H⟩ := H
 replace H := Own.ift H; obtain ⟨rfl, H⟩ | ⟨rfl, H⟩ := H
 ·
  obtain rfl := Option.some.inj H
  go_enter Tryz.func8, Tryz.ntmps8
  go_wp2_with (first | ((with_reducible refine gate_dst (N := 2) rfl ?_); refine Own.be (N := 2) (cs := #[.slice A0_0 l0_0.length c0_0, .slice A0_1 l0_1.length c0_1]) (t := 29) ?_; intro gb471 hg w19 hbox hb; have BK471 := Aside0.mk hbox; have GW471 := (Own.gs hg : Aside0 (w.heap.size ≤ gb471)); have GE471 := GW471; replace HB := Own.bs hb; clear hb hbox hg) | ((with_reducible refine gate_dst (N := 3) rfl ?_); refine Own.be (N := 3) (cs := #[.slice A1_0 l1_0.length c1_0, .slice A1_1 l1_1.length c1_1]) (t := 29) ?_; intro gb472 hg w20 hbox hb; have BK472 := Aside0.mk hbox; have GW472 := (Own.gs hg : Aside0 (w.heap.size ≤ gb472)); have GE472 := GW472; have NB471_472 := Own.nl hg BK471.out; have NB472_471 := Aside0.mk NB471_472.out.symm; replace BK471 := Own.bb BK471.out hb; replace HB := Own.bs hb; clear hb hbox hg; have hnb21 := NB471_472.out; have hnc21 := NB472_471.out; obtain ⟨z22_0, z22_1, y22_0, y22_1⟩ := Own.box2 BK471.out; obtain ⟨z23_0, z23_1, y23_0, y23_1⟩ := Own.box2 BK472.out) | ((with_reducible refine gate_callee (f := 23) rfl ?_); refine goesL_ (some 9) rfl rfl Tryz.func23 (by kernel_rfl) rfl #[.slice A0_0 l0_0.length c0_0, .slice A1_0 l1_0.length c1_0] rfl Own.ha ?_; (with_reducible refine (laws_eqStringS.calls k _ _ l0_0 _ _ l1_0 false _ ?side1 ?side2 ?side3 ?side4 A3.out).mono ?_); (case side1 => exact Kd.C_below HR0_0.out Own.bl); (case side2 => exact HC0_0.out); (case side3 => exact Kd.C_below HR1_0.out Own.bl); (case side4 => exact HC1_0.out); rintro e w' ⟨rfl, ⟨nd, rfl⟩⟩; refine ⟨_, rfl, ?_⟩))
  go_ret
  exact ⟨Own.rr, Own.bl⟩
 replace H := Own.bd H; obtain ⟨t474, A5, H⟩ := H
 replace H := Own.ifu H; obtain ⟨rfl, H⟩ | ⟨rfl, H⟩ := H
 ·
  obtain rfl := Option.some.inj H
  go_enter Tryz.func8, Tryz.ntmps8
  go_wp2_with (first | ((with_reducible refine gate_dst (N := 2) rfl ?_); refine Own.be (N := 2) (cs := #[.slice A0_0 l0_0.length c0_0, .slice A0_1 l0_1.length c0_1]) (t := 29) ?_; intro gb471 hg w7 hbox hb; have BK471 := Aside0.mk hbox; have GW471 := (Own.gs hg : Aside0 (w.heap.size ≤ gb471)); have GE471 := GW471; replace HB := Own.bs hb; clear hb hbox hg) | ((with_reducible refine gate_dst (N := 3) rfl ?_); refine Own.be (N := 3) (cs := #[.slice A1_0 l1_0.length c1_0, .slice A1_1 l1_1.length c1_1]) (t := 29) ?_; intro gb472 hg w8 hbox hb; have BK472 := Aside0.mk hbox; have GW472 := (Own.gs hg : Aside0 (w.heap.size ≤ gb472)); have GE472 := GW472; have NB471_472 := Own.nl hg BK471.out; have NB472_471 := Aside0.mk NB471_472.out.symm; replace BK471 := Own.bb BK471.out hb; replace HB := Own.bs hb; clear hb hbox hg; have hnb9 := NB471_472.out; have hnc9 := NB472_471.out; obtain ⟨z10_0, z10_1, y10_0, y10_1⟩ := Own.box2 BK471.out; obtain ⟨z11_0, z11_1, y11_0, y11_1⟩ := Own.box2 BK472.out) | ((with_reducible refine gate_callee (f := 23) rfl ?_); refine goesL_ (some 9) rfl rfl Tryz.func23 (by kernel_rfl) rfl #[.slice A0_0 l0_0.length c0_0, .slice A1_0 l1_0.length c1_0] rfl Own.ha ?_; (with_reducible refine (laws_eqStringS.calls k _ _ l0_0 _ _ l1_0 true _ ?side1 ?side2 ?side3 ?side4 A3.out).mono ?_); (case side1 => exact Kd.C_below HR0_0.out Own.bl); (case side2 => exact HC0_0.out); (case side3 => exact Kd.C_below HR1_0.out Own.bl); (case side4 => exact HC1_0.out); rintro e w' ⟨rfl, ⟨nd, rfl⟩⟩; refine ⟨_, rfl, ?_⟩) | ((with_reducible refine gate_callee (f := 24) rfl ?_); refine goesL_ (some 15) rfl rfl Tryz.func24 (by kernel_rfl) rfl #[.slice A0_1 l0_1.length c0_1, .slice A1_1 l1_1.length c1_1] rfl Own.ha ?_; (with_reducible refine (laws_eqClauseS.calls k _ _ l0_1 _ _ l1_1 true _ ?side1 ?side2 ?side3 ?side4 A5.out).mono ?_); (case side1 => exact Kd.C_below HR0_1.out Own.bl); (case side2 => exact HC0_1.out); (case side3 => exact Kd.C_below HR1_1.out Own.bl); (case side4 => exact HC1_1.out); rintro e w12 ⟨rfl, hb⟩; refine ⟨_, rfl, ?_⟩; replace BK471 := Own.bb BK471.out hb; replace BK472 := Own.bb BK472.out hb; replace HB := Own.bs hb; (try clear hb)))
  go_ret
  exact ⟨Own.rr, Own.bl⟩
 obtain rfl := Option.some.inj H
 go_enter Tryz.func8, Tryz.ntmps8
 go_wp2_with (first | ((with_reducible refine gate_dst (N := 2) rfl ?_); refine Own.be (N := 2) (cs := #[.slice A0_0 l0_0.length c0_0, .slice A0_1 l0_1.length c0_1]) (t := 29) ?_; intro gb471 hg w13 hbox hb; have BK471 := Aside0.mk hbox; have GW471 := (Own.gs hg : Aside0 (w.heap.size ≤ gb471)); have GE471 := GW471; replace HB := Own.bs hb; clear hb hbox hg) | ((with_reducible refine gate_dst (N := 3) rfl ?_); refine Own.be (N := 3) (cs := #[.slice A1_0 l1_0.length c1_0, .slice A1_1 l1_1.length c1_1]) (t := 29) ?_; intro gb472 hg w14 hbox hb; have BK472 := Aside0.mk hbox; have GW472 := (Own.gs hg : Aside0 (w.heap.size ≤ gb472)); have GE472 := GW472; have NB471_472 := Own.nl hg BK471.out; have NB472_471 := Aside0.mk NB471_472.out.symm; replace BK471 := Own.bb BK471.out hb; replace HB := Own.bs hb; clear hb hbox hg; have hnb15 := NB471_472.out; have hnc15 := NB472_471.out; obtain ⟨z16_0, z16_1, y16_0, y16_1⟩ := Own.box2 BK471.out; obtain ⟨z17_0, z17_1, y17_0, y17_1⟩ := Own.box2 BK472.out) | ((with_reducible refine gate_callee (f := 23) rfl ?_); refine goesL_ (some 9) rfl rfl Tryz.func23 (by kernel_rfl) rfl #[.slice A0_0 l0_0.length c0_0, .slice A1_0 l1_0.length c1_0] rfl Own.ha ?_; (with_reducible refine (laws_eqStringS.calls k _ _ l0_0 _ _ l1_0 true _ ?side1 ?side2 ?side3 ?side4 A3.out).mono ?_); (case side1 => exact Kd.C_below HR0_0.out Own.bl); (case side2 => exact HC0_0.out); (case side3 => exact Kd.C_below HR1_0.out Own.bl); (case side4 => exact HC1_0.out); rintro e w' ⟨rfl, ⟨nd, rfl⟩⟩; refine ⟨_, rfl, ?_⟩) | ((with_reducible refine gate_callee (f := 24) rfl ?_); refine goesL_ (some 15) rfl rfl Tryz.func24 (by kernel_rfl) rfl #[.slice A0_1 l0_1.length c0_1, .slice A1_1 l1_1.length c1_1] rfl Own.ha ?_; (with_reducible refine (laws_eqClauseS.calls k _ _ l0_1 _ _ l1_1 false _ ?side1 ?side2 ?side3 ?side4 A5.out).mono ?_); (case side1 => exact Kd.C_below HR0_1.out Own.bl); (case side2 => exact HC0_1.out); (case side3 => exact Kd.C_below HR1_1.out Own.bl); (case side4 => exact HC1_1.out); rintro e w18 ⟨rfl, hb⟩; refine ⟨_, rfl, ?_⟩; replace BK471 := Own.bb BK471.out hb; replace BK472 := Own.bb BK472.out hb; replace HB := Own.bs hb; (try clear hb)))
 go_ret
 exact ⟨Own.rr, Own.bl⟩
/-! ### laws_markText: function 43 -/
def laws_markText.l0 : Nat → Int → ByteArray → Option (ByteArray)
 | 0, _, _ => none
 | k + 1, x0, x3 => if x0 > 0 then ((some (([(wrap64 (48 + (Int.tmod x0 10))) % 256] : List Int) : List Int)).bind fun y475 => (if (strOfNums y475).size + x3.size ≤ 9223372036854775807 then (laws_markText.l0 k (wrap64 (Int.tdiv x0 10)) ((strOfNums y475) ++ x3)) else (none))) else (if 1 + x3.size ≤ 9223372036854775807 then (some ((⟨#[109]⟩ : ByteArray) ++ x3)) else (none))
def laws_markText.f (k : Nat) (a0 : Int) : Option (ByteArray) := if a0 ≤ 0 then (some (⟨#[109, 48]⟩ : ByteArray)) else (laws_markText.l0 k a0 (⟨#[]⟩ : ByteArray))
set_option maxHeartbeats 8000000 in
set_option maxRecDepth 100000 in
theorem laws_markText.calls (k : Nat) (a0 : Int) (r : ByteArray) (w : World) (h : laws_markText.f k a0 = some r) :
  Calls Tryz.prog 43 #[.int .i64 a0] w fun e w' => e = .returned (.string r) ∧ Below w.heap.size w w' := by
 have HB := Aside0.mk (Below.refl w.heap.size w)
 have H : (if a0 ≤ 0 then (some (⟨#[109, 48]⟩ : ByteArray)) else (laws_markText.l0 k a0 (⟨#[]⟩ : ByteArray))) = some r := h
 clear h
 by_cases c2 : a0 ≤ 0
 ·
  rw [if_pos c2] at H; replace c2 := decide_eq_true c2; obtain rfl := Option.some.inj H
  go_enter Tryz.func43, Tryz.ntmps43
  go_wp2
  go_ret
  exact ⟨Own.rr, Own.bl⟩
 rw [if_neg c2] at H
 replace c2 := decide_eq_false c2
 have H' := Aside0.mk H
 clear H
 go_enter Tryz.func43, Tryz.ntmps43
 go_wp2
 go_loopg [0, 3] k (fun kq v0 v3 w' => ∃ (x0_1 : Int) (x3_1 : ByteArray), v0 = .int .i64 x0_1 ∧ v3 = .string x3_1 ∧ Aside0 (laws_markText.l0 kq x0_1 x3_1 = some r) ∧ Aside0 (kq ≤ k) ∧ Aside0 (Below w.heap.size w w'))
 case atStart => exact ⟨(a0), ((⟨#[]⟩ : ByteArray)), Own.rs, Own.rs, H', ⟨Nat.le_refl _⟩, ⟨Own.bl⟩⟩
 case round =>
  clear H'; try clear c2; try clear p2
  obtain ⟨x0_1, x3_1, rfl, rfl, HA, HK1, HB⟩ := hrel
  cases gk with
  | zero => exact absurd HA.out (by simp [laws_markText.l0])
  | succ k1 =>
   have H := HA.out; clear HA
   simp only [laws_markText.l0] at H
   by_cases c3 : x0_1 > 0
   rotate_left
   ·
    rw [if_neg c3] at H
    have c3b0 : decide (0 < x0_1) = false := decide_eq_false c3
    clear c3
    replace H := Own.ifn H; obtain ⟨c8, H⟩ := H; have c8b0 := eq_true c8
    have c8b1 : decide (1 + x3_1.size ≤ 9223372036854775807) = true := decide_eq_true c8
    try have c8b2 : (9223372036854775807 < 1 + x3_1.size) = False := eq_false (Nat.not_lt.2 c8)
    obtain rfl := Option.some.inj H
    go_wp2
    go_ret
    exact ⟨Own.rr, Own.bl⟩
   rw [if_pos c3] at H
   have c3b0 : decide (0 < x0_1) = true := decide_eq_true c3
   clear c3
   obtain ⟨y475, hy475⟩ : ∃ y_ : List Int, y_ = (([(wrap64 (48 + (Int.tmod x0_1 10))) % 256] : List Int)) := ⟨_, rfl⟩
   replace H : (if (strOfNums y475).size + x3_1.size ≤ 9223372036854775807 then (laws_markText.l0 k1 (wrap64 (Int.tdiv x0_1 10)) ((strOfNums y475) ++ x3_1)) else (none)) = some r := by first | (rw [hy475]; with_reducible exact H) | (have H2_ := (Option.bind_some _ _).symm.trans H; rw [hy475]; with_reducible exact H2_) | (have H2_ := (Option.bind_some _ _).symm.trans H; with_reducible exact H2_) | with_reducible exact H | (rw [hy475]; exact H) | exact H
   have Ny475 := Aside0.mk hy475; clear hy475
   replace H := Own.ifn H; obtain ⟨c4, H⟩ := H; have c4b0 := eq_true c4
   have c4b1 : decide ((strOfNums y475).size + x3_1.size ≤ 9223372036854775807) = true := decide_eq_true c4
   try have c4b2 : (9223372036854775807 < (strOfNums y475).size + x3_1.size) = False := eq_false (Nat.not_lt.2 c4)
   have H' := Aside0.mk H; clear H
   go_wp2_with (first | ((with_reducible refine gate_dst (N := 12) rfl ?_); refine Kd.R_lit (Kd.int .u8) _ 5 ?hg (N := 12) ?hd (xs := ([(wrap64 (48 + (Int.tmod x0_1 10))) % 256] : List Int)) (inner := [.int .u8 ((wrap64 (48 + (Int.tmod x0_1 10))) % 256)]) (ok := fun _ => True) (okp := fun _ => True) ?hr ?hp (fun _ hk => hk) trivial (Below.refl _ _) (Nat.le_refl _) (by simp) ?_; (case hd => rfl); (case hg => rfl); (case hr => first | (go_simp; done) | (go_simp; rfl)); (case hp => exact (Reps.one (show Kd.M (Kd.int .u8) _ _ _ ((wrap64 (48 + (Int.tmod x0_1 10))) % 256) [.int .u8 ((wrap64 (48 + (Int.tmod x0_1 10))) % 256)] from rfl) (Reps.none _ _))); intro v476 w5 ho6 hb hg_ hnew_; clear hg_ hnew_; (first | rw [← Ny475.out] at ho6 | (simp only [Int.reduceToNat] at ho6; rw [← Ny475.out] at ho6)); have HO477 := Aside0.mk (Kd.R_lower ho6 (below_size Own.bl)); replace HB := Own.bs hb; clear hb ho6; have hcv7 := own_string (P := Tryz.prog) Tryz.underlying80 Tryz.underlying5 Tryz.underlying9 (Kd.own_of_R HO477.out)))
   go_roundg k1
   case measure => have := HK1.out; omega
   case rel => exact ⟨(wrap64 (Int.tdiv x0_1 10)), ((strOfNums y475) ++ x3_1), Own.rs, Own.rs, H', ⟨by have := HK1.out; omega⟩, ⟨Own.bl⟩⟩
/-! ### laws_markStringS: function 25 -/
def laws_markStringS.l0 : Nat → List ByteArray → Int → Int → Option (Int × List ByteArray)
 | 0, _, _, _ => none
 | k + 1, x0, x1, x5 => if x5 < (x0.length : Int) then ((laws_markText.f k x1).bind fun t478 => (if 0 ≤ x5 then (laws_markStringS.l0 k (x0.set (x5 : Int).toNat t478) (wrap64 (x1 + 1)) (wrap64 (x5 + 1))) else (none))) else (some (x1, x0))
-- NOT PRINTED: function 44 (laws_markConditionS)
-- NOT PRINTED: function 26 (laws_markClauseS)
-- NOT PRINTED: function 9 (laws_markContract)
end Go.Proofs.YtckopglnblcnoaaGreatDoor.QFnExactRemoveClause
