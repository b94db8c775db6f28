-- Written by a program of this session out of the translation; Lean checks it.
import Derived.Test.YtdfbfcgjcfbmpaaDoorQFnExactIsValidContractx0
import Derived.Test.YtdfbfcgjcfbmpaaDoorQFnExactIsValidContractx1
import Derived.Test.YtdfbfcgjcfbmpaaDoorQFnExactIsValidContractx8
import Derived.Test.YtdfbfcgjcfbmpaaDoorQFnExactIsValidContractx13
import Derived.Test.YtdfbfcgjcfbmpaaDoorQFnExactIsValidContractx14
namespace Go.Proofs.YtdfbfcgjcfbmpaaDoor.QFnExactIsValidContract
open Go.RowKit Go.Proofs.YtdfbfcgjcfbmpaaDoorW.PrintWords Go.Proofs.YtdfbfcgjcfbmpaaDoorW.PrintLast Go.Proofs.YtdfbfcgjcfbmpaaDoorW.PrintMore
attribute [local go_sem] Instr.field asAgg Own.str_leq Own.str_gtr Own.str_geq
attribute [local go_sem] max2_int min2_int max_two min_two max_three min_three max_four min_four   -- for this text's walks alone
set_option linter.unusedVariables false
set_option linter.unusedSimpArgs false

/-! ### laws_eqClauseS: function 28 -/
def laws_eqClauseS.l0 : Nat → List (S63) → List (S63) → Int → Option (Bool)
 | 0, _, _, _ => none
 | k + 1, x0, x1, x5 => if x5 < (x0.length : Int) then (if 0 ≤ x5 then (if x5 < (x1.length : Int) then ((laws_eqClause.f k ((rd_T63 x0 x5).f0) ((rd_T63 x0 x5).f1) ((rd_T63 x0 x5).f2) ((rd_T63 x0 x5).f3) ((rd_T63 x0 x5).f4) ((rd_T63 x0 x5).f5) ((rd_T63 x0 x5).f6.f0) ((rd_T63 x0 x5).f6.f1) ((rd_T63 x0 x5).f6.f2) ((rd_T63 x0 x5).f6.f3) ((rd_T63 x0 x5).f7) ((rd_T63 x0 x5).f8) ((rd_T63 x1 x5).f0) ((rd_T63 x1 x5).f1) ((rd_T63 x1 x5).f2) ((rd_T63 x1 x5).f3) ((rd_T63 x1 x5).f4) ((rd_T63 x1 x5).f5) ((rd_T63 x1 x5).f6.f0) ((rd_T63 x1 x5).f6.f1) ((rd_T63 x1 x5).f6.f2) ((rd_T63 x1 x5).f6.f3) ((rd_T63 x1 x5).f7) ((rd_T63 x1 x5).f8)).bind fun t381 => (if t381 = true then (laws_eqClauseS.l0 k x0 x1 (wrap64 (x5 + 1))) else (some false))) else (none)) else (none)) else (some true)
def laws_eqClauseS.f (k : Nat) (l0 : List (S63)) (l1 : List (S63)) : Option (Bool) := if (l0.length : Int) = (l1.length : Int) then (laws_eqClauseS.l0 k l0 l1 0) else (some false)
theorem laws_eqClauseS.mono_l : ∀ k, (∀ y0 y1 y2, LeO (laws_eqClauseS.l0 k y0 y1 y2) (laws_eqClauseS.l0 (k + 1) y0 y1 y2))
 | 0 => fun _ _ _ r h => by simp [laws_eqClauseS.l0] at h
 | k + 1 => by
  have ih0 := laws_eqClauseS.mono_l k
  ·
   intro y0 y1 y2
   unfold laws_eqClauseS.l0
   repeat' first
   | (with_reducible first | exact ih0 _ _ _ | exact laws_eqClause.mono _ _ _ _ _ _ _ _ _ _ _ _ _ _ _ _ _ _ _ _ _ _ _ _ _ | exact LeO.refl _ | exact LeO.none _ | refine LeO.ite ?_ ?_ | refine LeO.bind ?_ (fun _ => ?_))
theorem laws_eqClauseS.mono : ∀ a0 a1 k, LeO (laws_eqClauseS.f k a0 a1) (laws_eqClauseS.f (k + 1) a0 a1) := by
 intro a0 a1 k
 have ih0 := laws_eqClauseS.mono_l k
 unfold laws_eqClauseS.f
 repeat' first
   | (with_reducible first | exact ih0 _ _ _ | exact laws_eqClause.mono _ _ _ _ _ _ _ _ _ _ _ _ _ _ _ _ _ _ _ _ _ _ _ _ _ | exact LeO.refl _ | exact LeO.none _ | refine LeO.ite ?_ ?_ | refine LeO.bind ?_ (fun _ => ?_))
def laws_eqClauseS.T6 : Bool × List (List Nat × List Nat) := (true, [([], []), ([], []), ([0, 1], [0, 1]), ([2], [2]), ([], []), ([], []), ([4, 5], [4, 5]), ([6], [6]), ([3, 7], [3, 7]), ([8], [8])])
def laws_eqClauseS.B6 : List Nat := [0, 0, 3, 7, 0, 0, 48, 112, 255, 511]
theorem laws_eqClauseS.tab6 : rtab .any (opsOf Tryd.f28 6) = laws_eqClauseS.T6 := by kernel_rfl
theorem laws_eqClauseS.bits6 : waitsOk laws_eqClauseS.T6.2 laws_eqClauseS.B6 = true := by kernel_rfl
set_option maxHeartbeats 8000000 in
set_option maxRecDepth 100000 in
theorem laws_eqClauseS.calls (k : Nat) (A0 : Option Addr) (c0 : Nat) (l0 : List (S63)) (A1 : Option Addr) (c1 : Nat) (l1 : List (S63)) (r : Bool) (w : World) (hr0 : Kd.C k63 w A0 l0.length l0) (hc0 : l0.length ≤ c0) (hr1 : Kd.C k63 w A1 l1.length l1) (hc1 : l1.length ≤ c1) (h : laws_eqClauseS.f k l0 l1 = some r) :
  Calls Tryd.prog 28 #[.slice A0 l0.length c0, .slice A1 l1.length c1] w fun e w' => e = .returned (.bool r) ∧ Below w.heap.size w w' := by
 have hu63 := Tryd.underlying63
 have HR0 := Aside0.mk hr0
 have HC0 := Aside0.mk hc0
 clear hr0 hc0
 have HR1 := Aside0.mk hr1
 have HC1 := Aside0.mk hc1
 clear hr1 hc1
 have HB := Aside0.mk (Below.refl w.heap.size w)
 have H : (if (l0.length : Int) = (l1.length : Int) then (laws_eqClauseS.l0 k l0 l1 0) else (some false)) = some r := h
 clear h
 by_cases c3 : (l0.length : Int) = (l1.length : Int)
 rotate_left
 ·
  rw [if_neg c3] at H
  have c3b0 : ((l0.length : Int) == (l1.length : Int)) = false := beq_eq_false_iff_ne.mpr c3
  have c3b1 : ((l0.length : Int) != (l1.length : Int)) = true := bne_iff_ne.mpr c3
  have c3b2 : (l0.length == l1.length) = false := by first | simpa using c3 | (simp at c3 ⊢; omega)
  obtain rfl := Option.some.inj H
  go_enter Tryd.func28, Tryd.ntmps28
  go_wp2
  go_ret
  exact ⟨Own.rr, Own.bl⟩
 rw [if_pos c3] at H
 have c3b0 : ((l0.length : Int) == (l1.length : Int)) = true := beq_iff_eq.mpr c3
 have c3b1 : ((l0.length : Int) != (l1.length : Int)) = false := bne_eq_false_iff_eq.mpr c3
 have c3b2 : (l0.length == l1.length) = true := by first | simpa using c3 | (simp at c3 ⊢; omega)
 clear c3
 have H' := Aside0.mk H
 clear H
 go_enter Tryd.func28, Tryd.ntmps28
 go_wp2
 go_loopg [5] k (fun kq v5 w' => ∃ (x5_1 : Int), v5 = .int .i64 x5_1 ∧ Aside0 (laws_eqClauseS.l0 kq l0 l1 x5_1 = some r) ∧ Aside0 (kq ≤ k) ∧ Aside0 (Below w.heap.size w w'))
 case atStart => exact ⟨(0), Own.rs, H', ⟨Nat.le_refl _⟩, ⟨Own.bl⟩⟩
 case round =>
  clear H'
  try clear c1; try clear c2; try clear p2; try clear c3; try clear c3b0; try clear c3b1; try clear c3b2
  obtain ⟨x5_1, rfl, HA, HK1, HB⟩ := hrel
  cases gk with
  | zero => exact absurd HA.out (by simp [laws_eqClauseS.l0])
  | succ k1 =>
   have H := HA.out
   clear HA
   simp only [laws_eqClauseS.l0] at H
   by_cases c4 : x5_1 < (l0.length : Int)
   rotate_left
   ·
    rw [if_neg c4] at H
    replace c4 := decide_eq_false c4
    obtain rfl := Option.some.inj H
    go_wp2
    go_ret
    exact ⟨Own.rr, Own.bl⟩
   rw [if_pos c4] at H
   replace c4 := decide_eq_true c4
   replace H := Own.ifd H; obtain ⟨c5, H⟩ := H
   replace H := Own.ifd H; obtain ⟨c6, H⟩ := H
   replace H := Own.bd H; obtain ⟨t381, A7, H⟩ := H
   replace H := Own.ift H; obtain ⟨rfl, H⟩ | ⟨rfl, H⟩ := H
   ·
    obtain rfl := Option.some.inj H
    try go_wp2
    have n0_ := Aside0.mk (below_drew1 HB.out)
    clear HB
    have HB := n0_
    clear n0_
    have p379 : 0 ≤ (x5_1 : Int) := Own.dp
    have q379 : x5_1 < (l0.length : Int) := Own.dp
    obtain ⟨ad379, A379_9, c379_9, e379, hx379_0, hx379_1, hx379_2, hx379_3, hx379_4, hx379_5, hx379_6, hx379_7, hx379_8, hx379_9, hx379_10, hx379_11, hl379_9, hi379_9⟩ := at_T63 HR0.out x5_1 p379 q379
    have hw379_11 := hx379_11
    have hw379_10 := hx379_10
    have hw379_9 := hx379_9
    have hw379_8 := hx379_8
    have hw379_7 := hx379_7
    have hw379_6 := hx379_6
    have hw379_5 := hx379_5
    have hw379_4 := hx379_4
    have hw379_3 := hx379_3
    have hw379_2 := hx379_2
    have hw379_1 := hx379_1
    have hw379_0 := hx379_0
    cases e379
    replace hx379_0 := Own.up HB.out hx379_0
    replace hx379_1 := Own.up HB.out hx379_1
    replace hx379_2 := Own.up HB.out hx379_2
    replace hx379_3 := Own.up HB.out hx379_3
    replace hx379_4 := Own.up HB.out hx379_4
    replace hx379_5 := Own.up HB.out hx379_5
    replace hx379_6 := Own.up HB.out hx379_6
    replace hx379_7 := Own.up HB.out hx379_7
    replace hx379_8 := Own.up HB.out hx379_8
    replace hx379_9 := Own.up HB.out hx379_9
    replace hx379_10 := Own.up HB.out hx379_10
    replace hx379_11 := Own.up HB.out hx379_11
    have HR379_9 := Aside0.mk hi379_9
    have HC379_9 := Aside0.mk hl379_9
    clear hi379_9 hl379_9
    replace p379 := eq_true p379
    replace q379 := eq_true q379
    have p380 : 0 ≤ (x5_1 : Int) := Own.dp
    have q380 : x5_1 < (l1.length : Int) := Own.dp
    obtain ⟨ad380, A380_9, c380_9, e380, hx380_0, hx380_1, hx380_2, hx380_3, hx380_4, hx380_5, hx380_6, hx380_7, hx380_8, hx380_9, hx380_10, hx380_11, hl380_9, hi380_9⟩ := at_T63 HR1.out x5_1 p380 q380
    have hw380_11 := hx380_11
    have hw380_10 := hx380_10
    have hw380_9 := hx380_9
    have hw380_8 := hx380_8
    have hw380_7 := hx380_7
    have hw380_6 := hx380_6
    have hw380_5 := hx380_5
    have hw380_4 := hx380_4
    have hw380_3 := hx380_3
    have hw380_2 := hx380_2
    have hw380_1 := hx380_1
    have hw380_0 := hx380_0
    cases e380
    replace hx380_0 := Own.up HB.out hx380_0
    replace hx380_1 := Own.up HB.out hx380_1
    replace hx380_2 := Own.up HB.out hx380_2
    replace hx380_3 := Own.up HB.out hx380_3
    replace hx380_4 := Own.up HB.out hx380_4
    replace hx380_5 := Own.up HB.out hx380_5
    replace hx380_6 := Own.up HB.out hx380_6
    replace hx380_7 := Own.up HB.out hx380_7
    replace hx380_8 := Own.up HB.out hx380_8
    replace hx380_9 := Own.up HB.out hx380_9
    replace hx380_10 := Own.up HB.out hx380_10
    replace hx380_11 := Own.up HB.out hx380_11
    have HR380_9 := Aside0.mk hi380_9
    have HC380_9 := Aside0.mk hl380_9
    clear hi380_9 hl380_9
    replace p380 := eq_true p380
    replace q380 := eq_true q380
    refine start_ (n := 10) (S := fun w' => w'.cell? (ad379.add ((x5_1).toNat * 12)) = some (.string ((rd_T63 l0 x5_1).f0)) ∧ w'.cell? ⟨(ad379.add ((x5_1).toNat * 12)).block, (ad379.add ((x5_1).toNat * 12)).off + 1, none⟩ = some (.int .i64 ((rd_T63 l0 x5_1).f1)) ∧ w'.cell? ⟨(ad379.add ((x5_1).toNat * 12)).block, (ad379.add ((x5_1).toNat * 12)).off + 2, none⟩ = some (.int .i64 ((rd_T63 l0 x5_1).f2)) ∧ w'.cell? ⟨(ad379.add ((x5_1).toNat * 12)).block, (ad379.add ((x5_1).toNat * 12)).off + 3, none⟩ = some (.string ((rd_T63 l0 x5_1).f3)) ∧ w'.cell? ⟨(ad379.add ((x5_1).toNat * 12)).block, (ad379.add ((x5_1).toNat * 12)).off + 4, none⟩ = some (.int .i64 ((rd_T63 l0 x5_1).f4)) ∧ w'.cell? ⟨(ad379.add ((x5_1).toNat * 12)).block, (ad379.add ((x5_1).toNat * 12)).off + 5, none⟩ = some (.int .i64 ((rd_T63 l0 x5_1).f5)) ∧ w'.cell? ⟨(ad379.add ((x5_1).toNat * 12)).block, (ad379.add ((x5_1).toNat * 12)).off + 6, none⟩ = some (.int .i64 ((rd_T63 l0 x5_1).f6.f0)) ∧ w'.cell? ⟨(ad379.add ((x5_1).toNat * 12)).block, (ad379.add ((x5_1).toNat * 12)).off + 7, none⟩ = some (.string ((rd_T63 l0 x5_1).f6.f1)) ∧ w'.cell? ⟨(ad379.add ((x5_1).toNat * 12)).block, (ad379.add ((x5_1).toNat * 12)).off + 8, none⟩ = some (.int .i64 ((rd_T63 l0 x5_1).f6.f2)) ∧ w'.cell? ⟨(ad379.add ((x5_1).toNat * 12)).block, (ad379.add ((x5_1).toNat * 12)).off + 9, none⟩ = some (.slice A379_9 ((rd_T63 l0 x5_1).f6.f3).length c379_9) ∧ w'.cell? ⟨(ad379.add ((x5_1).toNat * 12)).block, (ad379.add ((x5_1).toNat * 12)).off + 10, none⟩ = some (.int .i64 ((rd_T63 l0 x5_1).f7)) ∧ w'.cell? ⟨(ad379.add ((x5_1).toNat * 12)).block, (ad379.add ((x5_1).toNat * 12)).off + 11, none⟩ = some (.string ((rd_T63 l0 x5_1).f8)) ∧ w'.cell? (ad380.add ((x5_1).toNat * 12)) = some (.string ((rd_T63 l1 x5_1).f0)) ∧ w'.cell? ⟨(ad380.add ((x5_1).toNat * 12)).block, (ad380.add ((x5_1).toNat * 12)).off + 1, none⟩ = some (.int .i64 ((rd_T63 l1 x5_1).f1)) ∧ w'.cell? ⟨(ad380.add ((x5_1).toNat * 12)).block, (ad380.add ((x5_1).toNat * 12)).off + 2, none⟩ = some (.int .i64 ((rd_T63 l1 x5_1).f2)) ∧ w'.cell? ⟨(ad380.add ((x5_1).toNat * 12)).block, (ad380.add ((x5_1).toNat * 12)).off + 3, none⟩ = some (.string ((rd_T63 l1 x5_1).f3)) ∧ w'.cell? ⟨(ad380.add ((x5_1).toNat * 12)).block, (ad380.add ((x5_1).toNat * 12)).off + 4, none⟩ = some (.int .i64 ((rd_T63 l1 x5_1).f4)) ∧ w'.cell? ⟨(ad380.add ((x5_1).toNat * 12)).block, (ad380.add ((x5_1).toNat * 12)).off + 5, none⟩ = some (.int .i64 ((rd_T63 l1 x5_1).f5)) ∧ w'.cell? ⟨(ad380.add ((x5_1).toNat * 12)).block, (ad380.add ((x5_1).toNat * 12)).off + 6, none⟩ = some (.int .i64 ((rd_T63 l1 x5_1).f6.f0)) ∧ w'.cell? ⟨(ad380.add ((x5_1).toNat * 12)).block, (ad380.add ((x5_1).toNat * 12)).off + 7, none⟩ = some (.string ((rd_T63 l1 x5_1).f6.f1)) ∧ w'.cell? ⟨(ad380.add ((x5_1).toNat * 12)).block, (ad380.add ((x5_1).toNat * 12)).off + 8, none⟩ = some (.int .i64 ((rd_T63 l1 x5_1).f6.f2)) ∧ w'.cell? ⟨(ad380.add ((x5_1).toNat * 12)).block, (ad380.add ((x5_1).toNat * 12)).off + 9, none⟩ = some (.slice A380_9 ((rd_T63 l1 x5_1).f6.f3).length c380_9) ∧ w'.cell? ⟨(ad380.add ((x5_1).toNat * 12)).block, (ad380.add ((x5_1).toNat * 12)).off + 10, none⟩ = some (.int .i64 ((rd_T63 l1 x5_1).f7)) ∧ w'.cell? ⟨(ad380.add ((x5_1).toNat * 12)).block, (ad380.add ((x5_1).toNat * 12)).off + 11, none⟩ = some (.string ((rd_T63 l1 x5_1).f8))) (ds := []) #[false, false, false, false, false, false, false, false, false, false] (by kernel_rfl) rfl rfl ⟨((HB.out.cell (World.block_lt_of_cell? w _ hw379_0)).trans hw379_0), ((HB.out.cell (World.block_lt_of_cell? w _ hw379_1)).trans hw379_1), ((HB.out.cell (World.block_lt_of_cell? w _ hw379_2)).trans hw379_2), ((HB.out.cell (World.block_lt_of_cell? w _ hw379_3)).trans hw379_3), ((HB.out.cell (World.block_lt_of_cell? w _ hw379_4)).trans hw379_4), ((HB.out.cell (World.block_lt_of_cell? w _ hw379_5)).trans hw379_5), ((HB.out.cell (World.block_lt_of_cell? w _ hw379_6)).trans hw379_6), ((HB.out.cell (World.block_lt_of_cell? w _ hw379_7)).trans hw379_7), ((HB.out.cell (World.block_lt_of_cell? w _ hw379_8)).trans hw379_8), ((HB.out.cell (World.block_lt_of_cell? w _ hw379_9)).trans hw379_9), ((HB.out.cell (World.block_lt_of_cell? w _ hw379_10)).trans hw379_10), ((HB.out.cell (World.block_lt_of_cell? w _ hw379_11)).trans hw379_11), ((HB.out.cell (World.block_lt_of_cell? w _ hw380_0)).trans hw380_0), ((HB.out.cell (World.block_lt_of_cell? w _ hw380_1)).trans hw380_1), ((HB.out.cell (World.block_lt_of_cell? w _ hw380_2)).trans hw380_2), ((HB.out.cell (World.block_lt_of_cell? w _ hw380_3)).trans hw380_3), ((HB.out.cell (World.block_lt_of_cell? w _ hw380_4)).trans hw380_4), ((HB.out.cell (World.block_lt_of_cell? w _ hw380_5)).trans hw380_5), ((HB.out.cell (World.block_lt_of_cell? w _ hw380_6)).trans hw380_6), ((HB.out.cell (World.block_lt_of_cell? w _ hw380_7)).trans hw380_7), ((HB.out.cell (World.block_lt_of_cell? w _ hw380_8)).trans hw380_8), ((HB.out.cell (World.block_lt_of_cell? w _ hw380_9)).trans hw380_9), ((HB.out.cell (World.block_lt_of_cell? w _ hw380_10)).trans hw380_10), ((HB.out.cell (World.block_lt_of_cell? w _ hw380_11)).trans hw380_11)⟩ (fun hHeld => ?_); refine with_tabW laws_eqClauseS.tab6 laws_eqClauseS.bits6 (fun HT_ HW_ => ?_)
    generalize wr.drew = w11 at HB HR379_9 HR380_9 hx379_0 hx379_1 hx379_10 hx379_11 hx379_2 hx379_3 hx379_4 hx379_5 hx379_6 hx379_7 hx379_8 hx379_9 hx380_0 hx380_1 hx380_10 hx380_11 hx380_2 hx380_3 hx380_4 hx380_5 hx380_6 hx380_7 hx380_8 hx380_9 hHeld ⊢
    refine pure_ (i := 0) (N := some 17) (v := ?_) (a' := ?_) #[true, false, false, false, false, false, false, false, false, false] rfl rfl (any_of HT_.out (by kernel_rfl)) (fun _ _ _ h => h) (Or.inl ⟨by rfl, ?_⟩) ?_ ?_
    rotate_left
    ·
     intro w'
     go_simp
     with_reducible rfl
    rotate_left
    ·
     simp only [Own.ps]
     rfl
    refine pure_ (i := 1) (N := some 18) (v := ?_) (a' := ?_) #[true, true, false, false, false, false, false, false, false, false] rfl rfl (any_of HT_.out (by kernel_rfl)) (fun _ _ _ h => h) (Or.inl ⟨by rfl, ?_⟩) ?_ ?_
    rotate_left
    ·
     intro w'
     go_simp
     with_reducible rfl
    rotate_left
    ·
     simp only [Own.ps]
     rfl
    refine pure_ (i := 2) (N := some 19) (v := ?_) (a' := ?_) #[true, true, true, false, false, false, false, false, false, false] rfl rfl (any_of HT_.out (by kernel_rfl)) (fun _ _ _ h => h) (Or.inl ⟨by rfl, ?_⟩) ?_ ?_
    rotate_left
    ·
     intro w'
     go_simp
     with_reducible rfl
    rotate_left
    ·
     simp only [Own.ps]
     rfl
    refine pure_ (i := 4) (N := some 21) (v := ?_) (a' := ?_) #[true, true, true, false, true, false, false, false, false, false] rfl rfl (any_of HT_.out (by kernel_rfl)) (fun _ _ _ h => h) (Or.inl ⟨by rfl, ?_⟩) ?_ ?_
    rotate_left
    ·
     intro w'
     go_simp
     with_reducible rfl
    rotate_left
    ·
     simp only [Own.ps]
     rfl
    refine pure_ (i := 5) (N := some 22) (v := ?_) (a' := ?_) #[true, true, true, false, true, true, false, false, false, false] rfl rfl (any_of HT_.out (by kernel_rfl)) (fun _ _ _ h => h) (Or.inl ⟨by rfl, ?_⟩) ?_ ?_
    rotate_left
    ·
     intro w'
     go_simp
     with_reducible rfl
    rotate_left
    ·
     simp only [Own.ps]
     rfl
    refine pure_ (i := 6) (N := some 23) (v := ?_) (a' := ?_) #[true, true, true, false, true, true, true, false, false, false] rfl rfl (any_of HT_.out (by kernel_rfl)) (fun _ _ _ h => h) (Or.inl ⟨by rfl, ?_⟩) ?_ ?_
    rotate_left
    ·
     intro w'
     go_simp
     with_reducible rfl
    rotate_left
    ·
     simp only [Own.ps]
     rfl
    refine take_ (i := 3) (N := some 20) (v := ?_) (a' := ?_) #[true, true, true, true, true, true, true, false, false, false] rfl rfl (take_ofW HT_.out HW_.out (by kernel_rfl)) (fun _ _ _ h => h) (Or.inl ⟨by rfl, ?_⟩) hHeld ?_ ?_
    rotate_left
    ·
     rintro w' ⟨s0, s1, s2, s3, s4, s5, s6, s7, s8, s9, s10, s11, s12, s13, s14, s15, s16, s17, s18, s19, s20, s21, s22, s23⟩
     go_simp
     with_reducible rfl
    rotate_left
    ·
     simp only [Own.ps]
     rfl
    refine take_ (i := 7) (N := some 24) (v := ?_) (a' := ?_) #[true, true, true, true, true, true, true, true, false, false] rfl rfl (take_ofW HT_.out HW_.out (by kernel_rfl)) (fun _ _ _ h => h) (Or.inl ⟨by rfl, ?_⟩) hHeld ?_ ?_
    rotate_left
    ·
     rintro w' ⟨s0, s1, s2, s3, s4, s5, s6, s7, s8, s9, s10, s11, s12, s13, s14, s15, s16, s17, s18, s19, s20, s21, s22, s23⟩
     go_simp
     with_reducible rfl
    rotate_left
    ·
     simp only [Own.ps]
     rfl
    refine one_ (i := 8) (N := some 25) #[true, true, true, true, true, true, true, true, true, false] rfl rfl (one_of HT_.out (by kernel_rfl)) (by decide) (fun K hK => ?_)
    refine goes_ Tryd.func44 (by kernel_rfl) rfl #[.agg #[.string ((rd_T63 l0 x5_1).f0), .int .i64 ((rd_T63 l0 x5_1).f1), .int .i64 ((rd_T63 l0 x5_1).f2), .string ((rd_T63 l0 x5_1).f3), .int .i64 ((rd_T63 l0 x5_1).f4), .int .i64 ((rd_T63 l0 x5_1).f5), .int .i64 ((rd_T63 l0 x5_1).f6.f0), .string ((rd_T63 l0 x5_1).f6.f1), .int .i64 ((rd_T63 l0 x5_1).f6.f2), .slice A379_9 ((rd_T63 l0 x5_1).f6.f3).length c379_9, .int .i64 ((rd_T63 l0 x5_1).f7), .string ((rd_T63 l0 x5_1).f8)], .agg #[.string ((rd_T63 l1 x5_1).f0), .int .i64 ((rd_T63 l1 x5_1).f1), .int .i64 ((rd_T63 l1 x5_1).f2), .string ((rd_T63 l1 x5_1).f3), .int .i64 ((rd_T63 l1 x5_1).f4), .int .i64 ((rd_T63 l1 x5_1).f5), .int .i64 ((rd_T63 l1 x5_1).f6.f0), .string ((rd_T63 l1 x5_1).f6.f1), .int .i64 ((rd_T63 l1 x5_1).f6.f2), .slice A380_9 ((rd_T63 l1 x5_1).f6.f3).length c380_9, .int .i64 ((rd_T63 l1 x5_1).f7), .string ((rd_T63 l1 x5_1).f8)]] (by rfl) rfl rfl Own.ha ?_
    with_reducible refine (laws_eqClause.calls k1 ((rd_T63 l0 x5_1).f0) ((rd_T63 l0 x5_1).f1) ((rd_T63 l0 x5_1).f2) ((rd_T63 l0 x5_1).f3) ((rd_T63 l0 x5_1).f4) ((rd_T63 l0 x5_1).f5) ((rd_T63 l0 x5_1).f6.f0) ((rd_T63 l0 x5_1).f6.f1) ((rd_T63 l0 x5_1).f6.f2) _ _ ((rd_T63 l0 x5_1).f6.f3) ((rd_T63 l0 x5_1).f7) ((rd_T63 l0 x5_1).f8) ((rd_T63 l1 x5_1).f0) ((rd_T63 l1 x5_1).f1) ((rd_T63 l1 x5_1).f2) ((rd_T63 l1 x5_1).f3) ((rd_T63 l1 x5_1).f4) ((rd_T63 l1 x5_1).f5) ((rd_T63 l1 x5_1).f6.f0) ((rd_T63 l1 x5_1).f6.f1) ((rd_T63 l1 x5_1).f6.f2) _ _ ((rd_T63 l1 x5_1).f6.f3) ((rd_T63 l1 x5_1).f7) ((rd_T63 l1 x5_1).f8) false _ ?side1 ?side2 ?side3 ?side4 A7.out).mono ?_
    (case side1 => exact Kd.C_below HR379_9.out Own.bl)
    (case side2 => exact HC379_9.out)
    (case side3 => exact Kd.C_below HR380_9.out Own.bl)
    (case side4 => exact HC380_9.out)
    rintro e w12 ⟨rfl, hb⟩
    refine ⟨_, rfl, ?_⟩
    have n0_ := Own.bs hb
    clear HB
    have HB := n0_
    clear n0_
    (try clear hb)
    (try clear hb2)
    (try clear hk)
    (try clear hi)
    refine hK.out _ _ ⟨((HB.out.cell (World.block_lt_of_cell? w _ hw379_0)).trans hw379_0), ((HB.out.cell (World.block_lt_of_cell? w _ hw379_1)).trans hw379_1), ((HB.out.cell (World.block_lt_of_cell? w _ hw379_2)).trans hw379_2), ((HB.out.cell (World.block_lt_of_cell? w _ hw379_3)).trans hw379_3), ((HB.out.cell (World.block_lt_of_cell? w _ hw379_4)).trans hw379_4), ((HB.out.cell (World.block_lt_of_cell? w _ hw379_5)).trans hw379_5), ((HB.out.cell (World.block_lt_of_cell? w _ hw379_6)).trans hw379_6), ((HB.out.cell (World.block_lt_of_cell? w _ hw379_7)).trans hw379_7), ((HB.out.cell (World.block_lt_of_cell? w _ hw379_8)).trans hw379_8), ((HB.out.cell (World.block_lt_of_cell? w _ hw379_9)).trans hw379_9), ((HB.out.cell (World.block_lt_of_cell? w _ hw379_10)).trans hw379_10), ((HB.out.cell (World.block_lt_of_cell? w _ hw379_11)).trans hw379_11), ((HB.out.cell (World.block_lt_of_cell? w _ hw380_0)).trans hw380_0), ((HB.out.cell (World.block_lt_of_cell? w _ hw380_1)).trans hw380_1), ((HB.out.cell (World.block_lt_of_cell? w _ hw380_2)).trans hw380_2), ((HB.out.cell (World.block_lt_of_cell? w _ hw380_3)).trans hw380_3), ((HB.out.cell (World.block_lt_of_cell? w _ hw380_4)).trans hw380_4), ((HB.out.cell (World.block_lt_of_cell? w _ hw380_5)).trans hw380_5), ((HB.out.cell (World.block_lt_of_cell? w _ hw380_6)).trans hw380_6), ((HB.out.cell (World.block_lt_of_cell? w _ hw380_7)).trans hw380_7), ((HB.out.cell (World.block_lt_of_cell? w _ hw380_8)).trans hw380_8), ((HB.out.cell (World.block_lt_of_cell? w _ hw380_9)).trans hw380_9), ((HB.out.cell (World.block_lt_of_cell? w _ hw380_10)).trans hw380_10), ((HB.out.cell (World.block_lt_of_cell? w _ hw380_11)).trans hw380_11)⟩ (fun hHeld => ?_)
    clear hK K
    refine norm_ (a' := ?_) ?_ ?_
    rotate_left
    ·
     show Act.put _ (some 25) _ = _
     simp only [Own.ps]
     rfl
    refine pure_ (i := 9) (N := some 26) (v := ?_) (a' := ?_) #[true, true, true, true, true, true, true, true, true, true] rfl rfl (any_of HT_.out (by kernel_rfl)) (fun _ _ _ h => h) (Or.inl ⟨by rfl, ?_⟩) ?_ ?_
    rotate_left
    ·
     intro w'
     go_simp
     with_reducible rfl
    rotate_left
    ·
     simp only [Own.ps]
     rfl
    refine done_ (done_of HT_.out (by kernel_rfl)) ?_
    try go_wp2
    go_ret
    exact ⟨Own.rr, Own.bl⟩
   have H' := Aside0.mk H
   clear H
   try go_wp2
   have n0_ := Aside0.mk (below_drew1 HB.out)
   clear HB
   have HB := n0_
   clear n0_
   have p379 : 0 ≤ (x5_1 : Int) := Own.dp
   have q379 : x5_1 < (l0.length : Int) := Own.dp
   obtain ⟨ad379, A379_9, c379_9, e379, hx379_0, hx379_1, hx379_2, hx379_3, hx379_4, hx379_5, hx379_6, hx379_7, hx379_8, hx379_9, hx379_10, hx379_11, hl379_9, hi379_9⟩ := at_T63 HR0.out x5_1 p379 q379
   have hw379_11 := hx379_11
   have hw379_10 := hx379_10
   have hw379_9 := hx379_9
   have hw379_8 := hx379_8
   have hw379_7 := hx379_7
   have hw379_6 := hx379_6
   have hw379_5 := hx379_5
   have hw379_4 := hx379_4
   have hw379_3 := hx379_3
   have hw379_2 := hx379_2
   have hw379_1 := hx379_1
   have hw379_0 := hx379_0
   cases e379
   replace hx379_0 := Own.up HB.out hx379_0
   replace hx379_1 := Own.up HB.out hx379_1
   replace hx379_2 := Own.up HB.out hx379_2
   replace hx379_3 := Own.up HB.out hx379_3
   replace hx379_4 := Own.up HB.out hx379_4
   replace hx379_5 := Own.up HB.out hx379_5
   replace hx379_6 := Own.up HB.out hx379_6
   replace hx379_7 := Own.up HB.out hx379_7
   replace hx379_8 := Own.up HB.out hx379_8
   replace hx379_9 := Own.up HB.out hx379_9
   replace hx379_10 := Own.up HB.out hx379_10
   replace hx379_11 := Own.up HB.out hx379_11
   have HR379_9 := Aside0.mk hi379_9
   have HC379_9 := Aside0.mk hl379_9
   clear hi379_9 hl379_9
   replace p379 := eq_true p379
   replace q379 := eq_true q379
   have p380 : 0 ≤ (x5_1 : Int) := Own.dp
   have q380 : x5_1 < (l1.length : Int) := Own.dp
   obtain ⟨ad380, A380_9, c380_9, e380, hx380_0, hx380_1, hx380_2, hx380_3, hx380_4, hx380_5, hx380_6, hx380_7, hx380_8, hx380_9, hx380_10, hx380_11, hl380_9, hi380_9⟩ := at_T63 HR1.out x5_1 p380 q380
   have hw380_11 := hx380_11
   have hw380_10 := hx380_10
   have hw380_9 := hx380_9
   have hw380_8 := hx380_8
   have hw380_7 := hx380_7
   have hw380_6 := hx380_6
   have hw380_5 := hx380_5
   have hw380_4 := hx380_4
   have hw380_3 := hx380_3
   have hw380_2 := hx380_2
   have hw380_1 := hx380_1
   have hw380_0 := hx380_0
   cases e380
   replace hx380_0 := Own.up HB.out hx380_0
   replace hx380_1 := Own.up HB.out hx380_1
   replace hx380_2 := Own.up HB.out hx380_2
   replace hx380_3 := Own.up HB.out hx380_3
   replace hx380_4 := Own.up HB.out hx380_4
   replace hx380_5 := Own.up HB.out hx380_5
   replace hx380_6 := Own.up HB.out hx380_6
   replace hx380_7 := Own.up HB.out hx380_7
   replace hx380_8 := Own.up HB.out hx380_8
   replace hx380_9 := Own.up HB.out hx380_9
   replace hx380_10 := Own.up HB.out hx380_10
   replace hx380_11 := Own.up HB.out hx380_11
   have HR380_9 := Aside0.mk hi380_9
   have HC380_9 := Aside0.mk hl380_9
   clear hi380_9 hl380_9
   replace p380 := eq_true p380
   replace q380 := eq_true q380
   refine start_ (n := 10) (S := fun w' => w'.cell? (ad379.add ((x5_1).toNat * 12)) = some (.string ((rd_T63 l0 x5_1).f0)) ∧ w'.cell? ⟨(ad379.add ((x5_1).toNat * 12)).block, (ad379.add ((x5_1).toNat * 12)).off + 1, none⟩ = some (.int .i64 ((rd_T63 l0 x5_1).f1)) ∧ w'.cell? ⟨(ad379.add ((x5_1).toNat * 12)).block, (ad379.add ((x5_1).toNat * 12)).off + 2, none⟩ = some (.int .i64 ((rd_T63 l0 x5_1).f2)) ∧ w'.cell? ⟨(ad379.add ((x5_1).toNat * 12)).block, (ad379.add ((x5_1).toNat * 12)).off + 3, none⟩ = some (.string ((rd_T63 l0 x5_1).f3)) ∧ w'.cell? ⟨(ad379.add ((x5_1).toNat * 12)).block, (ad379.add ((x5_1).toNat * 12)).off + 4, none⟩ = some (.int .i64 ((rd_T63 l0 x5_1).f4)) ∧ w'.cell? ⟨(ad379.add ((x5_1).toNat * 12)).block, (ad379.add ((x5_1).toNat * 12)).off + 5, none⟩ = some (.int .i64 ((rd_T63 l0 x5_1).f5)) ∧ w'.cell? ⟨(ad379.add ((x5_1).toNat * 12)).block, (ad379.add ((x5_1).toNat * 12)).off + 6, none⟩ = some (.int .i64 ((rd_T63 l0 x5_1).f6.f0)) ∧ w'.cell? ⟨(ad379.add ((x5_1).toNat * 12)).block, (ad379.add ((x5_1).toNat * 12)).off + 7, none⟩ = some (.string ((rd_T63 l0 x5_1).f6.f1)) ∧ w'.cell? ⟨(ad379.add ((x5_1).toNat * 12)).block, (ad379.add ((x5_1).toNat * 12)).off + 8, none⟩ = some (.int .i64 ((rd_T63 l0 x5_1).f6.f2)) ∧ w'.cell? ⟨(ad379.add ((x5_1).toNat * 12)).block, (ad379.add ((x5_1).toNat * 12)).off + 9, none⟩ = some (.slice A379_9 ((rd_T63 l0 x5_1).f6.f3).length c379_9) ∧ w'.cell? ⟨(ad379.add ((x5_1).toNat * 12)).block, (ad379.add ((x5_1).toNat * 12)).off + 10, none⟩ = some (.int .i64 ((rd_T63 l0 x5_1).f7)) ∧ w'.cell? ⟨(ad379.add ((x5_1).toNat * 12)).block, (ad379.add ((x5_1).toNat * 12)).off + 11, none⟩ = some (.string ((rd_T63 l0 x5_1).f8)) ∧ w'.cell? (ad380.add ((x5_1).toNat * 12)) = some (.string ((rd_T63 l1 x5_1).f0)) ∧ w'.cell? ⟨(ad380.add ((x5_1).toNat * 12)).block, (ad380.add ((x5_1).toNat * 12)).off + 1, none⟩ = some (.int .i64 ((rd_T63 l1 x5_1).f1)) ∧ w'.cell? ⟨(ad380.add ((x5_1).toNat * 12)).block, (ad380.add ((x5_1).toNat * 12)).off + 2, none⟩ = some (.int .i64 ((rd_T63 l1 x5_1).f2)) ∧ w'.cell? ⟨(ad380.add ((x5_1).toNat * 12)).block, (ad380.add ((x5_1).toNat * 12)).off + 3, none⟩ = some (.string ((rd_T63 l1 x5_1).f3)) ∧ w'.cell? ⟨(ad380.add ((x5_1).toNat * 12)).block, (ad380.add ((x5_1).toNat * 12)).off + 4, none⟩ = some (.int .i64 ((rd_T63 l1 x5_1).f4)) ∧ w'.cell? ⟨(ad380.add ((x5_1).toNat * 12)).block, (ad380.add ((x5_1).toNat * 12)).off + 5, none⟩ = some (.int .i64 ((rd_T63 l1 x5_1).f5)) ∧ w'.cell? ⟨(ad380.add ((x5_1).toNat * 12)).block, (ad380.add ((x5_1).toNat * 12)).off + 6, none⟩ = some (.int .i64 ((rd_T63 l1 x5_1).f6.f0)) ∧ w'.cell? ⟨(ad380.add ((x5_1).toNat * 12)).block, (ad380.add ((x5_1).toNat * 12)).off + 7, none⟩ = some (.string ((rd_T63 l1 x5_1).f6.f1)) ∧ w'.cell? ⟨(ad380.add ((x5_1).toNat * 12)).block, (ad380.add ((x5_1).toNat * 12)).off + 8, none⟩ = some (.int .i64 ((rd_T63 l1 x5_1).f6.f2)) ∧ w'.cell? ⟨(ad380.add ((x5_1).toNat * 12)).block, (ad380.add ((x5_1).toNat * 12)).off + 9, none⟩ = some (.slice A380_9 ((rd_T63 l1 x5_1).f6.f3).length c380_9) ∧ w'.cell? ⟨(ad380.add ((x5_1).toNat * 12)).block, (ad380.add ((x5_1).toNat * 12)).off + 10, none⟩ = some (.int .i64 ((rd_T63 l1 x5_1).f7)) ∧ w'.cell? ⟨(ad380.add ((x5_1).toNat * 12)).block, (ad380.add ((x5_1).toNat * 12)).off + 11, none⟩ = some (.string ((rd_T63 l1 x5_1).f8))) (ds := []) #[false, false, false, false, false, false, false, false, false, false] (by kernel_rfl) rfl rfl ⟨((HB.out.cell (World.block_lt_of_cell? w _ hw379_0)).trans hw379_0), ((HB.out.cell (World.block_lt_of_cell? w _ hw379_1)).trans hw379_1), ((HB.out.cell (World.block_lt_of_cell? w _ hw379_2)).trans hw379_2), ((HB.out.cell (World.block_lt_of_cell? w _ hw379_3)).trans hw379_3), ((HB.out.cell (World.block_lt_of_cell? w _ hw379_4)).trans hw379_4), ((HB.out.cell (World.block_lt_of_cell? w _ hw379_5)).trans hw379_5), ((HB.out.cell (World.block_lt_of_cell? w _ hw379_6)).trans hw379_6), ((HB.out.cell (World.block_lt_of_cell? w _ hw379_7)).trans hw379_7), ((HB.out.cell (World.block_lt_of_cell? w _ hw379_8)).trans hw379_8), ((HB.out.cell (World.block_lt_of_cell? w _ hw379_9)).trans hw379_9), ((HB.out.cell (World.block_lt_of_cell? w _ hw379_10)).trans hw379_10), ((HB.out.cell (World.block_lt_of_cell? w _ hw379_11)).trans hw379_11), ((HB.out.cell (World.block_lt_of_cell? w _ hw380_0)).trans hw380_0), ((HB.out.cell (World.block_lt_of_cell? w _ hw380_1)).trans hw380_1), ((HB.out.cell (World.block_lt_of_cell? w _ hw380_2)).trans hw380_2), ((HB.out.cell (World.block_lt_of_cell? w _ hw380_3)).trans hw380_3), ((HB.out.cell (World.block_lt_of_cell? w _ hw380_4)).trans hw380_4), ((HB.out.cell (World.block_lt_of_cell? w _ hw380_5)).trans hw380_5), ((HB.out.cell (World.block_lt_of_cell? w _ hw380_6)).trans hw380_6), ((HB.out.cell (World.block_lt_of_cell? w _ hw380_7)).trans hw380_7), ((HB.out.cell (World.block_lt_of_cell? w _ hw380_8)).trans hw380_8), ((HB.out.cell (World.block_lt_of_cell? w _ hw380_9)).trans hw380_9), ((HB.out.cell (World.block_lt_of_cell? w _ hw380_10)).trans hw380_10), ((HB.out.cell (World.block_lt_of_cell? w _ hw380_11)).trans hw380_11)⟩ (fun hHeld => ?_); refine with_tabW laws_eqClauseS.tab6 laws_eqClauseS.bits6 (fun HT_ HW_ => ?_)
   generalize wr.drew = w9 at HB HR379_9 HR380_9 hx379_0 hx379_1 hx379_10 hx379_11 hx379_2 hx379_3 hx379_4 hx379_5 hx379_6 hx379_7 hx379_8 hx379_9 hx380_0 hx380_1 hx380_10 hx380_11 hx380_2 hx380_3 hx380_4 hx380_5 hx380_6 hx380_7 hx380_8 hx380_9 hHeld ⊢
   refine pure_ (i := 0) (N := some 17) (v := ?_) (a' := ?_) #[true, false, false, false, false, false, false, false, false, false] rfl rfl (any_of HT_.out (by kernel_rfl)) (fun _ _ _ h => h) (Or.inl ⟨by rfl, ?_⟩) ?_ ?_
   rotate_left
   ·
    intro w'
    go_simp
    with_reducible rfl
   rotate_left
   ·
    simp only [Own.ps]
    rfl
   refine pure_ (i := 1) (N := some 18) (v := ?_) (a' := ?_) #[true, true, false, false, false, false, false, false, false, false] rfl rfl (any_of HT_.out (by kernel_rfl)) (fun _ _ _ h => h) (Or.inl ⟨by rfl, ?_⟩) ?_ ?_
   rotate_left
   ·
    intro w'
    go_simp
    with_reducible rfl
   rotate_left
   ·
    simp only [Own.ps]
    rfl
   refine pure_ (i := 2) (N := some 19) (v := ?_) (a' := ?_) #[true, true, true, false, false, false, false, false, false, false] rfl rfl (any_of HT_.out (by kernel_rfl)) (fun _ _ _ h => h) (Or.inl ⟨by rfl, ?_⟩) ?_ ?_
   rotate_left
   ·
    intro w'
    go_simp
    with_reducible rfl
   rotate_left
   ·
    simp only [Own.ps]
    rfl
   refine pure_ (i := 4) (N := some 21) (v := ?_) (a' := ?_) #[true, true, true, false, true, false, false, false, false, false] rfl rfl (any_of HT_.out (by kernel_rfl)) (fun _ _ _ h => h) (Or.inl ⟨by rfl, ?_⟩) ?_ ?_
   rotate_left
   ·
    intro w'
    go_simp
    with_reducible rfl
   rotate_left
   ·
    simp only [Own.ps]
    rfl
   refine pure_ (i := 5) (N := some 22) (v := ?_) (a' := ?_) #[true, true, true, false, true, true, false, false, false, false] rfl rfl (any_of HT_.out (by kernel_rfl)) (fun _ _ _ h => h) (Or.inl ⟨by rfl, ?_⟩) ?_ ?_
   rotate_left
   ·
    intro w'
    go_simp
    with_reducible rfl
   rotate_left
   ·
    simp only [Own.ps]
    rfl
   refine pure_ (i := 6) (N := some 23) (v := ?_) (a' := ?_) #[true, true, true, false, true, true, true, false, false, false] rfl rfl (any_of HT_.out (by kernel_rfl)) (fun _ _ _ h => h) (Or.inl ⟨by rfl, ?_⟩) ?_ ?_
   rotate_left
   ·
    intro w'
    go_simp
    with_reducible rfl
   rotate_left
   ·
    simp only [Own.ps]
    rfl
   refine take_ (i := 3) (N := some 20) (v := ?_) (a' := ?_) #[true, true, true, true, true, true, true, false, false, false] rfl rfl (take_ofW HT_.out HW_.out (by kernel_rfl)) (fun _ _ _ h => h) (Or.inl ⟨by rfl, ?_⟩) hHeld ?_ ?_
   rotate_left
   ·
    rintro w' ⟨s0, s1, s2, s3, s4, s5, s6, s7, s8, s9, s10, s11, s12, s13, s14, s15, s16, s17, s18, s19, s20, s21, s22, s23⟩
    go_simp
    with_reducible rfl
   rotate_left
   ·
    simp only [Own.ps]
    rfl
   refine take_ (i := 7) (N := some 24) (v := ?_) (a' := ?_) #[true, true, true, true, true, true, true, true, false, false] rfl rfl (take_ofW HT_.out HW_.out (by kernel_rfl)) (fun _ _ _ h => h) (Or.inl ⟨by rfl, ?_⟩) hHeld ?_ ?_
   rotate_left
   ·
    rintro w' ⟨s0, s1, s2, s3, s4, s5, s6, s7, s8, s9, s10, s11, s12, s13, s14, s15, s16, s17, s18, s19, s20, s21, s22, s23⟩
    go_simp
    with_reducible rfl
   rotate_left
   ·
    simp only [Own.ps]
    rfl
   refine one_ (i := 8) (N := some 25) #[true, true, true, true, true, true, true, true, true, false] rfl rfl (one_of HT_.out (by kernel_rfl)) (by decide) (fun K hK => ?_)
   refine goes_ Tryd.func44 (by kernel_rfl) rfl #[.agg #[.string ((rd_T63 l0 x5_1).f0), .int .i64 ((rd_T63 l0 x5_1).f1), .int .i64 ((rd_T63 l0 x5_1).f2), .string ((rd_T63 l0 x5_1).f3), .int .i64 ((rd_T63 l0 x5_1).f4), .int .i64 ((rd_T63 l0 x5_1).f5), .int .i64 ((rd_T63 l0 x5_1).f6.f0), .string ((rd_T63 l0 x5_1).f6.f1), .int .i64 ((rd_T63 l0 x5_1).f6.f2), .slice A379_9 ((rd_T63 l0 x5_1).f6.f3).length c379_9, .int .i64 ((rd_T63 l0 x5_1).f7), .string ((rd_T63 l0 x5_1).f8)], .agg #[.string ((rd_T63 l1 x5_1).f0), .int .i64 ((rd_T63 l1 x5_1).f1), .int .i64 ((rd_T63 l1 x5_1).f2), .string ((rd_T63 l1 x5_1).f3), .int .i64 ((rd_T63 l1 x5_1).f4), .int .i64 ((rd_T63 l1 x5_1).f5), .int .i64 ((rd_T63 l1 x5_1).f6.f0), .string ((rd_T63 l1 x5_1).f6.f1), .int .i64 ((rd_T63 l1 x5_1).f6.f2), .slice A380_9 ((rd_T63 l1 x5_1).f6.f3).length c380_9, .int .i64 ((rd_T63 l1 x5_1).f7), .string ((rd_T63 l1 x5_1).f8)]] (by rfl) rfl rfl Own.ha ?_
   with_reducible refine (laws_eqClause.calls k1 ((rd_T63 l0 x5_1).f0) ((rd_T63 l0 x5_1).f1) ((rd_T63 l0 x5_1).f2) ((rd_T63 l0 x5_1).f3) ((rd_T63 l0 x5_1).f4) ((rd_T63 l0 x5_1).f5) ((rd_T63 l0 x5_1).f6.f0) ((rd_T63 l0 x5_1).f6.f1) ((rd_T63 l0 x5_1).f6.f2) _ _ ((rd_T63 l0 x5_1).f6.f3) ((rd_T63 l0 x5_1).f7) ((rd_T63 l0 x5_1).f8) ((rd_T63 l1 x5_1).f0) ((rd_T63 l1 x5_1).f1) ((rd_T63 l1 x5_1).f2) ((rd_T63 l1 x5_1).f3) ((rd_T63 l1 x5_1).f4) ((rd_T63 l1 x5_1).f5) ((rd_T63 l1 x5_1).f6.f0) ((rd_T63 l1 x5_1).f6.f1) ((rd_T63 l1 x5_1).f6.f2) _ _ ((rd_T63 l1 x5_1).f6.f3) ((rd_T63 l1 x5_1).f7) ((rd_T63 l1 x5_1).f8) true _ ?side1 ?side2 ?side3 ?side4 A7.out).mono ?_
   (case side1 => exact Kd.C_below HR379_9.out Own.bl)
   (case side2 => exact HC379_9.out)
   (case side3 => exact Kd.C_below HR380_9.out Own.bl)
   (case side4 => exact HC380_9.out)
   rintro e w10 ⟨rfl, hb⟩
   refine ⟨_, rfl, ?_⟩
   have n0_ := Own.bs hb
   clear HB
   have HB := n0_
   clear n0_
   (try clear hb)
   (try clear hb2)
   (try clear hk)
   (try clear hi)
   refine hK.out _ _ ⟨((HB.out.cell (World.block_lt_of_cell? w _ hw379_0)).trans hw379_0), ((HB.out.cell (World.block_lt_of_cell? w _ hw379_1)).trans hw379_1), ((HB.out.cell (World.block_lt_of_cell? w _ hw379_2)).trans hw379_2), ((HB.out.cell (World.block_lt_of_cell? w _ hw379_3)).trans hw379_3), ((HB.out.cell (World.block_lt_of_cell? w _ hw379_4)).trans hw379_4), ((HB.out.cell (World.block_lt_of_cell? w _ hw379_5)).trans hw379_5), ((HB.out.cell (World.block_lt_of_cell? w _ hw379_6)).trans hw379_6), ((HB.out.cell (World.block_lt_of_cell? w _ hw379_7)).trans hw379_7), ((HB.out.cell (World.block_lt_of_cell? w _ hw379_8)).trans hw379_8), ((HB.out.cell (World.block_lt_of_cell? w _ hw379_9)).trans hw379_9), ((HB.out.cell (World.block_lt_of_cell? w _ hw379_10)).trans hw379_10), ((HB.out.cell (World.block_lt_of_cell? w _ hw379_11)).trans hw379_11), ((HB.out.cell (World.block_lt_of_cell? w _ hw380_0)).trans hw380_0), ((HB.out.cell (World.block_lt_of_cell? w _ hw380_1)).trans hw380_1), ((HB.out.cell (World.block_lt_of_cell? w _ hw380_2)).trans hw380_2), ((HB.out.cell (World.block_lt_of_cell? w _ hw380_3)).trans hw380_3), ((HB.out.cell (World.block_lt_of_cell? w _ hw380_4)).trans hw380_4), ((HB.out.cell (World.block_lt_of_cell? w _ hw380_5)).trans hw380_5), ((HB.out.cell (World.block_lt_of_cell? w _ hw380_6)).trans hw380_6), ((HB.out.cell (World.block_lt_of_cell? w _ hw380_7)).trans hw380_7), ((HB.out.cell (World.block_lt_of_cell? w _ hw380_8)).trans hw380_8), ((HB.out.cell (World.block_lt_of_cell? w _ hw380_9)).trans hw380_9), ((HB.out.cell (World.block_lt_of_cell? w _ hw380_10)).trans hw380_10), ((HB.out.cell (World.block_lt_of_cell? w _ hw380_11)).trans hw380_11)⟩ (fun hHeld => ?_)
   clear hK K
   refine norm_ (a' := ?_) ?_ ?_
   rotate_left
   ·
    show Act.put _ (some 25) _ = _
    simp only [Own.ps]
    rfl
   refine pure_ (i := 9) (N := some 26) (v := ?_) (a' := ?_) #[true, true, true, true, true, true, true, true, true, true] rfl rfl (any_of HT_.out (by kernel_rfl)) (fun _ _ _ h => h) (Or.inl ⟨by rfl, ?_⟩) ?_ ?_
   rotate_left
   ·
    intro w'
    go_simp
    with_reducible rfl
   rotate_left
   ·
    simp only [Own.ps]
    rfl
   refine done_ (done_of HT_.out (by kernel_rfl)) ?_
   try go_wp2
   go_roundg k1
   case measure => have := HK1.out; omega
   case rel => exact ⟨(wrap64 (x5_1 + 1)), Own.rs, H', ⟨by have := HK1.out; omega⟩, ⟨Own.bl⟩⟩

/-! ### laws_eqContract: function 10 -/
def laws_eqContract.f (k : Nat) (l0_0 : List ByteArray) (l0_1 : List (S63)) (l1_0 : List ByteArray) (l1_1 : List (S63)) : Option (Bool) := (laws_eqStringS.f k l0_0 l1_0).bind fun t384 => (if t384 = true then ((laws_eqClauseS.f k l0_1 l1_1).bind fun t385 => (if t385 = true then (some true) else (some false))) else (some false))
theorem laws_eqContract.mono : ∀ a0 a1 a2 a3 k, LeO (laws_eqContract.f k a0 a1 a2 a3) (laws_eqContract.f (k + 1) a0 a1 a2 a3) := by
 intro a0 a1 a2 a3 k
 unfold laws_eqContract.f
 repeat' first
   | (with_reducible first | exact laws_eqClauseS.mono _ _ _ | exact laws_eqStringS.mono _ _ _ | exact LeO.refl _ | exact LeO.none _ | refine LeO.ite ?_ ?_ | refine LeO.bind ?_ (fun _ => ?_))
set_option maxHeartbeats 8000000 in
set_option maxRecDepth 100000 in
theorem laws_eqContract.calls (k : Nat) (A0_0 : Option Addr) (c0_0 : Nat) (l0_0 : List ByteArray) (A0_1 : Option Addr) (c0_1 : Nat) (l0_1 : List (S63)) (A1_0 : Option Addr) (c1_0 : Nat) (l1_0 : List ByteArray) (A1_1 : Option Addr) (c1_1 : Nat) (l1_1 : List (S63)) (r : Bool) (w : World) (hr0_0 : Kd.C Kd.string w A0_0 l0_0.length l0_0) (hc0_0 : l0_0.length ≤ c0_0) (hr0_1 : Kd.C k63 w A0_1 l0_1.length l0_1) (hc0_1 : l0_1.length ≤ c0_1) (hr1_0 : Kd.C Kd.string w A1_0 l1_0.length l1_0) (hc1_0 : l1_0.length ≤ c1_0) (hr1_1 : Kd.C k63 w A1_1 l1_1.length l1_1) (hc1_1 : l1_1.length ≤ c1_1) (h : laws_eqContract.f k l0_0 l0_1 l1_0 l1_1 = some r) :
  Calls Tryd.prog 10 #[.agg #[.slice A0_0 l0_0.length c0_0, .slice A0_1 l0_1.length c0_1], .agg #[.slice A1_0 l1_0.length c1_0, .slice A1_1 l1_1.length c1_1]] w fun e w' => e = .returned (.bool r) ∧ Below w.heap.size w w' := by
 have hu30 := Tryd.underlying30
 have HR0_0 := Aside0.mk hr0_0
 have HC0_0 := Aside0.mk hc0_0
 clear hr0_0 hc0_0
 have HR0_1 := Aside0.mk hr0_1
 have HC0_1 := Aside0.mk hc0_1
 clear hr0_1 hc0_1
 have HR1_0 := Aside0.mk hr1_0
 have HC1_0 := Aside0.mk hc1_0
 clear hr1_0 hc1_0
 have HR1_1 := Aside0.mk hr1_1
 have HC1_1 := Aside0.mk hc1_1
 clear hr1_1 hc1_1
 have HB := Aside0.mk (Below.refl w.heap.size w)
 have H : ((laws_eqStringS.f k l0_0 l1_0).bind fun t384 => (if t384 = true then ((laws_eqClauseS.f k l0_1 l1_1).bind fun t385 => (if t385 = true then (some true) else (some false))) else (some false))) = some r := h
 clear h
 replace H := Own.bd H; obtain ⟨t384, A3, H⟩ := H
 replace H := Own.ift H; obtain ⟨rfl, H⟩ | ⟨rfl, H⟩ := H
 ·
  obtain rfl := Option.some.inj H
  go_enter Tryd.func10, Tryd.ntmps10
  go_wp2_with (first | ((with_reducible refine gate_dst (N := 2) rfl ?_); refine Own.be (N := 2) (cs := #[.slice A0_0 l0_0.length c0_0, .slice A0_1 l0_1.length c0_1]) (t := 30) ?_; intro gb382 hg w19 hbox hb; have BK382 := Aside0.mk hbox; have GW382 := (Own.gs hg : Aside0 (w.heap.size ≤ gb382)); have GE382 := GW382; replace HB := Own.bs hb; clear hb hbox hg) | ((with_reducible refine gate_dst (N := 3) rfl ?_); refine Own.be (N := 3) (cs := #[.slice A1_0 l1_0.length c1_0, .slice A1_1 l1_1.length c1_1]) (t := 30) ?_; intro gb383 hg w20 hbox hb; have BK383 := Aside0.mk hbox; have GW383 := (Own.gs hg : Aside0 (w.heap.size ≤ gb383)); have GE383 := GW383; have NB382_383 := Own.nl hg BK382.out; have NB383_382 := Aside0.mk NB382_383.out.symm; replace BK382 := Own.bb BK382.out hb; replace HB := Own.bs hb; clear hb hbox hg; have hnb21 := NB382_383.out; have hnc21 := NB383_382.out; obtain ⟨z22_0, z22_1, y22_0, y22_1⟩ := Own.box2 BK382.out; obtain ⟨z23_0, z23_1, y23_0, y23_1⟩ := Own.box2 BK383.out) | ((with_reducible refine gate_callee (f := 15) rfl ?_); refine goesL_ (some 9) rfl rfl Tryd.func15 (by kernel_rfl) rfl #[.slice A0_0 l0_0.length c0_0, .slice A1_0 l1_0.length c1_0] rfl Own.ha ?_; (with_reducible refine (laws_eqStringS.calls k _ _ l0_0 _ _ l1_0 false _ ?side1 ?side2 ?side3 ?side4 A3.out).mono ?_); (case side1 => exact Kd.C_below HR0_0.out Own.bl); (case side2 => exact HC0_0.out); (case side3 => exact Kd.C_below HR1_0.out Own.bl); (case side4 => exact HC1_0.out); rintro e w' ⟨rfl, ⟨nd, rfl⟩⟩; refine ⟨_, rfl, ?_⟩))
  go_ret
  exact ⟨Own.rr, Own.bl⟩
 replace H := Own.bd H; obtain ⟨t385, A5, H⟩ := H
 replace H := Own.ifu H; obtain ⟨rfl, H⟩ | ⟨rfl, H⟩ := H
 ·
  obtain rfl := Option.some.inj H
  go_enter Tryd.func10, Tryd.ntmps10
  go_wp2_with (first | ((with_reducible refine gate_dst (N := 2) rfl ?_); refine Own.be (N := 2) (cs := #[.slice A0_0 l0_0.length c0_0, .slice A0_1 l0_1.length c0_1]) (t := 30) ?_; intro gb382 hg w7 hbox hb; have BK382 := Aside0.mk hbox; have GW382 := (Own.gs hg : Aside0 (w.heap.size ≤ gb382)); have GE382 := GW382; replace HB := Own.bs hb; clear hb hbox hg) | ((with_reducible refine gate_dst (N := 3) rfl ?_); refine Own.be (N := 3) (cs := #[.slice A1_0 l1_0.length c1_0, .slice A1_1 l1_1.length c1_1]) (t := 30) ?_; intro gb383 hg w8 hbox hb; have BK383 := Aside0.mk hbox; have GW383 := (Own.gs hg : Aside0 (w.heap.size ≤ gb383)); have GE383 := GW383; have NB382_383 := Own.nl hg BK382.out; have NB383_382 := Aside0.mk NB382_383.out.symm; replace BK382 := Own.bb BK382.out hb; replace HB := Own.bs hb; clear hb hbox hg; have hnb9 := NB382_383.out; have hnc9 := NB383_382.out; obtain ⟨z10_0, z10_1, y10_0, y10_1⟩ := Own.box2 BK382.out; obtain ⟨z11_0, z11_1, y11_0, y11_1⟩ := Own.box2 BK383.out) | ((with_reducible refine gate_callee (f := 15) rfl ?_); refine goesL_ (some 9) rfl rfl Tryd.func15 (by kernel_rfl) rfl #[.slice A0_0 l0_0.length c0_0, .slice A1_0 l1_0.length c1_0] rfl Own.ha ?_; (with_reducible refine (laws_eqStringS.calls k _ _ l0_0 _ _ l1_0 true _ ?side1 ?side2 ?side3 ?side4 A3.out).mono ?_); (case side1 => exact Kd.C_below HR0_0.out Own.bl); (case side2 => exact HC0_0.out); (case side3 => exact Kd.C_below HR1_0.out Own.bl); (case side4 => exact HC1_0.out); rintro e w' ⟨rfl, ⟨nd, rfl⟩⟩; refine ⟨_, rfl, ?_⟩) | ((with_reducible refine gate_callee (f := 28) rfl ?_); refine goesL_ (some 15) rfl rfl Tryd.func28 (by kernel_rfl) rfl #[.slice A0_1 l0_1.length c0_1, .slice A1_1 l1_1.length c1_1] rfl Own.ha ?_; (with_reducible refine (laws_eqClauseS.calls k _ _ l0_1 _ _ l1_1 true _ ?side1 ?side2 ?side3 ?side4 A5.out).mono ?_); (case side1 => exact Kd.C_below HR0_1.out Own.bl); (case side2 => exact HC0_1.out); (case side3 => exact Kd.C_below HR1_1.out Own.bl); (case side4 => exact HC1_1.out); rintro e w12 ⟨rfl, hb⟩; refine ⟨_, rfl, ?_⟩; replace BK382 := Own.bb BK382.out hb; replace BK383 := Own.bb BK383.out hb; replace HB := Own.bs hb; (try clear hb)))
  go_ret
  exact ⟨Own.rr, Own.bl⟩
 obtain rfl := Option.some.inj H
 go_enter Tryd.func10, Tryd.ntmps10
 go_wp2_with (first | ((with_reducible refine gate_dst (N := 2) rfl ?_); refine Own.be (N := 2) (cs := #[.slice A0_0 l0_0.length c0_0, .slice A0_1 l0_1.length c0_1]) (t := 30) ?_; intro gb382 hg w13 hbox hb; have BK382 := Aside0.mk hbox; have GW382 := (Own.gs hg : Aside0 (w.heap.size ≤ gb382)); have GE382 := GW382; replace HB := Own.bs hb; clear hb hbox hg) | ((with_reducible refine gate_dst (N := 3) rfl ?_); refine Own.be (N := 3) (cs := #[.slice A1_0 l1_0.length c1_0, .slice A1_1 l1_1.length c1_1]) (t := 30) ?_; intro gb383 hg w14 hbox hb; have BK383 := Aside0.mk hbox; have GW383 := (Own.gs hg : Aside0 (w.heap.size ≤ gb383)); have GE383 := GW383; have NB382_383 := Own.nl hg BK382.out; have NB383_382 := Aside0.mk NB382_383.out.symm; replace BK382 := Own.bb BK382.out hb; replace HB := Own.bs hb; clear hb hbox hg; have hnb15 := NB382_383.out; have hnc15 := NB383_382.out; obtain ⟨z16_0, z16_1, y16_0, y16_1⟩ := Own.box2 BK382.out; obtain ⟨z17_0, z17_1, y17_0, y17_1⟩ := Own.box2 BK383.out) | ((with_reducible refine gate_callee (f := 15) rfl ?_); refine goesL_ (some 9) rfl rfl Tryd.func15 (by kernel_rfl) rfl #[.slice A0_0 l0_0.length c0_0, .slice A1_0 l1_0.length c1_0] rfl Own.ha ?_; (with_reducible refine (laws_eqStringS.calls k _ _ l0_0 _ _ l1_0 true _ ?side1 ?side2 ?side3 ?side4 A3.out).mono ?_); (case side1 => exact Kd.C_below HR0_0.out Own.bl); (case side2 => exact HC0_0.out); (case side3 => exact Kd.C_below HR1_0.out Own.bl); (case side4 => exact HC1_0.out); rintro e w' ⟨rfl, ⟨nd, rfl⟩⟩; refine ⟨_, rfl, ?_⟩) | ((with_reducible refine gate_callee (f := 28) rfl ?_); refine goesL_ (some 15) rfl rfl Tryd.func28 (by kernel_rfl) rfl #[.slice A0_1 l0_1.length c0_1, .slice A1_1 l1_1.length c1_1] rfl Own.ha ?_; (with_reducible refine (laws_eqClauseS.calls k _ _ l0_1 _ _ l1_1 false _ ?side1 ?side2 ?side3 ?side4 A5.out).mono ?_); (case side1 => exact Kd.C_below HR0_1.out Own.bl); (case side2 => exact HC0_1.out); (case side3 => exact Kd.C_below HR1_1.out Own.bl); (case side4 => exact HC1_1.out); rintro e w18 ⟨rfl, hb⟩; refine ⟨_, rfl, ?_⟩; replace BK382 := Own.bb BK382.out hb; replace BK383 := Own.bb BK383.out hb; replace HB := Own.bs hb; (try clear hb)))
 go_ret
 exact ⟨Own.rr, Own.bl⟩

/-! ### laws_FnExactIsValidContract: function 3 -/
def laws_FnExactIsValidContract.f (k : Nat) (l0_0 : List ByteArray) (l0_1 : List (S58)) : Option (Bool) := (laws_szContract.f k l0_0 l0_1 1048576).bind fun t387 => (if t387 < 0 then (some true) else ((laws_toContract.f k l0_0 l0_1).bind fun bt388 => ((spec_IsValidContract.f k bt388.1 bt388.2).bind fun t394 => ((laws_toContract.f k l0_0 l0_1).bind fun bt395 => ((impl_IsValidContract.f k bt395.1 bt395.2).bind fun t402 => (if (t402 != t394) = true then (some false) else ((laws_toContract.f k l0_0 l0_1).bind fun bt403 => ((laws_eqContract.f k bt395.1 bt395.2 bt403.1 bt403.2).bind fun t409 => (if t409 = true then (some true) else (some false))))))))))
theorem laws_FnExactIsValidContract.mono : ∀ a0 a1 k, LeO (laws_FnExactIsValidContract.f k a0 a1) (laws_FnExactIsValidContract.f (k + 1) a0 a1) := by
 intro a0 a1 k
 unfold laws_FnExactIsValidContract.f
 repeat' first
   | (with_reducible first | exact impl_IsValidContract.mono _ _ _ | exact laws_eqContract.mono _ _ _ _ _ | exact laws_szContract.mono _ _ _ _ | exact laws_toContract.mono _ _ _ | exact spec_IsValidContract.mono _ _ _ | exact LeO.refl _ | exact LeO.none _ | refine LeO.ite ?_ ?_ | refine LeO.bind ?_ (fun _ => ?_))
set_option maxHeartbeats 8000000 in
set_option maxRecDepth 100000 in
theorem laws_FnExactIsValidContract.calls (k : Nat) (A0_0 : Option Addr) (c0_0 : Nat) (l0_0 : List ByteArray) (A0_1 : Option Addr) (c0_1 : Nat) (l0_1 : List (S58)) (r : Bool) (w : World) (hr0_0 : Kd.C Kd.string w A0_0 l0_0.length l0_0) (hc0_0 : l0_0.length ≤ c0_0) (hr0_1 : Kd.C k58 w A0_1 l0_1.length l0_1) (hc0_1 : l0_1.length ≤ c0_1) (hG : Own.Glob w) (h : laws_FnExactIsValidContract.f k l0_0 l0_1 = some r) (hr_ : Aside0 (r = true)) :
  Calls Tryd.prog 3 #[.agg #[.slice A0_0 l0_0.length c0_0, .slice A0_1 l0_1.length c0_1]] w fun e w' => e = .returned (.bool r) ∧ Below w.heap.size w w' := by
 have hu25 := Tryd.underlying25
 have hu30 := Tryd.underlying30
 have HR0_0 := Aside0.mk hr0_0
 have HC0_0 := Aside0.mk hc0_0
 clear hr0_0 hc0_0
 have HR0_1 := Aside0.mk hr0_1
 have HC0_1 := Aside0.mk hc0_1
 clear hr0_1 hc0_1
 have HB := Aside0.mk (Below.refl w.heap.size w)
 have HG := Aside0.mk hG
 clear hG
 have H : ((laws_szContract.f k l0_0 l0_1 1048576).bind fun t387 => (if t387 < 0 then (some true) else ((laws_toContract.f k l0_0 l0_1).bind fun bt388 => ((spec_IsValidContract.f k bt388.1 bt388.2).bind fun t394 => ((laws_toContract.f k l0_0 l0_1).bind fun bt395 => ((impl_IsValidContract.f k bt395.1 bt395.2).bind fun t402 => (if (t402 != t394) = true then (some false) else ((laws_toContract.f k l0_0 l0_1).bind fun bt403 => ((laws_eqContract.f k bt395.1 bt395.2 bt403.1 bt403.2).bind fun t409 => (if t409 = true then (some true) else (some false))))))))))) = some r := h
 clear h
 replace H := Own.bd H; obtain ⟨t387, A2, H⟩ := H
 by_cases c3 : t387 < 0
 ·
  rw [if_pos c3] at H
  replace c3 := decide_eq_true c3
  obtain rfl := Option.some.inj H
  go_enter Tryd.func3, Tryd.ntmps3
  go_wp2_with (first | ((with_reducible refine gate_dst (N := 1) rfl ?_); refine Own.be (N := 1) (cs := #[.slice A0_0 l0_0.length c0_0, .slice A0_1 l0_1.length c0_1]) (t := 25) ?_; intro gb386 hg w4 hbox hb; have BK386 := Aside0.mk hbox; have GW386 := (Own.gs hg : Aside0 (w.heap.size ≤ gb386)); have GE386 := GW386; replace HB := Own.bs hb; clear hb hbox hg; obtain ⟨z5_0, z5_1, y5_0, y5_1⟩ := Own.box2 BK386.out) | ((with_reducible refine gate_callee (f := 6) rfl ?_); refine goesL_ (some 9) rfl rfl Tryd.func6 (by kernel_rfl) rfl #[.agg #[.slice A0_0 l0_0.length c0_0, .slice A0_1 l0_1.length c0_1], .int .i64 1048576] rfl Own.ha ?_; (with_reducible refine (laws_szContract.calls k _ _ l0_0 _ _ l0_1 1048576 t387 _ ?side1 ?side2 ?side3 ?side4 A2.out).mono ?_); (case side1 => exact Kd.C_below HR0_0.out Own.bl); (case side2 => exact HC0_0.out); (case side3 => exact Kd.C_below HR0_1.out Own.bl); (case side4 => exact HC0_1.out); rintro e w6 ⟨rfl, hb⟩; refine ⟨_, rfl, ?_⟩; replace BK386 := Own.bb BK386.out hb; replace HB := Own.bs hb; (try clear hb)))
  go_ret
  exact ⟨Own.rr, Own.bl⟩
 rw [if_neg c3] at H
 replace c3 := decide_eq_false c3
 replace H := Option.bind_eq_some_iff.mp H
 obtain ⟨⟨t388, t391⟩, A70, H⟩ := H
 replace H : ((spec_IsValidContract.f k t388 t391).bind fun t394 => ((laws_toContract.f k l0_0 l0_1).bind fun bt395 => ((impl_IsValidContract.f k bt395.1 bt395.2).bind fun t402 => (if (t402 != t394) = true then (some false) else ((laws_toContract.f k l0_0 l0_1).bind fun bt403 => ((laws_eqContract.f k bt395.1 bt395.2 bt403.1 bt403.2).bind fun t409 => (if t409 = true then (some true) else (some false)))))))) = some r := H
 have A7 := Aside0.mk A70
 clear A70
 replace H := Own.bd H; obtain ⟨t394, A8, H⟩ := H
 replace H := Option.bind_eq_some_iff.mp H
 obtain ⟨⟨t395, t398⟩, A90, H⟩ := H
 replace H : ((impl_IsValidContract.f k t395 t398).bind fun t402 => (if (t402 != t394) = true then (some false) else ((laws_toContract.f k l0_0 l0_1).bind fun bt403 => ((laws_eqContract.f k t395 t398 bt403.1 bt403.2).bind fun t409 => (if t409 = true then (some true) else (some false)))))) = some r := H
 have A9 := Aside0.mk A90
 clear A90
 replace H := Own.bd H; obtain ⟨t402, A10, H⟩ := H
 by_cases c11 : (t402 != t394) = true
 ·
  rw [if_pos c11] at H
  have c11b0 : (t402 != t394) = true := c11
  (try (have c11b1 : decide (t402 = t394) = false := by simpa using c11))
  (try (have c11b2 : (t402 == t394) = false := by simpa using c11))
  (try (have c11b3 : ¬ (t402 = t394) := by simpa using c11))
  clear c11
  exact absurd (Option.some.inj H) (by rw [hr_.out]; decide)
 rw [if_neg c11] at H
 have c11b0 : (t402 != t394) = false := by simpa using c11
 (try (have c11b1 : decide (t402 = t394) = true := by simpa using c11))
 (try (have c11b2 : (t402 == t394) = true := by simpa using c11))
 clear c11
 replace H := Option.bind_eq_some_iff.mp H
 obtain ⟨⟨t403, t406⟩, A120, H⟩ := H
 replace H : ((laws_eqContract.f k t395 t398 t403 t406).bind fun t409 => (if t409 = true then (some true) else (some false))) = some r := H
 have A12 := Aside0.mk A120
 clear A120
 replace H := Own.bd H; obtain ⟨t409, A13, H⟩ := H
 replace H := Own.ift H; obtain ⟨rfl, H⟩ | ⟨rfl, H⟩ := H
 ·
  exact absurd (Option.some.inj H) (by rw [hr_.out]; decide)
 obtain rfl := Option.some.inj H
 go_enter Tryd.func3, Tryd.ntmps3
 try go_wp2_with (first | ((with_reducible refine gate_dst (N := 1) rfl ?_); refine Own.be (N := 1) (cs := #[.slice A0_0 l0_0.length c0_0, .slice A0_1 l0_1.length c0_1]) (t := 25) ?_; intro gb386 hg w15 hbox hb; have BK386 := Aside0.mk hbox; have GW386 := (Own.gs hg : Aside0 (w.heap.size ≤ gb386)); have GE386 := GW386; replace HB := Own.bs hb; clear hb hbox hg; obtain ⟨z16_0, z16_1, y16_0, y16_1⟩ := Own.box2 BK386.out) | ((with_reducible refine gate_callee (f := 6) rfl ?_); refine goesL_ (some 9) rfl rfl Tryd.func6 (by kernel_rfl) rfl #[.agg #[.slice A0_0 l0_0.length c0_0, .slice A0_1 l0_1.length c0_1], .int .i64 1048576] rfl Own.ha ?_; (with_reducible refine (laws_szContract.calls k _ _ l0_0 _ _ l0_1 1048576 t387 _ ?side1 ?side2 ?side3 ?side4 A2.out).mono ?_); (case side1 => exact Kd.C_below HR0_0.out Own.bl); (case side2 => exact HC0_0.out); (case side3 => exact Kd.C_below HR0_1.out Own.bl); (case side4 => exact HC0_1.out); rintro e w17 ⟨rfl, hb⟩; refine ⟨_, rfl, ?_⟩; replace BK386 := Own.bb BK386.out hb; replace HB := Own.bs hb; (try clear hb); (try clear hk); obtain ⟨z18_0, z18_1, y18_0, y18_1⟩ := Own.box2 BK386.out) | ((with_reducible refine gate_callee (f := 8) rfl ?_); refine goesL_ (some 13) rfl rfl Tryd.func8 (by kernel_rfl) rfl #[.agg #[.slice A0_0 l0_0.length c0_0, .slice A0_1 l0_1.length c0_1]] rfl Own.ha ?_; (with_reducible refine (laws_toContract.calls k _ _ l0_0 _ _ l0_1 t388 t391 _ ?side1 ?side2 ?side3 ?side4 A7.out).mono ?_); (case side1 => exact Kd.C_below HR0_0.out Own.bl); (case side2 => exact HC0_0.out); (case side3 => exact Kd.C_below HR0_1.out Own.bl); (case side4 => exact HC0_1.out); rintro e w19 ⟨v389, v392, rfl, ho0, ho1, hb⟩; refine ⟨_, rfl, ?_⟩; have HO390 := Aside0.mk (Kd.R_lower ho0 (below_size Own.bl)); have HO393 := Aside0.mk (Kd.R_lower ho1 (below_size Own.bl)); replace BK386 := Own.bb BK386.out hb; replace HB := Own.bs hb; (try clear hb); (try clear hk); (try clear ho0); (try clear ho1); obtain ⟨Ao20, co20, eo20⟩ := Kd.R_slice HO390.out; subst eo20; obtain ⟨Ao21, co21, eo21⟩ := Kd.R_slice HO393.out; subst eo21) | ((with_reducible refine gate_callee (f := 7) rfl ?_); refine goesL_ (some 14) rfl rfl Tryd.func7 (by kernel_rfl) rfl #[.agg #[.slice Ao20 t388.length co20, .slice Ao21 t391.length co21]] rfl Own.ha ?_; (with_reducible refine (spec_IsValidContract.calls k _ _ t388 _ _ t391 t394 _ ?side1 ?side2 ?side3 ?side4 A8.out).mono ?_); (case side1 => repeat (first | exact (Kd.R_reads' HO390.out).2.2 | (with_reducible refine Kd.C_alloc ?_ _) | (with_reducible refine Kd.C_drewN ?_ _) | (with_reducible refine Kd.C_drew ?_))); (case side2 => exact (Kd.R_reads' HO390.out).2.1); (case side3 => repeat (first | exact (Kd.R_reads' HO393.out).2.2 | (with_reducible refine Kd.C_alloc ?_ _) | (with_reducible refine Kd.C_drewN ?_ _) | (with_reducible refine Kd.C_drew ?_))); (case side4 => exact (Kd.R_reads' HO393.out).2.1); rintro e w22 ⟨rfl, hb⟩; refine ⟨_, rfl, ?_⟩; replace HO390 := Aside0.mk (Kd.R_below (Own.rd HO390.out) hb); replace HO393 := Aside0.mk (Kd.R_below (Own.rd HO393.out) hb); replace BK386 := Own.bb BK386.out hb; replace HB := Own.bs hb; (try clear hb); (try clear hk); obtain ⟨z23_0, z23_1, y23_0, y23_1⟩ := Own.box2 BK386.out) | ((with_reducible refine gate_callee (f := 8) rfl ?_); refine goesL_ (some 16) rfl rfl Tryd.func8 (by kernel_rfl) rfl #[.agg #[.slice A0_0 l0_0.length c0_0, .slice A0_1 l0_1.length c0_1]] rfl Own.ha ?_; (with_reducible refine (laws_toContract.calls k _ _ l0_0 _ _ l0_1 t395 t398 _ ?side1 ?side2 ?side3 ?side4 A9.out).mono ?_); (case side1 => exact Kd.C_below HR0_0.out Own.bl); (case side2 => exact HC0_0.out); (case side3 => exact Kd.C_below HR0_1.out Own.bl); (case side4 => exact HC0_1.out); rintro e w24 ⟨v396, v399, rfl, ho0, ho1, hb⟩; refine ⟨_, rfl, ?_⟩; have HO397 := Aside0.mk (Kd.R_lower (Kd.R_new' ho0 (Kd.R_lt (Own.rd HO390.out))) (below_size Own.bl)); have HO400 := Aside0.mk (Kd.R_lower (Kd.R_new' ho1 (Kd.R_lt (Own.rd HO393.out))) (below_size Own.bl)); replace HO390 := Aside0.mk (Kd.R_elder' (Own.rd HO390.out) (Kd.R_base ho0) hb); replace HO393 := Aside0.mk (Kd.R_elder' (Own.rd HO393.out) (Kd.R_base ho1) hb); replace BK386 := Own.bb BK386.out hb; replace HB := Own.bs hb; (try clear hb); (try clear hk); (try clear ho0); (try clear ho1)) | ((with_reducible refine gate_dst (N := 5) rfl ?_); refine Own.be (N := 5) (cs := #[.slice none 0 0, .slice none 0 0]) (t := 30) ?_; intro gb401 hg w25 hbox hb; have BK401 := Aside0.mk hbox; have GW401 := (Own.gs hg : Aside0 (w.heap.size ≤ gb401)); have GE401 := GW401; have NB386_401 := Own.nl hg BK386.out; have NB401_386 := Aside0.mk NB386_401.out.symm; replace HO390 := Aside0.mk (Kd.R_below (Own.rd HO390.out) hb); replace HO393 := Aside0.mk (Kd.R_below (Own.rd HO393.out) hb); replace HO397 := Aside0.mk (Kd.R_below (Own.rd HO397.out) hb); replace HO400 := Aside0.mk (Kd.R_below (Own.rd HO400.out) hb); replace BK386 := Own.bb BK386.out hb; replace HB := Own.bs hb; clear hb hbox hg; obtain ⟨Ao26, co26, eo26⟩ := Kd.R_slice HO397.out; subst eo26; have hnb27 := NB401_386.out; have hnc27 := NB386_401.out; obtain ⟨z28_0, z28_1, y28_0, y28_1⟩ := Own.box2 BK401.out; obtain ⟨Ao29, co29, eo29⟩ := Kd.R_slice HO400.out; subst eo29) | ((with_reducible refine gate_callee (f := 9) rfl ?_); refine goesL_ (some 18) rfl rfl Tryd.func9 (by kernel_rfl) rfl #[.agg #[.slice Ao26 t395.length co26, .slice Ao29 t398.length co29]] rfl Own.ha ?_; (with_reducible refine (impl_IsValidContract.calls k _ _ t395 _ _ t398 t402 _ ?side1 ?side2 ?side3 ?side4 ?side5 A10.out).mono ?_); (case side1 => refine (Kd.R_reads' (e := 9) (base := w.heap.size) (ok := fun k_ => (True ∧ some k_ ≠ (.slice Ao20 t388.length co20 : Value).ownBlock)) (n := t395.length) (c := co26) ?_).2.2; exact (by (with_reducible repeat (first | apply Kd.R_alloc | apply Kd.R_drewN | apply Kd.R_drew)); exact (Kd.R_mono (Kd.R_far (p := ⟨gb401, 1, none⟩) (Kd.R_far (p := ⟨gb401, 0, none⟩) (Kd.R_types HO397.out BK401.out (by decide)) (fun _ hk => hk.2) (.slice Ao26 t395.length co26)) (fun _ hk => hk.2) (.slice Ao29 t398.length co29)) (fun _ h_ => h_.1)))); (case side2 => exact (Kd.R_reads' HO397.out).2.1); (case side3 => refine (Kd.R_reads' (e := 63) (base := w.heap.size) (ok := fun k_ => (True ∧ some k_ ≠ (.slice Ao21 t391.length co21 : Value).ownBlock)) (n := t398.length) (c := co29) ?_).2.2; exact (by (with_reducible repeat (first | apply Kd.R_alloc | apply Kd.R_drewN | apply Kd.R_drew)); exact (Kd.R_mono (Kd.R_far (p := ⟨gb401, 1, none⟩) (Kd.R_far (p := ⟨gb401, 0, none⟩) (Kd.R_types HO400.out BK401.out (by decide)) (fun _ hk => hk.2) (.slice Ao26 t395.length co26)) (fun _ hk => hk.2) (.slice Ao29 t398.length co29)) (fun _ h_ => h_.1)))); (case side4 => exact (Kd.R_reads' HO400.out).2.1); (case side5 => exact Own.gl HG.out); rintro e w30 ⟨rfl, hb⟩; refine ⟨_, rfl, ?_⟩; replace HO390 := Aside0.mk (Kd.R_below (by (with_reducible repeat (first | apply Kd.R_alloc | apply Kd.R_drewN | apply Kd.R_drew)); exact (Kd.R_mono (Kd.R_far (p := ⟨gb401, 1, none⟩) (Kd.R_far (p := ⟨gb401, 0, none⟩) (Kd.R_types HO390.out BK401.out (by decide)) (fun _ hk => hk.2) (.slice Ao26 t395.length co26)) (fun _ hk => hk.2) (.slice Ao29 t398.length co29)) (fun _ h_ => h_.1))) hb); replace HO393 := Aside0.mk (Kd.R_below (by (with_reducible repeat (first | apply Kd.R_alloc | apply Kd.R_drewN | apply Kd.R_drew)); exact (Kd.R_mono (Kd.R_far (p := ⟨gb401, 1, none⟩) (Kd.R_far (p := ⟨gb401, 0, none⟩) (Kd.R_types HO393.out BK401.out (by decide)) (fun _ hk => hk.2) (.slice Ao26 t395.length co26)) (fun _ hk => hk.2) (.slice Ao29 t398.length co29)) (fun _ h_ => h_.1))) hb); replace HO397 := Aside0.mk (Kd.R_below (by (with_reducible repeat (first | apply Kd.R_alloc | apply Kd.R_drewN | apply Kd.R_drew)); exact (Kd.R_mono (Kd.R_far (p := ⟨gb401, 1, none⟩) (Kd.R_far (p := ⟨gb401, 0, none⟩) (Kd.R_types HO397.out BK401.out (by decide)) (fun _ hk => hk.2) (.slice Ao26 t395.length co26)) (fun _ hk => hk.2) (.slice Ao29 t398.length co29)) (fun _ h_ => h_.1))) hb); replace HO400 := Aside0.mk (Kd.R_below (by (with_reducible repeat (first | apply Kd.R_alloc | apply Kd.R_drewN | apply Kd.R_drew)); exact (Kd.R_mono (Kd.R_far (p := ⟨gb401, 1, none⟩) (Kd.R_far (p := ⟨gb401, 0, none⟩) (Kd.R_types HO400.out BK401.out (by decide)) (fun _ hk => hk.2) (.slice Ao26 t395.length co26)) (fun _ hk => hk.2) (.slice Ao29 t398.length co29)) (fun _ h_ => h_.1))) hb); replace BK386 := Own.bb BK386.out hb; replace BK401 := Aside0.mk (blk_below (g := gb401) (o := .cells #[.slice Ao26 t395.length co26, .slice Ao29 t398.length co29] 30 (0, 0)) (by (with_reducible repeat (first | refine blk_drewN ?_ _ | refine blk_drew ?_ | refine blk_alloc ?_ _)); with_reducible exact Own.put2 BK401.out) hb); replace HB := Own.bs hb; (try clear hb); (try clear hk)))
 have n0_ := Aside0.mk (Kd.R_drew HO390.out)
 have n1_ := Aside0.mk (Kd.R_drew HO393.out)
 have n2_ := Aside0.mk (Kd.R_drew HO397.out)
 have n3_ := Aside0.mk (Kd.R_drew HO400.out)
 have n4_ := Aside0.mk (blk_drew BK386.out)
 have n5_ := Aside0.mk (blk_drew BK401.out)
 have n6_ := Aside0.mk (below_drew1 HB.out)
 clear HO390
 clear HO393
 clear HO397
 clear HO400
 clear BK386
 clear BK401
 clear HB
 have HO390 := n0_
 have HO393 := n1_
 have HO397 := n2_
 have HO400 := n3_
 have BK386 := n4_
 have BK401 := n5_
 have HB := n6_
 clear n0_ n1_ n2_ n3_ n4_ n5_ n6_
 refine start_ (n := 5) (S := fun w' => w'.cell? ⟨gb401, 0, none⟩ = some (.slice Ao26 t395.length co26) ∧ w'.cell? ⟨gb401, 1, none⟩ = some (.slice Ao29 t398.length co29) ∧ w'.cell? ⟨gb386, 0, none⟩ = some (.slice A0_0 l0_0.length c0_0) ∧ w'.cell? ⟨gb386, 1, none⟩ = some (.slice A0_1 l0_1.length c0_1)) (ds := []) #[false, false, false, false, false] (by kernel_rfl) rfl rfl ⟨(blk_cell BK401.out 0).trans rfl, (blk_cell BK401.out 1).trans rfl, (blk_cell BK386.out 0).trans rfl, (blk_cell BK386.out 1).trans rfl⟩ (fun hHeld => ?_)
 generalize w30.drew = w31 at HO390 HO393 HO397 HO400 BK386 BK401 HB hHeld ⊢
 refine take_ (i := 0) (N := some 22) (v := ?_) (a' := ?_) #[true, false, false, false, false] rfl rfl (by kernel_rfl) (fun _ _ _ h => h) (Or.inl ⟨by rfl, ?_⟩) hHeld ?_ ?_
 rotate_left
 ·
  rintro w' ⟨s0, s1, s2, s3⟩
  go_simp
  with_reducible rfl
 rotate_left
 ·
  simp only [Own.ps]
  rfl
 refine take_ (i := 1) (N := some 23) (v := ?_) (a' := ?_) #[true, true, false, false, false] rfl rfl (by kernel_rfl) (fun _ _ _ h => h) (Or.inl ⟨by rfl, ?_⟩) hHeld ?_ ?_
 rotate_left
 ·
  rintro w' ⟨s0, s1, s2, s3⟩
  go_simp
  with_reducible rfl
 rotate_left
 ·
  simp only [Own.ps]
  rfl
 refine one_ (i := 2) (N := some 24) #[true, true, true, false, false] rfl rfl (by kernel_rfl) (by decide) (fun K hK => ?_)
 refine goes_ Tryd.func8 (by kernel_rfl) rfl #[.agg #[.slice A0_0 l0_0.length c0_0, .slice A0_1 l0_1.length c0_1]] (by rfl) rfl rfl Own.ha ?_
 with_reducible refine (laws_toContract.calls k _ _ l0_0 _ _ l0_1 t403 t406 _ ?side1 ?side2 ?side3 ?side4 A12.out).mono ?_
 (case side1 => exact Kd.C_below HR0_0.out Own.bl)
 (case side2 => exact HC0_0.out)
 (case side3 => exact Kd.C_below HR0_1.out Own.bl)
 (case side4 => exact HC0_1.out)
 rintro e w32 ⟨v404, v407, rfl, ho0, ho1, hb⟩
 refine ⟨_, rfl, ?_⟩
 have n0_ := Aside0.mk (Kd.R_elder' (Own.rd HO390.out) (Kd.R_base ho0) hb)
 have n1_ := Aside0.mk (Kd.R_elder' (Own.rd HO393.out) (Kd.R_base ho1) hb)
 have n2_ := Aside0.mk (Kd.R_elder' (Own.rd HO397.out) (Kd.R_base ho0) hb)
 have n3_ := Aside0.mk (Kd.R_elder' (Own.rd HO400.out) (Kd.R_base ho1) hb)
 have n4_ := Aside0.mk (Kd.R_lower (Kd.R_new' (Kd.R_new' ho0 (Kd.R_lt (Own.rd HO390.out))) (Kd.R_lt (Own.rd HO397.out))) (below_size Own.bl))
 have n5_ := Aside0.mk (Kd.R_lower (Kd.R_new' (Kd.R_new' ho1 (Kd.R_lt (Own.rd HO393.out))) (Kd.R_lt (Own.rd HO400.out))) (below_size Own.bl))
 have n6_ := Own.bb BK386.out hb
 have n7_ := Own.bb BK401.out hb
 have n8_ := Own.bs hb
 clear HO390
 clear HO393
 clear HO397
 clear HO400
 clear BK386
 clear BK401
 clear HB
 have HO390 := n0_
 have HO393 := n1_
 have HO397 := n2_
 have HO400 := n3_
 have HO405 := n4_
 have HO408 := n5_
 have BK386 := n6_
 have BK401 := n7_
 have HB := n8_
 clear n0_ n1_ n2_ n3_ n4_ n5_ n6_ n7_ n8_
 (try clear hb)
 (try clear hb2)
 (try clear hk)
 (try clear hi)
 (try clear ho0)
 (try clear ho1)
 obtain ⟨Ao33, co33, eo33⟩ := Kd.R_slice HO405.out
 (first | subst eo33 | (injection eo33 with f1_ f2_ f3_; have f4_ := f1_.symm; have f5_ := f3_.symm; clear f1_ f2_ f3_; subst f4_; subst f5_))
 obtain ⟨Ao34, co34, eo34⟩ := Kd.R_slice HO408.out
 (first | subst eo34 | (injection eo34 with f1_ f2_ f3_; have f4_ := f1_.symm; have f5_ := f3_.symm; clear f1_ f2_ f3_; subst f4_; subst f5_))
 refine hK.out _ _ ⟨(blk_cell BK401.out 0).trans rfl, (blk_cell BK401.out 1).trans rfl, (blk_cell BK386.out 0).trans rfl, (blk_cell BK386.out 1).trans rfl⟩ (fun hHeld => ?_)
 clear hK K
 refine norm_ (a' := ?_) ?_ ?_
 rotate_left
 ·
  show Act.put _ (some 24) _ = _
  simp only [Own.ps]
  rfl
 refine one_ (i := 3) (N := some 25) #[true, true, true, true, false] rfl rfl (by kernel_rfl) (by decide) (fun K hK => ?_)
 refine goes_ Tryd.func10 (by kernel_rfl) rfl #[.agg #[.slice Ao26 t395.length co26, .slice Ao29 t398.length co29], .agg #[.slice Ao33 t403.length co33, .slice Ao34 t406.length co34]] (by rfl) rfl rfl Own.ha ?_
 with_reducible refine (laws_eqContract.calls k _ _ t395 _ _ t398 _ _ t403 _ _ t406 true _ ?side1 ?side2 ?side3 ?side4 ?side5 ?side6 ?side7 ?side8 A13.out).mono ?_
 (case side1 => repeat (first | exact (Kd.R_reads' HO397.out).2.2 | (with_reducible refine Kd.C_alloc ?_ _) | (with_reducible refine Kd.C_drewN ?_ _) | (with_reducible refine Kd.C_drew ?_)))
 (case side2 => exact (Kd.R_reads' HO397.out).2.1)
 (case side3 => repeat (first | exact (Kd.R_reads' HO400.out).2.2 | (with_reducible refine Kd.C_alloc ?_ _) | (with_reducible refine Kd.C_drewN ?_ _) | (with_reducible refine Kd.C_drew ?_)))
 (case side4 => exact (Kd.R_reads' HO400.out).2.1)
 (case side5 => repeat (first | exact (Kd.R_reads' HO405.out).2.2 | (with_reducible refine Kd.C_alloc ?_ _) | (with_reducible refine Kd.C_drewN ?_ _) | (with_reducible refine Kd.C_drew ?_)))
 (case side6 => exact (Kd.R_reads' HO405.out).2.1)
 (case side7 => repeat (first | exact (Kd.R_reads' HO408.out).2.2 | (with_reducible refine Kd.C_alloc ?_ _) | (with_reducible refine Kd.C_drewN ?_ _) | (with_reducible refine Kd.C_drew ?_)))
 (case side8 => exact (Kd.R_reads' HO408.out).2.1)
 rintro e w35 ⟨rfl, hb⟩
 refine ⟨_, rfl, ?_⟩
 have n0_ := Aside0.mk (Kd.R_below (Own.rd HO390.out) hb)
 have n1_ := Aside0.mk (Kd.R_below (Own.rd HO393.out) hb)
 have n2_ := Aside0.mk (Kd.R_below (Own.rd HO397.out) hb)
 have n3_ := Aside0.mk (Kd.R_below (Own.rd HO400.out) hb)
 have n4_ := Aside0.mk (Kd.R_below (Own.rd HO405.out) hb)
 have n5_ := Aside0.mk (Kd.R_below (Own.rd HO408.out) hb)
 have n6_ := Own.bb BK386.out hb
 have n7_ := Own.bb BK401.out hb
 have n8_ := Own.bs hb
 clear HO390
 clear HO393
 clear HO397
 clear HO400
 clear HO405
 clear HO408
 clear BK386
 clear BK401
 clear HB
 have HO390 := n0_
 have HO393 := n1_
 have HO397 := n2_
 have HO400 := n3_
 have HO405 := n4_
 have HO408 := n5_
 have BK386 := n6_
 have BK401 := n7_
 have HB := n8_
 clear n0_ n1_ n2_ n3_ n4_ n5_ n6_ n7_ n8_
 (try clear hb)
 (try clear hb2)
 (try clear hk)
 (try clear hi)
 refine hK.out _ _ ⟨(blk_cell BK401.out 0).trans rfl, (blk_cell BK401.out 1).trans rfl, (blk_cell BK386.out 0).trans rfl, (blk_cell BK386.out 1).trans rfl⟩ (fun hHeld => ?_)
 clear hK K
 refine norm_ (a' := ?_) ?_ ?_
 rotate_left
 ·
  show Act.put _ (some 25) _ = _
  simp only [Own.ps]
  rfl
 refine pure_ (i := 4) (N := some 26) (v := ?_) (a' := ?_) #[true, true, true, true, true] rfl rfl (by kernel_rfl) (fun _ _ _ h => h) (Or.inl ⟨by rfl, ?_⟩) ?_ ?_
 rotate_left
 ·
  intro w'
  go_simp
  with_reducible rfl
 rotate_left
 ·
  simp only [Own.ps]
  rfl
 refine done_ (by kernel_rfl) ?_
 try go_wp2
 go_ret
 exact ⟨Own.rr, Own.bl⟩

end Go.Proofs.YtdfbfcgjcfbmpaaDoor.QFnExactIsValidContract
