-- Written by a program of this session out of the translation; Lean checks it.
import Derived.Test.YtdfbfcgjcfbmpaaDoorQFnExactFactNamesx0
import Derived.Test.YtdfbfcgjcfbmpaaDoorQFnExactFactNamesx2
import Derived.Test.YtdfbfcgjcfbmpaaDoorQFnExactFactNamesx3
namespace Go.Proofs.YtdfbfcgjcfbmpaaDoor.QFnExactFactNames
open Go.RowKit Go.Proofs.YtdfbfcgjcfbmpaaDoorW.PrintWords Go.Proofs.YtdfbfcgjcfbmpaaDoorW.PrintLast Go.Proofs.YtdfbfcgjcfbmpaaDoorW.PrintMore
attribute [local go_sem] Instr.field asAgg Own.str_leq Own.str_gtr Own.str_geq
attribute [local go_sem] max2_int min2_int max_two min_two max_three min_three max_four min_four   -- for this text's walks alone
set_option linter.unusedVariables false
set_option linter.unusedSimpArgs false

/-! ### laws_eqClauseS: function 28 -/
def laws_eqClauseS.l0 : Nat → List (S63) → List (S63) → Int → Option (Bool)
 | 0, _, _, _ => none
 | k + 1, x0, x1, x5 => if x5 < (x0.length : Int) then (if 0 ≤ x5 then (if x5 < (x1.length : Int) then ((laws_eqClause.f k ((rd_T63 x0 x5).f0) ((rd_T63 x0 x5).f1) ((rd_T63 x0 x5).f2) ((rd_T63 x0 x5).f3) ((rd_T63 x0 x5).f4) ((rd_T63 x0 x5).f5) ((rd_T63 x0 x5).f6.f0) ((rd_T63 x0 x5).f6.f1) ((rd_T63 x0 x5).f6.f2) ((rd_T63 x0 x5).f6.f3) ((rd_T63 x0 x5).f7) ((rd_T63 x0 x5).f8) ((rd_T63 x1 x5).f0) ((rd_T63 x1 x5).f1) ((rd_T63 x1 x5).f2) ((rd_T63 x1 x5).f3) ((rd_T63 x1 x5).f4) ((rd_T63 x1 x5).f5) ((rd_T63 x1 x5).f6.f0) ((rd_T63 x1 x5).f6.f1) ((rd_T63 x1 x5).f6.f2) ((rd_T63 x1 x5).f6.f3) ((rd_T63 x1 x5).f7) ((rd_T63 x1 x5).f8)).bind fun t185 => (if t185 = true then (laws_eqClauseS.l0 k x0 x1 (wrap64 (x5 + 1))) else (some false))) else (none)) else (none)) else (some true)
def laws_eqClauseS.f (k : Nat) (l0 : List (S63)) (l1 : List (S63)) : Option (Bool) := if (l0.length : Int) = (l1.length : Int) then (laws_eqClauseS.l0 k l0 l1 0) else (some false)
theorem laws_eqClauseS.mono_l : ∀ k, (∀ y0 y1 y2, LeO (laws_eqClauseS.l0 k y0 y1 y2) (laws_eqClauseS.l0 (k + 1) y0 y1 y2))
 | 0 => fun _ _ _ r h => by simp [laws_eqClauseS.l0] at h
 | k + 1 => by
  have ih0 := laws_eqClauseS.mono_l k
  ·
   intro y0 y1 y2
   unfold laws_eqClauseS.l0
   repeat' first
   | (with_reducible first | exact ih0 _ _ _ | exact laws_eqClause.mono _ _ _ _ _ _ _ _ _ _ _ _ _ _ _ _ _ _ _ _ _ _ _ _ _ | exact LeO.refl _ | exact LeO.none _ | refine LeO.ite ?_ ?_ | refine LeO.bind ?_ (fun _ => ?_))
theorem laws_eqClauseS.mono : ∀ a0 a1 k, LeO (laws_eqClauseS.f k a0 a1) (laws_eqClauseS.f (k + 1) a0 a1) := by
 intro a0 a1 k
 have ih0 := laws_eqClauseS.mono_l k
 unfold laws_eqClauseS.f
 repeat' first
   | (with_reducible first | exact ih0 _ _ _ | exact laws_eqClause.mono _ _ _ _ _ _ _ _ _ _ _ _ _ _ _ _ _ _ _ _ _ _ _ _ _ | exact LeO.refl _ | exact LeO.none _ | refine LeO.ite ?_ ?_ | refine LeO.bind ?_ (fun _ => ?_))
def laws_eqClauseS.T6 : Bool × List (List Nat × List Nat) := (true, [([], []), ([], []), ([0, 1], [0, 1]), ([2], [2]), ([], []), ([], []), ([4, 5], [4, 5]), ([6], [6]), ([3, 7], [3, 7]), ([8], [8])])
def laws_eqClauseS.B6 : List Nat := [0, 0, 3, 7, 0, 0, 48, 112, 255, 511]
theorem laws_eqClauseS.tab6 : rtab .any (opsOf Tryd.f28 6) = laws_eqClauseS.T6 := by kernel_rfl
theorem laws_eqClauseS.bits6 : waitsOk laws_eqClauseS.T6.2 laws_eqClauseS.B6 = true := by kernel_rfl
set_option maxHeartbeats 8000000 in
set_option maxRecDepth 100000 in
theorem laws_eqClauseS.calls (k : Nat) (A0 : Option Addr) (c0 : Nat) (l0 : List (S63)) (A1 : Option Addr) (c1 : Nat) (l1 : List (S63)) (r : Bool) (w : World) (hr0 : Kd.C k63 w A0 l0.length l0) (hc0 : l0.length ≤ c0) (hr1 : Kd.C k63 w A1 l1.length l1) (hc1 : l1.length ≤ c1) (h : laws_eqClauseS.f k l0 l1 = some r) :
  Calls Tryd.prog 28 #[.slice A0 l0.length c0, .slice A1 l1.length c1] w fun e w' => e = .returned (.bool r) ∧ Below w.heap.size w w' := by
 have hu63 := Tryd.underlying63
 have HR0 := Aside0.mk hr0
 have HC0 := Aside0.mk hc0
 clear hr0 hc0
 have HR1 := Aside0.mk hr1
 have HC1 := Aside0.mk hc1
 clear hr1 hc1
 have HB := Aside0.mk (Below.refl w.heap.size w)
 have H : (if (l0.length : Int) = (l1.length : Int) then (laws_eqClauseS.l0 k l0 l1 0) else (some false)) = some r := h
 clear h
 by_cases c3 : (l0.length : Int) = (l1.length : Int)
 rotate_left
 ·
  rw [if_neg c3] at H
  have c3b0 : ((l0.length : Int) == (l1.length : Int)) = false := beq_eq_false_iff_ne.mpr c3
  have c3b1 : ((l0.length : Int) != (l1.length : Int)) = true := bne_iff_ne.mpr c3
  have c3b2 : (l0.length == l1.length) = false := by first | simpa using c3 | (simp at c3 ⊢; omega)
  obtain rfl := Option.some.inj H
  go_enter Tryd.func28, Tryd.ntmps28
  go_wp2
  go_ret
  exact ⟨Own.rr, Own.bl⟩
 rw [if_pos c3] at H
 have c3b0 : ((l0.length : Int) == (l1.length : Int)) = true := beq_iff_eq.mpr c3
 have c3b1 : ((l0.length : Int) != (l1.length : Int)) = false := bne_eq_false_iff_eq.mpr c3
 have c3b2 : (l0.length == l1.length) = true := by first | simpa using c3 | (simp at c3 ⊢; omega)
 clear c3
 have H' := Aside0.mk H
 clear H
 go_enter Tryd.func28, Tryd.ntmps28
 go_wp2
 go_loopg [5] k (fun kq v5 w' => ∃ (x5_1 : Int), v5 = .int .i64 x5_1 ∧ Aside0 (laws_eqClauseS.l0 kq l0 l1 x5_1 = some r) ∧ Aside0 (kq ≤ k) ∧ Aside0 (Below w.heap.size w w'))
 case atStart => exact ⟨(0), Own.rs, H', ⟨Nat.le_refl _⟩, ⟨Own.bl⟩⟩
 case round =>
  clear H'
  try clear c1; try clear c2; try clear p2; try clear c3; try clear c3b0; try clear c3b1; try clear c3b2
  obtain ⟨x5_1, rfl, HA, HK1, HB⟩ := hrel
  cases gk with
  | zero => exact absurd HA.out (by simp [laws_eqClauseS.l0])
  | succ k1 =>
   have H := HA.out
   clear HA
   simp only [laws_eqClauseS.l0] at H
   by_cases c4 : x5_1 < (l0.length : Int)
   rotate_left
   ·
    rw [if_neg c4] at H
    replace c4 := decide_eq_false c4
    obtain rfl := Option.some.inj H
    go_wp2
    go_ret
    exact ⟨Own.rr, Own.bl⟩
   rw [if_pos c4] at H
   replace c4 := decide_eq_true c4
   replace H := Own.ifd H; obtain ⟨c5, H⟩ := H
   replace H := Own.ifd H; obtain ⟨c6, H⟩ := H
   replace H := Own.bd H; obtain ⟨t185, A7, H⟩ := H
   replace H := Own.ift H; obtain ⟨rfl, H⟩ | ⟨rfl, H⟩ := H
   ·
    obtain rfl := Option.some.inj H
    try go_wp2
    have n0_ := Aside0.mk (below_drew1 HB.out)
    clear HB
    have HB := n0_
    clear n0_
    have p183 : 0 ≤ (x5_1 : Int) := Own.dp
    have q183 : x5_1 < (l0.length : Int) := Own.dp
    obtain ⟨ad183, A183_9, c183_9, e183, hx183_0, hx183_1, hx183_2, hx183_3, hx183_4, hx183_5, hx183_6, hx183_7, hx183_8, hx183_9, hx183_10, hx183_11, hl183_9, hi183_9⟩ := at_T63 HR0.out x5_1 p183 q183
    have hw183_11 := hx183_11
    have hw183_10 := hx183_10
    have hw183_9 := hx183_9
    have hw183_8 := hx183_8
    have hw183_7 := hx183_7
    have hw183_6 := hx183_6
    have hw183_5 := hx183_5
    have hw183_4 := hx183_4
    have hw183_3 := hx183_3
    have hw183_2 := hx183_2
    have hw183_1 := hx183_1
    have hw183_0 := hx183_0
    cases e183
    replace hx183_0 := Own.up HB.out hx183_0
    replace hx183_1 := Own.up HB.out hx183_1
    replace hx183_2 := Own.up HB.out hx183_2
    replace hx183_3 := Own.up HB.out hx183_3
    replace hx183_4 := Own.up HB.out hx183_4
    replace hx183_5 := Own.up HB.out hx183_5
    replace hx183_6 := Own.up HB.out hx183_6
    replace hx183_7 := Own.up HB.out hx183_7
    replace hx183_8 := Own.up HB.out hx183_8
    replace hx183_9 := Own.up HB.out hx183_9
    replace hx183_10 := Own.up HB.out hx183_10
    replace hx183_11 := Own.up HB.out hx183_11
    have HR183_9 := Aside0.mk hi183_9
    have HC183_9 := Aside0.mk hl183_9
    clear hi183_9 hl183_9
    replace p183 := eq_true p183
    replace q183 := eq_true q183
    have p184 : 0 ≤ (x5_1 : Int) := Own.dp
    have q184 : x5_1 < (l1.length : Int) := Own.dp
    obtain ⟨ad184, A184_9, c184_9, e184, hx184_0, hx184_1, hx184_2, hx184_3, hx184_4, hx184_5, hx184_6, hx184_7, hx184_8, hx184_9, hx184_10, hx184_11, hl184_9, hi184_9⟩ := at_T63 HR1.out x5_1 p184 q184
    have hw184_11 := hx184_11
    have hw184_10 := hx184_10
    have hw184_9 := hx184_9
    have hw184_8 := hx184_8
    have hw184_7 := hx184_7
    have hw184_6 := hx184_6
    have hw184_5 := hx184_5
    have hw184_4 := hx184_4
    have hw184_3 := hx184_3
    have hw184_2 := hx184_2
    have hw184_1 := hx184_1
    have hw184_0 := hx184_0
    cases e184
    replace hx184_0 := Own.up HB.out hx184_0
    replace hx184_1 := Own.up HB.out hx184_1
    replace hx184_2 := Own.up HB.out hx184_2
    replace hx184_3 := Own.up HB.out hx184_3
    replace hx184_4 := Own.up HB.out hx184_4
    replace hx184_5 := Own.up HB.out hx184_5
    replace hx184_6 := Own.up HB.out hx184_6
    replace hx184_7 := Own.up HB.out hx184_7
    replace hx184_8 := Own.up HB.out hx184_8
    replace hx184_9 := Own.up HB.out hx184_9
    replace hx184_10 := Own.up HB.out hx184_10
    replace hx184_11 := Own.up HB.out hx184_11
    have HR184_9 := Aside0.mk hi184_9
    have HC184_9 := Aside0.mk hl184_9
    clear hi184_9 hl184_9
    replace p184 := eq_true p184
    replace q184 := eq_true q184
    refine start_ (n := 10) (S := fun w' => w'.cell? (ad183.add ((x5_1).toNat * 12)) = some (.string ((rd_T63 l0 x5_1).f0)) ∧ w'.cell? ⟨(ad183.add ((x5_1).toNat * 12)).block, (ad183.add ((x5_1).toNat * 12)).off + 1, none⟩ = some (.int .i64 ((rd_T63 l0 x5_1).f1)) ∧ w'.cell? ⟨(ad183.add ((x5_1).toNat * 12)).block, (ad183.add ((x5_1).toNat * 12)).off + 2, none⟩ = some (.int .i64 ((rd_T63 l0 x5_1).f2)) ∧ w'.cell? ⟨(ad183.add ((x5_1).toNat * 12)).block, (ad183.add ((x5_1).toNat * 12)).off + 3, none⟩ = some (.string ((rd_T63 l0 x5_1).f3)) ∧ w'.cell? ⟨(ad183.add ((x5_1).toNat * 12)).block, (ad183.add ((x5_1).toNat * 12)).off + 4, none⟩ = some (.int .i64 ((rd_T63 l0 x5_1).f4)) ∧ w'.cell? ⟨(ad183.add ((x5_1).toNat * 12)).block, (ad183.add ((x5_1).toNat * 12)).off + 5, none⟩ = some (.int .i64 ((rd_T63 l0 x5_1).f5)) ∧ w'.cell? ⟨(ad183.add ((x5_1).toNat * 12)).block, (ad183.add ((x5_1).toNat * 12)).off + 6, none⟩ = some (.int .i64 ((rd_T63 l0 x5_1).f6.f0)) ∧ w'.cell? ⟨(ad183.add ((x5_1).toNat * 12)).block, (ad183.add ((x5_1).toNat * 12)).off + 7, none⟩ = some (.string ((rd_T63 l0 x5_1).f6.f1)) ∧ w'.cell? ⟨(ad183.add ((x5_1).toNat * 12)).block, (ad183.add ((x5_1).toNat * 12)).off + 8, none⟩ = some (.int .i64 ((rd_T63 l0 x5_1).f6.f2)) ∧ w'.cell? ⟨(ad183.add ((x5_1).toNat * 12)).block, (ad183.add ((x5_1).toNat * 12)).off + 9, none⟩ = some (.slice A183_9 ((rd_T63 l0 x5_1).f6.f3).length c183_9) ∧ w'.cell? ⟨(ad183.add ((x5_1).toNat * 12)).block, (ad183.add ((x5_1).toNat * 12)).off + 10, none⟩ = some (.int .i64 ((rd_T63 l0 x5_1).f7)) ∧ w'.cell? ⟨(ad183.add ((x5_1).toNat * 12)).block, (ad183.add ((x5_1).toNat * 12)).off + 11, none⟩ = some (.string ((rd_T63 l0 x5_1).f8)) ∧ w'.cell? (ad184.add ((x5_1).toNat * 12)) = some (.string ((rd_T63 l1 x5_1).f0)) ∧ w'.cell? ⟨(ad184.add ((x5_1).toNat * 12)).block, (ad184.add ((x5_1).toNat * 12)).off + 1, none⟩ = some (.int .i64 ((rd_T63 l1 x5_1).f1)) ∧ w'.cell? ⟨(ad184.add ((x5_1).toNat * 12)).block, (ad184.add ((x5_1).toNat * 12)).off + 2, none⟩ = some (.int .i64 ((rd_T63 l1 x5_1).f2)) ∧ w'.cell? ⟨(ad184.add ((x5_1).toNat * 12)).block, (ad184.add ((x5_1).toNat * 12)).off + 3, none⟩ = some (.string ((rd_T63 l1 x5_1).f3)) ∧ w'.cell? ⟨(ad184.add ((x5_1).toNat * 12)).block, (ad184.add ((x5_1).toNat * 12)).off + 4, none⟩ = some (.int .i64 ((rd_T63 l1 x5_1).f4)) ∧ w'.cell? ⟨(ad184.add ((x5_1).toNat * 12)).block, (ad184.add ((x5_1).toNat * 12)).off + 5, none⟩ = some (.int .i64 ((rd_T63 l1 x5_1).f5)) ∧ w'.cell? ⟨(ad184.add ((x5_1).toNat * 12)).block, (ad184.add ((x5_1).toNat * 12)).off + 6, none⟩ = some (.int .i64 ((rd_T63 l1 x5_1).f6.f0)) ∧ w'.cell? ⟨(ad184.add ((x5_1).toNat * 12)).block, (ad184.add ((x5_1).toNat * 12)).off + 7, none⟩ = some (.string ((rd_T63 l1 x5_1).f6.f1)) ∧ w'.cell? ⟨(ad184.add ((x5_1).toNat * 12)).block, (ad184.add ((x5_1).toNat * 12)).off + 8, none⟩ = some (.int .i64 ((rd_T63 l1 x5_1).f6.f2)) ∧ w'.cell? ⟨(ad184.add ((x5_1).toNat * 12)).block, (ad184.add ((x5_1).toNat * 12)).off + 9, none⟩ = some (.slice A184_9 ((rd_T63 l1 x5_1).f6.f3).length c184_9) ∧ w'.cell? ⟨(ad184.add ((x5_1).toNat * 12)).block, (ad184.add ((x5_1).toNat * 12)).off + 10, none⟩ = some (.int .i64 ((rd_T63 l1 x5_1).f7)) ∧ w'.cell? ⟨(ad184.add ((x5_1).toNat * 12)).block, (ad184.add ((x5_1).toNat * 12)).off + 11, none⟩ = some (.string ((rd_T63 l1 x5_1).f8))) (ds := []) #[false, false, false, false, false, false, false, false, false, false] (by kernel_rfl) rfl rfl ⟨((HB.out.cell (World.block_lt_of_cell? w _ hw183_0)).trans hw183_0), ((HB.out.cell (World.block_lt_of_cell? w _ hw183_1)).trans hw183_1), ((HB.out.cell (World.block_lt_of_cell? w _ hw183_2)).trans hw183_2), ((HB.out.cell (World.block_lt_of_cell? w _ hw183_3)).trans hw183_3), ((HB.out.cell (World.block_lt_of_cell? w _ hw183_4)).trans hw183_4), ((HB.out.cell (World.block_lt_of_cell? w _ hw183_5)).trans hw183_5), ((HB.out.cell (World.block_lt_of_cell? w _ hw183_6)).trans hw183_6), ((HB.out.cell (World.block_lt_of_cell? w _ hw183_7)).trans hw183_7), ((HB.out.cell (World.block_lt_of_cell? w _ hw183_8)).trans hw183_8), ((HB.out.cell (World.block_lt_of_cell? w _ hw183_9)).trans hw183_9), ((HB.out.cell (World.block_lt_of_cell? w _ hw183_10)).trans hw183_10), ((HB.out.cell (World.block_lt_of_cell? w _ hw183_11)).trans hw183_11), ((HB.out.cell (World.block_lt_of_cell? w _ hw184_0)).trans hw184_0), ((HB.out.cell (World.block_lt_of_cell? w _ hw184_1)).trans hw184_1), ((HB.out.cell (World.block_lt_of_cell? w _ hw184_2)).trans hw184_2), ((HB.out.cell (World.block_lt_of_cell? w _ hw184_3)).trans hw184_3), ((HB.out.cell (World.block_lt_of_cell? w _ hw184_4)).trans hw184_4), ((HB.out.cell (World.block_lt_of_cell? w _ hw184_5)).trans hw184_5), ((HB.out.cell (World.block_lt_of_cell? w _ hw184_6)).trans hw184_6), ((HB.out.cell (World.block_lt_of_cell? w _ hw184_7)).trans hw184_7), ((HB.out.cell (World.block_lt_of_cell? w _ hw184_8)).trans hw184_8), ((HB.out.cell (World.block_lt_of_cell? w _ hw184_9)).trans hw184_9), ((HB.out.cell (World.block_lt_of_cell? w _ hw184_10)).trans hw184_10), ((HB.out.cell (World.block_lt_of_cell? w _ hw184_11)).trans hw184_11)⟩ (fun hHeld => ?_); refine with_tabW laws_eqClauseS.tab6 laws_eqClauseS.bits6 (fun HT_ HW_ => ?_)
    generalize wr.drew = w11 at HB HR183_9 HR184_9 hx183_0 hx183_1 hx183_10 hx183_11 hx183_2 hx183_3 hx183_4 hx183_5 hx183_6 hx183_7 hx183_8 hx183_9 hx184_0 hx184_1 hx184_10 hx184_11 hx184_2 hx184_3 hx184_4 hx184_5 hx184_6 hx184_7 hx184_8 hx184_9 hHeld ⊢
    refine pure_ (i := 0) (N := some 17) (v := ?_) (a' := ?_) #[true, false, false, false, false, false, false, false, false, false] rfl rfl (any_of HT_.out (by kernel_rfl)) (fun _ _ _ h => h) (Or.inl ⟨by rfl, ?_⟩) ?_ ?_
    rotate_left
    ·
     intro w'
     go_simp
     with_reducible rfl
    rotate_left
    ·
     simp only [Own.ps]
     rfl
    refine pure_ (i := 1) (N := some 18) (v := ?_) (a' := ?_) #[true, true, false, false, false, false, false, false, false, false] rfl rfl (any_of HT_.out (by kernel_rfl)) (fun _ _ _ h => h) (Or.inl ⟨by rfl, ?_⟩) ?_ ?_
    rotate_left
    ·
     intro w'
     go_simp
     with_reducible rfl
    rotate_left
    ·
     simp only [Own.ps]
     rfl
    refine pure_ (i := 2) (N := some 19) (v := ?_) (a' := ?_) #[true, true, true, false, false, false, false, false, false, false] rfl rfl (any_of HT_.out (by kernel_rfl)) (fun _ _ _ h => h) (Or.inl ⟨by rfl, ?_⟩) ?_ ?_
    rotate_left
    ·
     intro w'
     go_simp
     with_reducible rfl
    rotate_left
    ·
     simp only [Own.ps]
     rfl
    refine pure_ (i := 4) (N := some 21) (v := ?_) (a' := ?_) #[true, true, true, false, true, false, false, false, false, false] rfl rfl (any_of HT_.out (by kernel_rfl)) (fun _ _ _ h => h) (Or.inl ⟨by rfl, ?_⟩) ?_ ?_
    rotate_left
    ·
     intro w'
     go_simp
     with_reducible rfl
    rotate_left
    ·
     simp only [Own.ps]
     rfl
    refine pure_ (i := 5) (N := some 22) (v := ?_) (a' := ?_) #[true, true, true, false, true, true, false, false, false, false] rfl rfl (any_of HT_.out (by kernel_rfl)) (fun _ _ _ h => h) (Or.inl ⟨by rfl, ?_⟩) ?_ ?_
    rotate_left
    ·
     intro w'
     go_simp
     with_reducible rfl
    rotate_left
    ·
     simp only [Own.ps]
     rfl
    refine pure_ (i := 6) (N := some 23) (v := ?_) (a' := ?_) #[true, true, true, false, true, true, true, false, false, false] rfl rfl (any_of HT_.out (by kernel_rfl)) (fun _ _ _ h => h) (Or.inl ⟨by rfl, ?_⟩) ?_ ?_
    rotate_left
    ·
     intro w'
     go_simp
     with_reducible rfl
    rotate_left
    ·
     simp only [Own.ps]
     rfl
    refine take_ (i := 3) (N := some 20) (v := ?_) (a' := ?_) #[true, true, true, true, true, true, true, false, false, false] rfl rfl (take_ofW HT_.out HW_.out (by kernel_rfl)) (fun _ _ _ h => h) (Or.inl ⟨by rfl, ?_⟩) hHeld ?_ ?_
    rotate_left
    ·
     rintro w' ⟨s0, s1, s2, s3, s4, s5, s6, s7, s8, s9, s10, s11, s12, s13, s14, s15, s16, s17, s18, s19, s20, s21, s22, s23⟩
     go_simp
     with_reducible rfl
    rotate_left
    ·
     simp only [Own.ps]
     rfl
    refine take_ (i := 7) (N := some 24) (v := ?_) (a' := ?_) #[true, true, true, true, true, true, true, true, false, false] rfl rfl (take_ofW HT_.out HW_.out (by kernel_rfl)) (fun _ _ _ h => h) (Or.inl ⟨by rfl, ?_⟩) hHeld ?_ ?_
    rotate_left
    ·
     rintro w' ⟨s0, s1, s2, s3, s4, s5, s6, s7, s8, s9, s10, s11, s12, s13, s14, s15, s16, s17, s18, s19, s20, s21, s22, s23⟩
     go_simp
     with_reducible rfl
    rotate_left
    ·
     simp only [Own.ps]
     rfl
    refine one_ (i := 8) (N := some 25) #[true, true, true, true, true, true, true, true, true, false] rfl rfl (one_of HT_.out (by kernel_rfl)) (by decide) (fun K hK => ?_)
    refine goes_ Tryd.func44 (by kernel_rfl) rfl #[.agg #[.string ((rd_T63 l0 x5_1).f0), .int .i64 ((rd_T63 l0 x5_1).f1), .int .i64 ((rd_T63 l0 x5_1).f2), .string ((rd_T63 l0 x5_1).f3), .int .i64 ((rd_T63 l0 x5_1).f4), .int .i64 ((rd_T63 l0 x5_1).f5), .int .i64 ((rd_T63 l0 x5_1).f6.f0), .string ((rd_T63 l0 x5_1).f6.f1), .int .i64 ((rd_T63 l0 x5_1).f6.f2), .slice A183_9 ((rd_T63 l0 x5_1).f6.f3).length c183_9, .int .i64 ((rd_T63 l0 x5_1).f7), .string ((rd_T63 l0 x5_1).f8)], .agg #[.string ((rd_T63 l1 x5_1).f0), .int .i64 ((rd_T63 l1 x5_1).f1), .int .i64 ((rd_T63 l1 x5_1).f2), .string ((rd_T63 l1 x5_1).f3), .int .i64 ((rd_T63 l1 x5_1).f4), .int .i64 ((rd_T63 l1 x5_1).f5), .int .i64 ((rd_T63 l1 x5_1).f6.f0), .string ((rd_T63 l1 x5_1).f6.f1), .int .i64 ((rd_T63 l1 x5_1).f6.f2), .slice A184_9 ((rd_T63 l1 x5_1).f6.f3).length c184_9, .int .i64 ((rd_T63 l1 x5_1).f7), .string ((rd_T63 l1 x5_1).f8)]] (by rfl) rfl rfl Own.ha ?_
    with_reducible refine (laws_eqClause.calls k1 ((rd_T63 l0 x5_1).f0) ((rd_T63 l0 x5_1).f1) ((rd_T63 l0 x5_1).f2) ((rd_T63 l0 x5_1).f3) ((rd_T63 l0 x5_1).f4) ((rd_T63 l0 x5_1).f5) ((rd_T63 l0 x5_1).f6.f0) ((rd_T63 l0 x5_1).f6.f1) ((rd_T63 l0 x5_1).f6.f2) _ _ ((rd_T63 l0 x5_1).f6.f3) ((rd_T63 l0 x5_1).f7) ((rd_T63 l0 x5_1).f8) ((rd_T63 l1 x5_1).f0) ((rd_T63 l1 x5_1).f1) ((rd_T63 l1 x5_1).f2) ((rd_T63 l1 x5_1).f3) ((rd_T63 l1 x5_1).f4) ((rd_T63 l1 x5_1).f5) ((rd_T63 l1 x5_1).f6.f0) ((rd_T63 l1 x5_1).f6.f1) ((rd_T63 l1 x5_1).f6.f2) _ _ ((rd_T63 l1 x5_1).f6.f3) ((rd_T63 l1 x5_1).f7) ((rd_T63 l1 x5_1).f8) false _ ?side1 ?side2 ?side3 ?side4 A7.out).mono ?_
    (case side1 => exact Kd.C_below HR183_9.out Own.bl)
    (case side2 => exact HC183_9.out)
    (case side3 => exact Kd.C_below HR184_9.out Own.bl)
    (case side4 => exact HC184_9.out)
    rintro e w12 ⟨rfl, hb⟩
    refine ⟨_, rfl, ?_⟩
    have n0_ := Own.bs hb
    clear HB
    have HB := n0_
    clear n0_
    (try clear hb)
    (try clear hb2)
    (try clear hk)
    (try clear hi)
    refine hK.out _ _ ⟨((HB.out.cell (World.block_lt_of_cell? w _ hw183_0)).trans hw183_0), ((HB.out.cell (World.block_lt_of_cell? w _ hw183_1)).trans hw183_1), ((HB.out.cell (World.block_lt_of_cell? w _ hw183_2)).trans hw183_2), ((HB.out.cell (World.block_lt_of_cell? w _ hw183_3)).trans hw183_3), ((HB.out.cell (World.block_lt_of_cell? w _ hw183_4)).trans hw183_4), ((HB.out.cell (World.block_lt_of_cell? w _ hw183_5)).trans hw183_5), ((HB.out.cell (World.block_lt_of_cell? w _ hw183_6)).trans hw183_6), ((HB.out.cell (World.block_lt_of_cell? w _ hw183_7)).trans hw183_7), ((HB.out.cell (World.block_lt_of_cell? w _ hw183_8)).trans hw183_8), ((HB.out.cell (World.block_lt_of_cell? w _ hw183_9)).trans hw183_9), ((HB.out.cell (World.block_lt_of_cell? w _ hw183_10)).trans hw183_10), ((HB.out.cell (World.block_lt_of_cell? w _ hw183_11)).trans hw183_11), ((HB.out.cell (World.block_lt_of_cell? w _ hw184_0)).trans hw184_0), ((HB.out.cell (World.block_lt_of_cell? w _ hw184_1)).trans hw184_1), ((HB.out.cell (World.block_lt_of_cell? w _ hw184_2)).trans hw184_2), ((HB.out.cell (World.block_lt_of_cell? w _ hw184_3)).trans hw184_3), ((HB.out.cell (World.block_lt_of_cell? w _ hw184_4)).trans hw184_4), ((HB.out.cell (World.block_lt_of_cell? w _ hw184_5)).trans hw184_5), ((HB.out.cell (World.block_lt_of_cell? w _ hw184_6)).trans hw184_6), ((HB.out.cell (World.block_lt_of_cell? w _ hw184_7)).trans hw184_7), ((HB.out.cell (World.block_lt_of_cell? w _ hw184_8)).trans hw184_8), ((HB.out.cell (World.block_lt_of_cell? w _ hw184_9)).trans hw184_9), ((HB.out.cell (World.block_lt_of_cell? w _ hw184_10)).trans hw184_10), ((HB.out.cell (World.block_lt_of_cell? w _ hw184_11)).trans hw184_11)⟩ (fun hHeld => ?_)
    clear hK K
    refine norm_ (a' := ?_) ?_ ?_
    rotate_left
    ·
     show Act.put _ (some 25) _ = _
     simp only [Own.ps]
     rfl
    refine pure_ (i := 9) (N := some 26) (v := ?_) (a' := ?_) #[true, true, true, true, true, true, true, true, true, true] rfl rfl (any_of HT_.out (by kernel_rfl)) (fun _ _ _ h => h) (Or.inl ⟨by rfl, ?_⟩) ?_ ?_
    rotate_left
    ·
     intro w'
     go_simp
     with_reducible rfl
    rotate_left
    ·
     simp only [Own.ps]
     rfl
    refine done_ (done_of HT_.out (by kernel_rfl)) ?_
    try go_wp2
    go_ret
    exact ⟨Own.rr, Own.bl⟩
   have H' := Aside0.mk H
   clear H
   try go_wp2
   have n0_ := Aside0.mk (below_drew1 HB.out)
   clear HB
   have HB := n0_
   clear n0_
   have p183 : 0 ≤ (x5_1 : Int) := Own.dp
   have q183 : x5_1 < (l0.length : Int) := Own.dp
   obtain ⟨ad183, A183_9, c183_9, e183, hx183_0, hx183_1, hx183_2, hx183_3, hx183_4, hx183_5, hx183_6, hx183_7, hx183_8, hx183_9, hx183_10, hx183_11, hl183_9, hi183_9⟩ := at_T63 HR0.out x5_1 p183 q183
   have hw183_11 := hx183_11
   have hw183_10 := hx183_10
   have hw183_9 := hx183_9
   have hw183_8 := hx183_8
   have hw183_7 := hx183_7
   have hw183_6 := hx183_6
   have hw183_5 := hx183_5
   have hw183_4 := hx183_4
   have hw183_3 := hx183_3
   have hw183_2 := hx183_2
   have hw183_1 := hx183_1
   have hw183_0 := hx183_0
   cases e183
   replace hx183_0 := Own.up HB.out hx183_0
   replace hx183_1 := Own.up HB.out hx183_1
   replace hx183_2 := Own.up HB.out hx183_2
   replace hx183_3 := Own.up HB.out hx183_3
   replace hx183_4 := Own.up HB.out hx183_4
   replace hx183_5 := Own.up HB.out hx183_5
   replace hx183_6 := Own.up HB.out hx183_6
   replace hx183_7 := Own.up HB.out hx183_7
   replace hx183_8 := Own.up HB.out hx183_8
   replace hx183_9 := Own.up HB.out hx183_9
   replace hx183_10 := Own.up HB.out hx183_10
   replace hx183_11 := Own.up HB.out hx183_11
   have HR183_9 := Aside0.mk hi183_9
   have HC183_9 := Aside0.mk hl183_9
   clear hi183_9 hl183_9
   replace p183 := eq_true p183
   replace q183 := eq_true q183
   have p184 : 0 ≤ (x5_1 : Int) := Own.dp
   have q184 : x5_1 < (l1.length : Int) := Own.dp
   obtain ⟨ad184, A184_9, c184_9, e184, hx184_0, hx184_1, hx184_2, hx184_3, hx184_4, hx184_5, hx184_6, hx184_7, hx184_8, hx184_9, hx184_10, hx184_11, hl184_9, hi184_9⟩ := at_T63 HR1.out x5_1 p184 q184
   have hw184_11 := hx184_11
   have hw184_10 := hx184_10
   have hw184_9 := hx184_9
   have hw184_8 := hx184_8
   have hw184_7 := hx184_7
   have hw184_6 := hx184_6
   have hw184_5 := hx184_5
   have hw184_4 := hx184_4
   have hw184_3 := hx184_3
   have hw184_2 := hx184_2
   have hw184_1 := hx184_1
   have hw184_0 := hx184_0
   cases e184
   replace hx184_0 := Own.up HB.out hx184_0
   replace hx184_1 := Own.up HB.out hx184_1
   replace hx184_2 := Own.up HB.out hx184_2
   replace hx184_3 := Own.up HB.out hx184_3
   replace hx184_4 := Own.up HB.out hx184_4
   replace hx184_5 := Own.up HB.out hx184_5
   replace hx184_6 := Own.up HB.out hx184_6
   replace hx184_7 := Own.up HB.out hx184_7
   replace hx184_8 := Own.up HB.out hx184_8
   replace hx184_9 := Own.up HB.out hx184_9
   replace hx184_10 := Own.up HB.out hx184_10
   replace hx184_11 := Own.up HB.out hx184_11
   have HR184_9 := Aside0.mk hi184_9
   have HC184_9 := Aside0.mk hl184_9
   clear hi184_9 hl184_9
   replace p184 := eq_true p184
   replace q184 := eq_true q184
   refine start_ (n := 10) (S := fun w' => w'.cell? (ad183.add ((x5_1).toNat * 12)) = some (.string ((rd_T63 l0 x5_1).f0)) ∧ w'.cell? ⟨(ad183.add ((x5_1).toNat * 12)).block, (ad183.add ((x5_1).toNat * 12)).off + 1, none⟩ = some (.int .i64 ((rd_T63 l0 x5_1).f1)) ∧ w'.cell? ⟨(ad183.add ((x5_1).toNat * 12)).block, (ad183.add ((x5_1).toNat * 12)).off + 2, none⟩ = some (.int .i64 ((rd_T63 l0 x5_1).f2)) ∧ w'.cell? ⟨(ad183.add ((x5_1).toNat * 12)).block, (ad183.add ((x5_1).toNat * 12)).off + 3, none⟩ = some (.string ((rd_T63 l0 x5_1).f3)) ∧ w'.cell? ⟨(ad183.add ((x5_1).toNat * 12)).block, (ad183.add ((x5_1).toNat * 12)).off + 4, none⟩ = some (.int .i64 ((rd_T63 l0 x5_1).f4)) ∧ w'.cell? ⟨(ad183.add ((x5_1).toNat * 12)).block, (ad183.add ((x5_1).toNat * 12)).off + 5, none⟩ = some (.int .i64 ((rd_T63 l0 x5_1).f5)) ∧ w'.cell? ⟨(ad183.add ((x5_1).toNat * 12)).block, (ad183.add ((x5_1).toNat * 12)).off + 6, none⟩ = some (.int .i64 ((rd_T63 l0 x5_1).f6.f0)) ∧ w'.cell? ⟨(ad183.add ((x5_1).toNat * 12)).block, (ad183.add ((x5_1).toNat * 12)).off + 7, none⟩ = some (.string ((rd_T63 l0 x5_1).f6.f1)) ∧ w'.cell? ⟨(ad183.add ((x5_1).toNat * 12)).block, (ad183.add ((x5_1).toNat * 12)).off + 8, none⟩ = some (.int .i64 ((rd_T63 l0 x5_1).f6.f2)) ∧ w'.cell? ⟨(ad183.add ((x5_1).toNat * 12)).block, (ad183.add ((x5_1).toNat * 12)).off + 9, none⟩ = some (.slice A183_9 ((rd_T63 l0 x5_1).f6.f3).length c183_9) ∧ w'.cell? ⟨(ad183.add ((x5_1).toNat * 12)).block, (ad183.add ((x5_1).toNat * 12)).off + 10, none⟩ = some (.int .i64 ((rd_T63 l0 x5_1).f7)) ∧ w'.cell? ⟨(ad183.add ((x5_1).toNat * 12)).block, (ad183.add ((x5_1).toNat * 12)).off + 11, none⟩ = some (.string ((rd_T63 l0 x5_1).f8)) ∧ w'.cell? (ad184.add ((x5_1).toNat * 12)) = some (.string ((rd_T63 l1 x5_1).f0)) ∧ w'.cell? ⟨(ad184.add ((x5_1).toNat * 12)).block, (ad184.add ((x5_1).toNat * 12)).off + 1, none⟩ = some (.int .i64 ((rd_T63 l1 x5_1).f1)) ∧ w'.cell? ⟨(ad184.add ((x5_1).toNat * 12)).block, (ad184.add ((x5_1).toNat * 12)).off + 2, none⟩ = some (.int .i64 ((rd_T63 l1 x5_1).f2)) ∧ w'.cell? ⟨(ad184.add ((x5_1).toNat * 12)).block, (ad184.add ((x5_1).toNat * 12)).off + 3, none⟩ = some (.string ((rd_T63 l1 x5_1).f3)) ∧ w'.cell? ⟨(ad184.add ((x5_1).toNat * 12)).block, (ad184.add ((x5_1).toNat * 12)).off + 4, none⟩ = some (.int .i64 ((rd_T63 l1 x5_1).f4)) ∧ w'.cell? ⟨(ad184.add ((x5_1).toNat * 12)).block, (ad184.add ((x5_1).toNat * 12)).off + 5, none⟩ = some (.int .i64 ((rd_T63 l1 x5_1).f5)) ∧ w'.cell? ⟨(ad184.add ((x5_1).toNat * 12)).block, (ad184.add ((x5_1).toNat * 12)).off + 6, none⟩ = some (.int .i64 ((rd_T63 l1 x5_1).f6.f0)) ∧ w'.cell? ⟨(ad184.add ((x5_1).toNat * 12)).block, (ad184.add ((x5_1).toNat * 12)).off + 7, none⟩ = some (.string ((rd_T63 l1 x5_1).f6.f1)) ∧ w'.cell? ⟨(ad184.add ((x5_1).toNat * 12)).block, (ad184.add ((x5_1).toNat * 12)).off + 8, none⟩ = some (.int .i64 ((rd_T63 l1 x5_1).f6.f2)) ∧ w'.cell? ⟨(ad184.add ((x5_1).toNat * 12)).block, (ad184.add ((x5_1).toNat * 12)).off + 9, none⟩ = some (.slice A184_9 ((rd_T63 l1 x5_1).f6.f3).length c184_9) ∧ w'.cell? ⟨(ad184.add ((x5_1).toNat * 12)).block, (ad184.add ((x5_1).toNat * 12)).off + 10, none⟩ = some (.int .i64 ((rd_T63 l1 x5_1).f7)) ∧ w'.cell? ⟨(ad184.add ((x5_1).toNat * 12)).block, (ad184.add ((x5_1).toNat * 12)).off + 11, none⟩ = some (.string ((rd_T63 l1 x5_1).f8))) (ds := []) #[false, false, false, false, false, false, false, false, false, false] (by kernel_rfl) rfl rfl ⟨((HB.out.cell (World.block_lt_of_cell? w _ hw183_0)).trans hw183_0), ((HB.out.cell (World.block_lt_of_cell? w _ hw183_1)).trans hw183_1), ((HB.out.cell (World.block_lt_of_cell? w _ hw183_2)).trans hw183_2), ((HB.out.cell (World.block_lt_of_cell? w _ hw183_3)).trans hw183_3), ((HB.out.cell (World.block_lt_of_cell? w _ hw183_4)).trans hw183_4), ((HB.out.cell (World.block_lt_of_cell? w _ hw183_5)).trans hw183_5), ((HB.out.cell (World.block_lt_of_cell? w _ hw183_6)).trans hw183_6), ((HB.out.cell (World.block_lt_of_cell? w _ hw183_7)).trans hw183_7), ((HB.out.cell (World.block_lt_of_cell? w _ hw183_8)).trans hw183_8), ((HB.out.cell (World.block_lt_of_cell? w _ hw183_9)).trans hw183_9), ((HB.out.cell (World.block_lt_of_cell? w _ hw183_10)).trans hw183_10), ((HB.out.cell (World.block_lt_of_cell? w _ hw183_11)).trans hw183_11), ((HB.out.cell (World.block_lt_of_cell? w _ hw184_0)).trans hw184_0), ((HB.out.cell (World.block_lt_of_cell? w _ hw184_1)).trans hw184_1), ((HB.out.cell (World.block_lt_of_cell? w _ hw184_2)).trans hw184_2), ((HB.out.cell (World.block_lt_of_cell? w _ hw184_3)).trans hw184_3), ((HB.out.cell (World.block_lt_of_cell? w _ hw184_4)).trans hw184_4), ((HB.out.cell (World.block_lt_of_cell? w _ hw184_5)).trans hw184_5), ((HB.out.cell (World.block_lt_of_cell? w _ hw184_6)).trans hw184_6), ((HB.out.cell (World.block_lt_of_cell? w _ hw184_7)).trans hw184_7), ((HB.out.cell (World.block_lt_of_cell? w _ hw184_8)).trans hw184_8), ((HB.out.cell (World.block_lt_of_cell? w _ hw184_9)).trans hw184_9), ((HB.out.cell (World.block_lt_of_cell? w _ hw184_10)).trans hw184_10), ((HB.out.cell (World.block_lt_of_cell? w _ hw184_11)).trans hw184_11)⟩ (fun hHeld => ?_); refine with_tabW laws_eqClauseS.tab6 laws_eqClauseS.bits6 (fun HT_ HW_ => ?_)
   generalize wr.drew = w9 at HB HR183_9 HR184_9 hx183_0 hx183_1 hx183_10 hx183_11 hx183_2 hx183_3 hx183_4 hx183_5 hx183_6 hx183_7 hx183_8 hx183_9 hx184_0 hx184_1 hx184_10 hx184_11 hx184_2 hx184_3 hx184_4 hx184_5 hx184_6 hx184_7 hx184_8 hx184_9 hHeld ⊢
   refine pure_ (i := 0) (N := some 17) (v := ?_) (a' := ?_) #[true, false, false, false, false, false, false, false, false, false] rfl rfl (any_of HT_.out (by kernel_rfl)) (fun _ _ _ h => h) (Or.inl ⟨by rfl, ?_⟩) ?_ ?_
   rotate_left
   ·
    intro w'
    go_simp
    with_reducible rfl
   rotate_left
   ·
    simp only [Own.ps]
    rfl
   refine pure_ (i := 1) (N := some 18) (v := ?_) (a' := ?_) #[true, true, false, false, false, false, false, false, false, false] rfl rfl (any_of HT_.out (by kernel_rfl)) (fun _ _ _ h => h) (Or.inl ⟨by rfl, ?_⟩) ?_ ?_
   rotate_left
   ·
    intro w'
    go_simp
    with_reducible rfl
   rotate_left
   ·
    simp only [Own.ps]
    rfl
   refine pure_ (i := 2) (N := some 19) (v := ?_) (a' := ?_) #[true, true, true, false, false, false, false, false, false, false] rfl rfl (any_of HT_.out (by kernel_rfl)) (fun _ _ _ h => h) (Or.inl ⟨by rfl, ?_⟩) ?_ ?_
   rotate_left
   ·
    intro w'
    go_simp
    with_reducible rfl
   rotate_left
   ·
    simp only [Own.ps]
    rfl
   refine pure_ (i := 4) (N := some 21) (v := ?_) (a' := ?_) #[true, true, true, false, true, false, false, false, false, false] rfl rfl (any_of HT_.out (by kernel_rfl)) (fun _ _ _ h => h) (Or.inl ⟨by rfl, ?_⟩) ?_ ?_
   rotate_left
   ·
    intro w'
    go_simp
    with_reducible rfl
   rotate_left
   ·
    simp only [Own.ps]
    rfl
   refine pure_ (i := 5) (N := some 22) (v := ?_) (a' := ?_) #[true, true, true, false, true, true, false, false, false, false] rfl rfl (any_of HT_.out (by kernel_rfl)) (fun _ _ _ h => h) (Or.inl ⟨by rfl, ?_⟩) ?_ ?_
   rotate_left
   ·
    intro w'
    go_simp
    with_reducible rfl
   rotate_left
   ·
    simp only [Own.ps]
    rfl
   refine pure_ (i := 6) (N := some 23) (v := ?_) (a' := ?_) #[true, true, true, false, true, true, true, false, false, false] rfl rfl (any_of HT_.out (by kernel_rfl)) (fun _ _ _ h => h) (Or.inl ⟨by rfl, ?_⟩) ?_ ?_
   rotate_left
   ·
    intro w'
    go_simp
    with_reducible rfl
   rotate_left
   ·
    simp only [Own.ps]
    rfl
   refine take_ (i := 3) (N := some 20) (v := ?_) (a' := ?_) #[true, true, true, true, true, true, true, false, false, false] rfl rfl (take_ofW HT_.out HW_.out (by kernel_rfl)) (fun _ _ _ h => h) (Or.inl ⟨by rfl, ?_⟩) hHeld ?_ ?_
   rotate_left
   ·
    rintro w' ⟨s0, s1, s2, s3, s4, s5, s6, s7, s8, s9, s10, s11, s12, s13, s14, s15, s16, s17, s18, s19, s20, s21, s22, s23⟩
    go_simp
    with_reducible rfl
   rotate_left
   ·
    simp only [Own.ps]
    rfl
   refine take_ (i := 7) (N := some 24) (v := ?_) (a' := ?_) #[true, true, true, true, true, true, true, true, false, false] rfl rfl (take_ofW HT_.out HW_.out (by kernel_rfl)) (fun _ _ _ h => h) (Or.inl ⟨by rfl, ?_⟩) hHeld ?_ ?_
   rotate_left
   ·
    rintro w' ⟨s0, s1, s2, s3, s4, s5, s6, s7, s8, s9, s10, s11, s12, s13, s14, s15, s16, s17, s18, s19, s20, s21, s22, s23⟩
    go_simp
    with_reducible rfl
   rotate_left
   ·
    simp only [Own.ps]
    rfl
   refine one_ (i := 8) (N := some 25) #[true, true, true, true, true, true, true, true, true, false] rfl rfl (one_of HT_.out (by kernel_rfl)) (by decide) (fun K hK => ?_)
   refine goes_ Tryd.func44 (by kernel_rfl) rfl #[.agg #[.string ((rd_T63 l0 x5_1).f0), .int .i64 ((rd_T63 l0 x5_1).f1), .int .i64 ((rd_T63 l0 x5_1).f2), .string ((rd_T63 l0 x5_1).f3), .int .i64 ((rd_T63 l0 x5_1).f4), .int .i64 ((rd_T63 l0 x5_1).f5), .int .i64 ((rd_T63 l0 x5_1).f6.f0), .string ((rd_T63 l0 x5_1).f6.f1), .int .i64 ((rd_T63 l0 x5_1).f6.f2), .slice A183_9 ((rd_T63 l0 x5_1).f6.f3).length c183_9, .int .i64 ((rd_T63 l0 x5_1).f7), .string ((rd_T63 l0 x5_1).f8)], .agg #[.string ((rd_T63 l1 x5_1).f0), .int .i64 ((rd_T63 l1 x5_1).f1), .int .i64 ((rd_T63 l1 x5_1).f2), .string ((rd_T63 l1 x5_1).f3), .int .i64 ((rd_T63 l1 x5_1).f4), .int .i64 ((rd_T63 l1 x5_1).f5), .int .i64 ((rd_T63 l1 x5_1).f6.f0), .string ((rd_T63 l1 x5_1).f6.f1), .int .i64 ((rd_T63 l1 x5_1).f6.f2), .slice A184_9 ((rd_T63 l1 x5_1).f6.f3).length c184_9, .int .i64 ((rd_T63 l1 x5_1).f7), .string ((rd_T63 l1 x5_1).f8)]] (by rfl) rfl rfl Own.ha ?_
   with_reducible refine (laws_eqClause.calls k1 ((rd_T63 l0 x5_1).f0) ((rd_T63 l0 x5_1).f1) ((rd_T63 l0 x5_1).f2) ((rd_T63 l0 x5_1).f3) ((rd_T63 l0 x5_1).f4) ((rd_T63 l0 x5_1).f5) ((rd_T63 l0 x5_1).f6.f0) ((rd_T63 l0 x5_1).f6.f1) ((rd_T63 l0 x5_1).f6.f2) _ _ ((rd_T63 l0 x5_1).f6.f3) ((rd_T63 l0 x5_1).f7) ((rd_T63 l0 x5_1).f8) ((rd_T63 l1 x5_1).f0) ((rd_T63 l1 x5_1).f1) ((rd_T63 l1 x5_1).f2) ((rd_T63 l1 x5_1).f3) ((rd_T63 l1 x5_1).f4) ((rd_T63 l1 x5_1).f5) ((rd_T63 l1 x5_1).f6.f0) ((rd_T63 l1 x5_1).f6.f1) ((rd_T63 l1 x5_1).f6.f2) _ _ ((rd_T63 l1 x5_1).f6.f3) ((rd_T63 l1 x5_1).f7) ((rd_T63 l1 x5_1).f8) true _ ?side1 ?side2 ?side3 ?side4 A7.out).mono ?_
   (case side1 => exact Kd.C_below HR183_9.out Own.bl)
   (case side2 => exact HC183_9.out)
   (case side3 => exact Kd.C_below HR184_9.out Own.bl)
   (case side4 => exact HC184_9.out)
   rintro e w10 ⟨rfl, hb⟩
   refine ⟨_, rfl, ?_⟩
   have n0_ := Own.bs hb
   clear HB
   have HB := n0_
   clear n0_
   (try clear hb)
   (try clear hb2)
   (try clear hk)
   (try clear hi)
   refine hK.out _ _ ⟨((HB.out.cell (World.block_lt_of_cell? w _ hw183_0)).trans hw183_0), ((HB.out.cell (World.block_lt_of_cell? w _ hw183_1)).trans hw183_1), ((HB.out.cell (World.block_lt_of_cell? w _ hw183_2)).trans hw183_2), ((HB.out.cell (World.block_lt_of_cell? w _ hw183_3)).trans hw183_3), ((HB.out.cell (World.block_lt_of_cell? w _ hw183_4)).trans hw183_4), ((HB.out.cell (World.block_lt_of_cell? w _ hw183_5)).trans hw183_5), ((HB.out.cell (World.block_lt_of_cell? w _ hw183_6)).trans hw183_6), ((HB.out.cell (World.block_lt_of_cell? w _ hw183_7)).trans hw183_7), ((HB.out.cell (World.block_lt_of_cell? w _ hw183_8)).trans hw183_8), ((HB.out.cell (World.block_lt_of_cell? w _ hw183_9)).trans hw183_9), ((HB.out.cell (World.block_lt_of_cell? w _ hw183_10)).trans hw183_10), ((HB.out.cell (World.block_lt_of_cell? w _ hw183_11)).trans hw183_11), ((HB.out.cell (World.block_lt_of_cell? w _ hw184_0)).trans hw184_0), ((HB.out.cell (World.block_lt_of_cell? w _ hw184_1)).trans hw184_1), ((HB.out.cell (World.block_lt_of_cell? w _ hw184_2)).trans hw184_2), ((HB.out.cell (World.block_lt_of_cell? w _ hw184_3)).trans hw184_3), ((HB.out.cell (World.block_lt_of_cell? w _ hw184_4)).trans hw184_4), ((HB.out.cell (World.block_lt_of_cell? w _ hw184_5)).trans hw184_5), ((HB.out.cell (World.block_lt_of_cell? w _ hw184_6)).trans hw184_6), ((HB.out.cell (World.block_lt_of_cell? w _ hw184_7)).trans hw184_7), ((HB.out.cell (World.block_lt_of_cell? w _ hw184_8)).trans hw184_8), ((HB.out.cell (World.block_lt_of_cell? w _ hw184_9)).trans hw184_9), ((HB.out.cell (World.block_lt_of_cell? w _ hw184_10)).trans hw184_10), ((HB.out.cell (World.block_lt_of_cell? w _ hw184_11)).trans hw184_11)⟩ (fun hHeld => ?_)
   clear hK K
   refine norm_ (a' := ?_) ?_ ?_
   rotate_left
   ·
    show Act.put _ (some 25) _ = _
    simp only [Own.ps]
    rfl
   refine pure_ (i := 9) (N := some 26) (v := ?_) (a' := ?_) #[true, true, true, true, true, true, true, true, true, true] rfl rfl (any_of HT_.out (by kernel_rfl)) (fun _ _ _ h => h) (Or.inl ⟨by rfl, ?_⟩) ?_ ?_
   rotate_left
   ·
    intro w'
    go_simp
    with_reducible rfl
   rotate_left
   ·
    simp only [Own.ps]
    rfl
   refine done_ (done_of HT_.out (by kernel_rfl)) ?_
   try go_wp2
   go_roundg k1
   case measure => have := HK1.out; omega
   case rel => exact ⟨(wrap64 (x5_1 + 1)), Own.rs, H', ⟨by have := HK1.out; omega⟩, ⟨Own.bl⟩⟩

/-! ### laws_eqContract: function 10 -/
def laws_eqContract.f (k : Nat) (l0_0 : List ByteArray) (l0_1 : List (S63)) (l1_0 : List ByteArray) (l1_1 : List (S63)) : Option (Bool) := (laws_eqStringS.f k l0_0 l1_0).bind fun t188 => (if t188 = true then ((laws_eqClauseS.f k l0_1 l1_1).bind fun t189 => (if t189 = true then (some true) else (some false))) else (some false))
theorem laws_eqContract.mono : ∀ a0 a1 a2 a3 k, LeO (laws_eqContract.f k a0 a1 a2 a3) (laws_eqContract.f (k + 1) a0 a1 a2 a3) := by
 intro a0 a1 a2 a3 k
 unfold laws_eqContract.f
 repeat' first
   | (with_reducible first | exact laws_eqClauseS.mono _ _ _ | exact laws_eqStringS.mono _ _ _ | exact LeO.refl _ | exact LeO.none _ | refine LeO.ite ?_ ?_ | refine LeO.bind ?_ (fun _ => ?_))
set_option maxHeartbeats 8000000 in
set_option maxRecDepth 100000 in
theorem laws_eqContract.calls (k : Nat) (A0_0 : Option Addr) (c0_0 : Nat) (l0_0 : List ByteArray) (A0_1 : Option Addr) (c0_1 : Nat) (l0_1 : List (S63)) (A1_0 : Option Addr) (c1_0 : Nat) (l1_0 : List ByteArray) (A1_1 : Option Addr) (c1_1 : Nat) (l1_1 : List (S63)) (r : Bool) (w : World) (hr0_0 : Kd.C Kd.string w A0_0 l0_0.length l0_0) (hc0_0 : l0_0.length ≤ c0_0) (hr0_1 : Kd.C k63 w A0_1 l0_1.length l0_1) (hc0_1 : l0_1.length ≤ c0_1) (hr1_0 : Kd.C Kd.string w A1_0 l1_0.length l1_0) (hc1_0 : l1_0.length ≤ c1_0) (hr1_1 : Kd.C k63 w A1_1 l1_1.length l1_1) (hc1_1 : l1_1.length ≤ c1_1) (h : laws_eqContract.f k l0_0 l0_1 l1_0 l1_1 = some r) :
  Calls Tryd.prog 10 #[.agg #[.slice A0_0 l0_0.length c0_0, .slice A0_1 l0_1.length c0_1], .agg #[.slice A1_0 l1_0.length c1_0, .slice A1_1 l1_1.length c1_1]] w fun e w' => e = .returned (.bool r) ∧ Below w.heap.size w w' := by
 have hu30 := Tryd.underlying30
 have HR0_0 := Aside0.mk hr0_0
 have HC0_0 := Aside0.mk hc0_0
 clear hr0_0 hc0_0
 have HR0_1 := Aside0.mk hr0_1
 have HC0_1 := Aside0.mk hc0_1
 clear hr0_1 hc0_1
 have HR1_0 := Aside0.mk hr1_0
 have HC1_0 := Aside0.mk hc1_0
 clear hr1_0 hc1_0
 have HR1_1 := Aside0.mk hr1_1
 have HC1_1 := Aside0.mk hc1_1
 clear hr1_1 hc1_1
 have HB := Aside0.mk (Below.refl w.heap.size w)
 have H : ((laws_eqStringS.f k l0_0 l1_0).bind fun t188 => (if t188 = true then ((laws_eqClauseS.f k l0_1 l1_1).bind fun t189 => (if t189 = true then (some true) else (some false))) else (some false))) = some r := h
 clear h
 replace H := Own.bd H; obtain ⟨t188, A3, H⟩ := H
 replace H := Own.ift H; obtain ⟨rfl, H⟩ | ⟨rfl, H⟩ := H
 ·
  obtain rfl := Option.some.inj H
  go_enter Tryd.func10, Tryd.ntmps10
  go_wp2_with (first | ((with_reducible refine gate_dst (N := 2) rfl ?_); refine Own.be (N := 2) (cs := #[.slice A0_0 l0_0.length c0_0, .slice A0_1 l0_1.length c0_1]) (t := 30) ?_; intro gb186 hg w19 hbox hb; have BK186 := Aside0.mk hbox; have GW186 := (Own.gs hg : Aside0 (w.heap.size ≤ gb186)); have GE186 := GW186; replace HB := Own.bs hb; clear hb hbox hg) | ((with_reducible refine gate_dst (N := 3) rfl ?_); refine Own.be (N := 3) (cs := #[.slice A1_0 l1_0.length c1_0, .slice A1_1 l1_1.length c1_1]) (t := 30) ?_; intro gb187 hg w20 hbox hb; have BK187 := Aside0.mk hbox; have GW187 := (Own.gs hg : Aside0 (w.heap.size ≤ gb187)); have GE187 := GW187; have NB186_187 := Own.nl hg BK186.out; have NB187_186 := Aside0.mk NB186_187.out.symm; replace BK186 := Own.bb BK186.out hb; replace HB := Own.bs hb; clear hb hbox hg; have hnb21 := NB186_187.out; have hnc21 := NB187_186.out; obtain ⟨z22_0, z22_1, y22_0, y22_1⟩ := Own.box2 BK186.out; obtain ⟨z23_0, z23_1, y23_0, y23_1⟩ := Own.box2 BK187.out) | ((with_reducible refine gate_callee (f := 15) rfl ?_); refine goesL_ (some 9) rfl rfl Tryd.func15 (by kernel_rfl) rfl #[.slice A0_0 l0_0.length c0_0, .slice A1_0 l1_0.length c1_0] rfl Own.ha ?_; (with_reducible refine (laws_eqStringS.calls k _ _ l0_0 _ _ l1_0 false _ ?side1 ?side2 ?side3 ?side4 A3.out).mono ?_); (case side1 => exact Kd.C_below HR0_0.out Own.bl); (case side2 => exact HC0_0.out); (case side3 => exact Kd.C_below HR1_0.out Own.bl); (case side4 => exact HC1_0.out); rintro e w' ⟨rfl, ⟨nd, rfl⟩⟩; refine ⟨_, rfl, ?_⟩))
  go_ret
  exact ⟨Own.rr, Own.bl⟩
 replace H := Own.bd H; obtain ⟨t189, A5, H⟩ := H
 replace H := Own.ifu H; obtain ⟨rfl, H⟩ | ⟨rfl, H⟩ := H
 ·
  obtain rfl := Option.some.inj H
  go_enter Tryd.func10, Tryd.ntmps10
  go_wp2_with (first | ((with_reducible refine gate_dst (N := 2) rfl ?_); refine Own.be (N := 2) (cs := #[.slice A0_0 l0_0.length c0_0, .slice A0_1 l0_1.length c0_1]) (t := 30) ?_; intro gb186 hg w7 hbox hb; have BK186 := Aside0.mk hbox; have GW186 := (Own.gs hg : Aside0 (w.heap.size ≤ gb186)); have GE186 := GW186; replace HB := Own.bs hb; clear hb hbox hg) | ((with_reducible refine gate_dst (N := 3) rfl ?_); refine Own.be (N := 3) (cs := #[.slice A1_0 l1_0.length c1_0, .slice A1_1 l1_1.length c1_1]) (t := 30) ?_; intro gb187 hg w8 hbox hb; have BK187 := Aside0.mk hbox; have GW187 := (Own.gs hg : Aside0 (w.heap.size ≤ gb187)); have GE187 := GW187; have NB186_187 := Own.nl hg BK186.out; have NB187_186 := Aside0.mk NB186_187.out.symm; replace BK186 := Own.bb BK186.out hb; replace HB := Own.bs hb; clear hb hbox hg; have hnb9 := NB186_187.out; have hnc9 := NB187_186.out; obtain ⟨z10_0, z10_1, y10_0, y10_1⟩ := Own.box2 BK186.out; obtain ⟨z11_0, z11_1, y11_0, y11_1⟩ := Own.box2 BK187.out) | ((with_reducible refine gate_callee (f := 15) rfl ?_); refine goesL_ (some 9) rfl rfl Tryd.func15 (by kernel_rfl) rfl #[.slice A0_0 l0_0.length c0_0, .slice A1_0 l1_0.length c1_0] rfl Own.ha ?_; (with_reducible refine (laws_eqStringS.calls k _ _ l0_0 _ _ l1_0 true _ ?side1 ?side2 ?side3 ?side4 A3.out).mono ?_); (case side1 => exact Kd.C_below HR0_0.out Own.bl); (case side2 => exact HC0_0.out); (case side3 => exact Kd.C_below HR1_0.out Own.bl); (case side4 => exact HC1_0.out); rintro e w' ⟨rfl, ⟨nd, rfl⟩⟩; refine ⟨_, rfl, ?_⟩) | ((with_reducible refine gate_callee (f := 28) rfl ?_); refine goesL_ (some 15) rfl rfl Tryd.func28 (by kernel_rfl) rfl #[.slice A0_1 l0_1.length c0_1, .slice A1_1 l1_1.length c1_1] rfl Own.ha ?_; (with_reducible refine (laws_eqClauseS.calls k _ _ l0_1 _ _ l1_1 true _ ?side1 ?side2 ?side3 ?side4 A5.out).mono ?_); (case side1 => exact Kd.C_below HR0_1.out Own.bl); (case side2 => exact HC0_1.out); (case side3 => exact Kd.C_below HR1_1.out Own.bl); (case side4 => exact HC1_1.out); rintro e w12 ⟨rfl, hb⟩; refine ⟨_, rfl, ?_⟩; replace BK186 := Own.bb BK186.out hb; replace BK187 := Own.bb BK187.out hb; replace HB := Own.bs hb; (try clear hb)))
  go_ret
  exact ⟨Own.rr, Own.bl⟩
 obtain rfl := Option.some.inj H
 go_enter Tryd.func10, Tryd.ntmps10
 go_wp2_with (first | ((with_reducible refine gate_dst (N := 2) rfl ?_); refine Own.be (N := 2) (cs := #[.slice A0_0 l0_0.length c0_0, .slice A0_1 l0_1.length c0_1]) (t := 30) ?_; intro gb186 hg w13 hbox hb; have BK186 := Aside0.mk hbox; have GW186 := (Own.gs hg : Aside0 (w.heap.size ≤ gb186)); have GE186 := GW186; replace HB := Own.bs hb; clear hb hbox hg) | ((with_reducible refine gate_dst (N := 3) rfl ?_); refine Own.be (N := 3) (cs := #[.slice A1_0 l1_0.length c1_0, .slice A1_1 l1_1.length c1_1]) (t := 30) ?_; intro gb187 hg w14 hbox hb; have BK187 := Aside0.mk hbox; have GW187 := (Own.gs hg : Aside0 (w.heap.size ≤ gb187)); have GE187 := GW187; have NB186_187 := Own.nl hg BK186.out; have NB187_186 := Aside0.mk NB186_187.out.symm; replace BK186 := Own.bb BK186.out hb; replace HB := Own.bs hb; clear hb hbox hg; have hnb15 := NB186_187.out; have hnc15 := NB187_186.out; obtain ⟨z16_0, z16_1, y16_0, y16_1⟩ := Own.box2 BK186.out; obtain ⟨z17_0, z17_1, y17_0, y17_1⟩ := Own.box2 BK187.out) | ((with_reducible refine gate_callee (f := 15) rfl ?_); refine goesL_ (some 9) rfl rfl Tryd.func15 (by kernel_rfl) rfl #[.slice A0_0 l0_0.length c0_0, .slice A1_0 l1_0.length c1_0] rfl Own.ha ?_; (with_reducible refine (laws_eqStringS.calls k _ _ l0_0 _ _ l1_0 true _ ?side1 ?side2 ?side3 ?side4 A3.out).mono ?_); (case side1 => exact Kd.C_below HR0_0.out Own.bl); (case side2 => exact HC0_0.out); (case side3 => exact Kd.C_below HR1_0.out Own.bl); (case side4 => exact HC1_0.out); rintro e w' ⟨rfl, ⟨nd, rfl⟩⟩; refine ⟨_, rfl, ?_⟩) | ((with_reducible refine gate_callee (f := 28) rfl ?_); refine goesL_ (some 15) rfl rfl Tryd.func28 (by kernel_rfl) rfl #[.slice A0_1 l0_1.length c0_1, .slice A1_1 l1_1.length c1_1] rfl Own.ha ?_; (with_reducible refine (laws_eqClauseS.calls k _ _ l0_1 _ _ l1_1 false _ ?side1 ?side2 ?side3 ?side4 A5.out).mono ?_); (case side1 => exact Kd.C_below HR0_1.out Own.bl); (case side2 => exact HC0_1.out); (case side3 => exact Kd.C_below HR1_1.out Own.bl); (case side4 => exact HC1_1.out); rintro e w18 ⟨rfl, hb⟩; refine ⟨_, rfl, ?_⟩; replace BK186 := Own.bb BK186.out hb; replace BK187 := Own.bb BK187.out hb; replace HB := Own.bs hb; (try clear hb)))
 go_ret
 exact ⟨Own.rr, Own.bl⟩

/-! ### spec_l6Find: function 29 -/
def spec_l6Find.l0 : Nat → ByteArray → Int → List ByteArray → List (S63) → Option (Int)
 | 0, _, _, _, _ => none
 | k + 1, x1, x5, x191000, x191001 => if x5 < (x191001.length : Int) then (if 0 ≤ x5 then (if ((rd_T63 x191001 x5).f0).toList = x1.toList then (some x5) else (spec_l6Find.l0 k x1 (wrap64 (x5 + 1)) x191000 x191001)) else (none)) else (some (-1))
def spec_l6Find.f (k : Nat) (l0_0 : List ByteArray) (l0_1 : List (S63)) (a1 : ByteArray) : Option (Int) := spec_l6Find.l0 k a1 0 l0_0 l0_1
theorem spec_l6Find.mono_l : ∀ k, (∀ y0 y1 y2 y3, LeO (spec_l6Find.l0 k y0 y1 y2 y3) (spec_l6Find.l0 (k + 1) y0 y1 y2 y3))
 | 0 => fun _ _ _ _ r h => by simp [spec_l6Find.l0] at h
 | k + 1 => by
  have ih0 := spec_l6Find.mono_l k
  ·
   intro y0 y1 y2 y3
   unfold spec_l6Find.l0
   repeat' first
   | (with_reducible first | exact ih0 _ _ _ _ | exact LeO.refl _ | exact LeO.none _ | refine LeO.ite ?_ ?_ | refine LeO.bind ?_ (fun _ => ?_))
theorem spec_l6Find.mono : ∀ a0 a1 a2 k, LeO (spec_l6Find.f k a0 a1 a2) (spec_l6Find.f (k + 1) a0 a1 a2) := by
 intro a0 a1 a2 k
 have ih0 := spec_l6Find.mono_l k
 unfold spec_l6Find.f
 repeat' first
   | (with_reducible first | exact ih0 _ _ _ _ | exact LeO.refl _ | exact LeO.none _ | refine LeO.ite ?_ ?_ | refine LeO.bind ?_ (fun _ => ?_))
set_option maxHeartbeats 8000000 in
set_option maxRecDepth 100000 in
theorem spec_l6Find.calls (k : Nat) (A0_0 : Option Addr) (c0_0 : Nat) (l0_0 : List ByteArray) (A0_1 : Option Addr) (c0_1 : Nat) (l0_1 : List (S63)) (a1 : ByteArray) (r : Int) (w : World) (hr0_0 : Kd.C Kd.string w A0_0 l0_0.length l0_0) (hc0_0 : l0_0.length ≤ c0_0) (hr0_1 : Kd.C k63 w A0_1 l0_1.length l0_1) (hc0_1 : l0_1.length ≤ c0_1) (h : spec_l6Find.f k l0_0 l0_1 a1 = some r) :
  Calls Tryd.prog 29 #[.agg #[.slice A0_0 l0_0.length c0_0, .slice A0_1 l0_1.length c0_1], .string a1] w fun e w' => e = .returned (.int .i64 r) ∧ Below w.heap.size w w' := by
 have hu30 := Tryd.underlying30
 have HR0_0 := Aside0.mk hr0_0
 have HC0_0 := Aside0.mk hc0_0
 clear hr0_0 hc0_0
 have HR0_1 := Aside0.mk hr0_1
 have HC0_1 := Aside0.mk hc0_1
 clear hr0_1 hc0_1
 have HB := Aside0.mk (Below.refl w.heap.size w)
 have H : (spec_l6Find.l0 k a1 0 l0_0 l0_1) = some r := h
 clear h
 have H' := Aside0.mk H
 clear H
 go_enter Tryd.func29, Tryd.ntmps29
 go_wp2_with (first | ((with_reducible refine gate_dst (N := 2) rfl ?_); refine Own.be (N := 2) (cs := #[.slice A0_0 l0_0.length c0_0, .slice A0_1 l0_1.length c0_1]) (t := 30) ?_; intro gb190 hg w3 hbox hb; have BK190 := Aside0.mk hbox; have GW190 := (Own.gs hg : Aside0 (w.heap.size ≤ gb190)); have GE190 := GW190; replace HB := Own.bs hb; clear hb hbox hg))
 go_loopg [5] k (fun kq v5 w' => ∃ (x5_1 : Int), v5 = .int .i64 x5_1 ∧ Aside0 (spec_l6Find.l0 kq a1 x5_1 l0_0 l0_1 = some r) ∧ Aside0 (kq ≤ k) ∧ Aside0 (w'.heap[gb190]? = some (.cells #[(.slice A0_0 l0_0.length c0_0), (.slice A0_1 l0_1.length c0_1)] 30 (0, 0))) ∧ Aside0 (Below w.heap.size w w'))
 case atStart => exact ⟨(0), Own.rs, H', ⟨Nat.le_refl _⟩, ⟨Own.bk⟩, ⟨Own.bl⟩⟩
 case round =>
  clear H'
  try clear c2; try clear p2
  obtain ⟨x5_1, rfl, HA, HK1, BK190, HB⟩ := hrel
  cases gk with
  | zero => exact absurd HA.out (by simp [spec_l6Find.l0])
  | succ k1 =>
   have H := HA.out
   clear HA
   simp only [spec_l6Find.l0] at H
   by_cases c4 : x5_1 < (l0_1.length : Int)
   rotate_left
   ·
    rw [if_neg c4] at H
    replace c4 := decide_eq_false c4
    obtain rfl := Option.some.inj H
    obtain ⟨z9_0, z9_1, y9_0, y9_1⟩ := Own.box2 BK190.out
    go_wp2
    go_ret
    exact ⟨Own.rr, Own.bl⟩
   rw [if_pos c4] at H
   replace c4 := decide_eq_true c4
   replace H := Own.ifd H; obtain ⟨c5, H⟩ := H
   by_cases c6 : ((rd_T63 l0_1 x5_1).f0).toList = a1.toList
   ·
    rw [if_pos c6] at H
    have c6b0 : (((rd_T63 l0_1 x5_1).f0).toList == a1.toList) = true := beq_iff_eq.mpr c6
    have c6b1 : (((rd_T63 l0_1 x5_1).f0).toList != a1.toList) = false := bne_eq_false_iff_eq.mpr c6
    clear c6
    obtain rfl := Option.some.inj H
    obtain ⟨z7_0, z7_1, y7_0, y7_1⟩ := Own.box2 BK190.out
    have p191 : 0 ≤ (x5_1 : Int) := Own.dp
    have q191 : x5_1 < (l0_1.length : Int) := Own.dp
    obtain ⟨ad191, A191_9, c191_9, e191, hx191_0, hx191_1, hx191_2, hx191_3, hx191_4, hx191_5, hx191_6, hx191_7, hx191_8, hx191_9, hx191_10, hx191_11, hl191_9, hi191_9⟩ := at_T63 HR0_1.out x5_1 p191 q191
    cases e191
    replace hx191_0 := Own.up HB.out hx191_0
    replace hx191_1 := Own.up HB.out hx191_1
    replace hx191_2 := Own.up HB.out hx191_2
    replace hx191_3 := Own.up HB.out hx191_3
    replace hx191_4 := Own.up HB.out hx191_4
    replace hx191_5 := Own.up HB.out hx191_5
    replace hx191_6 := Own.up HB.out hx191_6
    replace hx191_7 := Own.up HB.out hx191_7
    replace hx191_8 := Own.up HB.out hx191_8
    replace hx191_9 := Own.up HB.out hx191_9
    replace hx191_10 := Own.up HB.out hx191_10
    replace hx191_11 := Own.up HB.out hx191_11
    have HR191_9 := Aside0.mk hi191_9
    have HC191_9 := Aside0.mk hl191_9
    clear hi191_9 hl191_9
    replace p191 := eq_true p191
    replace q191 := eq_true q191
    go_wp2
    go_ret
    exact ⟨Own.rr, Own.bl⟩
   rw [if_neg c6] at H
   have c6b0 : (((rd_T63 l0_1 x5_1).f0).toList == a1.toList) = false := beq_eq_false_iff_ne.mpr c6
   have c6b1 : (((rd_T63 l0_1 x5_1).f0).toList != a1.toList) = true := bne_iff_ne.mpr c6
   have H' := Aside0.mk H
   clear H
   obtain ⟨z8_0, z8_1, y8_0, y8_1⟩ := Own.box2 BK190.out
   have p191 : 0 ≤ (x5_1 : Int) := Own.dp
   have q191 : x5_1 < (l0_1.length : Int) := Own.dp
   obtain ⟨ad191, A191_9, c191_9, e191, hx191_0, hx191_1, hx191_2, hx191_3, hx191_4, hx191_5, hx191_6, hx191_7, hx191_8, hx191_9, hx191_10, hx191_11, hl191_9, hi191_9⟩ := at_T63 HR0_1.out x5_1 p191 q191
   cases e191
   replace hx191_0 := Own.up HB.out hx191_0
   replace hx191_1 := Own.up HB.out hx191_1
   replace hx191_2 := Own.up HB.out hx191_2
   replace hx191_3 := Own.up HB.out hx191_3
   replace hx191_4 := Own.up HB.out hx191_4
   replace hx191_5 := Own.up HB.out hx191_5
   replace hx191_6 := Own.up HB.out hx191_6
   replace hx191_7 := Own.up HB.out hx191_7
   replace hx191_8 := Own.up HB.out hx191_8
   replace hx191_9 := Own.up HB.out hx191_9
   replace hx191_10 := Own.up HB.out hx191_10
   replace hx191_11 := Own.up HB.out hx191_11
   have HR191_9 := Aside0.mk hi191_9
   have HC191_9 := Aside0.mk hl191_9
   clear hi191_9 hl191_9
   replace p191 := eq_true p191
   replace q191 := eq_true q191
   go_wp2
   go_roundg k1
   case measure => have := HK1.out; omega
   case rel => exact ⟨(wrap64 (x5_1 + 1)), Own.rs, H', ⟨by have := HK1.out; omega⟩, ⟨Own.bk⟩, ⟨Own.bl⟩⟩

end Go.Proofs.YtdfbfcgjcfbmpaaDoor.QFnExactFactNames
