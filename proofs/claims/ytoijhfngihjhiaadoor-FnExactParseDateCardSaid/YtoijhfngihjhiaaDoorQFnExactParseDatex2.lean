-- Written by a program of this session out of the translation; Lean checks it.
import Derived.Test.YtoijhfngihjhiaaDoorQFnExactParseDatex0
import Derived.Test.YtoijhfngihjhiaaDoorQFnExactParseDatex1
namespace Go.Proofs.YtoijhfngihjhiaaDoor.QFnExactParseDate
open Go.RowKit Go.Proofs.YtoijhfngihjhiaaDoorW.PrintWords Go.Proofs.YtoijhfngihjhiaaDoorW.PrintLast Go.Proofs.YtoijhfngihjhiaaDoorW.PrintMore
attribute [local go_sem] Instr.field asAgg Own.str_leq Own.str_gtr Own.str_geq
attribute [local go_sem] max2_int min2_int max_two min_two max_three min_three max_four min_four   -- for this text's walks alone
set_option linter.unusedVariables false
set_option linter.unusedSimpArgs false

/-! ### spec_ParseDate: function 8 -/
def spec_ParseDate.j0 : Nat → ByteArray → Bool → Option (Int × Bool)
 | 0, _, _ => none
 | k + 1, x0, x17 => if x17 = true then (some (0, false)) else (if 0 ≤ 4 then (if 4 ≤ (x0.size : Int) then ((spec_l3Digits.f k (x0.extract 0 4)).bind fun t108 => (if 5 ≤ 7 then (if 7 ≤ (x0.size : Int) then ((spec_l3Digits.f k (x0.extract 5 7)).bind fun t109 => (if 8 ≤ (x0.size : Int) then ((spec_l3Digits.f k (x0.extract 8 x0.size)).bind fun t110 => ((spec_l3Valid.f k t108 t109 t110).bind fun t112 => (if t112 = true then ((spec_l3Day.f k t108 t109 t110).bind fun t113 => (some (t113, true))) else (some (0, false))))) else (none))) else (none)) else (none))) else (none)) else (none))
def spec_ParseDate.f (k : Nat) (a0 : ByteArray) : Option (Int × Bool) := if (a0.size : Int) = 10 then (if 4 < (a0.size : Int) then (if (bt a0 4) = 45 then (if 7 < (a0.size : Int) then (spec_ParseDate.j0 k a0 ((bt a0 7) != 45)) else (none)) else (spec_ParseDate.j0 k a0 true)) else (none)) else (spec_ParseDate.j0 k a0 true)
theorem spec_ParseDate.mono_l : ∀ k, (∀ y0 y1, LeO (spec_ParseDate.j0 k y0 y1) (spec_ParseDate.j0 (k + 1) y0 y1))
 | 0 => fun _ _ r h => by simp [spec_ParseDate.j0] at h
 | k + 1 => by
  have ih0 := spec_ParseDate.mono_l k
  ·
   intro y0 y1
   unfold spec_ParseDate.j0
   repeat' first
   | (with_reducible first | exact ih0 _ _ | exact spec_l3Day.mono _ _ _ _ | exact spec_l3Digits.mono _ _ | exact spec_l3Valid.mono _ _ _ _ | exact LeO.refl _ | exact LeO.none _ | refine LeO.ite ?_ ?_ | refine LeO.bind ?_ (fun _ => ?_))
theorem spec_ParseDate.mono : ∀ a0 k, LeO (spec_ParseDate.f k a0) (spec_ParseDate.f (k + 1) a0) := by
 intro a0 k
 have ih0 := spec_ParseDate.mono_l k
 unfold spec_ParseDate.f
 repeat' first
   | (with_reducible first | exact ih0 _ _ | exact spec_l3Day.mono _ _ _ _ | exact spec_l3Digits.mono _ _ | exact spec_l3Valid.mono _ _ _ _ | exact LeO.refl _ | exact LeO.none _ | refine LeO.ite ?_ ?_ | refine LeO.bind ?_ (fun _ => ?_))
def spec_ParseDate.T3 : Bool × List (List Nat × List Nat) := (true, [([], []), ([0], [0]), ([1], [1]), ([], []), ([3], [3]), ([4, 2], [4]), ([], []), ([6], [6]), ([7, 5], [7]), ([2, 5, 8], [2, 5, 8]), ([], []), ([10, 9, 8, 0, 1, 2, 3, 4, 5, 6, 7, 8, 9, 10], [9, 10])])
def spec_ParseDate.B3 : List Nat := [0, 1, 3, 0, 8, 31, 0, 64, 255, 511, 0, 2047]
theorem spec_ParseDate.tab3 : rtab .any (opsOf Tryd.f8 3) = spec_ParseDate.T3 := by kernel_rfl
theorem spec_ParseDate.bits3 : waitsOk spec_ParseDate.T3.2 spec_ParseDate.B3 = true := by kernel_rfl
set_option maxHeartbeats 8000000 in
set_option maxRecDepth 100000 in
theorem spec_ParseDate.calls (k : Nat) (a0 : ByteArray) (r1 : Int) (r2 : Bool) (w : World) (h : spec_ParseDate.f k a0 = some (r1, r2)) :
  Calls Tryd.prog 8 #[.string a0] w fun e w' => e = .returned (.tuple #[.int .i64 r1, .bool r2]) ∧ Below w.heap.size w w' := by
 have hu33 := Tryd.underlying33
 have HB := Aside0.mk (Below.refl w.heap.size w)
 have H : (if (a0.size : Int) = 10 then (if 4 < (a0.size : Int) then (if (bt a0 4) = 45 then (if 7 < (a0.size : Int) then (spec_ParseDate.j0 k a0 ((bt a0 7) != 45)) else (none)) else (spec_ParseDate.j0 k a0 true)) else (none)) else (spec_ParseDate.j0 k a0 true)) = some (r1, r2) := h
 clear h
 have HC2 := Aside0.mk H
 clear H
 go_enter Tryd.func8, Tryd.ntmps8
 go_upto_region 1 with (fail)
 go_cut [17] (fun v17 wc => ∃ (kq : Nat) (x17_1 : Bool), v17 = .bool x17_1 ∧ Aside0 (spec_ParseDate.j0 kq a0 x17_1 = some (r1, r2)) ∧ Aside0 (kq ≤ k) ∧ Aside0 (Below w.heap.size w wc))
 case first =>
  have H := HC2.out
  clear HC2
  by_cases c3 : (a0.size : Int) = 10
  rotate_left
  ·
   rw [if_neg c3] at H
   have c3b0 : ((a0.size : Int) == 10) = false := beq_eq_false_iff_ne.mpr c3
   have c3b1 : ((a0.size : Int) != 10) = true := bne_iff_ne.mpr c3
   (first | rw [c3b0] | (simp only [i64_w, i32_w]; rw [c3b0]) | skip)
   have H' := Aside0.mk H
   clear H
   go_wp2
   go_meet
   case rel => exact ⟨_, (true), Own.rs, H', ⟨by first | omega | exact Nat.le_refl _⟩, ⟨Own.bl⟩⟩
  rw [if_pos c3] at H
  have c3b0 : ((a0.size : Int) == 10) = true := beq_iff_eq.mpr c3
  have c3b1 : ((a0.size : Int) != 10) = false := bne_eq_false_iff_eq.mpr c3
  clear c3
  (first | rw [c3b0] | (simp only [i64_w, i32_w]; rw [c3b0]) | skip)
  replace H := Own.ifn H; obtain ⟨c4, H⟩ := H
  have c4b0 : decide (4 < (a0.size : Int)) = true := decide_eq_true c4
  have c4b1 : decide (4 < a0.size) = true := decide_eq_true (by omega)
  clear c4
  by_cases c6 : (bt a0 4) = 45
  rotate_left
  ·
   rw [if_neg c6] at H
   have c6b0 : ((bt a0 4) == 45) = false := beq_eq_false_iff_ne.mpr c6
   have c6b1 : ((bt a0 4) != 45) = true := bne_iff_ne.mpr c6
   have H' := Aside0.mk H
   clear H
   have p5 : 0 ≤ (4 : Int) := (by omega)
   have q5 : 4 < a0.size := (by have : (4 : Int) < (a0.size : Int) := Own.dp; omega)
   have hx5 : ∀ h : 4 < a0.size, ((a0[4]'h).toNat : Int) = bt a0 4 := bt_at a0 4
   clear p5
   have qi5 : (4 < (a0.size : Int)) = True := eq_true (Own.dp)
   replace q5 := eq_true q5
   go_wp2
   go_meet
   case rel => exact ⟨_, (true), Own.rs, H', ⟨by first | omega | exact Nat.le_refl _⟩, ⟨Own.bl⟩⟩
  rw [if_pos c6] at H
  have c6b0 : ((bt a0 4) == 45) = true := beq_iff_eq.mpr c6
  have c6b1 : ((bt a0 4) != 45) = false := bne_eq_false_iff_eq.mpr c6
  clear c6
  replace H := Own.ifn H; obtain ⟨c7, H⟩ := H
  have c7b0 : decide (7 < (a0.size : Int)) = true := decide_eq_true c7
  have c7b1 : decide (7 < a0.size) = true := decide_eq_true (by omega)
  clear c7
  have H' := Aside0.mk H
  clear H
  have p5 : 0 ≤ (4 : Int) := (by omega)
  have q5 : 4 < a0.size := (by have : (4 : Int) < (a0.size : Int) := Own.dp; omega)
  have hx5 : ∀ h : 4 < a0.size, ((a0[4]'h).toNat : Int) = bt a0 4 := bt_at a0 4
  clear p5
  have qi5 : (4 < (a0.size : Int)) = True := eq_true (Own.dp)
  replace q5 := eq_true q5
  have p8 : 0 ≤ (7 : Int) := (by omega)
  have q8 : 7 < a0.size := (by have : (7 : Int) < (a0.size : Int) := Own.dp; omega)
  have hx8 : ∀ h : 7 < a0.size, ((a0[7]'h).toNat : Int) = bt a0 7 := bt_at a0 7
  clear p8
  have qi8 : (7 < (a0.size : Int)) = True := eq_true (Own.dp)
  replace q8 := eq_true q8
  go_wp2
  go_meet
  case rel => exact ⟨_, (((bt a0 7) != 45)), Own.rs, H', ⟨by first | omega | exact Nat.le_refl _⟩, ⟨Own.bl⟩⟩
 case rest =>
  clear HC2
  try clear p2; try clear c3; try clear c3b0; try clear c3b1; try clear c4; try clear c4b0; try clear c4b1; try clear p5; try clear q5; try clear hx5; try clear qi5; try clear c6; try clear c6b0; try clear c6b1; try clear c7; try clear c7b0; try clear c7b1; try clear c8; try clear p8; try clear q8; try clear hx8; try clear qi8; try clear p5; try clear p8; try clear q5; try clear q8
  obtain ⟨kq, x17_1, rfl, HA, HJ1, HB⟩ := hcut
  cases kq with
  | zero => exact absurd HA.out (by simp [spec_ParseDate.j0])
  | succ kj1 =>
   have H := HA.out
   clear HA
   simp only [spec_ParseDate.j0] at H
   replace H := Own.ifu H; obtain ⟨rfl, H⟩ | ⟨rfl, H⟩ := H
   ·
    simp only [Option.some.injEq, Prod.mk.injEq] at H
    obtain ⟨rfl, rfl⟩ := H
    go_wp2
    go_ret2
    exact ⟨Own.rr, Own.bl⟩
   replace H := Own.ifn H; obtain ⟨c10, H⟩ := H
   have c10b0 := eq_true c10
   have c10b1 : decide (0 ≤ 4) = true := decide_eq_true c10
   clear c10
   replace H := Own.ifn H; obtain ⟨c11, H⟩ := H
   have c11b0 := eq_true c11
   have c11b1 : decide (4 ≤ (a0.size : Int)) = true := decide_eq_true c11
   clear c11
   replace H := Own.bd H; obtain ⟨t108, A12, H⟩ := H
   replace H := Own.ifn H; obtain ⟨c13, H⟩ := H
   have c13b0 := eq_true c13
   have c13b1 : decide (5 ≤ 7) = true := decide_eq_true c13
   clear c13
   replace H := Own.ifn H; obtain ⟨c14, H⟩ := H
   have c14b0 := eq_true c14
   have c14b1 : decide (7 ≤ (a0.size : Int)) = true := decide_eq_true c14
   clear c14
   replace H := Own.bd H; obtain ⟨t109, A15, H⟩ := H
   replace H := Own.ifn H; obtain ⟨c16, H⟩ := H
   have c16b0 := eq_true c16
   have c16b1 : decide (8 ≤ (a0.size : Int)) = true := decide_eq_true c16
   clear c16
   replace H := Own.bd H; obtain ⟨t110, A17, H⟩ := H
   replace H := Own.bd H; obtain ⟨t112, A18, H⟩ := H
   replace H := Own.ifu H; obtain ⟨rfl, H⟩ | ⟨rfl, H⟩ := H
   ·
    replace H := Own.bd H; obtain ⟨t113, A20, H⟩ := H
    simp only [Option.some.injEq, Prod.mk.injEq] at H
    obtain ⟨rfl, rfl⟩ := H
    try go_wp2
    have n0_ := Aside0.mk (below_drew1 HB.out)
    clear HB
    have HB := n0_
    clear n0_
    refine start_ (n := 12) (S := fun w' => True) (ds := []) #[false, false, false, false, false, false, false, false, false, false, false, false] (by kernel_rfl) rfl rfl trivial (fun hHeld => ?_); refine with_tabW spec_ParseDate.tab3 spec_ParseDate.bits3 (fun HT_ HW_ => ?_)
    generalize wc.drew = w21 at HB hHeld ⊢
    refine pure_ (i := 0) (N := some 18) (v := ?_) (a' := ?_) #[true, false, false, false, false, false, false, false, false, false, false, false] rfl rfl (any_of HT_.out (by kernel_rfl)) (fun _ _ _ h => h) (Or.inl ⟨by rfl, ?_⟩) ?_ ?_
    rotate_left
    ·
     intro w'
     go_simp
     first | with_reducible rfl | (rw [if_neg (by simp only [ByteArray.size_extract, Own.size_mk_, List.size_toArray, List.length_cons, List.length_nil] at *; omega)]; try with_reducible rfl)
    rotate_left
    ·
     simp only [Own.ps]
     rfl
    refine pure_ (i := 1) (N := some 19) (v := ?_) (a' := ?_) #[true, true, false, false, false, false, false, false, false, false, false, false] rfl rfl (any_of HT_.out (by kernel_rfl)) (fun _ _ _ h => h) (Or.inl ⟨by rfl, ?_⟩) ?_ ?_
    rotate_left
    ·
     intro w'
     go_simp
     first | with_reducible rfl | (rw [if_neg (by simp only [ByteArray.size_extract, Own.size_mk_, List.size_toArray, List.length_cons, List.length_nil] at *; omega)]; try with_reducible rfl)
    rotate_left
    ·
     simp only [Own.ps]
     rfl
    refine pure_ (i := 3) (N := some 21) (v := ?_) (a' := ?_) #[true, true, false, true, false, false, false, false, false, false, false, false] rfl rfl (any_of HT_.out (by kernel_rfl)) (fun _ _ _ h => h) (Or.inl ⟨by rfl, ?_⟩) ?_ ?_
    rotate_left
    ·
     intro w'
     go_simp
     first | with_reducible rfl | (rw [if_neg (by simp only [ByteArray.size_extract, Own.size_mk_, List.size_toArray, List.length_cons, List.length_nil] at *; omega)]; try with_reducible rfl)
    rotate_left
    ·
     simp only [Own.ps]
     rfl
    refine pure_ (i := 4) (N := some 22) (v := ?_) (a' := ?_) #[true, true, false, true, true, false, false, false, false, false, false, false] rfl rfl (any_of HT_.out (by kernel_rfl)) (fun _ _ _ h => h) (Or.inl ⟨by rfl, ?_⟩) ?_ ?_
    rotate_left
    ·
     intro w'
     go_simp
     first | with_reducible rfl | (rw [if_neg (by simp only [ByteArray.size_extract, Own.size_mk_, List.size_toArray, List.length_cons, List.length_nil] at *; omega)]; try with_reducible rfl)
    rotate_left
    ·
     simp only [Own.ps]
     rfl
    refine pure_ (i := 6) (N := some 24) (v := ?_) (a' := ?_) #[true, true, false, true, true, false, true, false, false, false, false, false] rfl rfl (any_of HT_.out (by kernel_rfl)) (fun _ _ _ h => h) (Or.inl ⟨by rfl, ?_⟩) ?_ ?_
    rotate_left
    ·
     intro w'
     go_simp
     first | with_reducible rfl | (rw [if_neg (by simp only [ByteArray.size_extract, Own.size_mk_, List.size_toArray, List.length_cons, List.length_nil] at *; omega)]; try with_reducible rfl)
    rotate_left
    ·
     simp only [Own.ps]
     rfl
    refine pure_ (i := 7) (N := some 25) (v := ?_) (a' := ?_) #[true, true, false, true, true, false, true, true, false, false, false, false] rfl rfl (any_of HT_.out (by kernel_rfl)) (fun _ _ _ h => h) (Or.inl ⟨by rfl, ?_⟩) ?_ ?_
    rotate_left
    ·
     intro w'
     go_simp
     first | with_reducible rfl | (rw [if_neg (by simp only [ByteArray.size_extract, Own.size_mk_, List.size_toArray, List.length_cons, List.length_nil] at *; omega)]; try with_reducible rfl)
    rotate_left
    ·
     simp only [Own.ps]
     rfl
    refine join_ (σ := Nat) 1 #[true, true, true, true, true, true, true, true, true, true, true, false] (fun s_ => [(20, .int .i64 t108), (23, .int .i64 t109), (26, .int .i64 t110), (4, .pointer (some ⟨s_, 0, none⟩)), (27, .agg #[.int .i64 t108, .int .i64 t109, .int .i64 t110])]) (fun s_ w' => (w'.heap[s_]? = some (.cells #[.int .i64 0, .int .i64 0, .int .i64 0] 33 (0, 0))) ∧ (w.heap.size ≤ s_) ∧ (w.heap.size ≤ s_) ∧ (Below w.heap.size w w')) ?_ ?_
    rotate_left
    ·
     intro hCont
     refine two_ (i := 2) (j := 10) (Ni := some 20) (Nj := some 4) #[true, true, true, true, true, false, true, true, false, false, false, false] #[true, true, false, true, true, false, true, true, false, false, true, false] rfl rfl rfl rfl (two_of HT_.out (by kernel_rfl)) (by decide) (by decide) (fun K hK => ?_) (fun K hK => ?_)
     ·
      skip
      refine goes_ Tryd.func16 (by kernel_rfl) rfl #[.string (a0.extract 0 4)] (by rfl) rfl rfl Own.ha ?_
      with_reducible refine (spec_l3Digits.calls kj1 (a0.extract 0 4) t108 _ A12.out).mono ?_
      rintro e w' ⟨rfl, ⟨nd, rfl⟩⟩
      refine ⟨_, rfl, ?_⟩
      refine hK.out _ _ trivial (fun hHeld => ?_)
      clear hK K
      refine norm_ (a' := ?_) ?_ ?_
      rotate_left
      ·
       show Act.put _ (some 20) _ = _
       simp only [Own.ps]
       rfl
      refine two_ (i := 5) (j := 10) (Ni := some 23) (Nj := some 4) #[true, true, true, true, true, true, true, true, false, false, false, false] #[true, true, true, true, true, false, true, true, false, false, true, false] rfl rfl rfl rfl (two_of HT_.out (by kernel_rfl)) (by decide) (by decide) (fun K hK => ?_) (fun K hK => ?_)
      ·
       skip
       refine goes_ Tryd.func16 (by kernel_rfl) rfl #[.string (a0.extract 5 7)] (by rfl) rfl rfl Own.ha ?_
       with_reducible refine (spec_l3Digits.calls kj1 (a0.extract 5 7) t109 _ A15.out).mono ?_
       rintro e w' ⟨rfl, ⟨nd, rfl⟩⟩
       refine ⟨_, rfl, ?_⟩
       refine hK.out _ _ trivial (fun hHeld => ?_)
       clear hK K
       refine norm_ (a' := ?_) ?_ ?_
       rotate_left
       ·
        show Act.put _ (some 23) _ = _
        simp only [Own.ps]
        rfl
       refine two_ (i := 8) (j := 10) (Ni := some 26) (Nj := some 4) #[true, true, true, true, true, true, true, true, true, false, false, false] #[true, true, true, true, true, true, true, true, false, false, true, false] rfl rfl rfl rfl (two_of HT_.out (by kernel_rfl)) (by decide) (by decide) (fun K hK => ?_) (fun K hK => ?_)
       ·
        skip
        refine goes_ Tryd.func16 (by kernel_rfl) rfl #[.string (a0.extract 8 a0.size)] (by rfl) rfl rfl Own.ha ?_
        with_reducible refine (spec_l3Digits.calls kj1 (a0.extract 8 a0.size) t110 _ A17.out).mono ?_
        rintro e w' ⟨rfl, ⟨nd, rfl⟩⟩
        refine ⟨_, rfl, ?_⟩
        refine hK.out _ _ trivial (fun hHeld => ?_)
        clear hK K
        refine norm_ (a' := ?_) ?_ ?_
        rotate_left
        ·
         show Act.put _ (some 26) _ = _
         simp only [Own.ps]
         rfl
        refine pure_ (i := 9) (N := some 27) (v := ?_) (a' := ?_) #[true, true, true, true, true, true, true, true, true, true, false, false] rfl rfl (any_of HT_.out (by kernel_rfl)) (fun _ _ _ h => h) (Or.inl ⟨by rfl, ?_⟩) ?_ ?_
        rotate_left
        ·
         intro w'
         go_simp
         first | with_reducible rfl | (rw [if_neg (by simp only [ByteArray.size_extract, Own.size_mk_, List.size_toArray, List.length_cons, List.length_nil] at *; omega)]; try with_reducible rfl)
        rotate_left
        ·
         simp only [Own.ps]
         rfl
        refine one_ (i := 10) (N := some 4) #[true, true, true, true, true, true, true, true, true, true, true, false] rfl rfl (one_of HT_.out (by kernel_rfl)) (by decide) (fun K hK => ?_)
        refine box_step ?hg (N := 4) ?hd (cs := #[.int .i64 0, .int .i64 0, .int .i64 0]) (t := 33) ?hr ?_; (case hd => rfl); (case hg => rfl); (case hr => first | (go_simp; done) | (go_simp; rfl))
        intro gb111 hg w22 hbox hb
        have n0_ := Own.bs hb
        have n1_ := Aside0.mk (hbox)
        have n2_ := (Own.gs hg : Aside0 (w.heap.size ≤ gb111))
        have n3_ := (Own.gs hg : Aside0 (w.heap.size ≤ gb111))
        clear HB
        have HB := n0_
        have BK111 := n1_
        have GW111 := n2_
        have GE111 := n3_
        clear n0_ n1_ n2_ n3_
        clear hb hbox hg
        refine hK.out _ _ trivial (fun hHeld => ?_)
        clear hK K
        refine norm_ (a' := ?_) ?_ ?_
        rotate_left
        ·
         show Act.put _ (some 4) _ = _
         simp only [Own.ps]
         rfl
        exact norm_ (by simp only [putAll, Act.put, List.setIfInBounds_toArray, List.set_cons_zero, List.set_cons_succ]) (hCont (gb111) _ ⟨(by (with_reducible repeat (first | refine blk_drewN ?_ _ | refine blk_drew ?_ | refine blk_alloc ?_ _)); exact BK111.out), GW111.out, GE111.out, Own.bl⟩)
       ·
        skip
        refine box_step ?hg (N := 4) ?hd (cs := #[.int .i64 0, .int .i64 0, .int .i64 0]) (t := 33) ?hr ?_; (case hd => rfl); (case hg => rfl); (case hr => first | (go_simp; done) | (go_simp; rfl))
        intro gb111 hg w22 hbox hb
        have n0_ := Own.bs hb
        have n1_ := Aside0.mk (hbox)
        have n2_ := (Own.gs hg : Aside0 (w.heap.size ≤ gb111))
        have n3_ := (Own.gs hg : Aside0 (w.heap.size ≤ gb111))
        clear HB
        have HB := n0_
        have BK111 := n1_
        have GW111 := n2_
        have GE111 := n3_
        clear n0_ n1_ n2_ n3_
        clear hb hbox hg
        refine hK.out _ _ trivial (fun hHeld => ?_)
        clear hK K
        refine norm_ (a' := ?_) ?_ ?_
        rotate_left
        ·
         show Act.put _ (some 4) _ = _
         simp only [Own.ps]
         rfl
        refine one_ (i := 8) (N := some 26) #[true, true, true, true, true, true, true, true, true, false, true, false] rfl rfl (one_of HT_.out (by kernel_rfl)) (by decide) (fun K hK => ?_)
        refine goes_ Tryd.func16 (by kernel_rfl) rfl #[.string (a0.extract 8 a0.size)] (by rfl) rfl rfl Own.ha ?_
        with_reducible refine (spec_l3Digits.calls kj1 (a0.extract 8 a0.size) t110 _ A17.out).mono ?_
        rintro e w' ⟨rfl, ⟨nd, rfl⟩⟩
        refine ⟨_, rfl, ?_⟩
        refine hK.out _ _ trivial (fun hHeld => ?_)
        clear hK K
        refine norm_ (a' := ?_) ?_ ?_
        rotate_left
        ·
         show Act.put _ (some 26) _ = _
         simp only [Own.ps]
         rfl
        refine pure_ (i := 9) (N := some 27) (v := ?_) (a' := ?_) #[true, true, true, true, true, true, true, true, true, true, true, false] rfl rfl (any_of HT_.out (by kernel_rfl)) (fun _ _ _ h => h) (Or.inl ⟨by rfl, ?_⟩) ?_ ?_
        rotate_left
        ·
         intro w'
         go_simp
         first | with_reducible rfl | (rw [if_neg (by simp only [ByteArray.size_extract, Own.size_mk_, List.size_toArray, List.length_cons, List.length_nil] at *; omega)]; try with_reducible rfl)
        rotate_left
        ·
         simp only [Own.ps]
         rfl
        exact norm_ (by simp only [putAll, Act.put, List.setIfInBounds_toArray, List.set_cons_zero, List.set_cons_succ]) (hCont (gb111) _ ⟨(by (with_reducible repeat (first | refine blk_drewN ?_ _ | refine blk_drew ?_ | refine blk_alloc ?_ _)); exact BK111.out), GW111.out, GE111.out, Own.bl⟩)
      ·
       skip
       refine box_step ?hg (N := 4) ?hd (cs := #[.int .i64 0, .int .i64 0, .int .i64 0]) (t := 33) ?hr ?_; (case hd => rfl); (case hg => rfl); (case hr => first | (go_simp; done) | (go_simp; rfl))
       intro gb111 hg w22 hbox hb
       have n0_ := Own.bs hb
       have n1_ := Aside0.mk (hbox)
       have n2_ := (Own.gs hg : Aside0 (w.heap.size ≤ gb111))
       have n3_ := (Own.gs hg : Aside0 (w.heap.size ≤ gb111))
       clear HB
       have HB := n0_
       have BK111 := n1_
       have GW111 := n2_
       have GE111 := n3_
       clear n0_ n1_ n2_ n3_
       clear hb hbox hg
       refine hK.out _ _ trivial (fun hHeld => ?_)
       clear hK K
       refine norm_ (a' := ?_) ?_ ?_
       rotate_left
       ·
        show Act.put _ (some 4) _ = _
        simp only [Own.ps]
        rfl
       refine one_ (i := 5) (N := some 23) #[true, true, true, true, true, true, true, true, false, false, true, false] rfl rfl (one_of HT_.out (by kernel_rfl)) (by decide) (fun K hK => ?_)
       refine goes_ Tryd.func16 (by kernel_rfl) rfl #[.string (a0.extract 5 7)] (by rfl) rfl rfl Own.ha ?_
       with_reducible refine (spec_l3Digits.calls kj1 (a0.extract 5 7) t109 _ A15.out).mono ?_
       rintro e w' ⟨rfl, ⟨nd, rfl⟩⟩
       refine ⟨_, rfl, ?_⟩
       refine hK.out _ _ trivial (fun hHeld => ?_)
       clear hK K
       refine norm_ (a' := ?_) ?_ ?_
       rotate_left
       ·
        show Act.put _ (some 23) _ = _
        simp only [Own.ps]
        rfl
       refine one_ (i := 8) (N := some 26) #[true, true, true, true, true, true, true, true, true, false, true, false] rfl rfl (one_of HT_.out (by kernel_rfl)) (by decide) (fun K hK => ?_)
       refine goes_ Tryd.func16 (by kernel_rfl) rfl #[.string (a0.extract 8 a0.size)] (by rfl) rfl rfl Own.ha ?_
       with_reducible refine (spec_l3Digits.calls kj1 (a0.extract 8 a0.size) t110 _ A17.out).mono ?_
       rintro e w' ⟨rfl, ⟨nd, rfl⟩⟩
       refine ⟨_, rfl, ?_⟩
       refine hK.out _ _ trivial (fun hHeld => ?_)
       clear hK K
       refine norm_ (a' := ?_) ?_ ?_
       rotate_left
       ·
        show Act.put _ (some 26) _ = _
        simp only [Own.ps]
        rfl
       refine pure_ (i := 9) (N := some 27) (v := ?_) (a' := ?_) #[true, true, true, true, true, true, true, true, true, true, true, false] rfl rfl (any_of HT_.out (by kernel_rfl)) (fun _ _ _ h => h) (Or.inl ⟨by rfl, ?_⟩) ?_ ?_
       rotate_left
       ·
        intro w'
        go_simp
        first | with_reducible rfl | (rw [if_neg (by simp only [ByteArray.size_extract, Own.size_mk_, List.size_toArray, List.length_cons, List.length_nil] at *; omega)]; try with_reducible rfl)
       rotate_left
       ·
        simp only [Own.ps]
        rfl
       exact norm_ (by simp only [putAll, Act.put, List.setIfInBounds_toArray, List.set_cons_zero, List.set_cons_succ]) (hCont (gb111) _ ⟨(by (with_reducible repeat (first | refine blk_drewN ?_ _ | refine blk_drew ?_ | refine blk_alloc ?_ _)); exact BK111.out), GW111.out, GE111.out, Own.bl⟩)
     ·
      skip
      refine box_step ?hg (N := 4) ?hd (cs := #[.int .i64 0, .int .i64 0, .int .i64 0]) (t := 33) ?hr ?_; (case hd => rfl); (case hg => rfl); (case hr => first | (go_simp; done) | (go_simp; rfl))
      intro gb111 hg w22 hbox hb
      have n0_ := Own.bs hb
      have n1_ := Aside0.mk (hbox)
      have n2_ := (Own.gs hg : Aside0 (w.heap.size ≤ gb111))
      have n3_ := (Own.gs hg : Aside0 (w.heap.size ≤ gb111))
      clear HB
      have HB := n0_
      have BK111 := n1_
      have GW111 := n2_
      have GE111 := n3_
      clear n0_ n1_ n2_ n3_
      clear hb hbox hg
      refine hK.out _ _ trivial (fun hHeld => ?_)
      clear hK K
      refine norm_ (a' := ?_) ?_ ?_
      rotate_left
      ·
       show Act.put _ (some 4) _ = _
       simp only [Own.ps]
       rfl
      refine one_ (i := 2) (N := some 20) #[true, true, true, true, true, false, true, true, false, false, true, false] rfl rfl (one_of HT_.out (by kernel_rfl)) (by decide) (fun K hK => ?_)
      refine goes_ Tryd.func16 (by kernel_rfl) rfl #[.string (a0.extract 0 4)] (by rfl) rfl rfl Own.ha ?_
      with_reducible refine (spec_l3Digits.calls kj1 (a0.extract 0 4) t108 _ A12.out).mono ?_
      rintro e w' ⟨rfl, ⟨nd, rfl⟩⟩
      refine ⟨_, rfl, ?_⟩
      refine hK.out _ _ trivial (fun hHeld => ?_)
      clear hK K
      refine norm_ (a' := ?_) ?_ ?_
      rotate_left
      ·
       show Act.put _ (some 20) _ = _
       simp only [Own.ps]
       rfl
      refine one_ (i := 5) (N := some 23) #[true, true, true, true, true, true, true, true, false, false, true, false] rfl rfl (one_of HT_.out (by kernel_rfl)) (by decide) (fun K hK => ?_)
      refine goes_ Tryd.func16 (by kernel_rfl) rfl #[.string (a0.extract 5 7)] (by rfl) rfl rfl Own.ha ?_
      with_reducible refine (spec_l3Digits.calls kj1 (a0.extract 5 7) t109 _ A15.out).mono ?_
      rintro e w' ⟨rfl, ⟨nd, rfl⟩⟩
      refine ⟨_, rfl, ?_⟩
      refine hK.out _ _ trivial (fun hHeld => ?_)
      clear hK K
      refine norm_ (a' := ?_) ?_ ?_
      rotate_left
      ·
       show Act.put _ (some 23) _ = _
       simp only [Own.ps]
       rfl
      refine one_ (i := 8) (N := some 26) #[true, true, true, true, true, true, true, true, true, false, true, false] rfl rfl (one_of HT_.out (by kernel_rfl)) (by decide) (fun K hK => ?_)
      refine goes_ Tryd.func16 (by kernel_rfl) rfl #[.string (a0.extract 8 a0.size)] (by rfl) rfl rfl Own.ha ?_
      with_reducible refine (spec_l3Digits.calls kj1 (a0.extract 8 a0.size) t110 _ A17.out).mono ?_
      rintro e w' ⟨rfl, ⟨nd, rfl⟩⟩
      refine ⟨_, rfl, ?_⟩
      refine hK.out _ _ trivial (fun hHeld => ?_)
      clear hK K
      refine norm_ (a' := ?_) ?_ ?_
      rotate_left
      ·
       show Act.put _ (some 26) _ = _
       simp only [Own.ps]
       rfl
      refine pure_ (i := 9) (N := some 27) (v := ?_) (a' := ?_) #[true, true, true, true, true, true, true, true, true, true, true, false] rfl rfl (any_of HT_.out (by kernel_rfl)) (fun _ _ _ h => h) (Or.inl ⟨by rfl, ?_⟩) ?_ ?_
      rotate_left
      ·
       intro w'
       go_simp
       first | with_reducible rfl | (rw [if_neg (by simp only [ByteArray.size_extract, Own.size_mk_, List.size_toArray, List.length_cons, List.length_nil] at *; omega)]; try with_reducible rfl)
      rotate_left
      ·
       simp only [Own.ps]
       rfl
      exact norm_ (by simp only [putAll, Act.put, List.setIfInBounds_toArray, List.set_cons_zero, List.set_cons_succ]) (hCont (gb111) _ ⟨(by (with_reducible repeat (first | refine blk_drewN ?_ _ | refine blk_drew ?_ | refine blk_alloc ?_ _)); exact BK111.out), GW111.out, GE111.out, Own.bl⟩)
    rintro gb111 w23 ⟨h0_, h1_, h2_, h3_⟩
    have n0_ : Aside0 (w23.heap[gb111]? = some (.cells #[.int .i64 0, .int .i64 0, .int .i64 0] 33 (0, 0))) := ⟨h0_⟩
    have n1_ : Aside0 (w.heap.size ≤ gb111) := ⟨h1_⟩
    have n2_ : Aside0 (w.heap.size ≤ gb111) := ⟨h2_⟩
    have n3_ : Aside0 (Below w.heap.size w w23) := ⟨h3_⟩
    clear HB
    clear h0_ h1_ h2_ h3_
    have BK111 := n0_
    have GW111 := n1_
    have GE111 := n2_
    have HB := n3_
    clear n0_ n1_ n2_ n3_
    have hHeld := trivial
    refine norm_ (a' := ?_) ?_ ?_
    rotate_left
    ·
     simp only [putAll, Act.put, List.setIfInBounds_toArray, List.set_cons_zero, List.set_cons_succ]
     rfl
    refine one_ (i := 11) (N := none) #[true, true, true, true, true, true, true, true, true, true, true, true] rfl rfl (one_of HT_.out (by kernel_rfl)) (by decide) (fun K hK => ?_)
    have hs24 : w23.cell? ⟨gb111, 0, none⟩ = some (.int .i64 0) := (blk_cell BK111.out 0).trans rfl
    have hfs24 := blk_frozen BK111.out 0
    have hs25 : w23.cell? ⟨gb111, 1, none⟩ = some (.int .i64 0) := (blk_cell BK111.out 1).trans rfl
    have hfs25 := blk_frozen BK111.out 1
    have hs26 : w23.cell? ⟨gb111, 2, none⟩ = some (.int .i64 0) := (blk_cell BK111.out 2).trans rfl
    have hfs26 := blk_frozen BK111.out 2
    refine skip_ (w1 := ?_) (by rfl) rfl ?_ ?_
    rotate_left
    ·
     go_simp
     rfl
    refine hK.out _ _ trivial (fun hHeld => ?_)
    clear hK K
    refine done_ (done_of HT_.out (by kernel_rfl)) ?_
    obtain ⟨z27_0, z27_1, z27_2, y27_0, y27_1, y27_2⟩ := Own.box3 BK111.out
    try go_wp2_with (first | ((with_reducible refine gate_callee (f := 17) rfl ?_); refine goesL_ (some 29) rfl rfl Tryd.func17 (by kernel_rfl) rfl #[.agg #[.int .i64 t108, .int .i64 t109, .int .i64 t110]] rfl Own.ha ?_; (with_reducible refine (spec_l3Valid.calls kj1 t108 t109 t110 true _ A18.out).mono ?_); rintro e w28 ⟨rfl, hb⟩; refine ⟨_, rfl, ?_⟩; replace BK111 := Aside0.mk (blk_below (g := gb111) (o := .cells #[.int .i64 t108, .int .i64 t109, .int .i64 t110] 33 (0, 0)) (by (with_reducible repeat (first | refine blk_drewN ?_ _ | refine blk_drew ?_ | refine blk_alloc ?_ _)); with_reducible exact Own.put3 BK111.out) hb); replace HB := Own.bs hb; (try clear hb); obtain ⟨z29_0, z29_1, z29_2, y29_0, y29_1, y29_2⟩ := Own.box3 BK111.out) | ((with_reducible refine gate_callee (f := 18) rfl ?_); refine goesL_ (some 32) rfl rfl Tryd.func18 (by kernel_rfl) rfl #[.agg #[.int .i64 t108, .int .i64 t109, .int .i64 t110]] rfl Own.ha ?_; (with_reducible refine (spec_l3Day.calls kj1 t108 t109 t110 t113 _ A20.out).mono ?_); rintro e w30 ⟨rfl, hb⟩; refine ⟨_, rfl, ?_⟩; replace BK111 := Own.bb BK111.out hb; replace HB := Own.bs hb; (try clear hb)))
    go_ret2
    exact ⟨Own.rr, Own.bl⟩
   simp only [Option.some.injEq, Prod.mk.injEq] at H
   obtain ⟨rfl, rfl⟩ := H
   try go_wp2
   have n0_ := Aside0.mk (below_drew1 HB.out)
   clear HB
   have HB := n0_
   clear n0_
   refine start_ (n := 12) (S := fun w' => True) (ds := []) #[false, false, false, false, false, false, false, false, false, false, false, false] (by kernel_rfl) rfl rfl trivial (fun hHeld => ?_); refine with_tabW spec_ParseDate.tab3 spec_ParseDate.bits3 (fun HT_ HW_ => ?_)
   generalize wc.drew = w31 at HB hHeld ⊢
   refine pure_ (i := 0) (N := some 18) (v := ?_) (a' := ?_) #[true, false, false, false, false, false, false, false, false, false, false, false] rfl rfl (any_of HT_.out (by kernel_rfl)) (fun _ _ _ h => h) (Or.inl ⟨by rfl, ?_⟩) ?_ ?_
   rotate_left
   ·
    intro w'
    go_simp
    first | with_reducible rfl | (rw [if_neg (by simp only [ByteArray.size_extract, Own.size_mk_, List.size_toArray, List.length_cons, List.length_nil] at *; omega)]; try with_reducible rfl)
   rotate_left
   ·
    simp only [Own.ps]
    rfl
   refine pure_ (i := 1) (N := some 19) (v := ?_) (a' := ?_) #[true, true, false, false, false, false, false, false, false, false, false, false] rfl rfl (any_of HT_.out (by kernel_rfl)) (fun _ _ _ h => h) (Or.inl ⟨by rfl, ?_⟩) ?_ ?_
   rotate_left
   ·
    intro w'
    go_simp
    first | with_reducible rfl | (rw [if_neg (by simp only [ByteArray.size_extract, Own.size_mk_, List.size_toArray, List.length_cons, List.length_nil] at *; omega)]; try with_reducible rfl)
   rotate_left
   ·
    simp only [Own.ps]
    rfl
   refine pure_ (i := 3) (N := some 21) (v := ?_) (a' := ?_) #[true, true, false, true, false, false, false, false, false, false, false, false] rfl rfl (any_of HT_.out (by kernel_rfl)) (fun _ _ _ h => h) (Or.inl ⟨by rfl, ?_⟩) ?_ ?_
   rotate_left
   ·
    intro w'
    go_simp
    first | with_reducible rfl | (rw [if_neg (by simp only [ByteArray.size_extract, Own.size_mk_, List.size_toArray, List.length_cons, List.length_nil] at *; omega)]; try with_reducible rfl)
   rotate_left
   ·
    simp only [Own.ps]
    rfl
   refine pure_ (i := 4) (N := some 22) (v := ?_) (a' := ?_) #[true, true, false, true, true, false, false, false, false, false, false, false] rfl rfl (any_of HT_.out (by kernel_rfl)) (fun _ _ _ h => h) (Or.inl ⟨by rfl, ?_⟩) ?_ ?_
   rotate_left
   ·
    intro w'
    go_simp
    first | with_reducible rfl | (rw [if_neg (by simp only [ByteArray.size_extract, Own.size_mk_, List.size_toArray, List.length_cons, List.length_nil] at *; omega)]; try with_reducible rfl)
   rotate_left
   ·
    simp only [Own.ps]
    rfl
   refine pure_ (i := 6) (N := some 24) (v := ?_) (a' := ?_) #[true, true, false, true, true, false, true, false, false, false, false, false] rfl rfl (any_of HT_.out (by kernel_rfl)) (fun _ _ _ h => h) (Or.inl ⟨by rfl, ?_⟩) ?_ ?_
   rotate_left
   ·
    intro w'
    go_simp
    first | with_reducible rfl | (rw [if_neg (by simp only [ByteArray.size_extract, Own.size_mk_, List.size_toArray, List.length_cons, List.length_nil] at *; omega)]; try with_reducible rfl)
   rotate_left
   ·
    simp only [Own.ps]
    rfl
   refine pure_ (i := 7) (N := some 25) (v := ?_) (a' := ?_) #[true, true, false, true, true, false, true, true, false, false, false, false] rfl rfl (any_of HT_.out (by kernel_rfl)) (fun _ _ _ h => h) (Or.inl ⟨by rfl, ?_⟩) ?_ ?_
   rotate_left
   ·
    intro w'
    go_simp
    first | with_reducible rfl | (rw [if_neg (by simp only [ByteArray.size_extract, Own.size_mk_, List.size_toArray, List.length_cons, List.length_nil] at *; omega)]; try with_reducible rfl)
   rotate_left
   ·
    simp only [Own.ps]
    rfl
   refine join_ (σ := Nat) 1 #[true, true, true, true, true, true, true, true, true, true, true, false] (fun s_ => [(20, .int .i64 t108), (23, .int .i64 t109), (26, .int .i64 t110), (4, .pointer (some ⟨s_, 0, none⟩)), (27, .agg #[.int .i64 t108, .int .i64 t109, .int .i64 t110])]) (fun s_ w' => (w'.heap[s_]? = some (.cells #[.int .i64 0, .int .i64 0, .int .i64 0] 33 (0, 0))) ∧ (w.heap.size ≤ s_) ∧ (w.heap.size ≤ s_) ∧ (Below w.heap.size w w')) ?_ ?_
   rotate_left
   ·
    intro hCont
    refine two_ (i := 2) (j := 10) (Ni := some 20) (Nj := some 4) #[true, true, true, true, true, false, true, true, false, false, false, false] #[true, true, false, true, true, false, true, true, false, false, true, false] rfl rfl rfl rfl (two_of HT_.out (by kernel_rfl)) (by decide) (by decide) (fun K hK => ?_) (fun K hK => ?_)
    ·
     skip
     refine goes_ Tryd.func16 (by kernel_rfl) rfl #[.string (a0.extract 0 4)] (by rfl) rfl rfl Own.ha ?_
     with_reducible refine (spec_l3Digits.calls kj1 (a0.extract 0 4) t108 _ A12.out).mono ?_
     rintro e w' ⟨rfl, ⟨nd, rfl⟩⟩
     refine ⟨_, rfl, ?_⟩
     refine hK.out _ _ trivial (fun hHeld => ?_)
     clear hK K
     refine norm_ (a' := ?_) ?_ ?_
     rotate_left
     ·
      show Act.put _ (some 20) _ = _
      simp only [Own.ps]
      rfl
     refine two_ (i := 5) (j := 10) (Ni := some 23) (Nj := some 4) #[true, true, true, true, true, true, true, true, false, false, false, false] #[true, true, true, true, true, false, true, true, false, false, true, false] rfl rfl rfl rfl (two_of HT_.out (by kernel_rfl)) (by decide) (by decide) (fun K hK => ?_) (fun K hK => ?_)
     ·
      skip
      refine goes_ Tryd.func16 (by kernel_rfl) rfl #[.string (a0.extract 5 7)] (by rfl) rfl rfl Own.ha ?_
      with_reducible refine (spec_l3Digits.calls kj1 (a0.extract 5 7) t109 _ A15.out).mono ?_
      rintro e w' ⟨rfl, ⟨nd, rfl⟩⟩
      refine ⟨_, rfl, ?_⟩
      refine hK.out _ _ trivial (fun hHeld => ?_)
      clear hK K
      refine norm_ (a' := ?_) ?_ ?_
      rotate_left
      ·
       show Act.put _ (some 23) _ = _
       simp only [Own.ps]
       rfl
      refine two_ (i := 8) (j := 10) (Ni := some 26) (Nj := some 4) #[true, true, true, true, true, true, true, true, true, false, false, false] #[true, true, true, true, true, true, true, true, false, false, true, false] rfl rfl rfl rfl (two_of HT_.out (by kernel_rfl)) (by decide) (by decide) (fun K hK => ?_) (fun K hK => ?_)
      ·
       skip
       refine goes_ Tryd.func16 (by kernel_rfl) rfl #[.string (a0.extract 8 a0.size)] (by rfl) rfl rfl Own.ha ?_
       with_reducible refine (spec_l3Digits.calls kj1 (a0.extract 8 a0.size) t110 _ A17.out).mono ?_
       rintro e w' ⟨rfl, ⟨nd, rfl⟩⟩
       refine ⟨_, rfl, ?_⟩
       refine hK.out _ _ trivial (fun hHeld => ?_)
       clear hK K
       refine norm_ (a' := ?_) ?_ ?_
       rotate_left
       ·
        show Act.put _ (some 26) _ = _
        simp only [Own.ps]
        rfl
       refine pure_ (i := 9) (N := some 27) (v := ?_) (a' := ?_) #[true, true, true, true, true, true, true, true, true, true, false, false] rfl rfl (any_of HT_.out (by kernel_rfl)) (fun _ _ _ h => h) (Or.inl ⟨by rfl, ?_⟩) ?_ ?_
       rotate_left
       ·
        intro w'
        go_simp
        first | with_reducible rfl | (rw [if_neg (by simp only [ByteArray.size_extract, Own.size_mk_, List.size_toArray, List.length_cons, List.length_nil] at *; omega)]; try with_reducible rfl)
       rotate_left
       ·
        simp only [Own.ps]
        rfl
       refine one_ (i := 10) (N := some 4) #[true, true, true, true, true, true, true, true, true, true, true, false] rfl rfl (one_of HT_.out (by kernel_rfl)) (by decide) (fun K hK => ?_)
       refine box_step ?hg (N := 4) ?hd (cs := #[.int .i64 0, .int .i64 0, .int .i64 0]) (t := 33) ?hr ?_; (case hd => rfl); (case hg => rfl); (case hr => first | (go_simp; done) | (go_simp; rfl))
       intro gb111 hg w32 hbox hb
       have n0_ := Own.bs hb
       have n1_ := Aside0.mk (hbox)
       have n2_ := (Own.gs hg : Aside0 (w.heap.size ≤ gb111))
       have n3_ := (Own.gs hg : Aside0 (w.heap.size ≤ gb111))
       clear HB
       have HB := n0_
       have BK111 := n1_
       have GW111 := n2_
       have GE111 := n3_
       clear n0_ n1_ n2_ n3_
       clear hb hbox hg
       refine hK.out _ _ trivial (fun hHeld => ?_)
       clear hK K
       refine norm_ (a' := ?_) ?_ ?_
       rotate_left
       ·
        show Act.put _ (some 4) _ = _
        simp only [Own.ps]
        rfl
       exact norm_ (by simp only [putAll, Act.put, List.setIfInBounds_toArray, List.set_cons_zero, List.set_cons_succ]) (hCont (gb111) _ ⟨(by (with_reducible repeat (first | refine blk_drewN ?_ _ | refine blk_drew ?_ | refine blk_alloc ?_ _)); exact BK111.out), GW111.out, GE111.out, Own.bl⟩)
      ·
       skip
       refine box_step ?hg (N := 4) ?hd (cs := #[.int .i64 0, .int .i64 0, .int .i64 0]) (t := 33) ?hr ?_; (case hd => rfl); (case hg => rfl); (case hr => first | (go_simp; done) | (go_simp; rfl))
       intro gb111 hg w32 hbox hb
       have n0_ := Own.bs hb
       have n1_ := Aside0.mk (hbox)
       have n2_ := (Own.gs hg : Aside0 (w.heap.size ≤ gb111))
       have n3_ := (Own.gs hg : Aside0 (w.heap.size ≤ gb111))
       clear HB
       have HB := n0_
       have BK111 := n1_
       have GW111 := n2_
       have GE111 := n3_
       clear n0_ n1_ n2_ n3_
       clear hb hbox hg
       refine hK.out _ _ trivial (fun hHeld => ?_)
       clear hK K
       refine norm_ (a' := ?_) ?_ ?_
       rotate_left
       ·
        show Act.put _ (some 4) _ = _
        simp only [Own.ps]
        rfl
       refine one_ (i := 8) (N := some 26) #[true, true, true, true, true, true, true, true, true, false, true, false] rfl rfl (one_of HT_.out (by kernel_rfl)) (by decide) (fun K hK => ?_)
       refine goes_ Tryd.func16 (by kernel_rfl) rfl #[.string (a0.extract 8 a0.size)] (by rfl) rfl rfl Own.ha ?_
       with_reducible refine (spec_l3Digits.calls kj1 (a0.extract 8 a0.size) t110 _ A17.out).mono ?_
       rintro e w' ⟨rfl, ⟨nd, rfl⟩⟩
       refine ⟨_, rfl, ?_⟩
       refine hK.out _ _ trivial (fun hHeld => ?_)
       clear hK K
       refine norm_ (a' := ?_) ?_ ?_
       rotate_left
       ·
        show Act.put _ (some 26) _ = _
        simp only [Own.ps]
        rfl
       refine pure_ (i := 9) (N := some 27) (v := ?_) (a' := ?_) #[true, true, true, true, true, true, true, true, true, true, true, false] rfl rfl (any_of HT_.out (by kernel_rfl)) (fun _ _ _ h => h) (Or.inl ⟨by rfl, ?_⟩) ?_ ?_
       rotate_left
       ·
        intro w'
        go_simp
        first | with_reducible rfl | (rw [if_neg (by simp only [ByteArray.size_extract, Own.size_mk_, List.size_toArray, List.length_cons, List.length_nil] at *; omega)]; try with_reducible rfl)
       rotate_left
       ·
        simp only [Own.ps]
        rfl
       exact norm_ (by simp only [putAll, Act.put, List.setIfInBounds_toArray, List.set_cons_zero, List.set_cons_succ]) (hCont (gb111) _ ⟨(by (with_reducible repeat (first | refine blk_drewN ?_ _ | refine blk_drew ?_ | refine blk_alloc ?_ _)); exact BK111.out), GW111.out, GE111.out, Own.bl⟩)
     ·
      skip
      refine box_step ?hg (N := 4) ?hd (cs := #[.int .i64 0, .int .i64 0, .int .i64 0]) (t := 33) ?hr ?_; (case hd => rfl); (case hg => rfl); (case hr => first | (go_simp; done) | (go_simp; rfl))
      intro gb111 hg w32 hbox hb
      have n0_ := Own.bs hb
      have n1_ := Aside0.mk (hbox)
      have n2_ := (Own.gs hg : Aside0 (w.heap.size ≤ gb111))
      have n3_ := (Own.gs hg : Aside0 (w.heap.size ≤ gb111))
      clear HB
      have HB := n0_
      have BK111 := n1_
      have GW111 := n2_
      have GE111 := n3_
      clear n0_ n1_ n2_ n3_
      clear hb hbox hg
      refine hK.out _ _ trivial (fun hHeld => ?_)
      clear hK K
      refine norm_ (a' := ?_) ?_ ?_
      rotate_left
      ·
       show Act.put _ (some 4) _ = _
       simp only [Own.ps]
       rfl
      refine one_ (i := 5) (N := some 23) #[true, true, true, true, true, true, true, true, false, false, true, false] rfl rfl (one_of HT_.out (by kernel_rfl)) (by decide) (fun K hK => ?_)
      refine goes_ Tryd.func16 (by kernel_rfl) rfl #[.string (a0.extract 5 7)] (by rfl) rfl rfl Own.ha ?_
      with_reducible refine (spec_l3Digits.calls kj1 (a0.extract 5 7) t109 _ A15.out).mono ?_
      rintro e w' ⟨rfl, ⟨nd, rfl⟩⟩
      refine ⟨_, rfl, ?_⟩
      refine hK.out _ _ trivial (fun hHeld => ?_)
      clear hK K
      refine norm_ (a' := ?_) ?_ ?_
      rotate_left
      ·
       show Act.put _ (some 23) _ = _
       simp only [Own.ps]
       rfl
      refine one_ (i := 8) (N := some 26) #[true, true, true, true, true, true, true, true, true, false, true, false] rfl rfl (one_of HT_.out (by kernel_rfl)) (by decide) (fun K hK => ?_)
      refine goes_ Tryd.func16 (by kernel_rfl) rfl #[.string (a0.extract 8 a0.size)] (by rfl) rfl rfl Own.ha ?_
      with_reducible refine (spec_l3Digits.calls kj1 (a0.extract 8 a0.size) t110 _ A17.out).mono ?_
      rintro e w' ⟨rfl, ⟨nd, rfl⟩⟩
      refine ⟨_, rfl, ?_⟩
      refine hK.out _ _ trivial (fun hHeld => ?_)
      clear hK K
      refine norm_ (a' := ?_) ?_ ?_
      rotate_left
      ·
       show Act.put _ (some 26) _ = _
       simp only [Own.ps]
       rfl
      refine pure_ (i := 9) (N := some 27) (v := ?_) (a' := ?_) #[true, true, true, true, true, true, true, true, true, true, true, false] rfl rfl (any_of HT_.out (by kernel_rfl)) (fun _ _ _ h => h) (Or.inl ⟨by rfl, ?_⟩) ?_ ?_
      rotate_left
      ·
       intro w'
       go_simp
       first | with_reducible rfl | (rw [if_neg (by simp only [ByteArray.size_extract, Own.size_mk_, List.size_toArray, List.length_cons, List.length_nil] at *; omega)]; try with_reducible rfl)
      rotate_left
      ·
       simp only [Own.ps]
       rfl
      exact norm_ (by simp only [putAll, Act.put, List.setIfInBounds_toArray, List.set_cons_zero, List.set_cons_succ]) (hCont (gb111) _ ⟨(by (with_reducible repeat (first | refine blk_drewN ?_ _ | refine blk_drew ?_ | refine blk_alloc ?_ _)); exact BK111.out), GW111.out, GE111.out, Own.bl⟩)
    ·
     skip
     refine box_step ?hg (N := 4) ?hd (cs := #[.int .i64 0, .int .i64 0, .int .i64 0]) (t := 33) ?hr ?_; (case hd => rfl); (case hg => rfl); (case hr => first | (go_simp; done) | (go_simp; rfl))
     intro gb111 hg w32 hbox hb
     have n0_ := Own.bs hb
     have n1_ := Aside0.mk (hbox)
     have n2_ := (Own.gs hg : Aside0 (w.heap.size ≤ gb111))
     have n3_ := (Own.gs hg : Aside0 (w.heap.size ≤ gb111))
     clear HB
     have HB := n0_
     have BK111 := n1_
     have GW111 := n2_
     have GE111 := n3_
     clear n0_ n1_ n2_ n3_
     clear hb hbox hg
     refine hK.out _ _ trivial (fun hHeld => ?_)
     clear hK K
     refine norm_ (a' := ?_) ?_ ?_
     rotate_left
     ·
      show Act.put _ (some 4) _ = _
      simp only [Own.ps]
      rfl
     refine one_ (i := 2) (N := some 20) #[true, true, true, true, true, false, true, true, false, false, true, false] rfl rfl (one_of HT_.out (by kernel_rfl)) (by decide) (fun K hK => ?_)
     refine goes_ Tryd.func16 (by kernel_rfl) rfl #[.string (a0.extract 0 4)] (by rfl) rfl rfl Own.ha ?_
     with_reducible refine (spec_l3Digits.calls kj1 (a0.extract 0 4) t108 _ A12.out).mono ?_
     rintro e w' ⟨rfl, ⟨nd, rfl⟩⟩
     refine ⟨_, rfl, ?_⟩
     refine hK.out _ _ trivial (fun hHeld => ?_)
     clear hK K
     refine norm_ (a' := ?_) ?_ ?_
     rotate_left
     ·
      show Act.put _ (some 20) _ = _
      simp only [Own.ps]
      rfl
     refine one_ (i := 5) (N := some 23) #[true, true, true, true, true, true, true, true, false, false, true, false] rfl rfl (one_of HT_.out (by kernel_rfl)) (by decide) (fun K hK => ?_)
     refine goes_ Tryd.func16 (by kernel_rfl) rfl #[.string (a0.extract 5 7)] (by rfl) rfl rfl Own.ha ?_
     with_reducible refine (spec_l3Digits.calls kj1 (a0.extract 5 7) t109 _ A15.out).mono ?_
     rintro e w' ⟨rfl, ⟨nd, rfl⟩⟩
     refine ⟨_, rfl, ?_⟩
     refine hK.out _ _ trivial (fun hHeld => ?_)
     clear hK K
     refine norm_ (a' := ?_) ?_ ?_
     rotate_left
     ·
      show Act.put _ (some 23) _ = _
      simp only [Own.ps]
      rfl
     refine one_ (i := 8) (N := some 26) #[true, true, true, true, true, true, true, true, true, false, true, false] rfl rfl (one_of HT_.out (by kernel_rfl)) (by decide) (fun K hK => ?_)
     refine goes_ Tryd.func16 (by kernel_rfl) rfl #[.string (a0.extract 8 a0.size)] (by rfl) rfl rfl Own.ha ?_
     with_reducible refine (spec_l3Digits.calls kj1 (a0.extract 8 a0.size) t110 _ A17.out).mono ?_
     rintro e w' ⟨rfl, ⟨nd, rfl⟩⟩
     refine ⟨_, rfl, ?_⟩
     refine hK.out _ _ trivial (fun hHeld => ?_)
     clear hK K
     refine norm_ (a' := ?_) ?_ ?_
     rotate_left
     ·
      show Act.put _ (some 26) _ = _
      simp only [Own.ps]
      rfl
     refine pure_ (i := 9) (N := some 27) (v := ?_) (a' := ?_) #[true, true, true, true, true, true, true, true, true, true, true, false] rfl rfl (any_of HT_.out (by kernel_rfl)) (fun _ _ _ h => h) (Or.inl ⟨by rfl, ?_⟩) ?_ ?_
     rotate_left
     ·
      intro w'
      go_simp
      first | with_reducible rfl | (rw [if_neg (by simp only [ByteArray.size_extract, Own.size_mk_, List.size_toArray, List.length_cons, List.length_nil] at *; omega)]; try with_reducible rfl)
     rotate_left
     ·
      simp only [Own.ps]
      rfl
     exact norm_ (by simp only [putAll, Act.put, List.setIfInBounds_toArray, List.set_cons_zero, List.set_cons_succ]) (hCont (gb111) _ ⟨(by (with_reducible repeat (first | refine blk_drewN ?_ _ | refine blk_drew ?_ | refine blk_alloc ?_ _)); exact BK111.out), GW111.out, GE111.out, Own.bl⟩)
   rintro gb111 w33 ⟨h0_, h1_, h2_, h3_⟩
   have n0_ : Aside0 (w33.heap[gb111]? = some (.cells #[.int .i64 0, .int .i64 0, .int .i64 0] 33 (0, 0))) := ⟨h0_⟩
   have n1_ : Aside0 (w.heap.size ≤ gb111) := ⟨h1_⟩
   have n2_ : Aside0 (w.heap.size ≤ gb111) := ⟨h2_⟩
   have n3_ : Aside0 (Below w.heap.size w w33) := ⟨h3_⟩
   clear HB
   clear h0_ h1_ h2_ h3_
   have BK111 := n0_
   have GW111 := n1_
   have GE111 := n2_
   have HB := n3_
   clear n0_ n1_ n2_ n3_
   have hHeld := trivial
   refine norm_ (a' := ?_) ?_ ?_
   rotate_left
   ·
    simp only [putAll, Act.put, List.setIfInBounds_toArray, List.set_cons_zero, List.set_cons_succ]
    rfl
   refine one_ (i := 11) (N := none) #[true, true, true, true, true, true, true, true, true, true, true, true] rfl rfl (one_of HT_.out (by kernel_rfl)) (by decide) (fun K hK => ?_)
   have hs34 : w33.cell? ⟨gb111, 0, none⟩ = some (.int .i64 0) := (blk_cell BK111.out 0).trans rfl
   have hfs34 := blk_frozen BK111.out 0
   have hs35 : w33.cell? ⟨gb111, 1, none⟩ = some (.int .i64 0) := (blk_cell BK111.out 1).trans rfl
   have hfs35 := blk_frozen BK111.out 1
   have hs36 : w33.cell? ⟨gb111, 2, none⟩ = some (.int .i64 0) := (blk_cell BK111.out 2).trans rfl
   have hfs36 := blk_frozen BK111.out 2
   refine skip_ (w1 := ?_) (by rfl) rfl ?_ ?_
   rotate_left
   ·
    go_simp
    rfl
   refine hK.out _ _ trivial (fun hHeld => ?_)
   clear hK K
   refine done_ (done_of HT_.out (by kernel_rfl)) ?_
   obtain ⟨z37_0, z37_1, z37_2, y37_0, y37_1, y37_2⟩ := Own.box3 BK111.out
   try go_wp2_with (first | ((with_reducible refine gate_callee (f := 17) rfl ?_); refine goesL_ (some 29) rfl rfl Tryd.func17 (by kernel_rfl) rfl #[.agg #[.int .i64 t108, .int .i64 t109, .int .i64 t110]] rfl Own.ha ?_; (with_reducible refine (spec_l3Valid.calls kj1 t108 t109 t110 false _ A18.out).mono ?_); rintro e w38 ⟨rfl, hb⟩; refine ⟨_, rfl, ?_⟩; replace BK111 := Aside0.mk (blk_below (g := gb111) (o := .cells #[.int .i64 t108, .int .i64 t109, .int .i64 t110] 33 (0, 0)) (by (with_reducible repeat (first | refine blk_drewN ?_ _ | refine blk_drew ?_ | refine blk_alloc ?_ _)); with_reducible exact Own.put3 BK111.out) hb); replace HB := Own.bs hb; (try clear hb)))
   go_ret2
   exact ⟨Own.rr, Own.bl⟩

end Go.Proofs.YtoijhfngihjhiaaDoor.QFnExactParseDate
