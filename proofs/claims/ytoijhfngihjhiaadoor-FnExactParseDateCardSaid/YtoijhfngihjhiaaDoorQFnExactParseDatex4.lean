-- Written by a program of this session out of the translation; Lean checks it.
import Derived.Test.YtoijhfngihjhiaaDoorQFnExactParseDatex0
import Derived.Test.YtoijhfngihjhiaaDoorQFnExactParseDatex2
import Derived.Test.YtoijhfngihjhiaaDoorQFnExactParseDatex3
namespace Go.Proofs.YtoijhfngihjhiaaDoor.QFnExactParseDate
open Go.RowKit Go.Proofs.YtoijhfngihjhiaaDoorW.PrintWords Go.Proofs.YtoijhfngihjhiaaDoorW.PrintLast Go.Proofs.YtoijhfngihjhiaaDoorW.PrintMore
attribute [local go_sem] Instr.field asAgg Own.str_leq Own.str_gtr Own.str_geq
attribute [local go_sem] max2_int min2_int max_two min_two max_three min_three max_four min_four   -- for this text's walks alone
set_option linter.unusedVariables false
set_option linter.unusedSimpArgs false

/-! ### impl_dateText: function 20 -/
def impl_dateText.f (k : Nat) (a0 : Int) : Option (ByteArray) := (impl_dateOf.f k a0).bind fun bt130 => ((impl_padded.f k bt130.1 4).bind fun t134 => (if t134.size + 1 ≤ 9223372036854775807 then ((impl_padded.f k bt130.2.1 2).bind fun t135 => (if (t134 ++ (⟨#[45]⟩ : ByteArray)).size + t135.size ≤ 9223372036854775807 then (if ((t134 ++ (⟨#[45]⟩ : ByteArray)) ++ t135).size + 1 ≤ 9223372036854775807 then ((impl_padded.f k bt130.2.2 2).bind fun t136 => (if (((t134 ++ (⟨#[45]⟩ : ByteArray)) ++ t135) ++ (⟨#[45]⟩ : ByteArray)).size + t136.size ≤ 9223372036854775807 then (some ((((t134 ++ (⟨#[45]⟩ : ByteArray)) ++ t135) ++ (⟨#[45]⟩ : ByteArray)) ++ t136)) else (none))) else (none)) else (none))) else (none)))
theorem impl_dateText.mono : ∀ a0 k, LeO (impl_dateText.f k a0) (impl_dateText.f (k + 1) a0) := by
 intro a0 k
 unfold impl_dateText.f
 repeat' first
   | (with_reducible first | exact impl_dateOf.mono _ _ | exact impl_padded.mono _ _ _ | exact LeO.refl _ | exact LeO.none _ | refine LeO.ite ?_ ?_ | refine LeO.bind ?_ (fun _ => ?_))
def impl_dateText.T2 : Bool × List (List Nat × List Nat) := (true, [([], []), ([0], [0]), ([1], [1]), ([2], [2]), ([], []), ([4], [4]), ([5, 2], [5]), ([3, 6], [3, 6]), ([7], [7]), ([], []), ([9], [9]), ([10, 6], [10]), ([8, 11], [8, 11]), ([12, 11, 0, 1, 2, 3, 4, 5, 6, 7, 8, 9, 10, 11, 12], [12])])
def impl_dateText.B2 : List Nat := [0, 1, 3, 7, 0, 16, 55, 127, 255, 0, 512, 1655, 4095, 8191]
theorem impl_dateText.tab2 : rtab .any (opsOf Tryd.f20 2) = impl_dateText.T2 := by kernel_rfl
theorem impl_dateText.bits2 : waitsOk impl_dateText.T2.2 impl_dateText.B2 = true := by kernel_rfl
set_option maxHeartbeats 8000000 in
set_option maxRecDepth 100000 in
theorem impl_dateText.calls (k : Nat) (a0 : Int) (r : ByteArray) (w : World) (hG : Own.Glob w) (h : impl_dateText.f k a0 = some r) :
  Calls Tryd.prog 20 #[.int .i64 a0] w fun e w' => e = .returned (.string r) ∧ Below w.heap.size w w' := by
 have hu33 := Tryd.underlying33
 have HB := Aside0.mk (Below.refl w.heap.size w)
 have HG := Aside0.mk hG
 clear hG
 have H : ((impl_dateOf.f k a0).bind fun bt130 => ((impl_padded.f k bt130.1 4).bind fun t134 => (if t134.size + 1 ≤ 9223372036854775807 then ((impl_padded.f k bt130.2.1 2).bind fun t135 => (if (t134 ++ (⟨#[45]⟩ : ByteArray)).size + t135.size ≤ 9223372036854775807 then (if ((t134 ++ (⟨#[45]⟩ : ByteArray)) ++ t135).size + 1 ≤ 9223372036854775807 then ((impl_padded.f k bt130.2.2 2).bind fun t136 => (if (((t134 ++ (⟨#[45]⟩ : ByteArray)) ++ t135) ++ (⟨#[45]⟩ : ByteArray)).size + t136.size ≤ 9223372036854775807 then (some ((((t134 ++ (⟨#[45]⟩ : ByteArray)) ++ t135) ++ (⟨#[45]⟩ : ByteArray)) ++ t136)) else (none))) else (none)) else (none))) else (none)))) = some r := h
 clear h
 replace H := Option.bind_eq_some_iff.mp H
 obtain ⟨⟨t130, t131, t132⟩, A20, H⟩ := H
 replace H : ((impl_padded.f k t130 4).bind fun t134 => (if t134.size + 1 ≤ 9223372036854775807 then ((impl_padded.f k t131 2).bind fun t135 => (if (t134 ++ (⟨#[45]⟩ : ByteArray)).size + t135.size ≤ 9223372036854775807 then (if ((t134 ++ (⟨#[45]⟩ : ByteArray)) ++ t135).size + 1 ≤ 9223372036854775807 then ((impl_padded.f k t132 2).bind fun t136 => (if (((t134 ++ (⟨#[45]⟩ : ByteArray)) ++ t135) ++ (⟨#[45]⟩ : ByteArray)).size + t136.size ≤ 9223372036854775807 then (some ((((t134 ++ (⟨#[45]⟩ : ByteArray)) ++ t135) ++ (⟨#[45]⟩ : ByteArray)) ++ t136)) else (none))) else (none)) else (none))) else (none))) = some r := H
 have A2 := Aside0.mk A20
 clear A20
 replace H := Own.bd H; obtain ⟨t134, A3, H⟩ := H
 replace H := Own.ifn H; obtain ⟨c4, H⟩ := H
 have c4b0 := eq_true c4
 have c4b1 : decide (t134.size + 1 ≤ 9223372036854775807) = true := decide_eq_true c4
 try have c4b2 : (9223372036854775807 < t134.size + 1) = False := eq_false (Nat.not_lt.2 c4)
 replace H := Own.bd H; obtain ⟨t135, A5, H⟩ := H
 replace H := Own.ifn H; obtain ⟨c6, H⟩ := H
 have c6b0 := eq_true c6
 have c6b1 : decide ((t134 ++ (⟨#[45]⟩ : ByteArray)).size + t135.size ≤ 9223372036854775807) = true := decide_eq_true c6
 try have c6b2 : (9223372036854775807 < (t134 ++ (⟨#[45]⟩ : ByteArray)).size + t135.size) = False := eq_false (Nat.not_lt.2 c6)
 try (obtain ⟨xc6_, hxc6_⟩ : ∃ x_ : Nat, ((t134 ++ (⟨#[45]⟩ : ByteArray)).size + t135.size) = x_ := ⟨_, rfl⟩; have c6b3 := c6b2; rw [hxc6_] at c6b3; (try simp [go_sem] at hxc6_); subst hxc6_)
 replace H := Own.ifn H; obtain ⟨c7, H⟩ := H
 have c7b0 := eq_true c7
 have c7b1 : decide (((t134 ++ (⟨#[45]⟩ : ByteArray)) ++ t135).size + 1 ≤ 9223372036854775807) = true := decide_eq_true c7
 try have c7b2 : (9223372036854775807 < ((t134 ++ (⟨#[45]⟩ : ByteArray)) ++ t135).size + 1) = False := eq_false (Nat.not_lt.2 c7)
 try (obtain ⟨xc7_, hxc7_⟩ : ∃ x_ : Nat, (((t134 ++ (⟨#[45]⟩ : ByteArray)) ++ t135).size + 1) = x_ := ⟨_, rfl⟩; have c7b3 := c7b2; rw [hxc7_] at c7b3; (try simp [go_sem] at hxc7_); subst hxc7_)
 replace H := Own.bd H; obtain ⟨t136, A8, H⟩ := H
 replace H := Own.ifn H; obtain ⟨c9, H⟩ := H
 have c9b0 := eq_true c9
 have c9b1 : decide ((((t134 ++ (⟨#[45]⟩ : ByteArray)) ++ t135) ++ (⟨#[45]⟩ : ByteArray)).size + t136.size ≤ 9223372036854775807) = true := decide_eq_true c9
 try have c9b2 : (9223372036854775807 < (((t134 ++ (⟨#[45]⟩ : ByteArray)) ++ t135) ++ (⟨#[45]⟩ : ByteArray)).size + t136.size) = False := eq_false (Nat.not_lt.2 c9)
 try (obtain ⟨xc9_, hxc9_⟩ : ∃ x_ : Nat, ((((t134 ++ (⟨#[45]⟩ : ByteArray)) ++ t135) ++ (⟨#[45]⟩ : ByteArray)).size + t136.size) = x_ := ⟨_, rfl⟩; have c9b3 := c9b2; rw [hxc9_] at c9b3; (try simp [go_sem] at hxc9_); subst hxc9_)
 obtain rfl := Option.some.inj H
 go_enter Tryd.func20, Tryd.ntmps20
 try go_wp2_with (first | ((with_reducible refine gate_callee (f := 34) rfl ?_); refine goesL_ (some 5) rfl rfl Tryd.func34 (by kernel_rfl) rfl #[.int .i64 a0] rfl Own.ha ?_; (with_reducible refine (impl_dateOf.calls k a0 t130 t131 t132 _ A2.out).mono ?_); rintro e w10 ⟨rfl, hb⟩; refine ⟨_, rfl, ?_⟩; replace HB := Own.bs hb; (try clear hb)) | ((with_reducible refine gate_dst (N := 3) rfl ?_); refine Own.be (N := 3) (cs := #[.int .i64 0, .int .i64 0, .int .i64 0]) (t := 33) ?_; intro gb133 hg w11 hbox hb; have BK133 := Aside0.mk hbox; have GW133 := (Own.gs hg : Aside0 (w.heap.size ≤ gb133)); have GE133 := GW133; replace HB := Own.bs hb; clear hb hbox hg; obtain ⟨z12_0, z12_1, z12_2, y12_0, y12_1, y12_2⟩ := Own.box3 BK133.out))
 have n0_ : Aside0 ((((w11.setCell ⟨gb133, 0, none⟩ (.int .i64 t130)).setCell ⟨gb133, 1, none⟩ (.int .i64 t131)).setCell ⟨gb133, 2, none⟩ (.int .i64 t132)).heap[gb133]? = some (.cells #[.int .i64 t130, .int .i64 t131, .int .i64 t132] 33 (0, 0))) := ⟨by (with_reducible repeat (first | refine blk_drewN ?_ _ | refine blk_drew ?_ | refine blk_alloc ?_ _)); refine blk_put (cs := #[.int .i64 t130, .int .i64 t131, .int .i64 0]) ?_ 2 _ rfl; (with_reducible repeat (first | refine blk_drewN ?_ _ | refine blk_drew ?_ | refine blk_alloc ?_ _)); refine blk_put (cs := #[.int .i64 t130, .int .i64 0, .int .i64 0]) ?_ 1 _ rfl; (with_reducible repeat (first | refine blk_drewN ?_ _ | refine blk_drew ?_ | refine blk_alloc ?_ _)); refine blk_put (cs := #[.int .i64 0, .int .i64 0, .int .i64 0]) ?_ 0 _ rfl; (with_reducible repeat (first | refine blk_drewN ?_ _ | refine blk_drew ?_ | refine blk_alloc ?_ _)); exact BK133.out⟩
 have n1_ : Aside0 (Below w.heap.size w (((w11.setCell ⟨gb133, 0, none⟩ (.int .i64 t130)).setCell ⟨gb133, 1, none⟩ (.int .i64 t131)).setCell ⟨gb133, 2, none⟩ (.int .i64 t132))) := ⟨Own.bl⟩
 (try clear BK133)
 (try clear HB)
 generalize (((w11.setCell ⟨gb133, 0, none⟩ (.int .i64 t130)).setCell ⟨gb133, 1, none⟩ (.int .i64 t131)).setCell ⟨gb133, 2, none⟩ (.int .i64 t132)) = w13 at n0_ n1_ ⊢
 have BK133 := n0_
 have HB := n1_
 clear n0_ n1_
 have n0_ := Aside0.mk (blk_drew BK133.out)
 have n1_ := Aside0.mk (below_drew1 HB.out)
 clear BK133
 clear HB
 have BK133 := n0_
 have HB := n1_
 clear n0_ n1_
 refine start_ (n := 14) (S := fun w' => w'.cell? ⟨gb133, 0, none⟩ = some (.int .i64 t130) ∧ w'.cell? ⟨gb133, 1, none⟩ = some (.int .i64 t131) ∧ w'.cell? ⟨gb133, 2, none⟩ = some (.int .i64 t132)) (ds := []) #[false, false, false, false, false, false, false, false, false, false, false, false, false, false] (by kernel_rfl) rfl rfl ⟨(blk_cell BK133.out 0).trans rfl, (blk_cell BK133.out 1).trans rfl, (blk_cell BK133.out 2).trans rfl⟩ (fun hHeld => ?_); refine with_tabW impl_dateText.tab2 impl_dateText.bits2 (fun HT_ HW_ => ?_)
 generalize w13.drew = w14 at BK133 HB hHeld ⊢
 refine pure_ (i := 0) (N := some 6) (v := ?_) (a' := ?_) #[true, false, false, false, false, false, false, false, false, false, false, false, false, false] rfl rfl (any_of HT_.out (by kernel_rfl)) (fun _ _ _ h => h) (Or.inl ⟨by rfl, ?_⟩) ?_ ?_
 rotate_left
 ·
  intro w'
  go_simp
  with_reducible rfl
 rotate_left
 ·
  simp only [Own.ps]
  rfl
 refine pure_ (i := 4) (N := some 10) (v := ?_) (a' := ?_) #[true, false, false, false, true, false, false, false, false, false, false, false, false, false] rfl rfl (any_of HT_.out (by kernel_rfl)) (fun _ _ _ h => h) (Or.inl ⟨by rfl, ?_⟩) ?_ ?_
 rotate_left
 ·
  intro w'
  go_simp
  with_reducible rfl
 rotate_left
 ·
  simp only [Own.ps]
  rfl
 refine pure_ (i := 9) (N := some 15) (v := ?_) (a' := ?_) #[true, false, false, false, true, false, false, false, false, true, false, false, false, false] rfl rfl (any_of HT_.out (by kernel_rfl)) (fun _ _ _ h => h) (Or.inl ⟨by rfl, ?_⟩) ?_ ?_
 rotate_left
 ·
  intro w'
  go_simp
  with_reducible rfl
 rotate_left
 ·
  simp only [Own.ps]
  rfl
 refine take_ (i := 1) (N := some 7) (v := ?_) (a' := ?_) #[true, true, false, false, true, false, false, false, false, true, false, false, false, false] rfl rfl (take_ofW HT_.out HW_.out (by kernel_rfl)) (fun _ _ _ h => h) (Or.inl ⟨by rfl, ?_⟩) hHeld ?_ ?_
 rotate_left
 ·
  rintro w' ⟨s0, s1, s2⟩
  go_simp
  with_reducible rfl
 rotate_left
 ·
  simp only [Own.ps]
  rfl
 refine take_ (i := 5) (N := some 11) (v := ?_) (a' := ?_) #[true, true, false, false, true, true, false, false, false, true, false, false, false, false] rfl rfl (take_ofW HT_.out HW_.out (by kernel_rfl)) (fun _ _ _ h => h) (Or.inl ⟨by rfl, ?_⟩) hHeld ?_ ?_
 rotate_left
 ·
  rintro w' ⟨s0, s1, s2⟩
  go_simp
  with_reducible rfl
 rotate_left
 ·
  simp only [Own.ps]
  rfl
 refine take_ (i := 10) (N := some 16) (v := ?_) (a' := ?_) #[true, true, false, false, true, true, false, false, false, true, true, false, false, false] rfl rfl (take_ofW HT_.out HW_.out (by kernel_rfl)) (fun _ _ _ h => h) (Or.inl ⟨by rfl, ?_⟩) hHeld ?_ ?_
 rotate_left
 ·
  rintro w' ⟨s0, s1, s2⟩
  go_simp
  with_reducible rfl
 rotate_left
 ·
  simp only [Own.ps]
  rfl
 refine one_ (i := 2) (N := some 8) #[true, true, true, false, true, true, false, false, false, true, true, false, false, false] rfl rfl (one_of HT_.out (by kernel_rfl)) (by decide) (fun K hK => ?_)
 refine goes_ Tryd.func35 (by kernel_rfl) rfl #[.int .i64 t130, .int .i64 4] (by rfl) rfl rfl Own.ha ?_
 with_reducible refine (impl_padded.calls k t130 4 t134 _ ?side1 A3.out).mono ?_
 (case side1 => exact Own.gl HG.out)
 rintro e w15 ⟨rfl, hb⟩
 refine ⟨_, rfl, ?_⟩
 have n0_ := Own.bb BK133.out hb
 have n1_ := Own.bs hb
 clear BK133
 clear HB
 have BK133 := n0_
 have HB := n1_
 clear n0_ n1_
 (try clear hb)
 (try clear hb2)
 (try clear hk)
 (try clear hi)
 refine hK.out _ _ ⟨(blk_cell BK133.out 0).trans rfl, (blk_cell BK133.out 1).trans rfl, (blk_cell BK133.out 2).trans rfl⟩ (fun hHeld => ?_)
 clear hK K
 refine norm_ (a' := ?_) ?_ ?_
 rotate_left
 ·
  show Act.put _ (some 8) _ = _
  simp only [Own.ps]
  rfl
 refine pure_ (i := 3) (N := some 9) (v := ?_) (a' := ?_) #[true, true, true, true, true, true, false, false, false, true, true, false, false, false] rfl rfl (any_of HT_.out (by kernel_rfl)) (fun _ _ _ h => h) (Or.inl ⟨by rfl, ?_⟩) ?_ ?_
 rotate_left
 ·
  intro w'
  go_simp
  with_reducible rfl
 rotate_left
 ·
  simp only [Own.ps]
  rfl
 refine one_ (i := 6) (N := some 12) #[true, true, true, true, true, true, true, false, false, true, true, false, false, false] rfl rfl (one_of HT_.out (by kernel_rfl)) (by decide) (fun K hK => ?_)
 refine goes_ Tryd.func35 (by kernel_rfl) rfl #[.int .i64 t131, .int .i64 2] (by rfl) rfl rfl Own.ha ?_
 with_reducible refine (impl_padded.calls k t131 2 t135 _ ?side1 A5.out).mono ?_
 (case side1 => exact Own.gl HG.out)
 rintro e w16 ⟨rfl, hb⟩
 refine ⟨_, rfl, ?_⟩
 have n0_ := Own.bb BK133.out hb
 have n1_ := Own.bs hb
 clear BK133
 clear HB
 have BK133 := n0_
 have HB := n1_
 clear n0_ n1_
 (try clear hb)
 (try clear hb2)
 (try clear hk)
 (try clear hi)
 refine hK.out _ _ ⟨(blk_cell BK133.out 0).trans rfl, (blk_cell BK133.out 1).trans rfl, (blk_cell BK133.out 2).trans rfl⟩ (fun hHeld => ?_)
 clear hK K
 refine norm_ (a' := ?_) ?_ ?_
 rotate_left
 ·
  show Act.put _ (some 12) _ = _
  simp only [Own.ps]
  rfl
 refine pure_ (i := 7) (N := some 13) (v := ?_) (a' := ?_) #[true, true, true, true, true, true, true, true, false, true, true, false, false, false] rfl rfl (any_of HT_.out (by kernel_rfl)) (fun _ _ _ h => h) (Or.inl ⟨by rfl, ?_⟩) ?_ ?_
 rotate_left
 ·
  intro w'
  go_simp
  with_reducible rfl
 rotate_left
 ·
  simp only [Own.ps]
  rfl
 refine pure_ (i := 8) (N := some 14) (v := ?_) (a' := ?_) #[true, true, true, true, true, true, true, true, true, true, true, false, false, false] rfl rfl (any_of HT_.out (by kernel_rfl)) (fun _ _ _ h => h) (Or.inl ⟨by rfl, ?_⟩) ?_ ?_
 rotate_left
 ·
  intro w'
  go_simp
  with_reducible rfl
 rotate_left
 ·
  simp only [Own.ps]
  rfl
 refine one_ (i := 11) (N := some 17) #[true, true, true, true, true, true, true, true, true, true, true, true, false, false] rfl rfl (one_of HT_.out (by kernel_rfl)) (by decide) (fun K hK => ?_)
 refine goes_ Tryd.func35 (by kernel_rfl) rfl #[.int .i64 t132, .int .i64 2] (by rfl) rfl rfl Own.ha ?_
 with_reducible refine (impl_padded.calls k t132 2 t136 _ ?side1 A8.out).mono ?_
 (case side1 => exact Own.gl HG.out)
 rintro e w17 ⟨rfl, hb⟩
 refine ⟨_, rfl, ?_⟩
 have n0_ := Own.bb BK133.out hb
 have n1_ := Own.bs hb
 clear BK133
 clear HB
 have BK133 := n0_
 have HB := n1_
 clear n0_ n1_
 (try clear hb)
 (try clear hb2)
 (try clear hk)
 (try clear hi)
 refine hK.out _ _ ⟨(blk_cell BK133.out 0).trans rfl, (blk_cell BK133.out 1).trans rfl, (blk_cell BK133.out 2).trans rfl⟩ (fun hHeld => ?_)
 clear hK K
 refine norm_ (a' := ?_) ?_ ?_
 rotate_left
 ·
  show Act.put _ (some 17) _ = _
  simp only [Own.ps]
  rfl
 refine pure_ (i := 12) (N := some 18) (v := ?_) (a' := ?_) #[true, true, true, true, true, true, true, true, true, true, true, true, true, false] rfl rfl (any_of HT_.out (by kernel_rfl)) (fun _ _ _ h => h) (Or.inl ⟨by rfl, ?_⟩) ?_ ?_
 rotate_left
 ·
  intro w'
  go_simp
  with_reducible rfl
 rotate_left
 ·
  simp only [Own.ps]
  rfl
 refine pure_ (i := 13) (N := some 2) (v := ?_) (a' := ?_) #[true, true, true, true, true, true, true, true, true, true, true, true, true, true] rfl rfl (any_of HT_.out (by kernel_rfl)) (fun _ _ _ h => h) (Or.inl ⟨by rfl, ?_⟩) ?_ ?_
 rotate_left
 ·
  intro w'
  go_simp
  with_reducible rfl
 rotate_left
 ·
  simp only [Own.ps]
  rfl
 refine done_ (done_of HT_.out (by kernel_rfl)) ?_
 try go_wp2
 go_ret
 exact ⟨Own.rr, Own.bl⟩

/-! ### impl_ParseDate: function 9 -/
def impl_ParseDate.f (k : Nat) (a0 : ByteArray) : Option (Int × Bool) := if a0.size ≤ 1048576 then (if (a0.size : Int) = 10 then (if (Own.atoiF (a0.extract 0 4)).isSome = true ∧ (Own.atoiF (a0.extract 5 7)).isSome = true ∧ (Own.atoiF (a0.extract 8 a0.size)).isSome = true then (impl_IsValidDate.f ((Own.atoiF (a0.extract 0 4)).getD 0) ((Own.atoiF (a0.extract 5 7)).getD 0) ((Own.atoiF (a0.extract 8 a0.size)).getD 0)).bind fun b => (if b = true then (impl_dayOf.f k ((Own.atoiF (a0.extract 0 4)).getD 0) ((Own.atoiF (a0.extract 5 7)).getD 0) ((Own.atoiF (a0.extract 8 a0.size)).getD 0)).bind fun d => ((impl_dateText.f k d).bind fun t => (if t.toList = a0.toList then some (d, true) else some (0, false))) else some (0, false)) else some (0, false)) else some (0, false)) else none
theorem impl_ParseDate.mono : ∀ a0 k, LeO (impl_ParseDate.f k a0) (impl_ParseDate.f (k + 1) a0) := by
 intro a0 k
 unfold impl_ParseDate.f
 repeat' first
  | (with_reducible first | exact impl_dayOf.mono _ _ _ _ | exact impl_dateText.mono _ _ | exact LeO.refl _ | exact LeO.none _ | refine LeO.ite ?_ ?_ | refine LeO.bind ?_ (fun _ => ?_))
set_option maxHeartbeats 8000000 in
set_option maxRecDepth 100000 in
theorem impl_ParseDate.calls (k : Nat) (a0 : ByteArray) (r1 : Int) (r2 : Bool) (w : World) (hG : Own.Glob w) (h : impl_ParseDate.f k a0 = some (r1, r2)) :
  Calls Tryd.prog 9 #[.string a0] w fun e w' => e = .returned (.tuple #[.int .i64 r1, .bool r2]) ∧ Below w.heap.size w w' := by
 have HB := Aside0.mk (Below.refl w.heap.size w)
 have HG := Aside0.mk hG
 clear hG
 unfold impl_ParseDate.f at h
 replace h := Own.ifn h; obtain ⟨hs, h⟩ := h
 have HS := Aside0.mk hs
 clear hs
 have hu33 := Tryd.underlying33
 by_cases c : (a0.size : Int) = 10
 rotate_left
 ·
  rw [if_neg c] at h
  have cb0 : ((a0.size : Int) == 10) = false := beq_eq_false_iff_ne.mpr c
  have cb1 : ((a0.size : Int) != 10) = true := bne_iff_ne.mpr c
  clear c
  simp only [Option.some.injEq, Prod.mk.injEq] at h
  obtain ⟨rfl, rfl⟩ := h
  go_enter Tryd.func9, Tryd.ntmps9
  go_wp2_with (first | fail)
  go_ret2
  exact ⟨Own.rr, Own.bl⟩
 rw [if_pos c] at h
 have cb0 : ((a0.size : Int) == 10) = true := beq_iff_eq.mpr c
 have cb1 : ((a0.size : Int) != 10) = false := bne_eq_false_iff_eq.mpr c
 have d4 : (4 ≤ (a0.size : Int)) = True := eq_true (by omega)
 have e4 : decide (4 ≤ (a0.size : Int)) = true := decide_eq_true (by omega)
 have d7 : (7 ≤ (a0.size : Int)) = True := eq_true (by omega)
 have e7 : decide (7 ≤ (a0.size : Int)) = true := decide_eq_true (by omega)
 have d8 : (8 ≤ (a0.size : Int)) = True := eq_true (by omega)
 have e8 : decide (8 ≤ (a0.size : Int)) = true := decide_eq_true (by omega)
 have HZ1 := Aside0.mk (show (a0.extract 0 4).size ≤ 1048576 by rw [ByteArray.size_extract]; omega)
 have HZ2 := Aside0.mk (show (a0.extract 5 7).size ≤ 1048576 by rw [ByteArray.size_extract]; omega)
 have HZ3 := Aside0.mk (show (a0.extract 8 a0.size).size ≤ 1048576 by rw [ByteArray.size_extract]; omega)
 clear c
 cases hv1 : Own.atoiF (a0.extract 0 4) with
 | none =>
  have HV1 := Aside0.mk hv1
  rw [hv1] at h
  clear hv1
  cases hv2 : Own.atoiF (a0.extract 5 7) with
  | none =>
   have HV2 := Aside0.mk hv2
   rw [hv2] at h
   clear hv2
   cases hv3 : Own.atoiF (a0.extract 8 a0.size) with
   | none =>
    have HV3 := Aside0.mk hv3
    rw [hv3] at h
    clear hv3
    rw [if_neg (by simp)] at h
    simp only [Option.some.injEq, Prod.mk.injEq] at h
    obtain ⟨rfl, rfl⟩ := h
    go_enter Tryd.func9, Tryd.ntmps9
    go_wp2_with (first | (go_at_call 13; (with_reducible refine (Own.atoi_none (a0.extract 0 4) HZ1.out _ (Own.gl HG.out HB.out) HV1.out).mono ?_); rintro e wX0 ⟨⟨t0, n0, N0, rfl⟩, hb⟩; replace HB := Own.bs hb; (try clear hb)) | (go_at_call 13; (with_reducible refine (Own.atoi_none (a0.extract 5 7) HZ2.out _ (Own.gl HG.out HB.out) HV2.out).mono ?_); rintro e wX1 ⟨⟨t1, n1, N1, rfl⟩, hb⟩; replace HB := Own.bs hb; (try clear hb)) | (go_at_call 13; (with_reducible refine (Own.atoi_none (a0.extract 8 a0.size) HZ3.out _ (Own.gl HG.out HB.out) HV3.out).mono ?_); rintro e wX2 ⟨⟨t2, n2, N2, rfl⟩, hb⟩; replace HB := Own.bs hb; (try clear hb)))
    go_ret2
    exact ⟨Own.rr, Own.bl⟩
   | some v3 =>
    have HV3 := Aside0.mk hv3
    rw [hv3] at h
    clear hv3
    rw [if_neg (by simp)] at h
    simp only [Option.some.injEq, Prod.mk.injEq] at h
    obtain ⟨rfl, rfl⟩ := h
    go_enter Tryd.func9, Tryd.ntmps9
    go_wp2_with (first | (go_at_call 13; (with_reducible refine (Own.atoi_none (a0.extract 0 4) HZ1.out _ (Own.gl HG.out HB.out) HV1.out).mono ?_); rintro e wX0 ⟨⟨t0, n0, N0, rfl⟩, hb⟩; replace HB := Own.bs hb; (try clear hb)) | (go_at_call 13; (with_reducible refine (Own.atoi_none (a0.extract 5 7) HZ2.out _ (Own.gl HG.out HB.out) HV2.out).mono ?_); rintro e wX1 ⟨⟨t1, n1, N1, rfl⟩, hb⟩; replace HB := Own.bs hb; (try clear hb)) | (go_at_call 13; (with_reducible refine (Own.atoi_some (a0.extract 8 a0.size) HZ3.out _ (Own.gl HG.out HB.out) v3 HV3.out).mono ?_); rintro e wX2 ⟨rfl, hb⟩; replace HB := Own.bs hb; (try clear hb)))
    go_ret2
    exact ⟨Own.rr, Own.bl⟩
  | some v2 =>
   have HV2 := Aside0.mk hv2
   rw [hv2] at h
   clear hv2
   cases hv3 : Own.atoiF (a0.extract 8 a0.size) with
   | none =>
    have HV3 := Aside0.mk hv3
    rw [hv3] at h
    clear hv3
    rw [if_neg (by simp)] at h
    simp only [Option.some.injEq, Prod.mk.injEq] at h
    obtain ⟨rfl, rfl⟩ := h
    go_enter Tryd.func9, Tryd.ntmps9
    go_wp2_with (first | (go_at_call 13; (with_reducible refine (Own.atoi_none (a0.extract 0 4) HZ1.out _ (Own.gl HG.out HB.out) HV1.out).mono ?_); rintro e wX0 ⟨⟨t0, n0, N0, rfl⟩, hb⟩; replace HB := Own.bs hb; (try clear hb)) | (go_at_call 13; (with_reducible refine (Own.atoi_some (a0.extract 5 7) HZ2.out _ (Own.gl HG.out HB.out) v2 HV2.out).mono ?_); rintro e wX1 ⟨rfl, hb⟩; replace HB := Own.bs hb; (try clear hb)) | (go_at_call 13; (with_reducible refine (Own.atoi_none (a0.extract 8 a0.size) HZ3.out _ (Own.gl HG.out HB.out) HV3.out).mono ?_); rintro e wX2 ⟨⟨t2, n2, N2, rfl⟩, hb⟩; replace HB := Own.bs hb; (try clear hb)))
    go_ret2
    exact ⟨Own.rr, Own.bl⟩
   | some v3 =>
    have HV3 := Aside0.mk hv3
    rw [hv3] at h
    clear hv3
    rw [if_neg (by simp)] at h
    simp only [Option.some.injEq, Prod.mk.injEq] at h
    obtain ⟨rfl, rfl⟩ := h
    go_enter Tryd.func9, Tryd.ntmps9
    go_wp2_with (first | (go_at_call 13; (with_reducible refine (Own.atoi_none (a0.extract 0 4) HZ1.out _ (Own.gl HG.out HB.out) HV1.out).mono ?_); rintro e wX0 ⟨⟨t0, n0, N0, rfl⟩, hb⟩; replace HB := Own.bs hb; (try clear hb)) | (go_at_call 13; (with_reducible refine (Own.atoi_some (a0.extract 5 7) HZ2.out _ (Own.gl HG.out HB.out) v2 HV2.out).mono ?_); rintro e wX1 ⟨rfl, hb⟩; replace HB := Own.bs hb; (try clear hb)) | (go_at_call 13; (with_reducible refine (Own.atoi_some (a0.extract 8 a0.size) HZ3.out _ (Own.gl HG.out HB.out) v3 HV3.out).mono ?_); rintro e wX2 ⟨rfl, hb⟩; replace HB := Own.bs hb; (try clear hb)))
    go_ret2
    exact ⟨Own.rr, Own.bl⟩
 | some v1 =>
  have HV1 := Aside0.mk hv1
  rw [hv1] at h
  clear hv1
  cases hv2 : Own.atoiF (a0.extract 5 7) with
  | none =>
   have HV2 := Aside0.mk hv2
   rw [hv2] at h
   clear hv2
   cases hv3 : Own.atoiF (a0.extract 8 a0.size) with
   | none =>
    have HV3 := Aside0.mk hv3
    rw [hv3] at h
    clear hv3
    rw [if_neg (by simp)] at h
    simp only [Option.some.injEq, Prod.mk.injEq] at h
    obtain ⟨rfl, rfl⟩ := h
    go_enter Tryd.func9, Tryd.ntmps9
    go_wp2_with (first | (go_at_call 13; (with_reducible refine (Own.atoi_some (a0.extract 0 4) HZ1.out _ (Own.gl HG.out HB.out) v1 HV1.out).mono ?_); rintro e wX0 ⟨rfl, hb⟩; replace HB := Own.bs hb; (try clear hb)) | (go_at_call 13; (with_reducible refine (Own.atoi_none (a0.extract 5 7) HZ2.out _ (Own.gl HG.out HB.out) HV2.out).mono ?_); rintro e wX1 ⟨⟨t1, n1, N1, rfl⟩, hb⟩; replace HB := Own.bs hb; (try clear hb)) | (go_at_call 13; (with_reducible refine (Own.atoi_none (a0.extract 8 a0.size) HZ3.out _ (Own.gl HG.out HB.out) HV3.out).mono ?_); rintro e wX2 ⟨⟨t2, n2, N2, rfl⟩, hb⟩; replace HB := Own.bs hb; (try clear hb)))
    go_ret2
    exact ⟨Own.rr, Own.bl⟩
   | some v3 =>
    have HV3 := Aside0.mk hv3
    rw [hv3] at h
    clear hv3
    rw [if_neg (by simp)] at h
    simp only [Option.some.injEq, Prod.mk.injEq] at h
    obtain ⟨rfl, rfl⟩ := h
    go_enter Tryd.func9, Tryd.ntmps9
    go_wp2_with (first | (go_at_call 13; (with_reducible refine (Own.atoi_some (a0.extract 0 4) HZ1.out _ (Own.gl HG.out HB.out) v1 HV1.out).mono ?_); rintro e wX0 ⟨rfl, hb⟩; replace HB := Own.bs hb; (try clear hb)) | (go_at_call 13; (with_reducible refine (Own.atoi_none (a0.extract 5 7) HZ2.out _ (Own.gl HG.out HB.out) HV2.out).mono ?_); rintro e wX1 ⟨⟨t1, n1, N1, rfl⟩, hb⟩; replace HB := Own.bs hb; (try clear hb)) | (go_at_call 13; (with_reducible refine (Own.atoi_some (a0.extract 8 a0.size) HZ3.out _ (Own.gl HG.out HB.out) v3 HV3.out).mono ?_); rintro e wX2 ⟨rfl, hb⟩; replace HB := Own.bs hb; (try clear hb)))
    go_ret2
    exact ⟨Own.rr, Own.bl⟩
  | some v2 =>
   have HV2 := Aside0.mk hv2
   rw [hv2] at h
   clear hv2
   cases hv3 : Own.atoiF (a0.extract 8 a0.size) with
   | none =>
    have HV3 := Aside0.mk hv3
    rw [hv3] at h
    clear hv3
    rw [if_neg (by simp)] at h
    simp only [Option.some.injEq, Prod.mk.injEq] at h
    obtain ⟨rfl, rfl⟩ := h
    go_enter Tryd.func9, Tryd.ntmps9
    go_wp2_with (first | (go_at_call 13; (with_reducible refine (Own.atoi_some (a0.extract 0 4) HZ1.out _ (Own.gl HG.out HB.out) v1 HV1.out).mono ?_); rintro e wX0 ⟨rfl, hb⟩; replace HB := Own.bs hb; (try clear hb)) | (go_at_call 13; (with_reducible refine (Own.atoi_some (a0.extract 5 7) HZ2.out _ (Own.gl HG.out HB.out) v2 HV2.out).mono ?_); rintro e wX1 ⟨rfl, hb⟩; replace HB := Own.bs hb; (try clear hb)) | (go_at_call 13; (with_reducible refine (Own.atoi_none (a0.extract 8 a0.size) HZ3.out _ (Own.gl HG.out HB.out) HV3.out).mono ?_); rintro e wX2 ⟨⟨t2, n2, N2, rfl⟩, hb⟩; replace HB := Own.bs hb; (try clear hb)))
    go_ret2
    exact ⟨Own.rr, Own.bl⟩
   | some v3 =>
    have HV3 := Aside0.mk hv3
    rw [hv3] at h
    clear hv3
    rw [if_pos ⟨rfl, rfl, rfl⟩] at h
    simp only [Option.getD_some] at h
    replace h := Own.bd h; obtain ⟨b, A1, h⟩ := h
    cases b with
    | false =>
     simp only [Bool.false_eq_true, if_false] at h
     simp only [Option.some.injEq, Prod.mk.injEq] at h
     obtain ⟨rfl, rfl⟩ := h
     go_enter Tryd.func9, Tryd.ntmps9
     go_wp2_with (first | (go_at_call 13; (with_reducible refine (Own.atoi_some (a0.extract 0 4) HZ1.out _ (Own.gl HG.out HB.out) v1 HV1.out).mono ?_); rintro e wX0 ⟨rfl, hb⟩; replace HB := Own.bs hb; (try clear hb)) | (go_at_call 13; (with_reducible refine (Own.atoi_some (a0.extract 5 7) HZ2.out _ (Own.gl HG.out HB.out) v2 HV2.out).mono ?_); rintro e wX1 ⟨rfl, hb⟩; replace HB := Own.bs hb; (try clear hb)) | (go_at_call 13; (with_reducible refine (Own.atoi_some (a0.extract 8 a0.size) HZ3.out _ (Own.gl HG.out HB.out) v3 HV3.out).mono ?_); rintro e wX2 ⟨rfl, hb⟩; replace HB := Own.bs hb; (try clear hb)) | (go_at_call 19; (with_reducible refine (impl_IsValidDate.calls v1 v2 v3 false _ A1.out).mono ?_); rintro e w6 ⟨rfl, hb⟩; have BX := Aside0.mk (blk_below (blk_new wX2 (.cells #[.int .i64 v1, .int .i64 v2, .int .i64 v3] 33)) hb); replace HB := Own.bs hb; (try clear hb); obtain ⟨y0, y1, y2, z0, z1, z2⟩ := Own.box3 BX.out))
     go_ret2
     exact ⟨Own.rr, Own.bl⟩
    | true =>
     simp only [if_true] at h
     replace h := Own.bd h; obtain ⟨d, A2, h⟩ := h
     replace h := Own.bd h; obtain ⟨t, A3, h⟩ := h
     by_cases c : t.toList = a0.toList
     ·
      rw [if_pos c] at h
      have cb0 : (t.toList == a0.toList) = true := beq_iff_eq.mpr c
      have cb1 : (t.toList != a0.toList) = false := bne_eq_false_iff_eq.mpr c
      clear c
      simp only [Option.some.injEq, Prod.mk.injEq] at h
      obtain ⟨rfl, rfl⟩ := h
      go_enter Tryd.func9, Tryd.ntmps9
      go_wp2_with (first | (go_at_call 13; (with_reducible refine (Own.atoi_some (a0.extract 0 4) HZ1.out _ (Own.gl HG.out HB.out) v1 HV1.out).mono ?_); rintro e wX0 ⟨rfl, hb⟩; replace HB := Own.bs hb; (try clear hb)) | (go_at_call 13; (with_reducible refine (Own.atoi_some (a0.extract 5 7) HZ2.out _ (Own.gl HG.out HB.out) v2 HV2.out).mono ?_); rintro e wX1 ⟨rfl, hb⟩; replace HB := Own.bs hb; (try clear hb)) | (go_at_call 13; (with_reducible refine (Own.atoi_some (a0.extract 8 a0.size) HZ3.out _ (Own.gl HG.out HB.out) v3 HV3.out).mono ?_); rintro e wX2 ⟨rfl, hb⟩; replace HB := Own.bs hb; (try clear hb)) | (go_at_call 19; (with_reducible refine (impl_IsValidDate.calls v1 v2 v3 true _ A1.out).mono ?_); rintro e w6 ⟨rfl, hb⟩; have BX := Aside0.mk (blk_below (blk_new wX2 (.cells #[.int .i64 v1, .int .i64 v2, .int .i64 v3] 33)) hb); replace HB := Own.bs hb; (try clear hb); obtain ⟨y0, y1, y2, z0, z1, z2⟩ := Own.box3 BX.out) | (go_at_call 21; (with_reducible refine (impl_dayOf.calls k v1 v2 v3 d _ A2.out).mono ?_); rintro e w7 ⟨rfl, hb⟩; clear y0 y1 y2 z0 z1 z2; replace BX := Own.bb BX.out hb; replace HB := Own.bs hb; (try clear hb); obtain ⟨y0, y1, y2, z0, z1, z2⟩ := Own.box3 BX.out) | (go_at_call 20; (with_reducible refine (impl_dateText.calls k d t _ (Own.gl HG.out) A3.out).mono ?_); rintro e w8 ⟨rfl, hb⟩; clear y0 y1 y2 z0 z1 z2; replace BX := Own.bb BX.out hb; replace HB := Own.bs hb; (try clear hb); obtain ⟨y0, y1, y2, z0, z1, z2⟩ := Own.box3 BX.out))
      go_ret2
      exact ⟨Own.rr, Own.bl⟩
     ·
      rw [if_neg c] at h
      have cb0 : (t.toList == a0.toList) = false := beq_eq_false_iff_ne.mpr c
      have cb1 : (t.toList != a0.toList) = true := bne_iff_ne.mpr c
      clear c
      simp only [Option.some.injEq, Prod.mk.injEq] at h
      obtain ⟨rfl, rfl⟩ := h
      go_enter Tryd.func9, Tryd.ntmps9
      go_wp2_with (first | (go_at_call 13; (with_reducible refine (Own.atoi_some (a0.extract 0 4) HZ1.out _ (Own.gl HG.out HB.out) v1 HV1.out).mono ?_); rintro e wX0 ⟨rfl, hb⟩; replace HB := Own.bs hb; (try clear hb)) | (go_at_call 13; (with_reducible refine (Own.atoi_some (a0.extract 5 7) HZ2.out _ (Own.gl HG.out HB.out) v2 HV2.out).mono ?_); rintro e wX1 ⟨rfl, hb⟩; replace HB := Own.bs hb; (try clear hb)) | (go_at_call 13; (with_reducible refine (Own.atoi_some (a0.extract 8 a0.size) HZ3.out _ (Own.gl HG.out HB.out) v3 HV3.out).mono ?_); rintro e wX2 ⟨rfl, hb⟩; replace HB := Own.bs hb; (try clear hb)) | (go_at_call 19; (with_reducible refine (impl_IsValidDate.calls v1 v2 v3 true _ A1.out).mono ?_); rintro e w6 ⟨rfl, hb⟩; have BX := Aside0.mk (blk_below (blk_new wX2 (.cells #[.int .i64 v1, .int .i64 v2, .int .i64 v3] 33)) hb); replace HB := Own.bs hb; (try clear hb); obtain ⟨y0, y1, y2, z0, z1, z2⟩ := Own.box3 BX.out) | (go_at_call 21; (with_reducible refine (impl_dayOf.calls k v1 v2 v3 d _ A2.out).mono ?_); rintro e w7 ⟨rfl, hb⟩; clear y0 y1 y2 z0 z1 z2; replace BX := Own.bb BX.out hb; replace HB := Own.bs hb; (try clear hb); obtain ⟨y0, y1, y2, z0, z1, z2⟩ := Own.box3 BX.out) | (go_at_call 20; (with_reducible refine (impl_dateText.calls k d t _ (Own.gl HG.out) A3.out).mono ?_); rintro e w8 ⟨rfl, hb⟩; clear y0 y1 y2 z0 z1 z2; replace BX := Own.bb BX.out hb; replace HB := Own.bs hb; (try clear hb); obtain ⟨y0, y1, y2, z0, z1, z2⟩ := Own.box3 BX.out))
      go_ret2
      exact ⟨Own.rr, Own.bl⟩


/-! ### laws_FnExactParseDate: function 4 -/
def laws_FnExactParseDate.f (k : Nat) (a0 : ByteArray) : Option (Bool) := if (a0.size : Int) > 1048576 then (some true) else ((spec_ParseDate.f k a0).bind fun bt137 => ((impl_ParseDate.f k a0).bind fun bt139 => (if bt139.1 = bt137.1 then (if (bt139.2 != bt137.2) = true then (some false) else (some true)) else (some false))))
theorem laws_FnExactParseDate.mono : ∀ a0 k, LeO (laws_FnExactParseDate.f k a0) (laws_FnExactParseDate.f (k + 1) a0) := by
 intro a0 k
 unfold laws_FnExactParseDate.f
 repeat' first
   | (with_reducible first | exact impl_ParseDate.mono _ _ | exact spec_ParseDate.mono _ _ | exact LeO.refl _ | exact LeO.none _ | refine LeO.ite ?_ ?_ | refine LeO.bind ?_ (fun _ => ?_))
set_option maxHeartbeats 8000000 in
set_option maxRecDepth 100000 in
theorem laws_FnExactParseDate.calls (k : Nat) (a0 : ByteArray) (r : Bool) (w : World) (hG : Own.Glob w) (h : laws_FnExactParseDate.f k a0 = some r) (hr_ : Aside0 (r = true)) :
  Calls Tryd.prog 4 #[.string a0] w fun e w' => e = .returned (.bool r) ∧ Below w.heap.size w w' := by
 have HB := Aside0.mk (Below.refl w.heap.size w)
 have HG := Aside0.mk hG
 clear hG
 have H : (if (a0.size : Int) > 1048576 then (some true) else ((spec_ParseDate.f k a0).bind fun bt137 => ((impl_ParseDate.f k a0).bind fun bt139 => (if bt139.1 = bt137.1 then (if (bt139.2 != bt137.2) = true then (some false) else (some true)) else (some false))))) = some r := h
 clear h
 by_cases c2 : (a0.size : Int) > 1048576
 ·
  rw [if_pos c2] at H
  have c2b0 : decide (1048576 < (a0.size : Int)) = true := decide_eq_true c2
  have c2b1 : decide (1048576 < a0.size) = true := decide_eq_true (by omega)
  clear c2
  obtain rfl := Option.some.inj H
  go_enter Tryd.func4, Tryd.ntmps4
  go_wp2
  go_ret
  exact ⟨Own.rr, Own.bl⟩
 rw [if_neg c2] at H
 have c2b0 : decide (1048576 < (a0.size : Int)) = false := decide_eq_false c2
 have c2b1 : decide (1048576 < a0.size) = false := decide_eq_false (by omega)
 clear c2
 replace H := Option.bind_eq_some_iff.mp H
 obtain ⟨⟨t137, t138⟩, A30, H⟩ := H
 replace H : ((impl_ParseDate.f k a0).bind fun bt139 => (if bt139.1 = t137 then (if (bt139.2 != t138) = true then (some false) else (some true)) else (some false))) = some r := H
 have A3 := Aside0.mk A30
 clear A30
 replace H := Option.bind_eq_some_iff.mp H
 obtain ⟨⟨t139, t140⟩, A40, H⟩ := H
 replace H : (if t139 = t137 then (if (t140 != t138) = true then (some false) else (some true)) else (some false)) = some r := H
 have A4 := Aside0.mk A40
 clear A40
 by_cases c5 : t139 = t137
 rotate_left
 ·
  rw [if_neg c5] at H
  have c5b0 : (t139 == t137) = false := beq_eq_false_iff_ne.mpr c5
  have c5b1 : (t139 != t137) = true := bne_iff_ne.mpr c5
  exact absurd (Option.some.inj H) (by rw [hr_.out]; decide)
 rw [if_pos c5] at H
 have c5b0 : (t139 == t137) = true := beq_iff_eq.mpr c5
 have c5b1 : (t139 != t137) = false := bne_eq_false_iff_eq.mpr c5
 clear c5
 by_cases c6 : (t140 != t138) = true
 ·
  rw [if_pos c6] at H
  have c6b0 : (t140 != t138) = true := c6
  (try (have c6b1 : decide (t140 = t138) = false := by simpa using c6))
  (try (have c6b2 : (t140 == t138) = false := by simpa using c6))
  (try (have c6b3 : ¬ (t140 = t138) := by simpa using c6))
  clear c6
  exact absurd (Option.some.inj H) (by rw [hr_.out]; decide)
 rw [if_neg c6] at H
 have c6b0 : (t140 != t138) = false := by simpa using c6
 (try (have c6b1 : decide (t140 = t138) = true := by simpa using c6))
 (try (have c6b2 : (t140 == t138) = true := by simpa using c6))
 clear c6
 obtain rfl := Option.some.inj H
 go_enter Tryd.func4, Tryd.ntmps4
 go_wp2_with (first | ((with_reducible refine gate_callee (f := 8) rfl ?_); refine goesL_ (some 12) rfl rfl Tryd.func8 (by kernel_rfl) rfl #[.string a0] rfl Own.ha ?_; (with_reducible refine (spec_ParseDate.calls k a0 t137 t138 _ A3.out).mono ?_); rintro e w7 ⟨rfl, hb⟩; refine ⟨_, rfl, ?_⟩; replace HB := Own.bs hb; (try clear hb)) | ((with_reducible refine gate_callee (f := 9) rfl ?_); refine goesL_ (some 17) rfl rfl Tryd.func9 (by kernel_rfl) rfl #[.string a0] rfl Own.ha ?_; (with_reducible refine (impl_ParseDate.calls k a0 t139 t140 _ ?side1 A4.out).mono ?_); (case side1 => exact Own.gl HG.out); rintro e w8 ⟨rfl, hb⟩; refine ⟨_, rfl, ?_⟩; replace HB := Own.bs hb; (try clear hb)))
 go_ret
 exact ⟨Own.rr, Own.bl⟩

end Go.Proofs.YtoijhfngihjhiaaDoor.QFnExactParseDate
