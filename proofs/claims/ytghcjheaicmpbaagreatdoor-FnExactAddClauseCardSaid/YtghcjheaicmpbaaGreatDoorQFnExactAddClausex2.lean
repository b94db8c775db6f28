-- Written by a program of this session out of the translation; Lean checks it.
import Derived.Test.YtghcjheaicmpbaaGreatDoorQFnExactAddClausex0
namespace Go.Proofs.YtghcjheaicmpbaaGreatDoor.QFnExactAddClause
open Go.RowKit Go.Proofs.YtghcjheaicmpbaaGreatDoorW.PrintWords Go.Proofs.YtghcjheaicmpbaaGreatDoorW.PrintLast
attribute [local go_sem] Instr.field asAgg
set_option linter.unusedVariables false
set_option linter.unusedSimpArgs false
/-! ### spec_l5Own: function 19 -/
mutual
def spec_l5Own.l0 : Nat → Int → Int → ByteArray → Int → List (S41) → Int → ByteArray → Int → List (S41) → Option (Int × ByteArray × Int × (List (S41)))
 | 0, _, _, _, _, _, _, _, _, _ => none
 | k + 1, x4, x114000, x114001, x114002, x114003, x116000, x116001, x116002, x116003 => if x4 < (x114003.length : Int) then (if 0 ≤ x4 then ((spec_l5Own.f k ((rd_T41 x114003 x4).f0) ((rd_T41 x114003 x4).f1) ((rd_T41 x114003 x4).f2) ((rd_T41 x114003 x4).f3)).bind fun bt117 => (if x116003.length < 2513169434916 then (spec_l5Own.l0 k (wrap64 (x4 + 1)) x114000 x114001 x114002 x114003 x116000 x116001 x116002 (x116003 ++ [(⟨bt117.1, bt117.2.1, bt117.2.2.1, bt117.2.2.2⟩ : S41)])) else (none))) else (none)) else (some (x116000, x116001, x116002, x116003))
def spec_l5Own.f : Nat → Int → ByteArray → Int → List (S41) → Option (Int × ByteArray × Int × (List (S41)))
 | 0, _, _, _, _ => none
 | k + 1, a0_0, a0_1, a0_2, l0_3 => spec_l5Own.l0 k 0 a0_0 a0_1 a0_2 l0_3 a0_0 a0_1 a0_2 ([] : List (S41))
end
def spec_l5Own.T5 : Bool × List (List Nat × List Nat) := (true, [([], []), ([0], [0]), ([], []), ([2], [2]), ([], []), ([3, 4], [3, 4]), ([5], [5]), ([6], [6]), ([7], [7]), ([1, 8, 7], [1, 8]), ([0, 1, 2, 3, 4, 5, 6, 7, 8, 9], []), ([10, 9, 9, 0, 1, 2, 3, 4, 5, 6, 7, 8, 9], [9, 10])])
def spec_l5Own.B5 : List Nat := [0, 1, 0, 4, 0, 28, 60, 124, 252, 511, 1023, 2047]
theorem spec_l5Own.tab5 : rtab .any (opsOf Tryz.f19 5) = spec_l5Own.T5 := by kernel_rfl
theorem spec_l5Own.bits5 : waitsOk spec_l5Own.T5.2 spec_l5Own.B5 = true := by kernel_rfl
set_option maxHeartbeats 8000000 in
set_option maxRecDepth 100000 in
theorem spec_l5Own.calls (k : Nat) : ∀ (a0_0 : Int) (a0_1 : ByteArray) (a0_2 : Int) (A0_3 : Option Addr) (c0_3 : Nat) (l0_3 : List (S41)) (r1 : Int) (r2 : ByteArray) (r3 : Int) (r4 : List (S41)) (w : World) (hr0_3 : Kd.C k41 w A0_3 l0_3.length l0_3) (hc0_3 : l0_3.length ≤ c0_3) (h : spec_l5Own.f k a0_0 a0_1 a0_2 l0_3 = some (r1, r2, r3, r4)),
  Calls Tryz.prog 19 #[.agg #[.int .i64 a0_0, .string a0_1, .int .i64 a0_2, .slice A0_3 l0_3.length c0_3]] w fun e w' => ∃ v3_ : Value, e = .returned (.agg #[.int .i64 r1, .string r2, .int .i64 r3, v3_]) ∧ Kd.R k41 41 w' w.heap.size (fun _ => True) v3_ r4 ∧ Below w.heap.size w w' := by
 induction k using Nat.strongRecOn with
 | _ k ih =>
 intro a0_0 a0_1 a0_2 A0_3 c0_3 l0_3 r1 r2 r3 r4 w hr0_3 hc0_3 h
 cases k with
 | zero => exact absurd h (by simp [spec_l5Own.f])
 | succ k =>
 simp only [spec_l5Own.f] at h
 have hu41 := Tryz.underlying41
 have HR0_3 := Aside0.mk hr0_3
 have HC0_3 := Aside0.mk hc0_3
 clear hr0_3 hc0_3
 have HB := Aside0.mk (Below.refl w.heap.size w)
 have H : (spec_l5Own.l0 k 0 a0_0 a0_1 a0_2 l0_3 a0_0 a0_1 a0_2 ([] : List (S41))) = some (r1, r2, r3, r4) := h
 clear h
 have H' := Aside0.mk H
 clear H
 go_enter Tryz.func19, Tryz.ntmps19
 go_wp2_with (first | ((with_reducible refine gate_dst (N := 1) rfl ?_); refine Own.be (N := 1) (cs := #[.int .i64 a0_0, .string a0_1, .int .i64 a0_2, .slice A0_3 l0_3.length c0_3]) (t := 41) ?_; intro gb113 hg w2 hbox hb; have BK113 := Aside0.mk hbox; have GW113 := (Own.gs hg : Aside0 (w.heap.size ≤ gb113)); have GE113 := GW113; replace HB := Own.bs hb; clear hb hbox hg) | ((with_reducible refine gate_dst (N := 2) rfl ?_); refine Own.be (N := 2) (cs := #[.int .i64 0, .string (⟨#[]⟩ : ByteArray), .int .i64 0, .slice none 0 0]) (t := 41) ?_; intro gb114 hg w3 hbox hb; have BK114 := Aside0.mk hbox; have GW114 := (Own.gs hg : Aside0 (w.heap.size ≤ gb114)); have GE114 := GW114; have NB113_114 := Own.nl hg BK113.out; have NB114_113 := Aside0.mk NB113_114.out.symm; replace BK113 := Own.bb BK113.out hb; replace HB := Own.bs hb; clear hb hbox hg; have hnb4 := NB113_114.out; have hnc4 := NB114_113.out; obtain ⟨z5_0, z5_1, z5_2, z5_3, y5_0, y5_1, y5_2, y5_3⟩ := Own.box4 BK113.out) | ((with_reducible refine gate_dst (N := 3) rfl ?_); refine Own.be (N := 3) (cs := #[.int .i64 0, .string (⟨#[]⟩ : ByteArray), .int .i64 0, .slice none 0 0]) (t := 41) ?_; intro gb115 hg w6 hbox hb; have BK115 := Aside0.mk hbox; have GW115 := (Own.gs hg : Aside0 (w.heap.size ≤ gb115)); have GE115 := GW115; have NB113_115 := Own.nl hg BK113.out; have NB115_113 := Aside0.mk NB113_115.out.symm; have NB114_115 := Own.nl hg BK114.out; have NB115_114 := Aside0.mk NB114_115.out.symm; replace BK113 := Own.bb BK113.out hb; replace BK114 := Own.bb BK114.out hb; replace HB := Own.bs hb; clear hb hbox hg; have hnb7 := NB115_113.out; have hnc7 := NB113_115.out; have hnb8 := NB115_114.out; have hnc8 := NB114_115.out; obtain ⟨z9_0, z9_1, z9_2, z9_3, y9_0, y9_1, y9_2, y9_3⟩ := Own.box4 BK115.out))
 go_loopg [4] k (fun kq v4 w' => ∃ (x4_1 : Int) (x116003_1 : List (S41)) (u116003 : Value), v4 = .int .i64 x4_1 ∧ Aside0 (spec_l5Own.l0 kq x4_1 a0_0 a0_1 a0_2 l0_3 a0_0 a0_1 a0_2 x116003_1 = some (r1, r2, r3, r4)) ∧ Aside0 (kq ≤ k) ∧ Aside0 (Kd.R k41 41 w' w.heap.size (fun k_ => k_ ≠ gb113 ∧ k_ ≠ gb114 ∧ k_ ≠ gb115) u116003 x116003_1) ∧ Aside0 (w'.heap[gb113]? = some (.cells #[.int .i64 a0_0, .string a0_1, .int .i64 a0_2, (.slice A0_3 l0_3.length c0_3)] 41 (0, 0))) ∧ Aside0 (w'.heap[gb114]? = some (.cells #[.int .i64 0, .string (⟨#[]⟩ : ByteArray), .int .i64 0, (.slice none 0 0)] 41 (0, 0))) ∧ Aside0 (w'.heap[gb115]? = some (.cells #[.int .i64 a0_0, .string a0_1, .int .i64 a0_2, u116003] 41 (0, 0))) ∧ Aside0 (Below w.heap.size w w'))
 case atStart => exact ⟨(0), (([] : List (S41))), (.slice none 0 0), Own.rs, H', ⟨Nat.le_refl _⟩, ⟨by first | exact Kd.R_nil _ _ _ _ _ | exact Kd.N_nil _ _ _ _ _ | exact Kd.V_nil _ _ _ _ _ | exact Kd.Q_nil _ _ _ _ _ | exact Kd.S_nil _ _ _ _ _⟩, ⟨by (with_reducible repeat (first | refine blk_drewN ?_ _ | refine blk_drew ?_ | refine blk_alloc ?_ _ | refine blk_far ?_ NB113_115.out _)); (with_reducible repeat (first | refine blk_drewN ?_ _ | refine blk_drew ?_ | refine blk_alloc ?_ _)); exact BK113.out⟩, ⟨by (with_reducible repeat (first | refine blk_drewN ?_ _ | refine blk_drew ?_ | refine blk_alloc ?_ _ | refine blk_far ?_ NB114_115.out _)); (with_reducible repeat (first | refine blk_drewN ?_ _ | refine blk_drew ?_ | refine blk_alloc ?_ _)); exact BK114.out⟩, ⟨by (with_reducible repeat (first | refine blk_drewN ?_ _ | refine blk_drew ?_ | refine blk_alloc ?_ _)); exact Own.put4 BK115.out⟩, ⟨Own.bl⟩⟩
 case round =>
  clear H'; try clear z5_0 z5_1 z5_2 z5_3; try clear z9_0 z9_1 z9_2 z9_3; try clear y5_0 y5_1 y5_2 y5_3; try clear y9_0 y9_1 y9_2 y9_3
  obtain ⟨x4_1, x116003_1, u116003, rfl, HA, HK1, HO_116003, BK113, BK114, BK115, HB⟩ := hrel
  cases gk with
  | zero => exact absurd HA.out (by simp [spec_l5Own.l0])
  | succ k1 =>
   have H := HA.out; clear HA
   simp only [spec_l5Own.l0] at H
   by_cases c10 : x4_1 < (l0_3.length : Int)
   rotate_left
   ·
    rw [if_neg c10] at H; replace c10 := decide_eq_false c10
    simp only [Option.some.injEq, Prod.mk.injEq] at H
    obtain ⟨rfl, rfl, rfl, rfl⟩ := H; have hnb23 := NB113_114.out; have hnc23 := NB114_113.out; have hnb24 := NB113_115.out; have hnc24 := NB115_113.out; obtain ⟨z25_0, z25_1, z25_2, z25_3, y25_0, y25_1, y25_2, y25_3⟩ := Own.box4 BK113.out; have hnb26 := NB115_114.out; have hnc26 := NB114_115.out; obtain ⟨z27_0, z27_1, z27_2, z27_3, y27_0, y27_1, y27_2, y27_3⟩ := Own.box4 BK115.out; obtain ⟨z28_0, z28_1, z28_2, z28_3, y28_0, y28_1, y28_2, y28_3⟩ := Own.box4 BK114.out; obtain ⟨Ao29, co29, eo29⟩ := Kd.R_slice HO_116003.out; subst eo29
    go_wp2
    refine bodyPost_ret (results_cell_row rfl _ _ gb114 41 #[.int .i64 a0_0, .string a0_1, .int .i64 a0_2, .slice Ao29 x116003_1.length co29] (0, 0) _ rfl (by (with_reducible repeat (first | refine blk_drewN ?_ _ | refine blk_drew ?_ | refine blk_alloc ?_ _)); with_reducible exact Own.put4 BK114.out) Tryz.underlying41 rfl (by kernel_rfl)) rfl ?_
    exact ⟨_, Own.rr, by (with_reducible repeat (first | apply Kd.R_alloc | apply Kd.R_drewN | apply Kd.R_drew)); exact Kd.R_mono (Kd.R_far (p := ⟨gb114, 3, none⟩) (Kd.R_far (p := ⟨gb114, 2, none⟩) (Kd.R_far (p := ⟨gb114, 1, none⟩) (Kd.R_far (p := ⟨gb114, 0, none⟩) (Kd.R_mono HO_116003.out (fun k_ hk => (⟨hk, hk.2.1⟩ : _ ∧ k_ ≠ gb114))) (fun _ hk => hk.2) (.int .i64 a0_0)) (fun _ hk => hk.2) (.string a0_1)) (fun _ hk => hk.2) (.int .i64 a0_2)) (fun _ hk => hk.2) (.slice Ao29 x116003_1.length co29)) (fun _ hk => trivial), Own.bl⟩
   rw [if_pos c10] at H; replace c10 := decide_eq_true c10
   replace H := Own.ifd H; obtain ⟨c11, H⟩ := H; replace H := Option.bind_eq_some_iff.mp H; obtain ⟨⟨t117, t118, t119, t120⟩, A120, H⟩ := H
   replace H : (if x116003_1.length < 2513169434916 then (spec_l5Own.l0 k1 (wrap64 (x4_1 + 1)) a0_0 a0_1 a0_2 l0_3 a0_0 a0_1 a0_2 (x116003_1 ++ [(⟨t117, t118, t119, t120⟩ : S41)])) else (none)) = some (r1, r2, r3, r4) := H
   have A12 := Aside0.mk A120; clear A120
   replace H := Own.ifn H; obtain ⟨c13, H⟩ := H; have LMc13 := Aside0.mk c13; clear c13
   obtain ⟨y123, hy123⟩ : ∃ y_ : List (S41), y_ = (x116003_1 ++ [(⟨t117, t118, t119, t120⟩ : S41)]) := ⟨_, rfl⟩
   replace H : (spec_l5Own.l0 k1 (wrap64 (x4_1 + 1)) a0_0 a0_1 a0_2 l0_3 a0_0 a0_1 a0_2 y123) = some (r1, r2, r3, r4) := by first | (rw [hy123]; with_reducible exact H) | (have H2_ := (Option.bind_some _ _).symm.trans H; rw [hy123]; with_reducible exact H2_) | (have H2_ := (Option.bind_some _ _).symm.trans H; with_reducible exact H2_) | with_reducible exact H | (rw [hy123]; exact H) | exact H
   have Ny123 := Aside0.mk hy123; clear hy123; have H' := Aside0.mk H; clear H; have hnb14 := NB113_114.out; have hnc14 := NB114_113.out; have hnb15 := NB113_115.out; have hnc15 := NB115_113.out; obtain ⟨z16_0, z16_1, z16_2, z16_3, y16_0, y16_1, y16_2, y16_3⟩ := Own.box4 BK113.out
   try go_wp2
   have n0_ := Aside0.mk (Kd.R_drew HO_116003.out)
   have n1_ := Aside0.mk (blk_drew BK113.out)
   have n2_ := Aside0.mk (blk_drew BK114.out)
   have n3_ := Aside0.mk (blk_drew BK115.out)
   have n4_ := Aside0.mk (below_drew1 HB.out)
   clear HO_116003; clear BK113; clear BK114; clear BK115; clear HB; have HO_116003 := n0_; have BK113 := n1_; have BK114 := n2_; have BK115 := n3_; have HB := n4_; clear n0_ n1_ n2_ n3_ n4_
   have p116 : 0 ≤ (x4_1 : Int) := Own.dp
   have q116 : x4_1 < (l0_3.length : Int) := Own.dp
   obtain ⟨ad116, A116_3, c116_3, e116, hx116_0, hx116_1, hx116_2, hx116_3, hl116_3, hi116_3⟩ := at_T41 HR0_3.out x4_1 p116 q116; have hw116_3 := hx116_3; have hw116_2 := hx116_2; have hw116_1 := hx116_1; have hw116_0 := hx116_0; cases e116; replace hx116_0 := Own.up HB.out hx116_0; replace hx116_1 := Own.up HB.out hx116_1; replace hx116_2 := Own.up HB.out hx116_2; replace hx116_3 := Own.up HB.out hx116_3; have HR116_3 := Aside0.mk hi116_3; have HC116_3 := Aside0.mk hl116_3; clear hi116_3 hl116_3; replace p116 := eq_true p116; replace q116 := eq_true q116
   refine start_ (n := 12) (S := fun w' => w'.cell? ⟨gb115, 0, none⟩ = some (.int .i64 a0_0) ∧ w'.cell? ⟨gb115, 1, none⟩ = some (.string a0_1) ∧ w'.cell? ⟨gb115, 2, none⟩ = some (.int .i64 a0_2) ∧ w'.cell? ⟨gb115, 3, none⟩ = some (u116003) ∧ w'.cell? ⟨gb113, 0, none⟩ = some (.int .i64 a0_0) ∧ w'.cell? ⟨gb113, 1, none⟩ = some (.string a0_1) ∧ w'.cell? ⟨gb113, 2, none⟩ = some (.int .i64 a0_2) ∧ w'.cell? ⟨gb113, 3, none⟩ = some (.slice (some ad116) l0_3.length c0_3) ∧ w'.cell? (ad116.add ((x4_1).toNat * 4)) = some (.int .i64 ((rd_T41 l0_3 x4_1).f0)) ∧ w'.cell? ⟨(ad116.add ((x4_1).toNat * 4)).block, (ad116.add ((x4_1).toNat * 4)).off + 1, none⟩ = some (.string ((rd_T41 l0_3 x4_1).f1)) ∧ w'.cell? ⟨(ad116.add ((x4_1).toNat * 4)).block, (ad116.add ((x4_1).toNat * 4)).off + 2, none⟩ = some (.int .i64 ((rd_T41 l0_3 x4_1).f2)) ∧ w'.cell? ⟨(ad116.add ((x4_1).toNat * 4)).block, (ad116.add ((x4_1).toNat * 4)).off + 3, none⟩ = some (.slice A116_3 ((rd_T41 l0_3 x4_1).f3).length c116_3)) (ds := [11]) (Own.fl 12 0) (by kernel_rfl) rfl rfl ⟨(blk_cell BK115.out 0).trans rfl, (blk_cell BK115.out 1).trans rfl, (blk_cell BK115.out 2).trans rfl, (blk_cell BK115.out 3).trans rfl, (blk_cell BK113.out 0).trans rfl, (blk_cell BK113.out 1).trans rfl, (blk_cell BK113.out 2).trans rfl, (blk_cell BK113.out 3).trans rfl, (Own.up HB.out hw116_0), (Own.up HB.out hw116_1), (Own.up HB.out hw116_2), (Own.up HB.out hw116_3)⟩ (fun hHeld => ?_); refine with_tabW spec_l5Own.tab5 spec_l5Own.bits5 (fun HT_ HW_ => ?_)
   generalize wr.drew = w17 at HO_116003 BK113 BK114 BK115 HB HR116_3 hx116_0 hx116_1 hx116_2 hx116_3 hHeld ⊢
   refine pure_ (i := 0) (N := some 19) (v := ?_) (a' := ?_) (Own.fl 12 1) rfl rfl (any_of HT_.out (by kernel_rfl)) (fun _ _ _ h => h) (Or.inl ⟨by rfl, ?_⟩) ?_ ?_; rotate_left; intro w'; go_simp; with_reducible rfl; rotate_left; simp only [Own.ps]; rfl
   refine pure_ (i := 2) (N := some 21) (v := ?_) (a' := ?_) (Own.fl 12 5) rfl rfl (any_of HT_.out (by kernel_rfl)) (fun _ _ _ h => h) (Or.inl ⟨by rfl, ?_⟩) ?_ ?_; rotate_left; intro w'; go_simp; with_reducible rfl; rotate_left; simp only [Own.ps]; rfl
   refine pure_ (i := 4) (N := some 23) (v := ?_) (a' := ?_) (Own.fl 12 21) rfl rfl (any_of HT_.out (by kernel_rfl)) (fun _ _ _ h => h) (Or.inl ⟨by rfl, ?_⟩) ?_ ?_; rotate_left; intro w'; go_simp; with_reducible rfl; rotate_left; simp only [Own.ps]; rfl
   refine take_ (i := 1) (N := some 20) (v := ?_) (a' := ?_) (Own.fl 12 23) rfl rfl (take_ofW HT_.out HW_.out (by kernel_rfl)) (fun _ _ _ h => h) (Or.inl ⟨by rfl, ?_⟩) hHeld ?_ ?_; rotate_left; rintro w' ⟨s0, s1, s2, s3, s4, s5, s6, s7, s8, s9, s10, s11⟩; go_simp; with_reducible rfl; rotate_left; simp only [Own.ps]; rfl
   refine take_ (i := 3) (N := some 22) (v := ?_) (a' := ?_) (Own.fl 12 31) rfl rfl (take_ofW HT_.out HW_.out (by kernel_rfl)) (fun _ _ _ h => h) (Or.inl ⟨by rfl, ?_⟩) hHeld ?_ ?_; rotate_left; rintro w' ⟨s0, s1, s2, s3, s4, s5, s6, s7, s8, s9, s10, s11⟩; go_simp; with_reducible rfl; rotate_left; simp only [Own.ps]; rfl
   refine pure_ (i := 5) (N := some 24) (v := ?_) (a' := ?_) (Own.fl 12 63) rfl rfl (any_of HT_.out (by kernel_rfl)) (fun _ _ _ h => h) (Or.inl ⟨by rfl, ?_⟩) ?_ ?_; rotate_left; intro w'; go_simp; with_reducible rfl; rotate_left; simp only [Own.ps]; rfl
   refine take_ (i := 6) (N := some 25) (v := ?_) (a' := ?_) (Own.fl 12 127) rfl rfl (take_ofW HT_.out HW_.out (by kernel_rfl)) (fun _ _ _ h => h) (Or.inl ⟨by rfl, ?_⟩) hHeld ?_ ?_; rotate_left; rintro w' ⟨s0, s1, s2, s3, s4, s5, s6, s7, s8, s9, s10, s11⟩; go_simp; with_reducible rfl; rotate_left; simp only [Own.ps]; rfl
   refine one_ (i := 7) (N := some 26) (Own.fl 12 255) rfl rfl (one_of HT_.out (by kernel_rfl)) (by decide) (fun K hK => ?_)
   refine goes_ Tryz.func19 (by kernel_rfl) rfl #[.agg #[.int .i64 ((rd_T41 l0_3 x4_1).f0), .string ((rd_T41 l0_3 x4_1).f1), .int .i64 ((rd_T41 l0_3 x4_1).f2), .slice A116_3 ((rd_T41 l0_3 x4_1).f3).length c116_3]] (by rfl) rfl rfl Own.ha ?_
   with_reducible refine (ih k1 (by have := HK1.out; omega) ((rd_T41 l0_3 x4_1).f0) ((rd_T41 l0_3 x4_1).f1) ((rd_T41 l0_3 x4_1).f2) _ _ ((rd_T41 l0_3 x4_1).f3) t117 t118 t119 t120 _ ?side1 ?side2 A12.out).mono ?_
   (case side1 => exact Kd.C_below HR116_3.out Own.bl)
   (case side2 => exact HC116_3.out)
   rintro e w18 ⟨v121, rfl, ho0, hb⟩
   refine ⟨_, rfl, ?_⟩
   have n0_ := Aside0.mk (Kd.R_elder' (Own.rd HO_116003.out) (Kd.R_base ho0) hb)
   have n1_ := Aside0.mk (Kd.R_lower (Kd.R_newB (Kd.R_newB (Kd.R_newB (Kd.R_new' ho0 (Kd.R_lt (Own.rd HO_116003.out))) (Own.bkf BK113.out)) (Own.bkf BK114.out)) (Own.bkf BK115.out)) (below_size Own.bl))
   have n2_ := Own.bb BK113.out hb; have n3_ := Own.bb BK114.out hb; have n4_ := Own.bb BK115.out hb; have n5_ := Own.bs hb; clear HO_116003; clear BK113; clear BK114; clear BK115; clear HB; have HO_116003 := n0_; have HO122 := n1_; have BK113 := n2_; have BK114 := n3_; have BK115 := n4_; have HB := n5_; clear n0_ n1_ n2_ n3_ n4_ n5_
   (try clear hb)
   (try clear hb2)
   (try clear hk)
   (try clear hi)
   (try clear ho0)
   obtain ⟨Ao20, co20, eo20⟩ := Kd.R_slice HO122.out
   (first | subst eo20 | (injection eo20 with f1_ f2_ f3_; have f4_ := f1_.symm; have f5_ := f3_.symm; clear f1_ f2_ f3_; subst f4_; subst f5_))
   refine hK.out _ _ ⟨(blk_cell BK115.out 0).trans rfl, (blk_cell BK115.out 1).trans rfl, (blk_cell BK115.out 2).trans rfl, (blk_cell BK115.out 3).trans rfl, (blk_cell BK113.out 0).trans rfl, (blk_cell BK113.out 1).trans rfl, (blk_cell BK113.out 2).trans rfl, (blk_cell BK113.out 3).trans rfl, (Own.up HB.out hw116_0), (Own.up HB.out hw116_1), (Own.up HB.out hw116_2), (Own.up HB.out hw116_3)⟩ (fun hHeld => ?_)
   clear hK K; refine norm_ (a' := ?_) ?_ ?_; rotate_left; show Act.put _ (some 26) _ = _; simp only [Own.ps]; rfl
   refine one_ (i := 8) (N := some 27) (Own.fl 12 511) rfl rfl (one_of HT_.out (by kernel_rfl)) (by decide) (fun K hK => ?_)
   refine value_ (w1 := ?_) (v := ?_) (by rfl) rfl ?_ ?_
   rotate_left 2
   ·
    go_simp
    constructor
    ·
     rfl
    ·
     rfl
   refine hK.out _ _ ⟨(blk_cell (blk_alloc BK115.out _) 0).trans rfl, (blk_cell (blk_alloc BK115.out _) 1).trans rfl, (blk_cell (blk_alloc BK115.out _) 2).trans rfl, (blk_cell (blk_alloc BK115.out _) 3).trans rfl, (blk_cell (blk_alloc BK113.out _) 0).trans rfl, (blk_cell (blk_alloc BK113.out _) 1).trans rfl, (blk_cell (blk_alloc BK113.out _) 2).trans rfl, (blk_cell (blk_alloc BK113.out _) 3).trans rfl, (World.cell?_alloc_lt _ _ _ (World.block_lt_of_cell? _ _ ((Own.up HB.out hw116_0)))).trans ((Own.up HB.out hw116_0)), (World.cell?_alloc_lt _ _ _ (World.block_lt_of_cell? _ _ ((Own.up HB.out hw116_1)))).trans ((Own.up HB.out hw116_1)), (World.cell?_alloc_lt _ _ _ (World.block_lt_of_cell? _ _ ((Own.up HB.out hw116_2)))).trans ((Own.up HB.out hw116_2)), (World.cell?_alloc_lt _ _ _ (World.block_lt_of_cell? _ _ ((Own.up HB.out hw116_3)))).trans ((Own.up HB.out hw116_3))⟩ (fun hHeld => ?_)
   clear hK K; refine norm_ (a' := ?_) ?_ ?_; rotate_left; show Act.put _ (some 27) _ = _; simp only [Own.ps]; rfl
   refine one_ (i := 9) (N := some 28) (Own.fl 12 1023) rfl rfl (one_of HT_.out (by kernel_rfl)) (by decide) (fun K hK => ?_)
   refine Kd.R_append_step k41 (w0 := w) w.heap.size (by rfl) (.tmp 20) (.tmp 27) 39 41 (.agg #[(.int .i64 0), (.string ⟨#[]⟩), (.int .i64 0), (.slice none 0 0)]) 56 rfl Tryz.underlying39 info41 rfl (by decide) (by omega) u116003 x116003_1 (⟨t117, t118, t119, t120⟩ : S41) [.int .i64 t117, .string t118, .int .i64 t119, .slice Ao20 t120.length co20] (fun k_ => k_ ≠ gb113 ∧ k_ ≠ gb114 ∧ k_ ≠ gb115) (fun k_ => ((fun k_ => k_ ≠ gb113 ∧ k_ ≠ gb114 ∧ k_ ≠ gb115)) k_ ∧ some k_ ≠ (u116003 : Value).ownBlock) rfl rfl ?aP (fun _ hk => hk) ?aF ?aO ?aB ?aS ?aL ?_
   (case aP => exact k41_mkM _ _ _ (⟨t117, t118, t119, t120⟩ : S41) (Kd.R_mono (HO122.out) (fun k_ hk => ⟨⟨hk.1.1.2, ⟨hk.1.2, hk.2⟩⟩, hk.1.1.1.2⟩)))
   (case aB => exact Own.bl)
   (case aF => exact (fun k_ hk => ⟨Kd.freshB (Own.bkf BK113.out) k_ hk, Kd.freshB (Own.bkf BK114.out) k_ hk, Kd.freshB (Own.bkf BK115.out) k_ hk⟩))
   (case aO => exact (by (with_reducible repeat (first | apply Kd.R_alloc | apply Kd.R_drewN | apply Kd.R_drew)); exact Kd.R_mono HO_116003.out (fun _ hk => ⟨hk.1.1, ⟨hk.1.2.1, hk.1.2.2⟩⟩)))
   (case aS => exact (below_size Own.bl))
   (case aL => have := LMc13.out; omega)
   intro v124 w19 ho hb hg hat; rw [← Ny123.out] at ho
   have n0_ := Aside0.mk (blk_grown (Own.bkf BK113.out) hg (Kd.R_away HO_116003.out (fun _ hk => hk.1.1)))
   have n1_ := Aside0.mk (blk_grown (Own.bkf BK114.out) hg (Kd.R_away HO_116003.out (fun _ hk => hk.1.2.1)))
   have n2_ := Aside0.mk (blk_grown (Own.bkf BK115.out) hg (Kd.R_away HO_116003.out (fun _ hk => hk.1.2.2)))
   have n3_ := Aside0.mk (hb)
   have n4_ := Aside0.mk (ho)
   clear BK113; clear BK114; clear BK115; clear HB; clear HO_116003; clear HO122; have BK113 := n0_; have BK114 := n1_; have BK115 := n2_; have HB := n3_; have HO125 := n4_; clear n0_ n1_ n2_ n3_ n4_; clear ho hb hg hat; obtain ⟨Ao21, co21, eo21⟩ := Kd.R_slice HO125.out
   (first | subst eo21 | (injection eo21 with f1_ f2_ f3_; have f4_ := f1_.symm; have f5_ := f3_.symm; clear f1_ f2_ f3_; subst f4_; subst f5_))
   refine hK.out _ _ ⟨(blk_cell BK115.out 0).trans rfl, (blk_cell BK115.out 1).trans rfl, (blk_cell BK115.out 2).trans rfl, (blk_cell BK115.out 3).trans rfl, (blk_cell BK113.out 0).trans rfl, (blk_cell BK113.out 1).trans rfl, (blk_cell BK113.out 2).trans rfl, (blk_cell BK113.out 3).trans rfl, (Own.up HB.out hw116_0), (Own.up HB.out hw116_1), (Own.up HB.out hw116_2), (Own.up HB.out hw116_3)⟩ (fun hHeld => ?_)
   clear hK K; refine norm_ (a' := ?_) ?_ ?_; rotate_left; show Act.put _ (some 28) _ = _; simp only [Own.ps]; rfl
   refine pure_ (i := 10) (N := some 29) (v := ?_) (a' := ?_) (Own.fl 12 2047) rfl rfl (any_of HT_.out (by kernel_rfl)) (fun _ _ _ h => h) (Or.inl ⟨by rfl, ?_⟩) ?_ ?_; rotate_left; intro w'; go_simp; with_reducible rfl; rotate_left; simp only [Own.ps]; rfl
   refine last_ (i := 11) (N := none) (Own.fl 12 4095) rfl rfl (one_of HT_.out (by kernel_rfl)) (by decide) (fun K hK => ?_)
   have hs22 : w19.cell? ⟨gb115, 3, none⟩ = some (u116003) := (blk_cell BK115.out 3).trans rfl
   have hfs22 := blk_frozen BK115.out 3; have hns22_0 := NB113_115.out; have hns22_1 := NB114_115.out; have hms22_0 := NB115_113.out; have hms22_1 := NB115_114.out
   refine skip_ (w1 := ?_) (by rfl) rfl ?_ ?_
   rotate_left
   ·
    go_simp; rfl
   refine hK.out _ _ ?_
   clear hK K
   refine done_ (done_of HT_.out (by kernel_rfl)) ?_
   try go_wp2
   go_roundg k1
   case measure => have := HK1.out; omega
   case rel => exact ⟨(wrap64 (x4_1 + 1)), (y123), (.slice Ao21 y123.length co21), Own.rs, H', ⟨by have := HK1.out; omega⟩, ⟨by (with_reducible repeat (first | apply Kd.R_alloc | apply Kd.R_drewN | apply Kd.R_drew)); exact Kd.R_mono (Kd.R_far (p := ⟨gb115, 3, none⟩) (Kd.R_mono HO125.out (fun k_ hk => (⟨hk, hk.2.2⟩ : _ ∧ k_ ≠ gb115))) (fun _ hk => hk.2) (.slice Ao21 y123.length co21)) (fun _ hk => ⟨hk.1.1, ⟨hk.1.2.1, hk.1.2.2⟩⟩)⟩, ⟨by (with_reducible repeat (first | refine blk_drewN ?_ _ | refine blk_drew ?_ | refine blk_alloc ?_ _)); refine blk_far ?_ NB113_115.out _; (with_reducible repeat (first | refine blk_drewN ?_ _ | refine blk_drew ?_ | refine blk_alloc ?_ _)); exact BK113.out⟩, ⟨by (with_reducible repeat (first | refine blk_drewN ?_ _ | refine blk_drew ?_ | refine blk_alloc ?_ _)); refine blk_far ?_ NB114_115.out _; (with_reducible repeat (first | refine blk_drewN ?_ _ | refine blk_drew ?_ | refine blk_alloc ?_ _)); exact BK114.out⟩, ⟨by (with_reducible repeat (first | refine blk_drewN ?_ _ | refine blk_drew ?_ | refine blk_alloc ?_ _)); refine blk_put (cs := #[.int .i64 a0_0, .string a0_1, .int .i64 a0_2, u116003]) ?_ 3 _ rfl; (with_reducible repeat (first | refine blk_drewN ?_ _ | refine blk_drew ?_ | refine blk_alloc ?_ _)); exact BK115.out⟩, ⟨Own.bl⟩⟩
/-! ### spec_l6Own: function 18 -/
def spec_l6Own.l0 : Nat → Int → List ByteArray → List (S43) → List ByteArray → List (S43) → Option (List ByteArray × (List (S43)))
 | 0, _, _, _, _, _ => none
 | k + 1, x4, x127000, x127001, x135000, x135001 => if x4 < (x127001.length : Int) then (if 0 ≤ x4 then ((spec_l5Own.f k ((rd_T43 x127001 x4).f6.f0) ((rd_T43 x127001 x4).f6.f1) ((rd_T43 x127001 x4).f6.f2) ((rd_T43 x127001 x4).f6.f3)).bind fun bt137 => (if x135001.length < 977343669134 then (spec_l6Own.l0 k (wrap64 (x4 + 1)) x127000 x127001 x135000 (x135001 ++ [(⟨(rd_T43 x127001 x4).f0, (rd_T43 x127001 x4).f1, (rd_T43 x127001 x4).f2, (rd_T43 x127001 x4).f3, (rd_T43 x127001 x4).f4, (rd_T43 x127001 x4).f5, (⟨bt137.1, bt137.2.1, bt137.2.2.1, bt137.2.2.2⟩ : S41), (rd_T43 x127001 x4).f7, (rd_T43 x127001 x4).f8⟩ : S43)])) else (none))) else (none)) else (some (x135000, x135001))
def spec_l6Own.f (k : Nat) (l0_0 : List ByteArray) (l0_1 : List (S43)) : Option (List ByteArray × (List (S43))) := (some (([] : List ByteArray) : List ByteArray)).bind fun y128 => (if y128.length + l0_0.length < 8796093022208 then (spec_l6Own.l0 k 0 l0_0 l0_1 (y128 ++ l0_0) ([] : List (S43))) else (none))
set_option maxHeartbeats 8000000 in
set_option maxRecDepth 100000 in
theorem spec_l6Own.calls (k : Nat) (A0_0 : Option Addr) (c0_0 : Nat) (l0_0 : List ByteArray) (A0_1 : Option Addr) (c0_1 : Nat) (l0_1 : List (S43)) (r1 : List ByteArray) (r2 : List (S43)) (w : World) (hr0_0 : Kd.C Kd.string w A0_0 l0_0.length l0_0) (hc0_0 : l0_0.length ≤ c0_0) (hr0_1 : Kd.C k43 w A0_1 l0_1.length l0_1) (hc0_1 : l0_1.length ≤ c0_1) (h : spec_l6Own.f k l0_0 l0_1 = some (r1, r2)) :
  Calls Tryz.prog 18 #[.agg #[.slice A0_0 l0_0.length c0_0, .slice A0_1 l0_1.length c0_1]] w fun e w' => ∃ v0_ v1_ : Value, e = .returned (.agg #[v0_, v1_]) ∧ Kd.R Kd.string 9 w' w.heap.size (fun _ => True) v0_ r1 ∧ Kd.R k43 43 w' w.heap.size (fun _ => True) v1_ r2 ∧ Below w.heap.size w w' := by
 have hu35 := Tryz.underlying35
 have hu43 := Tryz.underlying43
 have hu41 := Tryz.underlying41
 have HR0_0 := Aside0.mk hr0_0
 have HC0_0 := Aside0.mk hc0_0
 clear hr0_0 hc0_0
 have HR0_1 := Aside0.mk hr0_1
 have HC0_1 := Aside0.mk hc0_1
 clear hr0_1 hc0_1
 have HB := Aside0.mk (Below.refl w.heap.size w)
 have H : ((some (([] : List ByteArray) : List ByteArray)).bind fun y128 => (if y128.length + l0_0.length < 8796093022208 then (spec_l6Own.l0 k 0 l0_0 l0_1 (y128 ++ l0_0) ([] : List (S43))) else (none))) = some (r1, r2) := h
 clear h
 obtain ⟨y128, hy128⟩ : ∃ y_ : List ByteArray, y_ = (([] : List ByteArray)) := ⟨_, rfl⟩
 replace H : (if y128.length + l0_0.length < 8796093022208 then (spec_l6Own.l0 k 0 l0_0 l0_1 (y128 ++ l0_0) ([] : List (S43))) else (none)) = some (r1, r2) := by first | (rw [hy128]; with_reducible exact H) | (have H2_ := (Option.bind_some _ _).symm.trans H; rw [hy128]; with_reducible exact H2_) | (have H2_ := (Option.bind_some _ _).symm.trans H; with_reducible exact H2_) | with_reducible exact H | (rw [hy128]; exact H) | exact H
 have Ny128 := Aside0.mk hy128
 clear hy128
 replace H := Own.ifn H; obtain ⟨c2, H⟩ := H
 have LMc2 := Aside0.mk c2
 clear c2
 obtain ⟨y131, hy131⟩ : ∃ y_ : List ByteArray, y_ = (y128 ++ l0_0) := ⟨_, rfl⟩
 replace H : (spec_l6Own.l0 k 0 l0_0 l0_1 y131 ([] : List (S43))) = some (r1, r2) := by first | (rw [hy131]; with_reducible exact H) | (have H2_ := (Option.bind_some _ _).symm.trans H; rw [hy131]; with_reducible exact H2_) | (have H2_ := (Option.bind_some _ _).symm.trans H; with_reducible exact H2_) | with_reducible exact H | (rw [hy131]; exact H) | exact H
 have Ny131 := Aside0.mk hy131
 clear hy131
 have H' := Aside0.mk H
 clear H
 go_enter Tryz.func18, Tryz.ntmps18
 go_wp2_with (first | ((with_reducible refine gate_dst (N := 1) rfl ?_); refine Own.be (N := 1) (cs := #[.slice A0_0 l0_0.length c0_0, .slice A0_1 l0_1.length c0_1]) (t := 35) ?_; intro gb126 hg w3 hbox hb; have BK126 := Aside0.mk hbox; have GW126 := (Own.gs hg : Aside0 (w.heap.size ≤ gb126)); have GE126 := GW126; replace HB := Own.bs hb; clear hb hbox hg) | ((with_reducible refine gate_dst (N := 2) rfl ?_); refine Own.be (N := 2) (cs := #[.slice none 0 0, .slice none 0 0]) (t := 35) ?_; intro gb127 hg w4 hbox hb; have BK127 := Aside0.mk hbox; have GW127 := (Own.gs hg : Aside0 (w.heap.size ≤ gb127)); have GE127 := GW127; have NB126_127 := Own.nl hg BK126.out; have NB127_126 := Aside0.mk NB126_127.out.symm; replace BK126 := Own.bb BK126.out hb; replace HB := Own.bs hb; clear hb hbox hg) | ((with_reducible refine gate_dst (N := 6) rfl ?_); refine Kd.R_lit Kd.string _ 9 ?hg (N := 6) ?hd (xs := ([] : List ByteArray)) (inner := []) (ok := fun _ => True) (okp := fun _ => True) ?hr ?hp (fun _ hk => hk) trivial (Below.refl _ _) (Nat.le_refl _) (by simp) ?_; (case hd => rfl); (case hg => rfl); (case hr => first | (go_simp; done) | (go_simp; rfl)); (case hp => exact (Reps.none _ _)); intro v129 w5 ho6 hb hg_ hnew_; clear hg_ hnew_; (first | rw [← Ny128.out] at ho6 | (simp only [Int.reduceToNat] at ho6; rw [← Ny128.out] at ho6)); have HO130 := Aside0.mk (Kd.R_lower ho6 (below_size Own.bl)); replace BK126 := Own.bb BK126.out hb; replace BK127 := Own.bb BK127.out hb; replace HB := Own.bs hb; clear hb ho6; have hnb7 := NB126_127.out; have hnc7 := NB127_126.out; obtain ⟨z8_0, z8_1, y8_0, y8_1⟩ := Own.box2 BK126.out) | ((with_reducible refine gate_builtin (b := .append) (xs := #[.tmp 6, .tmp 8]) rfl ?_); at_builtin; refine Kd.R_append_rows Kd.string (w0 := w) w.heap.size rfl (.tmp 6) (.tmp 8) 22 9 (.string ⟨#[]⟩) 16 rfl Tryz.underlying22 info9 rfl (by decide) (by omega) v129 y128 l0_0 _ _ _ (fun _ => True) (fun _ => False) rfl rfl ?aO ?aR (fun _ _ h => h) (fun _ h => h.elim) ?aF ?aB ?aS ?aL ?_; (case aR => exact Kd.C_below HR0_0.out Own.bl); (case aB => exact Own.bl); (case aF => exact (fun _ _ => trivial)); (case aO => exact (Own.rd HO130.out)); (case aS => exact (below_size Own.bl)); (case aL => have := LMc2.out; omega); intro v132 w9 ho hb hg hat; rw [← Ny131.out] at ho; have HO133 := Aside0.mk ho; replace BK126 := Aside0.mk (blk_grown (Own.bkf BK126.out) hg (Kd.R_ne HO130.out BK126.out (by decide))); replace BK127 := Aside0.mk (blk_grown (Own.bkf BK127.out) hg (Kd.R_ne HO130.out BK127.out (by decide))); replace HB := Aside0.mk hb; clear HO130; clear ho hb hg hat; obtain ⟨Ao10, co10, eo10⟩ := Kd.R_slice HO133.out; subst eo10) | ((with_reducible refine gate_dst (N := 3) rfl ?_); refine Own.be (N := 3) (cs := #[.slice none 0 0, .slice none 0 0]) (t := 35) ?_; intro gb134 hg w11 hbox hb; have BK134 := Aside0.mk hbox; have GW134 := (Own.gs hg : Aside0 (w.heap.size ≤ gb134)); have GE134 := GW134; have NB126_134 := Own.nl hg BK126.out; have NB134_126 := Aside0.mk NB126_134.out.symm; have NB127_134 := Own.nl hg BK127.out; have NB134_127 := Aside0.mk NB127_134.out.symm; replace HO133 := Aside0.mk (Kd.R_below (Own.rd HO133.out) hb); replace BK126 := Own.bb BK126.out hb; replace BK127 := Own.bb BK127.out hb; replace HB := Own.bs hb; clear hb hbox hg; have hnb12 := NB134_126.out; have hnc12 := NB126_134.out; have hnb13 := NB134_127.out; have hnc13 := NB127_134.out; obtain ⟨z14_0, z14_1, y14_0, y14_1⟩ := Own.box2 BK134.out))
 go_loopg [4] k (fun kq v4 w' => ∃ (x4_1 : Int) (x135001_1 : List (S43)) (u135001 : Value), v4 = .int .i64 x4_1 ∧ Aside0 (spec_l6Own.l0 kq x4_1 l0_0 l0_1 y131 x135001_1 = some (r1, r2)) ∧ Aside0 (kq ≤ k) ∧ Aside0 (Kd.R Kd.string 9 w' w.heap.size (fun _ => True) (.slice Ao10 y131.length co10) y131) ∧ Aside0 (Kd.R k43 43 w' w.heap.size (fun _ => True) u135001 x135001_1) ∧ Aside0 (w'.heap[gb126]? = some (.cells #[(.slice A0_0 l0_0.length c0_0), (.slice A0_1 l0_1.length c0_1)] 35 (0, 0))) ∧ Aside0 (w'.heap[gb127]? = some (.cells #[(.slice none 0 0), (.slice none 0 0)] 35 (0, 0))) ∧ Aside0 (w'.heap[gb134]? = some (.cells #[(.slice Ao10 y131.length co10), u135001] 35 (0, 0))) ∧ Aside0 (Below w.heap.size w w'))
 case atStart => exact ⟨(0), (([] : List (S43))), (.slice none 0 0), Own.rs, H', ⟨Nat.le_refl _⟩, ⟨by (with_reducible repeat (first | apply Kd.R_alloc | apply Kd.R_drewN | apply Kd.R_drew)); exact Kd.R_mono (Kd.R_far (p := ⟨gb134, 1, none⟩) (Kd.R_far (p := ⟨gb134, 0, none⟩) (Kd.R_types HO133.out BK134.out (by decide)) (fun _ hk => hk.2) (.slice Ao10 y131.length co10)) (fun _ hk => hk.2) (.slice none 0 0)) (fun _ hk => trivial)⟩, ⟨by first | exact Kd.R_nil _ _ _ _ _ | exact Kd.N_nil _ _ _ _ _ | exact Kd.V_nil _ _ _ _ _ | exact Kd.Q_nil _ _ _ _ _ | exact Kd.S_nil _ _ _ _ _⟩, ⟨by (with_reducible repeat (first | refine blk_drewN ?_ _ | refine blk_drew ?_ | refine blk_alloc ?_ _)); refine blk_far ?_ NB126_134.out _; (with_reducible repeat (first | refine blk_drewN ?_ _ | refine blk_drew ?_ | refine blk_alloc ?_ _)); refine blk_far ?_ NB126_134.out _; (with_reducible repeat (first | refine blk_drewN ?_ _ | refine blk_drew ?_ | refine blk_alloc ?_ _)); exact BK126.out⟩, ⟨by (with_reducible repeat (first | refine blk_drewN ?_ _ | refine blk_drew ?_ | refine blk_alloc ?_ _)); refine blk_far ?_ NB127_134.out _; (with_reducible repeat (first | refine blk_drewN ?_ _ | refine blk_drew ?_ | refine blk_alloc ?_ _)); refine blk_far ?_ NB127_134.out _; (with_reducible repeat (first | refine blk_drewN ?_ _ | refine blk_drew ?_ | refine blk_alloc ?_ _)); exact BK127.out⟩, ⟨by (with_reducible repeat (first | refine blk_drewN ?_ _ | refine blk_drew ?_ | refine blk_alloc ?_ _)); exact Own.put2 BK134.out⟩, ⟨Own.bl⟩⟩
 case round =>
  clear H'; try clear c2; try clear z14_0 z14_1; try clear z8_0 z8_1; try clear y14_0 y14_1; try clear y8_0 y8_1
  obtain ⟨x4_1, x135001_1, u135001, rfl, HA, HK1, HO_135000, HO_135001, BK126, BK127, BK134, HB⟩ := hrel
  cases gk with
  | zero => exact absurd HA.out (by simp [spec_l6Own.l0])
  | succ k1 =>
   have H := HA.out; clear HA
   simp only [spec_l6Own.l0] at H
   by_cases c15 : x4_1 < (l0_1.length : Int)
   rotate_left
   ·
    rw [if_neg c15] at H; replace c15 := decide_eq_false c15
    simp only [Option.some.injEq, Prod.mk.injEq] at H
    obtain ⟨rfl, rfl⟩ := H; have hnb37 := NB126_127.out; have hnc37 := NB127_126.out; have hnb38 := NB126_134.out; have hnc38 := NB134_126.out; obtain ⟨z39_0, z39_1, y39_0, y39_1⟩ := Own.box2 BK126.out; have hnb40 := NB134_127.out; have hnc40 := NB127_134.out; obtain ⟨z41_0, z41_1, y41_0, y41_1⟩ := Own.box2 BK134.out; obtain ⟨z42_0, z42_1, y42_0, y42_1⟩ := Own.box2 BK127.out; obtain ⟨Ao43, co43, eo43⟩ := Kd.R_slice HO_135001.out; subst eo43
    go_wp2
    refine bodyPost_ret (results_cell_row rfl _ _ gb127 35 #[.slice Ao10 y131.length co10, .slice Ao43 x135001_1.length co43] (0, 0) _ rfl (by (with_reducible repeat (first | refine blk_drewN ?_ _ | refine blk_drew ?_ | refine blk_alloc ?_ _)); with_reducible exact Own.put2 BK127.out) Tryz.underlying35 rfl (by kernel_rfl)) rfl ?_
    exact ⟨_, _, Own.rr, by (with_reducible repeat (first | apply Kd.R_alloc | apply Kd.R_drewN | apply Kd.R_drew)); exact Kd.R_mono (Kd.R_far (p := ⟨gb127, 1, none⟩) (Kd.R_far (p := ⟨gb127, 0, none⟩) (Kd.R_types HO_135000.out BK127.out (by decide)) (fun _ hk => hk.2) (.slice Ao10 y131.length co10)) (fun _ hk => hk.2) (.slice Ao43 x135001_1.length co43)) (fun _ hk => trivial), by (with_reducible repeat (first | apply Kd.R_alloc | apply Kd.R_drewN | apply Kd.R_drew)); exact Kd.R_mono (Kd.R_far (p := ⟨gb127, 1, none⟩) (Kd.R_far (p := ⟨gb127, 0, none⟩) (Kd.R_types HO_135001.out BK127.out (by decide)) (fun _ hk => hk.2) (.slice Ao10 y131.length co10)) (fun _ hk => hk.2) (.slice Ao43 x135001_1.length co43)) (fun _ hk => trivial), Own.bl⟩
   rw [if_pos c15] at H; replace c15 := decide_eq_true c15
   replace H := Own.ifd H; obtain ⟨c16, H⟩ := H; replace H := Option.bind_eq_some_iff.mp H; obtain ⟨⟨t137, t138, t139, t140⟩, A170, H⟩ := H
   replace H : (if x135001_1.length < 977343669134 then (spec_l6Own.l0 k1 (wrap64 (x4_1 + 1)) l0_0 l0_1 y131 (x135001_1 ++ [(⟨(rd_T43 l0_1 x4_1).f0, (rd_T43 l0_1 x4_1).f1, (rd_T43 l0_1 x4_1).f2, (rd_T43 l0_1 x4_1).f3, (rd_T43 l0_1 x4_1).f4, (rd_T43 l0_1 x4_1).f5, (⟨t137, t138, t139, t140⟩ : S41), (rd_T43 l0_1 x4_1).f7, (rd_T43 l0_1 x4_1).f8⟩ : S43)])) else (none)) = some (r1, r2) := H
   have A17 := Aside0.mk A170; clear A170
   replace H := Own.ifn H; obtain ⟨c18, H⟩ := H; have LMc18 := Aside0.mk c18; clear c18
   obtain ⟨y143, hy143⟩ : ∃ y_ : List (S43), y_ = (x135001_1 ++ [(⟨(rd_T43 l0_1 x4_1).f0, (rd_T43 l0_1 x4_1).f1, (rd_T43 l0_1 x4_1).f2, (rd_T43 l0_1 x4_1).f3, (rd_T43 l0_1 x4_1).f4, (rd_T43 l0_1 x4_1).f5, (⟨t137, t138, t139, t140⟩ : S41), (rd_T43 l0_1 x4_1).f7, (rd_T43 l0_1 x4_1).f8⟩ : S43)]) := ⟨_, rfl⟩
   replace H : (spec_l6Own.l0 k1 (wrap64 (x4_1 + 1)) l0_0 l0_1 y131 y143) = some (r1, r2) := by first | (rw [hy143]; with_reducible exact H) | (have H2_ := (Option.bind_some _ _).symm.trans H; rw [hy143]; with_reducible exact H2_) | (have H2_ := (Option.bind_some _ _).symm.trans H; with_reducible exact H2_) | with_reducible exact H | (rw [hy143]; exact H) | exact H
   have Ny143 := Aside0.mk hy143; clear hy143; have H' := Aside0.mk H; clear H; have hnb19 := NB126_127.out; have hnc19 := NB127_126.out; have hnb20 := NB126_134.out; have hnc20 := NB134_126.out; obtain ⟨z21_0, z21_1, y21_0, y21_1⟩ := Own.box2 BK126.out
   have p135 : 0 ≤ (x4_1 : Int) := Own.dp
   have q135 : x4_1 < (l0_1.length : Int) := Own.dp
   obtain ⟨ad135, A135_9, c135_9, e135, hx135_0, hx135_1, hx135_2, hx135_3, hx135_4, hx135_5, hx135_6, hx135_7, hx135_8, hx135_9, hx135_10, hx135_11, hl135_9, hi135_9⟩ := at_T43 HR0_1.out x4_1 p135 q135; cases e135; replace hx135_0 := Own.up HB.out hx135_0; replace hx135_1 := Own.up HB.out hx135_1; replace hx135_2 := Own.up HB.out hx135_2; replace hx135_3 := Own.up HB.out hx135_3; replace hx135_4 := Own.up HB.out hx135_4; replace hx135_5 := Own.up HB.out hx135_5; replace hx135_6 := Own.up HB.out hx135_6; replace hx135_7 := Own.up HB.out hx135_7; replace hx135_8 := Own.up HB.out hx135_8; replace hx135_9 := Own.up HB.out hx135_9; replace hx135_10 := Own.up HB.out hx135_10; replace hx135_11 := Own.up HB.out hx135_11; have HR135_9 := Aside0.mk hi135_9; have HC135_9 := Aside0.mk hl135_9; clear hi135_9 hl135_9; replace p135 := eq_true p135; replace q135 := eq_true q135
   go_wp2_with (first | ((with_reducible refine gate_dst (N := 5) rfl ?_); refine Own.be (N := 5) (cs := #[.string (⟨#[]⟩ : ByteArray), .int .i64 0, .int .i64 0, .string (⟨#[]⟩ : ByteArray), .int .i64 0, .int .i64 0, .int .i64 0, .string (⟨#[]⟩ : ByteArray), .int .i64 0, .slice none 0 0, .int .i64 0, .string (⟨#[]⟩ : ByteArray)]) (t := 43) ?_; intro gb136 hg w22 hbox hb; have BK136 := Aside0.mk hbox; have GW136 := (Own.gs hg : Aside0 (w.heap.size ≤ gb136)); have GE136 := GW136; have NB126_136 := Own.nl hg BK126.out; have NB136_126 := Aside0.mk NB126_136.out.symm; have NB127_136 := Own.nl hg BK127.out; have NB136_127 := Aside0.mk NB127_136.out.symm; have NB134_136 := Own.nl hg BK134.out; have NB136_134 := Aside0.mk NB134_136.out.symm; replace HO_135000 := Aside0.mk (Kd.R_below (Own.rd HO_135000.out) hb); replace HO_135001 := Aside0.mk (Kd.R_below (Kd.R_elderB (Own.rd HO_135001.out) gb136 (Nat.le_of_eq hg.symm)) hb); replace BK126 := Own.bb BK126.out hb; replace BK127 := Own.bb BK127.out hb; replace BK134 := Own.bb BK134.out hb; replace HB := Own.bs hb; clear hb hbox hg; have hnb23 := NB136_126.out; have hnc23 := NB126_136.out; have hnb24 := NB136_127.out; have hnc24 := NB127_136.out; have hnb25 := NB136_134.out; have hnc25 := NB134_136.out; obtain ⟨z26_0, z26_1, z26_2, z26_3, z26_4, z26_5, z26_6, z26_7, z26_8, z26_9, z26_10, z26_11, y26_0, y26_1, y26_2, y26_3, y26_4, y26_5, y26_6, y26_7, y26_8, y26_9, y26_10, y26_11⟩ := Own.box12 BK136.out) | ((with_reducible refine gate_callee (f := 19) rfl ?_); refine goesL_ (some 25) rfl rfl Tryz.func19 (by kernel_rfl) rfl #[.agg #[.int .i64 ((rd_T43 l0_1 x4_1).f6.f0), .string ((rd_T43 l0_1 x4_1).f6.f1), .int .i64 ((rd_T43 l0_1 x4_1).f6.f2), .slice A135_9 ((rd_T43 l0_1 x4_1).f6.f3).length c135_9]] rfl Own.ha ?_; (with_reducible refine (spec_l5Own.calls k1 ((rd_T43 l0_1 x4_1).f6.f0) ((rd_T43 l0_1 x4_1).f6.f1) ((rd_T43 l0_1 x4_1).f6.f2) _ _ ((rd_T43 l0_1 x4_1).f6.f3) t137 t138 t139 t140 _ ?side1 ?side2 A17.out).mono ?_); (case side1 => exact Kd.C_below HR135_9.out Own.bl); (case side2 => exact HC135_9.out); rintro e w27 ⟨v141, rfl, ho0, hb⟩; refine ⟨_, rfl, ?_⟩; have HO142 := Aside0.mk (Kd.R_lower ho0 (below_size Own.bl)); replace HO_135000 := Aside0.mk (Kd.R_below (by (with_reducible repeat (first | apply Kd.R_alloc | apply Kd.R_drewN | apply Kd.R_drew)); exact (Kd.R_mono (Kd.R_far (p := ⟨gb136, 11, none⟩) (Kd.R_far (p := ⟨gb136, 10, none⟩) (Kd.R_far (p := ⟨gb136, 9, none⟩) (Kd.R_far (p := ⟨gb136, 8, none⟩) (Kd.R_far (p := ⟨gb136, 7, none⟩) (Kd.R_far (p := ⟨gb136, 6, none⟩) (Kd.R_far (p := ⟨gb136, 5, none⟩) (Kd.R_far (p := ⟨gb136, 4, none⟩) (Kd.R_far (p := ⟨gb136, 3, none⟩) (Kd.R_far (p := ⟨gb136, 2, none⟩) (Kd.R_far (p := ⟨gb136, 1, none⟩) (Kd.R_far (p := ⟨gb136, 0, none⟩) (Kd.R_types HO_135000.out BK136.out (by decide)) (fun _ hk => hk.2) (.string ((rd_T43 l0_1 x4_1).f0))) (fun _ hk => hk.2) (.int .i64 ((rd_T43 l0_1 x4_1).f1))) (fun _ hk => hk.2) (.int .i64 ((rd_T43 l0_1 x4_1).f2))) (fun _ hk => hk.2) (.string ((rd_T43 l0_1 x4_1).f3))) (fun _ hk => hk.2) (.int .i64 ((rd_T43 l0_1 x4_1).f4))) (fun _ hk => hk.2) (.int .i64 ((rd_T43 l0_1 x4_1).f5))) (fun _ hk => hk.2) (.int .i64 ((rd_T43 l0_1 x4_1).f6.f0))) (fun _ hk => hk.2) (.string ((rd_T43 l0_1 x4_1).f6.f1))) (fun _ hk => hk.2) (.int .i64 ((rd_T43 l0_1 x4_1).f6.f2))) (fun _ hk => hk.2) (.slice A135_9 ((rd_T43 l0_1 x4_1).f6.f3).length c135_9)) (fun _ hk => hk.2) (.int .i64 ((rd_T43 l0_1 x4_1).f7))) (fun _ hk => hk.2) (.string ((rd_T43 l0_1 x4_1).f8))) (fun _ h_ => h_.1))) hb); replace HO_135001 := Aside0.mk (Kd.R_elder' (by (with_reducible repeat (first | apply Kd.R_alloc | apply Kd.R_drewN | apply Kd.R_drew)); exact (Kd.R_mono (Kd.R_far (p := ⟨gb136, 11, none⟩) (Kd.R_far (p := ⟨gb136, 10, none⟩) (Kd.R_far (p := ⟨gb136, 9, none⟩) (Kd.R_far (p := ⟨gb136, 8, none⟩) (Kd.R_far (p := ⟨gb136, 7, none⟩) (Kd.R_far (p := ⟨gb136, 6, none⟩) (Kd.R_far (p := ⟨gb136, 5, none⟩) (Kd.R_far (p := ⟨gb136, 4, none⟩) (Kd.R_far (p := ⟨gb136, 3, none⟩) (Kd.R_far (p := ⟨gb136, 2, none⟩) (Kd.R_far (p := ⟨gb136, 1, none⟩) (Kd.R_far (p := ⟨gb136, 0, none⟩) (Kd.R_mono HO_135001.out (fun k_ hk => (⟨hk, hk.2⟩ : _ ∧ k_ ≠ gb136))) (fun _ hk => hk.2) (.string ((rd_T43 l0_1 x4_1).f0))) (fun _ hk => hk.2) (.int .i64 ((rd_T43 l0_1 x4_1).f1))) (fun _ hk => hk.2) (.int .i64 ((rd_T43 l0_1 x4_1).f2))) (fun _ hk => hk.2) (.string ((rd_T43 l0_1 x4_1).f3))) (fun _ hk => hk.2) (.int .i64 ((rd_T43 l0_1 x4_1).f4))) (fun _ hk => hk.2) (.int .i64 ((rd_T43 l0_1 x4_1).f5))) (fun _ hk => hk.2) (.int .i64 ((rd_T43 l0_1 x4_1).f6.f0))) (fun _ hk => hk.2) (.string ((rd_T43 l0_1 x4_1).f6.f1))) (fun _ hk => hk.2) (.int .i64 ((rd_T43 l0_1 x4_1).f6.f2))) (fun _ hk => hk.2) (.slice A135_9 ((rd_T43 l0_1 x4_1).f6.f3).length c135_9)) (fun _ hk => hk.2) (.int .i64 ((rd_T43 l0_1 x4_1).f7))) (fun _ hk => hk.2) (.string ((rd_T43 l0_1 x4_1).f8))) (fun _ h_ => h_.1))) (Kd.R_base ho0) hb); replace BK126 := Own.bb BK126.out hb; replace BK127 := Own.bb BK127.out hb; replace BK134 := Own.bb BK134.out hb; replace BK136 := Aside0.mk (blk_below (g := gb136) (o := .cells #[.string ((rd_T43 l0_1 x4_1).f0), .int .i64 ((rd_T43 l0_1 x4_1).f1), .int .i64 ((rd_T43 l0_1 x4_1).f2), .string ((rd_T43 l0_1 x4_1).f3), .int .i64 ((rd_T43 l0_1 x4_1).f4), .int .i64 ((rd_T43 l0_1 x4_1).f5), .int .i64 ((rd_T43 l0_1 x4_1).f6.f0), .string ((rd_T43 l0_1 x4_1).f6.f1), .int .i64 ((rd_T43 l0_1 x4_1).f6.f2), .slice A135_9 ((rd_T43 l0_1 x4_1).f6.f3).length c135_9, .int .i64 ((rd_T43 l0_1 x4_1).f7), .string ((rd_T43 l0_1 x4_1).f8)] 43 (0, 0)) (by (with_reducible repeat (first | refine blk_drewN ?_ _ | refine blk_drew ?_ | refine blk_alloc ?_ _)); with_reducible exact Own.put12 BK136.out) hb); replace HB := Own.bs hb; (try clear hb); (try clear hk); (try clear ho0); obtain ⟨z28_0, z28_1, z28_2, z28_3, z28_4, z28_5, z28_6, z28_7, z28_8, z28_9, z28_10, z28_11, y28_0, y28_1, y28_2, y28_3, y28_4, y28_5, y28_6, y28_7, y28_8, y28_9, y28_10, y28_11⟩ := Own.box12 BK136.out; obtain ⟨Ao29, co29, eo29⟩ := Kd.R_slice HO142.out; subst eo29) | ((with_reducible refine gate_store (t := 41) (p := 26) rfl ?_); refine store_event (t := 41) (p := 26) (v := ?vo_w30) (w1 := ((((w27.setCell ⟨gb136, 6, none⟩ (.int .i64 t137)).setCell ⟨gb136, 7, none⟩ (.string t138)).setCell ⟨gb136, 8, none⟩ (.int .i64 t139)).setCell ⟨gb136, 9, none⟩ (.slice Ao29 t140.length co29))) ?hg ?ho ?hn ?hr ?_; (case ho => rfl); (case hg => rfl); (case hn => rfl); (case hr => first | (go_simp; done) | (go_simp; rfl)); intro w30 hw; have n0_ : Aside0 (Kd.R Kd.string 9 w30 w.heap.size (fun _ => True) (.slice Ao10 y131.length co10) y131) := ⟨(by rw [hw]; exact (by (with_reducible repeat (first | apply Kd.R_alloc | apply Kd.R_drewN | apply Kd.R_drew)); exact Kd.R_mono (Kd.R_far (p := ⟨gb136, 9, none⟩) (Kd.R_far (p := ⟨gb136, 8, none⟩) (Kd.R_far (p := ⟨gb136, 7, none⟩) (Kd.R_far (p := ⟨gb136, 6, none⟩) (Kd.R_types HO_135000.out BK136.out (by decide)) (fun _ hk => hk.2) (.int .i64 t137)) (fun _ hk => hk.2) (.string t138)) (fun _ hk => hk.2) (.int .i64 t139)) (fun _ hk => hk.2) (.slice Ao29 t140.length co29)) (fun _ hk => trivial)))⟩; have n1_ : Aside0 (Kd.R k43 43 w30 w.heap.size (fun k_ => some k_ ≠ (.slice Ao29 t140.length co29 : Value).ownBlock ∧ k_ ≠ gb136) u135001 x135001_1) := ⟨(by rw [hw]; exact (by (with_reducible repeat (first | apply Kd.R_alloc | apply Kd.R_drewN | apply Kd.R_drew)); exact Kd.R_mono (Kd.R_far (p := ⟨gb136, 9, none⟩) (Kd.R_far (p := ⟨gb136, 8, none⟩) (Kd.R_far (p := ⟨gb136, 7, none⟩) (Kd.R_far (p := ⟨gb136, 6, none⟩) (Kd.R_mono HO_135001.out (fun k_ hk => (⟨hk, hk.1.2⟩ : _ ∧ k_ ≠ gb136))) (fun _ hk => hk.2) (.int .i64 t137)) (fun _ hk => hk.2) (.string t138)) (fun _ hk => hk.2) (.int .i64 t139)) (fun _ hk => hk.2) (.slice Ao29 t140.length co29)) (fun _ hk => ⟨hk.1.2, hk.1.1.2⟩)))⟩; have n2_ : Aside0 (Kd.R k41 41 w30 w.heap.size (fun _ => True) (.slice Ao29 t140.length co29) t140) := ⟨(by rw [hw]; exact (by (with_reducible repeat (first | apply Kd.R_alloc | apply Kd.R_drewN | apply Kd.R_drew)); exact Kd.R_mono (Kd.R_far (p := ⟨gb136, 9, none⟩) (Kd.R_far (p := ⟨gb136, 8, none⟩) (Kd.R_far (p := ⟨gb136, 7, none⟩) (Kd.R_far (p := ⟨gb136, 6, none⟩) (Kd.R_types HO142.out BK136.out (by decide)) (fun _ hk => hk.2) (.int .i64 t137)) (fun _ hk => hk.2) (.string t138)) (fun _ hk => hk.2) (.int .i64 t139)) (fun _ hk => hk.2) (.slice Ao29 t140.length co29)) (fun _ hk => trivial)))⟩; have n3_ : Aside0 (w30.heap[gb126]? = some (.cells #[.slice A0_0 l0_0.length c0_0, .slice (some ad135) l0_1.length c0_1] 35 (0, 0))) := ⟨(by rw [hw]; exact (by (with_reducible repeat (first | refine blk_drewN ?_ _ | refine blk_drew ?_ | refine blk_alloc ?_ _ | refine blk_far ?_ NB126_136.out _)); (with_reducible repeat (first | refine blk_drewN ?_ _ | refine blk_drew ?_ | refine blk_alloc ?_ _)); exact BK126.out))⟩; have n4_ : Aside0 (w30.heap[gb127]? = some (.cells #[.slice none 0 0, .slice none 0 0] 35 (0, 0))) := ⟨(by rw [hw]; exact (by (with_reducible repeat (first | refine blk_drewN ?_ _ | refine blk_drew ?_ | refine blk_alloc ?_ _ | refine blk_far ?_ NB127_136.out _)); (with_reducible repeat (first | refine blk_drewN ?_ _ | refine blk_drew ?_ | refine blk_alloc ?_ _)); exact BK127.out))⟩; have n5_ : Aside0 (w30.heap[gb134]? = some (.cells #[.slice Ao10 y131.length co10, u135001] 35 (0, 0))) := ⟨(by rw [hw]; exact (by (with_reducible repeat (first | refine blk_drewN ?_ _ | refine blk_drew ?_ | refine blk_alloc ?_ _ | refine blk_far ?_ NB134_136.out _)); (with_reducible repeat (first | refine blk_drewN ?_ _ | refine blk_drew ?_ | refine blk_alloc ?_ _)); exact BK134.out))⟩; have n6_ : Aside0 (w30.heap[gb136]? = some (.cells #[.string ((rd_T43 l0_1 x4_1).f0), .int .i64 ((rd_T43 l0_1 x4_1).f1), .int .i64 ((rd_T43 l0_1 x4_1).f2), .string ((rd_T43 l0_1 x4_1).f3), .int .i64 ((rd_T43 l0_1 x4_1).f4), .int .i64 ((rd_T43 l0_1 x4_1).f5), .int .i64 t137, .string t138, .int .i64 t139, .slice Ao29 t140.length co29, .int .i64 ((rd_T43 l0_1 x4_1).f7), .string ((rd_T43 l0_1 x4_1).f8)] 43 (0, 0))) := ⟨(by rw [hw]; exact (by (with_reducible repeat (first | refine blk_drewN ?_ _ | refine blk_drew ?_ | refine blk_alloc ?_ _)); refine blk_put (cs := #[.string ((rd_T43 l0_1 x4_1).f0), .int .i64 ((rd_T43 l0_1 x4_1).f1), .int .i64 ((rd_T43 l0_1 x4_1).f2), .string ((rd_T43 l0_1 x4_1).f3), .int .i64 ((rd_T43 l0_1 x4_1).f4), .int .i64 ((rd_T43 l0_1 x4_1).f5), .int .i64 t137, .string t138, .int .i64 t139, .slice A135_9 ((rd_T43 l0_1 x4_1).f6.f3).length c135_9, .int .i64 ((rd_T43 l0_1 x4_1).f7), .string ((rd_T43 l0_1 x4_1).f8)]) ?_ 9 _ rfl; (with_reducible repeat (first | refine blk_drewN ?_ _ | refine blk_drew ?_ | refine blk_alloc ?_ _)); refine blk_put (cs := #[.string ((rd_T43 l0_1 x4_1).f0), .int .i64 ((rd_T43 l0_1 x4_1).f1), .int .i64 ((rd_T43 l0_1 x4_1).f2), .string ((rd_T43 l0_1 x4_1).f3), .int .i64 ((rd_T43 l0_1 x4_1).f4), .int .i64 ((rd_T43 l0_1 x4_1).f5), .int .i64 t137, .string t138, .int .i64 ((rd_T43 l0_1 x4_1).f6.f2), .slice A135_9 ((rd_T43 l0_1 x4_1).f6.f3).length c135_9, .int .i64 ((rd_T43 l0_1 x4_1).f7), .string ((rd_T43 l0_1 x4_1).f8)]) ?_ 8 _ rfl; (with_reducible repeat (first | refine blk_drewN ?_ _ | refine blk_drew ?_ | refine blk_alloc ?_ _)); refine blk_put (cs := #[.string ((rd_T43 l0_1 x4_1).f0), .int .i64 ((rd_T43 l0_1 x4_1).f1), .int .i64 ((rd_T43 l0_1 x4_1).f2), .string ((rd_T43 l0_1 x4_1).f3), .int .i64 ((rd_T43 l0_1 x4_1).f4), .int .i64 ((rd_T43 l0_1 x4_1).f5), .int .i64 t137, .string ((rd_T43 l0_1 x4_1).f6.f1), .int .i64 ((rd_T43 l0_1 x4_1).f6.f2), .slice A135_9 ((rd_T43 l0_1 x4_1).f6.f3).length c135_9, .int .i64 ((rd_T43 l0_1 x4_1).f7), .string ((rd_T43 l0_1 x4_1).f8)]) ?_ 7 _ rfl; (with_reducible repeat (first | refine blk_drewN ?_ _ | refine blk_drew ?_ | refine blk_alloc ?_ _)); refine blk_put (cs := #[.string ((rd_T43 l0_1 x4_1).f0), .int .i64 ((rd_T43 l0_1 x4_1).f1), .int .i64 ((rd_T43 l0_1 x4_1).f2), .string ((rd_T43 l0_1 x4_1).f3), .int .i64 ((rd_T43 l0_1 x4_1).f4), .int .i64 ((rd_T43 l0_1 x4_1).f5), .int .i64 ((rd_T43 l0_1 x4_1).f6.f0), .string ((rd_T43 l0_1 x4_1).f6.f1), .int .i64 ((rd_T43 l0_1 x4_1).f6.f2), .slice A135_9 ((rd_T43 l0_1 x4_1).f6.f3).length c135_9, .int .i64 ((rd_T43 l0_1 x4_1).f7), .string ((rd_T43 l0_1 x4_1).f8)]) ?_ 6 _ rfl; (with_reducible repeat (first | refine blk_drewN ?_ _ | refine blk_drew ?_ | refine blk_alloc ?_ _)); exact BK136.out))⟩; have n7_ : Aside0 (Below w.heap.size w w30) := ⟨(by rw [hw]; exact Own.bl)⟩; clear hw; clear HO_135000; clear HO_135001; clear HO142; clear BK126; clear BK127; clear BK134; clear BK136; clear HB; have HO_135000 := n0_; have HO_135001 := n1_; have HO142 := n2_; have BK126 := n3_; have BK127 := n4_; have BK134 := n5_; have BK136 := n6_; have HB := n7_; clear n0_ n1_ n2_ n3_ n4_ n5_ n6_ n7_; have hnb31 := NB134_127.out; have hnc31 := NB127_134.out; obtain ⟨z32_0, z32_1, y32_0, y32_1⟩ := Own.box2 BK134.out; obtain ⟨z33_0, z33_1, z33_2, z33_3, z33_4, z33_5, z33_6, z33_7, z33_8, z33_9, z33_10, z33_11, y33_0, y33_1, y33_2, y33_3, y33_4, y33_5, y33_6, y33_7, y33_8, y33_9, y33_10, y33_11⟩ := Own.box12 BK136.out) | ((with_reducible refine gate_builtin (b := .append) (xs := #[.tmp 28, .tmp 30]) rfl ?_); at_builtin; refine Kd.R_append k43 (w0 := w) w.heap.size rfl (.tmp 28) (.tmp 30) 33 43 (.agg #[(.string ⟨#[]⟩), (.int .i64 0), (.int .i64 0), (.string ⟨#[]⟩), (.int .i64 0), (.int .i64 0), (.int .i64 0), (.string ⟨#[]⟩), (.int .i64 0), (.slice none 0 0), (.int .i64 0), (.string ⟨#[]⟩)]) 144 rfl Tryz.underlying33 info43 rfl (by decide) (by omega) u135001 x135001_1 (⟨(rd_T43 l0_1 x4_1).f0, (rd_T43 l0_1 x4_1).f1, (rd_T43 l0_1 x4_1).f2, (rd_T43 l0_1 x4_1).f3, (rd_T43 l0_1 x4_1).f4, (rd_T43 l0_1 x4_1).f5, (⟨t137, t138, t139, t140⟩ : S41), (rd_T43 l0_1 x4_1).f7, (rd_T43 l0_1 x4_1).f8⟩ : S43) [.string ((rd_T43 l0_1 x4_1).f0), .int .i64 ((rd_T43 l0_1 x4_1).f1), .int .i64 ((rd_T43 l0_1 x4_1).f2), .string ((rd_T43 l0_1 x4_1).f3), .int .i64 ((rd_T43 l0_1 x4_1).f4), .int .i64 ((rd_T43 l0_1 x4_1).f5), .int .i64 t137, .string t138, .int .i64 t139, .slice Ao29 t140.length co29, .int .i64 ((rd_T43 l0_1 x4_1).f7), .string ((rd_T43 l0_1 x4_1).f8)] (fun k_ => k_ ≠ gb136) (fun k_ => ((fun k_ => k_ ≠ gb136)) k_ ∧ some k_ ≠ (u135001 : Value).ownBlock) rfl rfl ?aP (fun _ hk => hk) ?aF ?aO ?aB ?aS ?aL ?_; (case aP => exact k43_mkM _ _ _ (⟨(rd_T43 l0_1 x4_1).f0, (rd_T43 l0_1 x4_1).f1, (rd_T43 l0_1 x4_1).f2, (rd_T43 l0_1 x4_1).f3, (rd_T43 l0_1 x4_1).f4, (rd_T43 l0_1 x4_1).f5, (⟨t137, t138, t139, t140⟩ : S41), (rd_T43 l0_1 x4_1).f7, (rd_T43 l0_1 x4_1).f8⟩ : S43) (Kd.R_mono (Kd.R_types (Kd.R_apart' (HO142.out) (Kd.R_typed HO_135001.out) (by decide)) BK136.out (by decide)) (fun k_ hk => ⟨hk.2, hk.1.2⟩))); (case aB => exact Own.bl); (case aF => exact (fun k_ hk => Kd.freshB (Own.bkf BK136.out) k_ hk)); (case aO => exact (by (with_reducible repeat (first | apply Kd.R_alloc | apply Kd.R_drewN | apply Kd.R_drew)); exact Kd.R_mono HO_135001.out (fun _ hk => hk.2))); (case aS => exact (below_size Own.bl)); (case aL => have := LMc18.out; omega); intro v144 w34 ho hb hg hat; rw [← Ny143.out] at ho; have HO145 := Aside0.mk ho; replace HO_135000 := Aside0.mk (Kd.R_over' (Own.rd HO_135000.out) (Kd.R_typed (Own.rd HO_135001.out)) (by decide) hg); replace BK126 := Aside0.mk (blk_grown (Own.bkf BK126.out) hg (Kd.R_ne HO_135001.out BK126.out (by decide))); replace BK127 := Aside0.mk (blk_grown (Own.bkf BK127.out) hg (Kd.R_ne HO_135001.out BK127.out (by decide))); replace BK134 := Aside0.mk (blk_grown (Own.bkf BK134.out) hg (Kd.R_ne HO_135001.out BK134.out (by decide))); replace BK136 := Aside0.mk (blk_grown (Own.bkf BK136.out) hg (Kd.R_away HO_135001.out (fun _ hk => hk.2))); replace HB := Aside0.mk hb; clear HO_135001 HO142; clear ho hb hg hat; obtain ⟨Ao35, co35, eo35⟩ := Kd.R_slice HO145.out; subst eo35; obtain ⟨z36_0, z36_1, y36_0, y36_1⟩ := Own.box2 BK134.out))
   go_roundg k1
   case measure => have := HK1.out; omega
   case rel => exact ⟨(wrap64 (x4_1 + 1)), (y143), (.slice Ao35 y143.length co35), Own.rs, H', ⟨by have := HK1.out; omega⟩, ⟨by (with_reducible repeat (first | apply Kd.R_alloc | apply Kd.R_drewN | apply Kd.R_drew)); exact Kd.R_mono (Kd.R_far (p := ⟨gb134, 1, none⟩) (Kd.R_types HO_135000.out BK134.out (by decide)) (fun _ hk => hk.2) (.slice Ao35 y143.length co35)) (fun _ hk => trivial)⟩, ⟨by (with_reducible repeat (first | apply Kd.R_alloc | apply Kd.R_drewN | apply Kd.R_drew)); exact Kd.R_mono (Kd.R_far (p := ⟨gb134, 1, none⟩) (Kd.R_types HO145.out BK134.out (by decide)) (fun _ hk => hk.2) (.slice Ao35 y143.length co35)) (fun _ hk => trivial)⟩, ⟨by (with_reducible repeat (first | refine blk_drewN ?_ _ | refine blk_drew ?_ | refine blk_alloc ?_ _)); refine blk_far ?_ NB126_134.out _; (with_reducible repeat (first | refine blk_drewN ?_ _ | refine blk_drew ?_ | refine blk_alloc ?_ _)); exact BK126.out⟩, ⟨by (with_reducible repeat (first | refine blk_drewN ?_ _ | refine blk_drew ?_ | refine blk_alloc ?_ _)); refine blk_far ?_ NB127_134.out _; (with_reducible repeat (first | refine blk_drewN ?_ _ | refine blk_drew ?_ | refine blk_alloc ?_ _)); exact BK127.out⟩, ⟨by (with_reducible repeat (first | refine blk_drewN ?_ _ | refine blk_drew ?_ | refine blk_alloc ?_ _)); refine blk_put (cs := #[.slice Ao10 y131.length co10, u135001]) ?_ 1 _ rfl; (with_reducible repeat (first | refine blk_drewN ?_ _ | refine blk_drew ?_ | refine blk_alloc ?_ _)); exact BK134.out⟩, ⟨Own.bl⟩⟩
/-! ### spec_l1In: function 36 -/
def spec_l1In.f (a0 : Int) (a1 : Int) (a2 : Int) : Option (Bool) := if a0 ≥ a1 then (some (decide (a0 ≤ a2))) else (some false)
set_option maxHeartbeats 8000000 in
set_option maxRecDepth 100000 in
theorem spec_l1In.calls (a0 : Int) (a1 : Int) (a2 : Int) (r : Bool) (w : World) (h : spec_l1In.f a0 a1 a2 = some r) :
  Calls Tryz.prog 36 #[.int .i64 a0, .int .i64 a1, .int .i64 a2] w fun e w' => e = .returned (.bool r) ∧ Drawn0 w w' := by
 have H : (if a0 ≥ a1 then (some (decide (a0 ≤ a2))) else (some false)) = some r := h
 clear h
 by_cases c4 : a0 ≥ a1
 ·
  rw [if_pos c4] at H
  have c4b0 : decide (a1 ≤ a0) = true := decide_eq_true c4
  clear c4; obtain rfl := Option.some.inj H
  go_enter Tryz.func36, Tryz.ntmps36
  go_wp2
  go_ret
  exact ⟨by first | rfl | (simp; done) | (simp [*]; done), by repeat (first | exact Drawn0.refl _ | apply Drawn0.step)⟩
 rw [if_neg c4] at H
 have c4b0 : decide (a1 ≤ a0) = false := decide_eq_false c4
 clear c4
 obtain rfl := Option.some.inj H
 go_enter Tryz.func36, Tryz.ntmps36
 go_wp2
 go_ret
 exact ⟨by first | rfl | (simp; done) | (simp [*]; done), by repeat (first | exact Drawn0.refl _ | apply Drawn0.step)⟩
/-! ### spec_l5Sign: function 63 -/
def spec_l5Sign.f (a0 : Int) : Option (Bool) := if a0 ≥ 97 then (if a0 ≤ 122 then (some true) else (if a0 ≥ 48 then (some (decide (a0 ≤ 57))) else (some false))) else (if a0 ≥ 48 then (some (decide (a0 ≤ 57))) else (some false))
set_option maxHeartbeats 8000000 in
set_option maxRecDepth 100000 in
theorem spec_l5Sign.calls (a0 : Int) (r : Bool) (w : World) (h : spec_l5Sign.f a0 = some r) :
  Calls Tryz.prog 63 #[.int .u8 a0] w fun e w' => e = .returned (.bool r) ∧ Drawn0 w w' := by
 have H : (if a0 ≥ 97 then (if a0 ≤ 122 then (some true) else (if a0 ≥ 48 then (some (decide (a0 ≤ 57))) else (some false))) else (if a0 ≥ 48 then (some (decide (a0 ≤ 57))) else (some false))) = some r := h
 clear h
 by_cases c2 : a0 ≥ 97
 rotate_left
 ·
  rw [if_neg c2] at H
  have c2b0 : decide (97 ≤ a0) = false := decide_eq_false c2
  clear c2
  by_cases c5 : a0 ≥ 48
  ·
   rw [if_pos c5] at H
   have c5b0 : decide (48 ≤ a0) = true := decide_eq_true c5
   clear c5; obtain rfl := Option.some.inj H
   go_enter Tryz.func63, Tryz.ntmps63
   go_wp2
   go_ret
   exact ⟨by first | rfl | (simp; done) | (simp [*]; done), by repeat (first | exact Drawn0.refl _ | apply Drawn0.step)⟩
  rw [if_neg c5] at H
  have c5b0 : decide (48 ≤ a0) = false := decide_eq_false c5
  clear c5; obtain rfl := Option.some.inj H
  go_enter Tryz.func63, Tryz.ntmps63
  go_wp2
  go_ret
  exact ⟨by first | rfl | (simp; done) | (simp [*]; done), by repeat (first | exact Drawn0.refl _ | apply Drawn0.step)⟩
 rw [if_pos c2] at H
 have c2b0 : decide (97 ≤ a0) = true := decide_eq_true c2
 clear c2
 by_cases c3 : a0 ≤ 122
 ·
  rw [if_pos c3] at H; replace c3 := decide_eq_true c3; obtain rfl := Option.some.inj H
  go_enter Tryz.func63, Tryz.ntmps63
  go_wp2
  go_ret
  exact ⟨by first | rfl | (simp; done) | (simp [*]; done), by repeat (first | exact Drawn0.refl _ | apply Drawn0.step)⟩
 rw [if_neg c3] at H
 replace c3 := decide_eq_false c3
 by_cases c4 : a0 ≥ 48
 ·
  rw [if_pos c4] at H
  have c4b0 : decide (48 ≤ a0) = true := decide_eq_true c4
  clear c4; obtain rfl := Option.some.inj H
  go_enter Tryz.func63, Tryz.ntmps63
  go_wp2
  go_ret
  exact ⟨by first | rfl | (simp; done) | (simp [*]; done), by repeat (first | exact Drawn0.refl _ | apply Drawn0.step)⟩
 rw [if_neg c4] at H
 have c4b0 : decide (48 ≤ a0) = false := decide_eq_false c4
 clear c4
 obtain rfl := Option.some.inj H
 go_enter Tryz.func63, Tryz.ntmps63
 go_wp2
 go_ret
 exact ⟨by first | rfl | (simp; done) | (simp [*]; done), by repeat (first | exact Drawn0.refl _ | apply Drawn0.step)⟩
end Go.Proofs.YtghcjheaicmpbaaGreatDoor.QFnExactAddClause
