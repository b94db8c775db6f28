-- Written by a program of this session out of the translation; Lean checks it.
import Derived.Test.YtckopglnblcnoaaGreatDoorQFnExactRemoveClausex11
namespace Go.Proofs.YtckopglnblcnoaaGreatDoor.QFnExactRemoveClause
open Go.RowKit Go.Proofs.YtckopglnblcnoaaGreatDoorW.PrintWords Go.Proofs.YtckopglnblcnoaaGreatDoorW.PrintLast
attribute [local go_sem] Instr.field asAgg
set_option linter.unusedVariables false
set_option linter.unusedSimpArgs false
/-! ### impl_countCondition: function 74 -/
mutual
def impl_countCondition.j0 : Nat → Int → Bool → Int → ByteArray → Int → List (S49) → Option (Int)
 | 0, _, _, _, _, _, _ => none
 | k + 1, x1, x29, x373000, x373001, x373002, x373003 => if x29 = true then (some (-1)) else (if x373000 = 2 then (if x373001.toList = ([] : List UInt8) then (impl_countCondition.j1 k x1 true x373000 x373001 x373002 x373003) else ((impl_IsValidName.f k x373001).bind fun t378 => (if t378 = true then (if x373000 = 3 then ((impl_isDay.f x373002).bind fun t379 => (impl_countCondition.j1 k x1 (!t379) x373000 x373001 x373002 x373003)) else (if x373002 = 0 then ((impl_isDay.f x373002).bind fun t380 => (impl_countCondition.j1 k x1 (!t380) x373000 x373001 x373002 x373003)) else (impl_countCondition.j1 k x1 true x373000 x373001 x373002 x373003))) else (impl_countCondition.j1 k x1 true x373000 x373001 x373002 x373003)))) else (if x373001.toList = ([] : List UInt8) then (if x373000 = 3 then ((impl_isDay.f x373002).bind fun t381 => (impl_countCondition.j1 k x1 (!t381) x373000 x373001 x373002 x373003)) else (if x373002 = 0 then ((impl_isDay.f x373002).bind fun t382 => (impl_countCondition.j1 k x1 (!t382) x373000 x373001 x373002 x373003)) else (impl_countCondition.j1 k x1 true x373000 x373001 x373002 x373003))) else (impl_countCondition.j1 k x1 true x373000 x373001 x373002 x373003)))
def impl_countCondition.j1 : Nat → Int → Bool → Int → ByteArray → Int → List (S49) → Option (Int)
 | 0, _, _, _, _, _, _ => none
 | k + 1, x1, x63, x373000, x373001, x373002, x373003 => if x63 = true then (some (-1)) else (impl_countCondition.l0 k x1 x373003 (x373003.length : Int) 0)
def impl_countCondition.l0 : Nat → Int → List (S49) → Int → Int → Option (Int)
 | 0, _, _, _, _ => none
 | k + 1, x1, x65, x66, x67 => if x67 < x66 then (if 0 ≤ x67 then (if x67 < (x65.length : Int) then ((impl_countCondition.f k ((rd_T49 x65 x67).f0) ((rd_T49 x65 x67).f1) ((rd_T49 x65 x67).f2) ((rd_T49 x65 x67).f3) x1).bind fun t385 => (if t385 < 0 then (some (-1)) else (impl_countCondition.l0 k t385 x65 x66 (wrap64 (x67 + 1))))) else (none)) else (none)) else (some x1)
def impl_countCondition.f : Nat → Int → ByteArray → Int → List (S49) → Int → Option (Int)
 | 0, _, _, _, _, _ => none
 | k + 1, a0_0, a0_1, a0_2, l0_3, a1 => (some (([(-1), 0, 0, 0, 1, 2, 2] : List Int) : List Int)).bind fun y373 => (if (wrap64 (a1 + 1)) > 15 then (impl_countCondition.j0 k (wrap64 (a1 + 1)) true a0_0 a0_1 a0_2 l0_3) else ((impl_within.f a0_0 1 6).bind fun t376 => (if t376 = true then (if 0 ≤ a0_0 then (if a0_0 < (y373.length : Int) then (impl_countCondition.j0 k (wrap64 (a1 + 1)) ((l0_3.length : Int) != (rd y373 a0_0)) a0_0 a0_1 a0_2 l0_3) else (none)) else (none)) else (impl_countCondition.j0 k (wrap64 (a1 + 1)) true a0_0 a0_1 a0_2 l0_3))))
end
set_option maxHeartbeats 8000000 in
set_option maxRecDepth 100000 in
theorem impl_countCondition.calls (k : Nat) : ∀ (a0_0 : Int) (a0_1 : ByteArray) (a0_2 : Int) (A0_3 : Option Addr) (c0_3 : Nat) (l0_3 : List (S49)) (a1 : Int) (r : Int) (w : World) (hr0_3 : Kd.C k49 w A0_3 l0_3.length l0_3) (hc0_3 : l0_3.length ≤ c0_3) (hG : Own.Glob w) (h : impl_countCondition.f k a0_0 a0_1 a0_2 l0_3 a1 = some r),
  Calls Tryz.prog 74 #[.agg #[.int .i64 a0_0, .string a0_1, .int .i64 a0_2, .slice A0_3 l0_3.length c0_3], .int .i64 a1] w fun e w' => e = .returned (.int .i64 r) ∧ Below w.heap.size w w' := by
 induction k using Nat.strongRecOn with
 | _ k ih =>
 intro a0_0 a0_1 a0_2 A0_3 c0_3 l0_3 a1 r w hr0_3 hc0_3 hG h
 cases k with
 | zero => exact absurd h (by simp [impl_countCondition.f])
 | succ k =>
 simp only [impl_countCondition.f] at h
 have hu49 := Tryz.underlying49
 have HR0_3 := Aside0.mk hr0_3
 have HC0_3 := Aside0.mk hc0_3
 clear hr0_3 hc0_3
 have HB := Aside0.mk (Below.refl w.heap.size w)
 have HG := Aside0.mk hG
 clear hG
 have H : ((some (([(-1), 0, 0, 0, 1, 2, 2] : List Int) : List Int)).bind fun y373 => (if (wrap64 (a1 + 1)) > 15 then (impl_countCondition.j0 k (wrap64 (a1 + 1)) true a0_0 a0_1 a0_2 l0_3) else ((impl_within.f a0_0 1 6).bind fun t376 => (if t376 = true then (if 0 ≤ a0_0 then (if a0_0 < (y373.length : Int) then (impl_countCondition.j0 k (wrap64 (a1 + 1)) ((l0_3.length : Int) != (rd y373 a0_0)) a0_0 a0_1 a0_2 l0_3) else (none)) else (none)) else (impl_countCondition.j0 k (wrap64 (a1 + 1)) true a0_0 a0_1 a0_2 l0_3))))) = some r := h
 clear h
 obtain ⟨y373, hy373⟩ : ∃ y_ : List Int, y_ = (([(-1), 0, 0, 0, 1, 2, 2] : List Int)) := ⟨_, rfl⟩
 replace H : (if (wrap64 (a1 + 1)) > 15 then (impl_countCondition.j0 k (wrap64 (a1 + 1)) true a0_0 a0_1 a0_2 l0_3) else ((impl_within.f a0_0 1 6).bind fun t376 => (if t376 = true then (if 0 ≤ a0_0 then (if a0_0 < (y373.length : Int) then (impl_countCondition.j0 k (wrap64 (a1 + 1)) ((l0_3.length : Int) != (rd y373 a0_0)) a0_0 a0_1 a0_2 l0_3) else (none)) else (none)) else (impl_countCondition.j0 k (wrap64 (a1 + 1)) true a0_0 a0_1 a0_2 l0_3)))) = some r := by first | (rw [hy373]; with_reducible exact H) | (have H2_ := (Option.bind_some _ _).symm.trans H; rw [hy373]; with_reducible exact H2_) | (have H2_ := (Option.bind_some _ _).symm.trans H; with_reducible exact H2_) | with_reducible exact H | (rw [hy373]; exact H) | exact H
 have Ny373 := Aside0.mk hy373
 clear hy373
 have HC3 := Aside0.mk H
 clear H
 go_enter Tryz.func74, Tryz.ntmps74
 go_upto_region 3 with (first | ((with_reducible refine gate_dst (N := 2) rfl ?_); (try (refine gate_guard (by rfl) ?_; dsimp only)); refine Own.be (N := 2) (cs := #[.int .i64 a0_0, .string a0_1, .int .i64 a0_2, .slice A0_3 l0_3.length c0_3]) (t := 49) ?_; intro gb372 hg w4 hbox hb; have BK372 := Aside0.mk hbox; have GW372 := (Own.gs hg : Aside0 (w.heap.size ≤ gb372)); have GE372 := GW372; replace HB := Own.bs hb; clear hb hbox hg) | ((with_reducible refine gate_dst (N := 10) rfl ?_); (try (refine gate_guard (by rfl) ?_; dsimp only)); refine Kd.R_lit (Kd.int .i64) _ 3 ?hg (N := 10) ?hd (xs := ([(-1), 0, 0, 0, 1, 2, 2] : List Int)) (inner := [.int .i64 (-1), .int .i64 0, .int .i64 0, .int .i64 0, .int .i64 1, .int .i64 2, .int .i64 2]) (ok := fun _ => True) (okp := fun _ => True) ?hr ?hp (fun _ hk => hk) trivial (Below.refl _ _) (Nat.le_refl _) (by simp) ?_; (case hd => rfl); (case hg => rfl); (case hr => first | (go_simp; done) | (go_simp; rfl)); (case hp => exact (Reps.one (show Kd.M (Kd.int .i64) _ _ _ (-1) [.int .i64 (-1)] from rfl) (Reps.one (show Kd.M (Kd.int .i64) _ _ _ 0 [.int .i64 0] from rfl) (Reps.one (show Kd.M (Kd.int .i64) _ _ _ 0 [.int .i64 0] from rfl) (Reps.one (show Kd.M (Kd.int .i64) _ _ _ 0 [.int .i64 0] from rfl) (Reps.one (show Kd.M (Kd.int .i64) _ _ _ 1 [.int .i64 1] from rfl) (Reps.one (show Kd.M (Kd.int .i64) _ _ _ 2 [.int .i64 2] from rfl) (Reps.one (show Kd.M (Kd.int .i64) _ _ _ 2 [.int .i64 2] from rfl) (Reps.none _ _))))))))); intro v374 w5 ho6 hb hg_ hnew_; clear hg_ hnew_; (first | rw [← Ny373.out] at ho6 | (simp only [Int.reduceToNat] at ho6; rw [← Ny373.out] at ho6)); have HO375 := Aside0.mk (Kd.R_lower ho6 (below_size Own.bl)); replace BK372 := Own.bb BK372.out hb; replace HB := Own.bs hb; clear hb ho6))
 repeat (go_quiet (first | ((with_reducible refine gate_dst (N := 2) rfl ?_); (try (refine gate_guard (by rfl) ?_; dsimp only)); refine Own.be (N := 2) (cs := #[.int .i64 a0_0, .string a0_1, .int .i64 a0_2, .slice A0_3 l0_3.length c0_3]) (t := 49) ?_; intro gb372 hg w4 hbox hb; have BK372 := Aside0.mk hbox; have GW372 := (Own.gs hg : Aside0 (w.heap.size ≤ gb372)); have GE372 := GW372; replace HB := Own.bs hb; clear hb hbox hg) | ((with_reducible refine gate_dst (N := 10) rfl ?_); (try (refine gate_guard (by rfl) ?_; dsimp only)); refine Kd.R_lit (Kd.int .i64) _ 3 ?hg (N := 10) ?hd (xs := ([(-1), 0, 0, 0, 1, 2, 2] : List Int)) (inner := [.int .i64 (-1), .int .i64 0, .int .i64 0, .int .i64 0, .int .i64 1, .int .i64 2, .int .i64 2]) (ok := fun _ => True) (okp := fun _ => True) ?hr ?hp (fun _ hk => hk) trivial (Below.refl _ _) (Nat.le_refl _) (by simp) ?_; (case hd => rfl); (case hg => rfl); (case hr => first | (go_simp; done) | (go_simp; rfl)); (case hp => exact (Reps.one (show Kd.M (Kd.int .i64) _ _ _ (-1) [.int .i64 (-1)] from rfl) (Reps.one (show Kd.M (Kd.int .i64) _ _ _ 0 [.int .i64 0] from rfl) (Reps.one (show Kd.M (Kd.int .i64) _ _ _ 0 [.int .i64 0] from rfl) (Reps.one (show Kd.M (Kd.int .i64) _ _ _ 0 [.int .i64 0] from rfl) (Reps.one (show Kd.M (Kd.int .i64) _ _ _ 1 [.int .i64 1] from rfl) (Reps.one (show Kd.M (Kd.int .i64) _ _ _ 2 [.int .i64 2] from rfl) (Reps.one (show Kd.M (Kd.int .i64) _ _ _ 2 [.int .i64 2] from rfl) (Reps.none _ _))))))))); intro v374 w5 ho6 hb hg_ hnew_; clear hg_ hnew_; (first | rw [← Ny373.out] at ho6 | (simp only [Int.reduceToNat] at ho6; rw [← Ny373.out] at ho6)); have HO375 := Aside0.mk (Kd.R_lower ho6 (below_size Own.bl)); replace BK372 := Own.bb BK372.out hb; replace HB := Own.bs hb; clear hb ho6)); go_upto_region 3 with (first | ((with_reducible refine gate_dst (N := 2) rfl ?_); (try (refine gate_guard (by rfl) ?_; dsimp only)); refine Own.be (N := 2) (cs := #[.int .i64 a0_0, .string a0_1, .int .i64 a0_2, .slice A0_3 l0_3.length c0_3]) (t := 49) ?_; intro gb372 hg w4 hbox hb; have BK372 := Aside0.mk hbox; have GW372 := (Own.gs hg : Aside0 (w.heap.size ≤ gb372)); have GE372 := GW372; replace HB := Own.bs hb; clear hb hbox hg) | ((with_reducible refine gate_dst (N := 10) rfl ?_); (try (refine gate_guard (by rfl) ?_; dsimp only)); refine Kd.R_lit (Kd.int .i64) _ 3 ?hg (N := 10) ?hd (xs := ([(-1), 0, 0, 0, 1, 2, 2] : List Int)) (inner := [.int .i64 (-1), .int .i64 0, .int .i64 0, .int .i64 0, .int .i64 1, .int .i64 2, .int .i64 2]) (ok := fun _ => True) (okp := fun _ => True) ?hr ?hp (fun _ hk => hk) trivial (Below.refl _ _) (Nat.le_refl _) (by simp) ?_; (case hd => rfl); (case hg => rfl); (case hr => first | (go_simp; done) | (go_simp; rfl)); (case hp => exact (Reps.one (show Kd.M (Kd.int .i64) _ _ _ (-1) [.int .i64 (-1)] from rfl) (Reps.one (show Kd.M (Kd.int .i64) _ _ _ 0 [.int .i64 0] from rfl) (Reps.one (show Kd.M (Kd.int .i64) _ _ _ 0 [.int .i64 0] from rfl) (Reps.one (show Kd.M (Kd.int .i64) _ _ _ 0 [.int .i64 0] from rfl) (Reps.one (show Kd.M (Kd.int .i64) _ _ _ 1 [.int .i64 1] from rfl) (Reps.one (show Kd.M (Kd.int .i64) _ _ _ 2 [.int .i64 2] from rfl) (Reps.one (show Kd.M (Kd.int .i64) _ _ _ 2 [.int .i64 2] from rfl) (Reps.none _ _))))))))); intro v374 w5 ho6 hb hg_ hnew_; clear hg_ hnew_; (first | rw [← Ny373.out] at ho6 | (simp only [Int.reduceToNat] at ho6; rw [← Ny373.out] at ho6)); have HO375 := Aside0.mk (Kd.R_lower ho6 (below_size Own.bl)); replace BK372 := Own.bb BK372.out hb; replace HB := Own.bs hb; clear hb ho6)))
 (try simp only [Own.ps])
 go_cut [29] (fun v29 wc => ∃ (kq : Nat) (x29_2 : Bool), v29 = .bool x29_2 ∧ Aside0 (impl_countCondition.j0 kq (wrap64 (a1 + 1)) x29_2 a0_0 a0_1 a0_2 l0_3 = some r) ∧ Aside0 (kq ≤ k) ∧ Aside0 (wc.heap[gb372]? = some (.cells #[.int .i64 a0_0, .string a0_1, .int .i64 a0_2, (.slice A0_3 l0_3.length c0_3)] 49 (0, 0))) ∧ Aside0 (Below w.heap.size w wc))
 case first =>
  have H := HC3.out; clear HC3
  by_cases c7 : (wrap64 (a1 + 1)) > 15
  ·
   rw [if_pos c7] at H
   have c7b0 : decide (15 < (wrap64 (a1 + 1))) = true := decide_eq_true c7
   clear c7
   (first | rw [c7b0] | (simp only [i64_w, i32_w]; rw [c7b0]) | skip)
   have H' := Aside0.mk H; clear H
   go_wp2
   repeat (go_quiet (fail); try go_wp2)
   go_meet
   case rel => exact ⟨_, (true), Own.rs, H', ⟨by first | omega | exact Nat.le_refl _⟩, ⟨Own.bk⟩, ⟨Own.bl⟩⟩
  rw [if_neg c7] at H
  have c7b0 : decide (15 < (wrap64 (a1 + 1))) = false := decide_eq_false c7
  clear c7
  (first | rw [c7b0] | (simp only [i64_w, i32_w]; rw [c7b0]) | skip)
  replace H := Own.bd H; obtain ⟨t376, A8, H⟩ := H
  replace H := Own.ift H; obtain ⟨rfl, H⟩ | ⟨rfl, H⟩ := H
  ·
   have H' := Aside0.mk H; clear H; obtain ⟨z14_0, z14_1, z14_2, z14_3, y14_0, y14_1, y14_2, y14_3⟩ := Own.box4 BK372.out
   go_wp2_with (first | (go_at_call 56; (with_reducible refine (impl_within.calls a0_0 1 6 false _ A8.out).mono ?_); rintro e w' ⟨rfl, ⟨nd, rfl⟩⟩; (try first | exact ⟨rfl, _, World.drewN_drewN _ _ _⟩ | exact ⟨rfl, _, Eq.trans (World.drewN_drewN _ _ _) (congrArg (World.drewN _) (Nat.add_assoc _ _ _))⟩)))
   repeat (go_quiet (first | (go_at_call 56; (with_reducible refine (impl_within.calls a0_0 1 6 false _ A8.out).mono ?_); rintro e w' ⟨rfl, ⟨nd, rfl⟩⟩; (try first | exact ⟨rfl, _, World.drewN_drewN _ _ _⟩ | exact ⟨rfl, _, Eq.trans (World.drewN_drewN _ _ _) (congrArg (World.drewN _) (Nat.add_assoc _ _ _))⟩))); try go_wp2_with (first | (go_at_call 56; (with_reducible refine (impl_within.calls a0_0 1 6 false _ A8.out).mono ?_); rintro e w' ⟨rfl, ⟨nd, rfl⟩⟩; (try first | exact ⟨rfl, _, World.drewN_drewN _ _ _⟩ | exact ⟨rfl, _, Eq.trans (World.drewN_drewN _ _ _) (congrArg (World.drewN _) (Nat.add_assoc _ _ _))⟩))))
   go_meet
   case rel => exact ⟨_, (true), Own.rs, H', ⟨by first | omega | exact Nat.le_refl _⟩, ⟨Own.bk⟩, ⟨Own.bl⟩⟩
  replace H := Own.ifd H; obtain ⟨c10, H⟩ := H
  replace H := Own.ifd H; obtain ⟨c11, H⟩ := H; have H' := Aside0.mk H; clear H; obtain ⟨z12_0, z12_1, z12_2, z12_3, y12_0, y12_1, y12_2, y12_3⟩ := Own.box4 BK372.out
  go_wp2_with (first | (go_at_call 56; (with_reducible refine (impl_within.calls a0_0 1 6 true _ A8.out).mono ?_); rintro e w' ⟨rfl, ⟨nd, rfl⟩⟩; (try first | exact ⟨rfl, _, World.drewN_drewN _ _ _⟩ | exact ⟨rfl, _, Eq.trans (World.drewN_drewN _ _ _) (congrArg (World.drewN _) (Nat.add_assoc _ _ _))⟩); obtain ⟨Ao13, co13, eo13⟩ := Kd.R_slice HO375.out; subst eo13; have p377 : 0 ≤ (a0_0 : Int) := Own.dp; have q377 : a0_0 < (y373.length : Int) := Own.dp; obtain ⟨ad377, e377, hx377_0⟩ := Kd.at_int (Kd.R_reads' HO375.out).2.2 a0_0 p377 q377; cases e377; replace p377 := eq_true p377; replace q377 := eq_true q377))
  repeat (go_quiet (first | (go_at_call 56; (with_reducible refine (impl_within.calls a0_0 1 6 true _ A8.out).mono ?_); rintro e w' ⟨rfl, ⟨nd, rfl⟩⟩; (try first | exact ⟨rfl, _, World.drewN_drewN _ _ _⟩ | exact ⟨rfl, _, Eq.trans (World.drewN_drewN _ _ _) (congrArg (World.drewN _) (Nat.add_assoc _ _ _))⟩); obtain ⟨Ao13, co13, eo13⟩ := Kd.R_slice HO375.out; subst eo13; have p377 : 0 ≤ (a0_0 : Int) := Own.dp; have q377 : a0_0 < (y373.length : Int) := Own.dp; obtain ⟨ad377, e377, hx377_0⟩ := Kd.at_int (Kd.R_reads' HO375.out).2.2 a0_0 p377 q377; cases e377; replace p377 := eq_true p377; replace q377 := eq_true q377)); try go_wp2_with (first | (go_at_call 56; (with_reducible refine (impl_within.calls a0_0 1 6 true _ A8.out).mono ?_); rintro e w' ⟨rfl, ⟨nd, rfl⟩⟩; (try first | exact ⟨rfl, _, World.drewN_drewN _ _ _⟩ | exact ⟨rfl, _, Eq.trans (World.drewN_drewN _ _ _) (congrArg (World.drewN _) (Nat.add_assoc _ _ _))⟩); obtain ⟨Ao13, co13, eo13⟩ := Kd.R_slice HO375.out; subst eo13; have p377 : 0 ≤ (a0_0 : Int) := Own.dp; have q377 : a0_0 < (y373.length : Int) := Own.dp; obtain ⟨ad377, e377, hx377_0⟩ := Kd.at_int (Kd.R_reads' HO375.out).2.2 a0_0 p377 q377; cases e377; replace p377 := eq_true p377; replace q377 := eq_true q377)))
  go_meet
  case rel => exact ⟨_, (((l0_3.length : Int) != (rd y373 a0_0))), Own.rs, H', ⟨by first | omega | exact Nat.le_refl _⟩, ⟨Own.bk⟩, ⟨Own.bl⟩⟩
 case rest =>
  clear HC3
  skip
  obtain ⟨kq, x29_2, rfl, HA, HJ2, BK372, HB⟩ := hcut
  cases kq with
  | zero => exact absurd HA.out (by simp [impl_countCondition.j0])
  | succ kj2 =>
   have H := HA.out; clear HA
   simp only [impl_countCondition.j0] at H
   replace H := Own.ifu H; obtain ⟨rfl, H⟩ | ⟨rfl, H⟩ := H
   ·
    obtain rfl := Option.some.inj H
    go_wp2
    repeat (go_quiet (fail); try go_wp2)
    go_ret
    exact ⟨Own.rr, Own.bl⟩
   have HC16 := Aside0.mk H; clear H
   go_upto_region 5 with (fail)
   repeat (go_quiet (fail); go_upto_region 5 with (fail))
   go_cut [63] (fun v63 wc => ∃ (kq : Nat) (x63_15 : Bool), v63 = .bool x63_15 ∧ Aside0 (impl_countCondition.j1 kq (wrap64 (a1 + 1)) x63_15 a0_0 a0_1 a0_2 l0_3 = some r) ∧ Aside0 (kq ≤ kj2) ∧ Aside0 (wc.heap[gb372]? = some (.cells #[.int .i64 a0_0, .string a0_1, .int .i64 a0_2, (.slice A0_3 l0_3.length c0_3)] 49 (0, 0))) ∧ Aside0 (Below w.heap.size w wc))
   case first =>
    have H := HC16.out; clear HC16
    by_cases c17 : a0_0 = 2
    rotate_left
    ·
     rw [if_neg c17] at H
     have c17b0 : (a0_0 == 2) = false := beq_eq_false_iff_ne.mpr c17
     have c17b1 : (a0_0 != 2) = true := bne_iff_ne.mpr c17
     (first | rw [c17b0] | (simp only [i64_w, i32_w]; rw [c17b0]) | skip)
     by_cases c37 : a0_1.toList = ([] : List UInt8)
     rotate_left
     ·
      rw [if_neg c37] at H
      have c37b0 : (a0_1.toList == ([] : List UInt8)) = false := beq_eq_false_iff_ne.mpr c37
      have c37b1 : (a0_1.toList != ([] : List UInt8)) = true := bne_iff_ne.mpr c37
      have H' := Aside0.mk H; clear H; obtain ⟨z45_0, z45_1, z45_2, z45_3, y45_0, y45_1, y45_2, y45_3⟩ := Own.box4 BK372.out
      go_wp2
      repeat (go_quiet (fail); try go_wp2)
      go_meet
      case rel => exact ⟨_, (true), Own.rs, H', ⟨by have := HJ2.out; first | omega | exact Nat.le_refl _⟩, ⟨Own.bk⟩, ⟨Own.bl⟩⟩
     rw [if_pos c37] at H
     have c37b0 : (a0_1.toList == ([] : List UInt8)) = true := beq_iff_eq.mpr c37
     have c37b1 : (a0_1.toList != ([] : List UInt8)) = false := bne_eq_false_iff_eq.mpr c37
     clear c37
     by_cases c38 : a0_0 = 3
     ·
      rw [if_pos c38] at H
      have c38b0 : (a0_0 == 3) = true := beq_iff_eq.mpr c38
      have c38b1 : (a0_0 != 3) = false := bne_eq_false_iff_eq.mpr c38
      clear c38
      replace H := Own.bd H; obtain ⟨t381, A39, H⟩ := H; have H' := Aside0.mk H; clear H; obtain ⟨z40_0, z40_1, z40_2, z40_3, y40_0, y40_1, y40_2, y40_3⟩ := Own.box4 BK372.out
      go_wp2_with (first | (go_at_call 79; (with_reducible refine (impl_isDay.calls a0_2 t381 _ A39.out).mono ?_); rintro e w' ⟨rfl, ⟨nd, rfl⟩⟩; (try first | exact ⟨rfl, _, World.drewN_drewN _ _ _⟩ | exact ⟨rfl, _, Eq.trans (World.drewN_drewN _ _ _) (congrArg (World.drewN _) (Nat.add_assoc _ _ _))⟩)))
      repeat (go_quiet (first | (go_at_call 79; (with_reducible refine (impl_isDay.calls a0_2 t381 _ A39.out).mono ?_); rintro e w' ⟨rfl, ⟨nd, rfl⟩⟩; (try first | exact ⟨rfl, _, World.drewN_drewN _ _ _⟩ | exact ⟨rfl, _, Eq.trans (World.drewN_drewN _ _ _) (congrArg (World.drewN _) (Nat.add_assoc _ _ _))⟩))); try go_wp2_with (first | (go_at_call 79; (with_reducible refine (impl_isDay.calls a0_2 t381 _ A39.out).mono ?_); rintro e w' ⟨rfl, ⟨nd, rfl⟩⟩; (try first | exact ⟨rfl, _, World.drewN_drewN _ _ _⟩ | exact ⟨rfl, _, Eq.trans (World.drewN_drewN _ _ _) (congrArg (World.drewN _) (Nat.add_assoc _ _ _))⟩))))
      go_meet
      case rel => exact ⟨_, (!t381), Own.rs, H', ⟨by have := HJ2.out; first | omega | exact Nat.le_refl _⟩, ⟨Own.bk⟩, ⟨Own.bl⟩⟩
     rw [if_neg c38] at H
     have c38b0 : (a0_0 == 3) = false := beq_eq_false_iff_ne.mpr c38
     have c38b1 : (a0_0 != 3) = true := bne_iff_ne.mpr c38
     by_cases c41 : a0_2 = 0
     rotate_left
     ·
      rw [if_neg c41] at H
      have c41b0 : (a0_2 == 0) = false := beq_eq_false_iff_ne.mpr c41
      have c41b1 : (a0_2 != 0) = true := bne_iff_ne.mpr c41
      have H' := Aside0.mk H; clear H; obtain ⟨z44_0, z44_1, z44_2, z44_3, y44_0, y44_1, y44_2, y44_3⟩ := Own.box4 BK372.out
      go_wp2
      repeat (go_quiet (fail); try go_wp2)
      go_meet
      case rel => exact ⟨_, (true), Own.rs, H', ⟨by have := HJ2.out; first | omega | exact Nat.le_refl _⟩, ⟨Own.bk⟩, ⟨Own.bl⟩⟩
     rw [if_pos c41] at H
     have c41b0 : (a0_2 == 0) = true := beq_iff_eq.mpr c41
     have c41b1 : (a0_2 != 0) = false := bne_eq_false_iff_eq.mpr c41
     clear c41
     replace H := Own.bd H; obtain ⟨t382, A42, H⟩ := H; have H' := Aside0.mk H; clear H; obtain ⟨z43_0, z43_1, z43_2, z43_3, y43_0, y43_1, y43_2, y43_3⟩ := Own.box4 BK372.out
     go_wp2_with (first | (go_at_call 79; (with_reducible refine (impl_isDay.calls a0_2 t382 _ A42.out).mono ?_); rintro e w' ⟨rfl, ⟨nd, rfl⟩⟩; (try first | exact ⟨rfl, _, World.drewN_drewN _ _ _⟩ | exact ⟨rfl, _, Eq.trans (World.drewN_drewN _ _ _) (congrArg (World.drewN _) (Nat.add_assoc _ _ _))⟩)))
     repeat (go_quiet (first | (go_at_call 79; (with_reducible refine (impl_isDay.calls a0_2 t382 _ A42.out).mono ?_); rintro e w' ⟨rfl, ⟨nd, rfl⟩⟩; (try first | exact ⟨rfl, _, World.drewN_drewN _ _ _⟩ | exact ⟨rfl, _, Eq.trans (World.drewN_drewN _ _ _) (congrArg (World.drewN _) (Nat.add_assoc _ _ _))⟩))); try go_wp2_with (first | (go_at_call 79; (with_reducible refine (impl_isDay.calls a0_2 t382 _ A42.out).mono ?_); rintro e w' ⟨rfl, ⟨nd, rfl⟩⟩; (try first | exact ⟨rfl, _, World.drewN_drewN _ _ _⟩ | exact ⟨rfl, _, Eq.trans (World.drewN_drewN _ _ _) (congrArg (World.drewN _) (Nat.add_assoc _ _ _))⟩))))
     go_meet
     case rel => exact ⟨_, (!t382), Own.rs, H', ⟨by have := HJ2.out; first | omega | exact Nat.le_refl _⟩, ⟨Own.bk⟩, ⟨Own.bl⟩⟩
    rw [if_pos c17] at H
    have c17b0 : (a0_0 == 2) = true := beq_iff_eq.mpr c17
    have c17b1 : (a0_0 != 2) = false := bne_eq_false_iff_eq.mpr c17
    clear c17
    (first | rw [c17b0] | (simp only [i64_w, i32_w]; rw [c17b0]) | skip)
    by_cases c18 : a0_1.toList = ([] : List UInt8)
    ·
     rw [if_pos c18] at H
     have c18b0 : (a0_1.toList == ([] : List UInt8)) = true := beq_iff_eq.mpr c18
     have c18b1 : (a0_1.toList != ([] : List UInt8)) = false := bne_eq_false_iff_eq.mpr c18
     clear c18; have H' := Aside0.mk H; clear H; obtain ⟨z19_0, z19_1, z19_2, z19_3, y19_0, y19_1, y19_2, y19_3⟩ := Own.box4 BK372.out
     go_wp2
     repeat (go_quiet (fail); try go_wp2)
     go_meet
     case rel => exact ⟨_, (true), Own.rs, H', ⟨by have := HJ2.out; first | omega | exact Nat.le_refl _⟩, ⟨Own.bk⟩, ⟨Own.bl⟩⟩
    rw [if_neg c18] at H
    have c18b0 : (a0_1.toList == ([] : List UInt8)) = false := beq_eq_false_iff_ne.mpr c18
    have c18b1 : (a0_1.toList != ([] : List UInt8)) = true := bne_iff_ne.mpr c18
    replace H := Own.bd H; obtain ⟨t378, A20, H⟩ := H
    replace H := Own.ift H; obtain ⟨rfl, H⟩ | ⟨rfl, H⟩ := H
    ·
     have H' := Aside0.mk H; clear H; obtain ⟨z35_0, z35_1, z35_2, z35_3, y35_0, y35_1, y35_2, y35_3⟩ := Own.box4 BK372.out
     go_wp2_with (first | (go_at_call 65; (with_reducible refine (impl_IsValidName.calls kj2 a0_1 false _ ?side1 A20.out).mono ?_); (case side1 => exact Own.gl HG.out); rintro e w36 ⟨rfl, hb⟩; replace BK372 := Own.bb BK372.out hb; replace HB := Own.bs hb; (try clear hb)))
     repeat (go_quiet (first | (go_at_call 65; (with_reducible refine (impl_IsValidName.calls kj2 a0_1 false _ ?side1 A20.out).mono ?_); (case side1 => exact Own.gl HG.out); rintro e w36 ⟨rfl, hb⟩; replace BK372 := Own.bb BK372.out hb; replace HB := Own.bs hb; (try clear hb))); try go_wp2_with (first | (go_at_call 65; (with_reducible refine (impl_IsValidName.calls kj2 a0_1 false _ ?side1 A20.out).mono ?_); (case side1 => exact Own.gl HG.out); rintro e w36 ⟨rfl, hb⟩; replace BK372 := Own.bb BK372.out hb; replace HB := Own.bs hb; (try clear hb))))
     go_meet
     case rel => exact ⟨_, (true), Own.rs, H', ⟨by have := HJ2.out; first | omega | exact Nat.le_refl _⟩, ⟨Own.bk⟩, ⟨Own.bl⟩⟩
    by_cases c22 : a0_0 = 3
    ·
     rw [if_pos c22] at H
     have c22b0 : (a0_0 == 3) = true := beq_iff_eq.mpr c22
     have c22b1 : (a0_0 != 3) = false := bne_eq_false_iff_eq.mpr c22
     clear c22
     replace H := Own.bd H; obtain ⟨t379, A23, H⟩ := H; have H' := Aside0.mk H; clear H; obtain ⟨z24_0, z24_1, z24_2, z24_3, y24_0, y24_1, y24_2, y24_3⟩ := Own.box4 BK372.out
     go_wp2_with (first | (go_at_call 65; (with_reducible refine (impl_IsValidName.calls kj2 a0_1 true _ ?side1 A20.out).mono ?_); (case side1 => exact Own.gl HG.out); rintro e w25 ⟨rfl, hb⟩; replace BK372 := Own.bb BK372.out hb; replace HB := Own.bs hb; (try clear hb); obtain ⟨z26_0, z26_1, z26_2, z26_3, y26_0, y26_1, y26_2, y26_3⟩ := Own.box4 BK372.out) | (go_at_call 79; (with_reducible refine (impl_isDay.calls a0_2 t379 _ A23.out).mono ?_); rintro e w' ⟨rfl, ⟨nd, rfl⟩⟩; (try first | exact ⟨rfl, _, World.drewN_drewN _ _ _⟩ | exact ⟨rfl, _, Eq.trans (World.drewN_drewN _ _ _) (congrArg (World.drewN _) (Nat.add_assoc _ _ _))⟩)))
     repeat (go_quiet (first | (go_at_call 65; (with_reducible refine (impl_IsValidName.calls kj2 a0_1 true _ ?side1 A20.out).mono ?_); (case side1 => exact Own.gl HG.out); rintro e w25 ⟨rfl, hb⟩; replace BK372 := Own.bb BK372.out hb; replace HB := Own.bs hb; (try clear hb); obtain ⟨z26_0, z26_1, z26_2, z26_3, y26_0, y26_1, y26_2, y26_3⟩ := Own.box4 BK372.out) | (go_at_call 79; (with_reducible refine (impl_isDay.calls a0_2 t379 _ A23.out).mono ?_); rintro e w' ⟨rfl, ⟨nd, rfl⟩⟩; (try first | exact ⟨rfl, _, World.drewN_drewN _ _ _⟩ | exact ⟨rfl, _, Eq.trans (World.drewN_drewN _ _ _) (congrArg (World.drewN _) (Nat.add_assoc _ _ _))⟩))); try go_wp2_with (first | (go_at_call 65; (with_reducible refine (impl_IsValidName.calls kj2 a0_1 true _ ?side1 A20.out).mono ?_); (case side1 => exact Own.gl HG.out); rintro e w25 ⟨rfl, hb⟩; replace BK372 := Own.bb BK372.out hb; replace HB := Own.bs hb; (try clear hb); obtain ⟨z26_0, z26_1, z26_2, z26_3, y26_0, y26_1, y26_2, y26_3⟩ := Own.box4 BK372.out) | (go_at_call 79; (with_reducible refine (impl_isDay.calls a0_2 t379 _ A23.out).mono ?_); rintro e w' ⟨rfl, ⟨nd, rfl⟩⟩; (try first | exact ⟨rfl, _, World.drewN_drewN _ _ _⟩ | exact ⟨rfl, _, Eq.trans (World.drewN_drewN _ _ _) (congrArg (World.drewN _) (Nat.add_assoc _ _ _))⟩))))
     go_meet
     case rel => exact ⟨_, (!t379), Own.rs, H', ⟨by have := HJ2.out; first | omega | exact Nat.le_refl _⟩, ⟨Own.bk⟩, ⟨Own.bl⟩⟩
    rw [if_neg c22] at H
    have c22b0 : (a0_0 == 3) = false := beq_eq_false_iff_ne.mpr c22
    have c22b1 : (a0_0 != 3) = true := bne_iff_ne.mpr c22
    by_cases c27 : a0_2 = 0
    rotate_left
    ·
     rw [if_neg c27] at H
     have c27b0 : (a0_2 == 0) = false := beq_eq_false_iff_ne.mpr c27
     have c27b1 : (a0_2 != 0) = true := bne_iff_ne.mpr c27
     have H' := Aside0.mk H; clear H; obtain ⟨z32_0, z32_1, z32_2, z32_3, y32_0, y32_1, y32_2, y32_3⟩ := Own.box4 BK372.out
     go_wp2_with (first | (go_at_call 65; (with_reducible refine (impl_IsValidName.calls kj2 a0_1 true _ ?side1 A20.out).mono ?_); (case side1 => exact Own.gl HG.out); rintro e w33 ⟨rfl, hb⟩; replace BK372 := Own.bb BK372.out hb; replace HB := Own.bs hb; (try clear hb); obtain ⟨z34_0, z34_1, z34_2, z34_3, y34_0, y34_1, y34_2, y34_3⟩ := Own.box4 BK372.out))
     repeat (go_quiet (first | (go_at_call 65; (with_reducible refine (impl_IsValidName.calls kj2 a0_1 true _ ?side1 A20.out).mono ?_); (case side1 => exact Own.gl HG.out); rintro e w33 ⟨rfl, hb⟩; replace BK372 := Own.bb BK372.out hb; replace HB := Own.bs hb; (try clear hb); obtain ⟨z34_0, z34_1, z34_2, z34_3, y34_0, y34_1, y34_2, y34_3⟩ := Own.box4 BK372.out)); try go_wp2_with (first | (go_at_call 65; (with_reducible refine (impl_IsValidName.calls kj2 a0_1 true _ ?side1 A20.out).mono ?_); (case side1 => exact Own.gl HG.out); rintro e w33 ⟨rfl, hb⟩; replace BK372 := Own.bb BK372.out hb; replace HB := Own.bs hb; (try clear hb); obtain ⟨z34_0, z34_1, z34_2, z34_3, y34_0, y34_1, y34_2, y34_3⟩ := Own.box4 BK372.out)))
     go_meet
     case rel => exact ⟨_, (true), Own.rs, H', ⟨by have := HJ2.out; first | omega | exact Nat.le_refl _⟩, ⟨Own.bk⟩, ⟨Own.bl⟩⟩
    rw [if_pos c27] at H
    have c27b0 : (a0_2 == 0) = true := beq_iff_eq.mpr c27
    have c27b1 : (a0_2 != 0) = false := bne_eq_false_iff_eq.mpr c27
    clear c27
    replace H := Own.bd H; obtain ⟨t380, A28, H⟩ := H; have H' := Aside0.mk H; clear H; obtain ⟨z29_0, z29_1, z29_2, z29_3, y29_0, y29_1, y29_2, y29_3⟩ := Own.box4 BK372.out
    go_wp2_with (first | (go_at_call 65; (with_reducible refine (impl_IsValidName.calls kj2 a0_1 true _ ?side1 A20.out).mono ?_); (case side1 => exact Own.gl HG.out); rintro e w30 ⟨rfl, hb⟩; replace BK372 := Own.bb BK372.out hb; replace HB := Own.bs hb; (try clear hb); obtain ⟨z31_0, z31_1, z31_2, z31_3, y31_0, y31_1, y31_2, y31_3⟩ := Own.box4 BK372.out) | (go_at_call 79; (with_reducible refine (impl_isDay.calls a0_2 t380 _ A28.out).mono ?_); rintro e w' ⟨rfl, ⟨nd, rfl⟩⟩; (try first | exact ⟨rfl, _, World.drewN_drewN _ _ _⟩ | exact ⟨rfl, _, Eq.trans (World.drewN_drewN _ _ _) (congrArg (World.drewN _) (Nat.add_assoc _ _ _))⟩)))
    repeat (go_quiet (first | (go_at_call 65; (with_reducible refine (impl_IsValidName.calls kj2 a0_1 true _ ?side1 A20.out).mono ?_); (case side1 => exact Own.gl HG.out); rintro e w30 ⟨rfl, hb⟩; replace BK372 := Own.bb BK372.out hb; replace HB := Own.bs hb; (try clear hb); obtain ⟨z31_0, z31_1, z31_2, z31_3, y31_0, y31_1, y31_2, y31_3⟩ := Own.box4 BK372.out) | (go_at_call 79; (with_reducible refine (impl_isDay.calls a0_2 t380 _ A28.out).mono ?_); rintro e w' ⟨rfl, ⟨nd, rfl⟩⟩; (try first | exact ⟨rfl, _, World.drewN_drewN _ _ _⟩ | exact ⟨rfl, _, Eq.trans (World.drewN_drewN _ _ _) (congrArg (World.drewN _) (Nat.add_assoc _ _ _))⟩))); try go_wp2_with (first | (go_at_call 65; (with_reducible refine (impl_IsValidName.calls kj2 a0_1 true _ ?side1 A20.out).mono ?_); (case side1 => exact Own.gl HG.out); rintro e w30 ⟨rfl, hb⟩; replace BK372 := Own.bb BK372.out hb; replace HB := Own.bs hb; (try clear hb); obtain ⟨z31_0, z31_1, z31_2, z31_3, y31_0, y31_1, y31_2, y31_3⟩ := Own.box4 BK372.out) | (go_at_call 79; (with_reducible refine (impl_isDay.calls a0_2 t380 _ A28.out).mono ?_); rintro e w' ⟨rfl, ⟨nd, rfl⟩⟩; (try first | exact ⟨rfl, _, World.drewN_drewN _ _ _⟩ | exact ⟨rfl, _, Eq.trans (World.drewN_drewN _ _ _) (congrArg (World.drewN _) (Nat.add_assoc _ _ _))⟩))))
    go_meet
    case rel => exact ⟨_, (!t380), Own.rs, H', ⟨by have := HJ2.out; first | omega | exact Nat.le_refl _⟩, ⟨Own.bk⟩, ⟨Own.bl⟩⟩
   case rest =>
    clear HC16
    skip
    obtain ⟨kq, x63_15, rfl, HA, HJ15, BK372, HB⟩ := hcut
    cases kq with
    | zero => exact absurd HA.out (by simp [impl_countCondition.j1])
    | succ kj15 =>
     have H := HA.out; clear HA
     simp only [impl_countCondition.j1] at H
     replace H := Own.ifu H; obtain ⟨rfl, H⟩ | ⟨rfl, H⟩ := H
     ·
      obtain rfl := Option.some.inj H
      go_wp2
      repeat (go_quiet (fail); try go_wp2)
      go_ret
      exact ⟨Own.rr, Own.bl⟩
     have H' := Aside0.mk H; clear H; obtain ⟨z47_0, z47_1, z47_2, z47_3, y47_0, y47_1, y47_2, y47_3⟩ := Own.box4 BK372.out
     go_wp2
     repeat (go_quiet (fail); try go_wp2)
     go_loopg [1, 67] kj15 (fun kq v1 v67 w' => ∃ (x1_3 : Int) (x67_3 : Int), v1 = .int .i64 x1_3 ∧ v67 = .int .i64 x67_3 ∧ Aside0 (impl_countCondition.l0 kq x1_3 l0_3 (l0_3.length : Int) x67_3 = some r) ∧ Aside0 (kq ≤ kj15) ∧ Aside0 (w'.heap[gb372]? = some (.cells #[.int .i64 a0_0, .string a0_1, .int .i64 a0_2, (.slice A0_3 l0_3.length c0_3)] 49 (0, 0))) ∧ Aside0 (Below w.heap.size w w'))
     case atStart => exact ⟨((wrap64 (a1 + 1))), (0), Own.rs, Own.rs, H', ⟨Nat.le_refl _⟩, ⟨Own.bk⟩, ⟨Own.bl⟩⟩
     case round =>
      clear H'; try clear z47_0 z47_1 z47_2 z47_3; try clear y47_0 y47_1 y47_2 y47_3
      obtain ⟨x1_3, x67_3, rfl, rfl, HA, HK3, BK372, HB⟩ := hrel
      cases gk with
      | zero => exact absurd HA.out (by simp [impl_countCondition.l0])
      | succ k3 =>
       have H := HA.out; clear HA
       simp only [impl_countCondition.l0] at H
       by_cases c48 : x67_3 < (l0_3.length : Int)
       rotate_left
       ·
        rw [if_neg c48] at H; replace c48 := decide_eq_false c48; obtain rfl := Option.some.inj H
        go_wp2
        repeat (go_quiet (fail); try go_wp2)
        go_ret
        exact ⟨Own.rr, Own.bl⟩
       rw [if_pos c48] at H; replace c48 := decide_eq_true c48
       replace H := Own.ifd H; obtain ⟨c49, H⟩ := H
       replace H := Own.ifd H; obtain ⟨c50, H⟩ := H
       replace H := Own.bd H; obtain ⟨t385, A51, H⟩ := H
       by_cases c52 : t385 < 0
       ·
        rw [if_pos c52] at H; replace c52 := decide_eq_true c52; obtain rfl := Option.some.inj H
        have p383 : 0 ≤ (x67_3 : Int) := Own.dp
        have q383 : x67_3 < (l0_3.length : Int) := Own.dp
        obtain ⟨ad383, A383_3, c383_3, e383, hx383_0, hx383_1, hx383_2, hx383_3, hl383_3, hi383_3⟩ := at_T49 HR0_3.out x67_3 p383 q383; cases e383; replace hx383_0 := Own.up HB.out hx383_0; replace hx383_1 := Own.up HB.out hx383_1; replace hx383_2 := Own.up HB.out hx383_2; replace hx383_3 := Own.up HB.out hx383_3; have HR383_3 := Aside0.mk hi383_3; have HC383_3 := Aside0.mk hl383_3; clear hi383_3 hl383_3; replace p383 := eq_true p383; replace q383 := eq_true q383
        go_wp2_with (first | ((with_reducible refine gate_dst (N := 7) rfl ?_); (try (refine gate_guard (by rfl) ?_; dsimp only)); refine Own.be (N := 7) (cs := #[.int .i64 0, .string (⟨#[]⟩ : ByteArray), .int .i64 0, .slice none 0 0]) (t := 49) ?_; intro gb384 hg w53 hbox hb; have BK384 := Aside0.mk hbox; have GW384 := (Own.gs hg : Aside0 (w.heap.size ≤ gb384)); have GE384 := GW384; have NB372_384 := Own.nl hg BK372.out; have NB384_372 := Aside0.mk NB372_384.out.symm; replace BK372 := Own.bb BK372.out hb; replace HB := Own.bs hb; clear hb hbox hg; have hnb54 := NB384_372.out; have hnc54 := NB372_384.out; obtain ⟨z55_0, z55_1, z55_2, z55_3, y55_0, y55_1, y55_2, y55_3⟩ := Own.box4 BK384.out) | (go_at_call 74; (with_reducible refine (ih k3 (by have := HJ2.out; have := HJ15.out; have := HK3.out; omega) ((rd_T49 l0_3 x67_3).f0) ((rd_T49 l0_3 x67_3).f1) ((rd_T49 l0_3 x67_3).f2) _ _ ((rd_T49 l0_3 x67_3).f3) x1_3 t385 _ ?side1 ?side2 ?side3 A51.out).mono ?_); (case side1 => exact Kd.C_below HR383_3.out Own.bl); (case side2 => exact HC383_3.out); (case side3 => exact Own.gl HG.out); rintro e w56 ⟨rfl, hb⟩; replace BK372 := Own.bb BK372.out hb; replace BK384 := Aside0.mk (blk_below (g := gb384) (o := .cells #[.int .i64 ((rd_T49 l0_3 x67_3).f0), .string ((rd_T49 l0_3 x67_3).f1), .int .i64 ((rd_T49 l0_3 x67_3).f2), .slice A383_3 ((rd_T49 l0_3 x67_3).f3).length c383_3] 49 (0, 0)) (by (with_reducible repeat (first | refine blk_drewN ?_ _ | refine blk_drew ?_ | refine blk_alloc ?_ _)); with_reducible exact Own.put4 BK384.out) hb); replace HB := Own.bs hb; (try clear hb)))
        repeat (go_quiet (first | ((with_reducible refine gate_dst (N := 7) rfl ?_); (try (refine gate_guard (by rfl) ?_; dsimp only)); refine Own.be (N := 7) (cs := #[.int .i64 0, .string (⟨#[]⟩ : ByteArray), .int .i64 0, .slice none 0 0]) (t := 49) ?_; intro gb384 hg w53 hbox hb; have BK384 := Aside0.mk hbox; have GW384 := (Own.gs hg : Aside0 (w.heap.size ≤ gb384)); have GE384 := GW384; have NB372_384 := Own.nl hg BK372.out; have NB384_372 := Aside0.mk NB372_384.out.symm; replace BK372 := Own.bb BK372.out hb; replace HB := Own.bs hb; clear hb hbox hg; have hnb54 := NB384_372.out; have hnc54 := NB372_384.out; obtain ⟨z55_0, z55_1, z55_2, z55_3, y55_0, y55_1, y55_2, y55_3⟩ := Own.box4 BK384.out) | (go_at_call 74; (with_reducible refine (ih k3 (by have := HJ2.out; have := HJ15.out; have := HK3.out; omega) ((rd_T49 l0_3 x67_3).f0) ((rd_T49 l0_3 x67_3).f1) ((rd_T49 l0_3 x67_3).f2) _ _ ((rd_T49 l0_3 x67_3).f3) x1_3 t385 _ ?side1 ?side2 ?side3 A51.out).mono ?_); (case side1 => exact Kd.C_below HR383_3.out Own.bl); (case side2 => exact HC383_3.out); (case side3 => exact Own.gl HG.out); rintro e w56 ⟨rfl, hb⟩; replace BK372 := Own.bb BK372.out hb; replace BK384 := Aside0.mk (blk_below (g := gb384) (o := .cells #[.int .i64 ((rd_T49 l0_3 x67_3).f0), .string ((rd_T49 l0_3 x67_3).f1), .int .i64 ((rd_T49 l0_3 x67_3).f2), .slice A383_3 ((rd_T49 l0_3 x67_3).f3).length c383_3] 49 (0, 0)) (by (with_reducible repeat (first | refine blk_drewN ?_ _ | refine blk_drew ?_ | refine blk_alloc ?_ _)); with_reducible exact Own.put4 BK384.out) hb); replace HB := Own.bs hb; (try clear hb))); try go_wp2_with (first | ((with_reducible refine gate_dst (N := 7) rfl ?_); (try (refine gate_guard (by rfl) ?_; dsimp only)); refine Own.be (N := 7) (cs := #[.int .i64 0, .string (⟨#[]⟩ : ByteArray), .int .i64 0, .slice none 0 0]) (t := 49) ?_; intro gb384 hg w53 hbox hb; have BK384 := Aside0.mk hbox; have GW384 := (Own.gs hg : Aside0 (w.heap.size ≤ gb384)); have GE384 := GW384; have NB372_384 := Own.nl hg BK372.out; have NB384_372 := Aside0.mk NB372_384.out.symm; replace BK372 := Own.bb BK372.out hb; replace HB := Own.bs hb; clear hb hbox hg; have hnb54 := NB384_372.out; have hnc54 := NB372_384.out; obtain ⟨z55_0, z55_1, z55_2, z55_3, y55_0, y55_1, y55_2, y55_3⟩ := Own.box4 BK384.out) | (go_at_call 74; (with_reducible refine (ih k3 (by have := HJ2.out; have := HJ15.out; have := HK3.out; omega) ((rd_T49 l0_3 x67_3).f0) ((rd_T49 l0_3 x67_3).f1) ((rd_T49 l0_3 x67_3).f2) _ _ ((rd_T49 l0_3 x67_3).f3) x1_3 t385 _ ?side1 ?side2 ?side3 A51.out).mono ?_); (case side1 => exact Kd.C_below HR383_3.out Own.bl); (case side2 => exact HC383_3.out); (case side3 => exact Own.gl HG.out); rintro e w56 ⟨rfl, hb⟩; replace BK372 := Own.bb BK372.out hb; replace BK384 := Aside0.mk (blk_below (g := gb384) (o := .cells #[.int .i64 ((rd_T49 l0_3 x67_3).f0), .string ((rd_T49 l0_3 x67_3).f1), .int .i64 ((rd_T49 l0_3 x67_3).f2), .slice A383_3 ((rd_T49 l0_3 x67_3).f3).length c383_3] 49 (0, 0)) (by (with_reducible repeat (first | refine blk_drewN ?_ _ | refine blk_drew ?_ | refine blk_alloc ?_ _)); with_reducible exact Own.put4 BK384.out) hb); replace HB := Own.bs hb; (try clear hb))))
        go_ret
        exact ⟨Own.rr, Own.bl⟩
       rw [if_neg c52] at H; replace c52 := decide_eq_false c52; have H' := Aside0.mk H; clear H
       have p383 : 0 ≤ (x67_3 : Int) := Own.dp
       have q383 : x67_3 < (l0_3.length : Int) := Own.dp
       obtain ⟨ad383, A383_3, c383_3, e383, hx383_0, hx383_1, hx383_2, hx383_3, hl383_3, hi383_3⟩ := at_T49 HR0_3.out x67_3 p383 q383; cases e383; replace hx383_0 := Own.up HB.out hx383_0; replace hx383_1 := Own.up HB.out hx383_1; replace hx383_2 := Own.up HB.out hx383_2; replace hx383_3 := Own.up HB.out hx383_3; have HR383_3 := Aside0.mk hi383_3; have HC383_3 := Aside0.mk hl383_3; clear hi383_3 hl383_3; replace p383 := eq_true p383; replace q383 := eq_true q383
       go_wp2_with (first | ((with_reducible refine gate_dst (N := 7) rfl ?_); (try (refine gate_guard (by rfl) ?_; dsimp only)); refine Own.be (N := 7) (cs := #[.int .i64 0, .string (⟨#[]⟩ : ByteArray), .int .i64 0, .slice none 0 0]) (t := 49) ?_; intro gb384 hg w57 hbox hb; have BK384 := Aside0.mk hbox; have GW384 := (Own.gs hg : Aside0 (w.heap.size ≤ gb384)); have GE384 := GW384; have NB372_384 := Own.nl hg BK372.out; have NB384_372 := Aside0.mk NB372_384.out.symm; replace BK372 := Own.bb BK372.out hb; replace HB := Own.bs hb; clear hb hbox hg; have hnb58 := NB384_372.out; have hnc58 := NB372_384.out; obtain ⟨z59_0, z59_1, z59_2, z59_3, y59_0, y59_1, y59_2, y59_3⟩ := Own.box4 BK384.out) | (go_at_call 74; (with_reducible refine (ih k3 (by have := HJ2.out; have := HJ15.out; have := HK3.out; omega) ((rd_T49 l0_3 x67_3).f0) ((rd_T49 l0_3 x67_3).f1) ((rd_T49 l0_3 x67_3).f2) _ _ ((rd_T49 l0_3 x67_3).f3) x1_3 t385 _ ?side1 ?side2 ?side3 A51.out).mono ?_); (case side1 => exact Kd.C_below HR383_3.out Own.bl); (case side2 => exact HC383_3.out); (case side3 => exact Own.gl HG.out); rintro e w60 ⟨rfl, hb⟩; replace BK372 := Own.bb BK372.out hb; replace BK384 := Aside0.mk (blk_below (g := gb384) (o := .cells #[.int .i64 ((rd_T49 l0_3 x67_3).f0), .string ((rd_T49 l0_3 x67_3).f1), .int .i64 ((rd_T49 l0_3 x67_3).f2), .slice A383_3 ((rd_T49 l0_3 x67_3).f3).length c383_3] 49 (0, 0)) (by (with_reducible repeat (first | refine blk_drewN ?_ _ | refine blk_drew ?_ | refine blk_alloc ?_ _)); with_reducible exact Own.put4 BK384.out) hb); replace HB := Own.bs hb; (try clear hb)))
       repeat (go_quiet (first | ((with_reducible refine gate_dst (N := 7) rfl ?_); (try (refine gate_guard (by rfl) ?_; dsimp only)); refine Own.be (N := 7) (cs := #[.int .i64 0, .string (⟨#[]⟩ : ByteArray), .int .i64 0, .slice none 0 0]) (t := 49) ?_; intro gb384 hg w57 hbox hb; have BK384 := Aside0.mk hbox; have GW384 := (Own.gs hg : Aside0 (w.heap.size ≤ gb384)); have GE384 := GW384; have NB372_384 := Own.nl hg BK372.out; have NB384_372 := Aside0.mk NB372_384.out.symm; replace BK372 := Own.bb BK372.out hb; replace HB := Own.bs hb; clear hb hbox hg; have hnb58 := NB384_372.out; have hnc58 := NB372_384.out; obtain ⟨z59_0, z59_1, z59_2, z59_3, y59_0, y59_1, y59_2, y59_3⟩ := Own.box4 BK384.out) | (go_at_call 74; (with_reducible refine (ih k3 (by have := HJ2.out; have := HJ15.out; have := HK3.out; omega) ((rd_T49 l0_3 x67_3).f0) ((rd_T49 l0_3 x67_3).f1) ((rd_T49 l0_3 x67_3).f2) _ _ ((rd_T49 l0_3 x67_3).f3) x1_3 t385 _ ?side1 ?side2 ?side3 A51.out).mono ?_); (case side1 => exact Kd.C_below HR383_3.out Own.bl); (case side2 => exact HC383_3.out); (case side3 => exact Own.gl HG.out); rintro e w60 ⟨rfl, hb⟩; replace BK372 := Own.bb BK372.out hb; replace BK384 := Aside0.mk (blk_below (g := gb384) (o := .cells #[.int .i64 ((rd_T49 l0_3 x67_3).f0), .string ((rd_T49 l0_3 x67_3).f1), .int .i64 ((rd_T49 l0_3 x67_3).f2), .slice A383_3 ((rd_T49 l0_3 x67_3).f3).length c383_3] 49 (0, 0)) (by (with_reducible repeat (first | refine blk_drewN ?_ _ | refine blk_drew ?_ | refine blk_alloc ?_ _)); with_reducible exact Own.put4 BK384.out) hb); replace HB := Own.bs hb; (try clear hb))); try go_wp2_with (first | ((with_reducible refine gate_dst (N := 7) rfl ?_); (try (refine gate_guard (by rfl) ?_; dsimp only)); refine Own.be (N := 7) (cs := #[.int .i64 0, .string (⟨#[]⟩ : ByteArray), .int .i64 0, .slice none 0 0]) (t := 49) ?_; intro gb384 hg w57 hbox hb; have BK384 := Aside0.mk hbox; have GW384 := (Own.gs hg : Aside0 (w.heap.size ≤ gb384)); have GE384 := GW384; have NB372_384 := Own.nl hg BK372.out; have NB384_372 := Aside0.mk NB372_384.out.symm; replace BK372 := Own.bb BK372.out hb; replace HB := Own.bs hb; clear hb hbox hg; have hnb58 := NB384_372.out; have hnc58 := NB372_384.out; obtain ⟨z59_0, z59_1, z59_2, z59_3, y59_0, y59_1, y59_2, y59_3⟩ := Own.box4 BK384.out) | (go_at_call 74; (with_reducible refine (ih k3 (by have := HJ2.out; have := HJ15.out; have := HK3.out; omega) ((rd_T49 l0_3 x67_3).f0) ((rd_T49 l0_3 x67_3).f1) ((rd_T49 l0_3 x67_3).f2) _ _ ((rd_T49 l0_3 x67_3).f3) x1_3 t385 _ ?side1 ?side2 ?side3 A51.out).mono ?_); (case side1 => exact Kd.C_below HR383_3.out Own.bl); (case side2 => exact HC383_3.out); (case side3 => exact Own.gl HG.out); rintro e w60 ⟨rfl, hb⟩; replace BK372 := Own.bb BK372.out hb; replace BK384 := Aside0.mk (blk_below (g := gb384) (o := .cells #[.int .i64 ((rd_T49 l0_3 x67_3).f0), .string ((rd_T49 l0_3 x67_3).f1), .int .i64 ((rd_T49 l0_3 x67_3).f2), .slice A383_3 ((rd_T49 l0_3 x67_3).f3).length c383_3] 49 (0, 0)) (by (with_reducible repeat (first | refine blk_drewN ?_ _ | refine blk_drew ?_ | refine blk_alloc ?_ _)); with_reducible exact Own.put4 BK384.out) hb); replace HB := Own.bs hb; (try clear hb))))
       go_roundg k3
       case measure => have := HJ2.out; have := HJ15.out; have := HK3.out; omega
       case rel => exact ⟨(t385), (wrap64 (x67_3 + 1)), Own.rs, Own.rs, H', ⟨by have := HJ2.out; have := HJ15.out; have := HK3.out; omega⟩, ⟨Own.bk⟩, ⟨Own.bl⟩⟩
end Go.Proofs.YtckopglnblcnoaaGreatDoor.QFnExactRemoveClause
