-- Written by a program of this session out of the translation; Lean checks it.
import Derived.Test.YtckopglnblcnoaaGreatDoorQFnExactRemoveClausex14
namespace Go.Proofs.YtckopglnblcnoaaGreatDoor.QFnExactRemoveClause
open Go.RowKit Go.Proofs.YtckopglnblcnoaaGreatDoorW.PrintWords Go.Proofs.YtckopglnblcnoaaGreatDoorW.PrintLast
attribute [local go_sem] Instr.field asAgg
set_option linter.unusedVariables false
set_option linter.unusedSimpArgs false
/-! ### impl_addNames: function 68 -/
mutual
def impl_addNames.j0 : Nat → List ByteArray → Int → ByteArray → Int → List (S49) → Option (List ByteArray)
 | 0, _, _, _, _, _ => none
 | k + 1, x1, x403000, x403001, x403002, x403003 => impl_addNames.l0 k x1 x403003 (x403003.length : Int) 0
def impl_addNames.l0 : Nat → List ByteArray → List (S49) → Int → Int → Option (List ByteArray)
 | 0, _, _, _, _ => none
 | k + 1, x1, x16, x17, x18 => if x18 < x17 then (if 0 ≤ x18 then (if x18 < (x16.length : Int) then ((impl_addNames.f k ((rd_T49 x16 x18).f0) ((rd_T49 x16 x18).f1) ((rd_T49 x16 x18).f2) ((rd_T49 x16 x18).f3) x1).bind fun t408 => (impl_addNames.l0 k t408 x16 x17 (wrap64 (x18 + 1)))) else (none)) else (none)) else (some x1)
def impl_addNames.f : Nat → Int → ByteArray → Int → List (S49) → List ByteArray → Option (List ByteArray)
 | 0, _, _, _, _, _ => none
 | k + 1, a0_0, a0_1, a0_2, l0_3, l1 => if a0_0 = 2 then (if l1.length < 8796093022208 then (impl_addNames.j0 k (l1 ++ [a0_1]) a0_0 a0_1 a0_2 l0_3) else (none)) else (impl_addNames.j0 k l1 a0_0 a0_1 a0_2 l0_3)
end
set_option maxHeartbeats 8000000 in
set_option maxRecDepth 100000 in
theorem impl_addNames.calls (k : Nat) : ∀ (a0_0 : Int) (a0_1 : ByteArray) (a0_2 : Int) (A0_3 : Option Addr) (c0_3 : Nat) (l0_3 : List (S49)) (P1_ : Nat → Prop) (u9000_ : Value) (l1 : List ByteArray) (r : List ByteArray) (w0 w : World) (hB : Below w0.heap.size w0 w) (hr0_3 : ∀ W_, Kept w W_ (fun k_ => P1_ k_) → Kd.C k49 W_ A0_3 l0_3.length l0_3) (hc0_3 : l0_3.length ≤ c0_3) (ho1 : Kd.R Kd.string 9 w w0.heap.size P1_ u9000_ l1) (h : impl_addNames.f k a0_0 a0_1 a0_2 l0_3 l1 = some r),
  Calls Tryz.prog 68 #[.agg #[.int .i64 a0_0, .string a0_1, .int .i64 a0_2, .slice A0_3 l0_3.length c0_3], u9000_] w fun e w' => ∃ v0_ : Value, e = .returned (v0_) ∧ Kd.R Kd.string 9 w' w0.heap.size (fun k_ => (P1_ k_ ∨ w.heap.size ≤ k_)) v0_ r ∧ Below w0.heap.size w0 w' ∧ Kept w w' (fun k_ => P1_ k_) := by
 induction k using Nat.strongRecOn with
 | _ k ih =>
 intro a0_0 a0_1 a0_2 A0_3 c0_3 l0_3 P1_ u9000_ l1 r w0 w hB hr0_3 hc0_3 ho1 h
 cases k with
 | zero => exact absurd h (by simp [impl_addNames.f])
 | succ k =>
 simp only [impl_addNames.f] at h
 have hu49 := Tryz.underlying49
 have HR0_3 := Aside0.mk hr0_3
 have HC0_3 := Aside0.mk hc0_3
 clear hr0_3 hc0_3
 have HO1 := Aside0.mk (show Kd.R Kd.string 9 w w0.heap.size (fun k_ => (P1_ k_ ∨ w.heap.size ≤ k_)) u9000_ l1 from Kd.R_mono ho1 (fun k_ hk => (.inl hk)))
 have HK := Aside0.mk (Kept.refl w (fun k_ => P1_ k_))
 have HW0 := Aside0.mk hB.size
 have HB := Aside0.mk hB
 clear hB
 have H : (if a0_0 = 2 then (if l1.length < 8796093022208 then (impl_addNames.j0 k (l1 ++ [a0_1]) a0_0 a0_1 a0_2 l0_3) else (none)) else (impl_addNames.j0 k l1 a0_0 a0_1 a0_2 l0_3)) = some r := h
 clear h
 have HC3 := Aside0.mk H
 clear H
 go_enter Tryz.func68, Tryz.ntmps68
 go_upto_if 9 with (first | ((with_reducible refine gate_dst (N := 2) rfl ?_); refine Own.be (N := 2) (cs := #[.int .i64 a0_0, .string a0_1, .int .i64 a0_2, .slice A0_3 l0_3.length c0_3]) (t := 49) ?_; intro gb402 hg w4 hbox hb; have BK402 := Aside0.mk hbox; have GW402 := Aside0.mk ((by rw [hg]; exact (by first | exact HK.out.1 | exact (show Kept w _ (fun k_ => P1_ k_) from by repeat (first | (with_reducible first | exact HK.out | apply Kept.alloc | apply Kept.drewN | apply Kept.drew) | exact HK.out)).1) : w.heap.size ≤ gb402)); have GE402 := Aside0.mk ((by rw [hg]; exact (below_size Own.bl) : w0.heap.size ≤ gb402)); replace HO1 := Aside0.mk (Kd.R_below (Own.rd HO1.out) hb); replace HK := Aside0.mk (Kept.below (S := (fun k_ => P1_ k_)) (by repeat (first | (with_reducible first | exact HK.out | apply Kept.alloc | apply Kept.drewN | apply Kept.drew) | exact HK.out)) hb); replace HB := Own.bs hb; clear hb hbox hg; obtain ⟨z5_0, z5_1, z5_2, z5_3, y5_0, y5_1, y5_2, y5_3⟩ := Own.box4 BK402.out))
 (try simp only [Own.ps])
 go_cut [1] (fun v1 wc => ∃ (kq : Nat) (x1_2 : List ByteArray), Aside0 (impl_addNames.j0 kq x1_2 a0_0 a0_1 a0_2 l0_3 = some r) ∧ Aside0 (kq ≤ k) ∧ Aside0 (Kd.R Kd.string 9 wc w0.heap.size (fun k_ => (P1_ k_ ∨ w.heap.size ≤ k_)) v1 x1_2) ∧ Aside0 (wc.heap[gb402]? = some (.cells #[.int .i64 a0_0, .string a0_1, .int .i64 a0_2, (.slice A0_3 l0_3.length c0_3)] 49 (0, 0))) ∧ Aside0 (Kept w wc (fun k_ => P1_ k_)) ∧ Aside0 (Below w0.heap.size w0 wc))
 case first =>
  have H := HC3.out; clear HC3
  by_cases c6 : a0_0 = 2
  rotate_left
  ·
   rw [if_neg c6] at H
   have c6b0 : (a0_0 == 2) = false := beq_eq_false_iff_ne.mpr c6
   have c6b1 : (a0_0 != 2) = true := bne_iff_ne.mpr c6
   (first | rw [c6b0] | (simp only [i64_w, i32_w]; rw [c6b0]) | skip)
   have H' := Aside0.mk H; clear H
   go_wp2
   go_meet
   case rel => exact ⟨_, (l1), H', ⟨by first | omega | exact Nat.le_refl _⟩, ⟨Own.rd HO1.out⟩, ⟨Own.bk⟩, ⟨by repeat (first | (with_reducible first | exact HK.out | apply Kept.alloc | apply Kept.drewN | apply Kept.drew | refine Kept.setCell ?_ (.inr GW402.out) _) | exact HK.out)⟩, ⟨Own.bl⟩⟩
  rw [if_pos c6] at H
  have c6b0 : (a0_0 == 2) = true := beq_iff_eq.mpr c6
  have c6b1 : (a0_0 != 2) = false := bne_eq_false_iff_eq.mpr c6
  clear c6
  (first | rw [c6b0] | (simp only [i64_w, i32_w]; rw [c6b0]) | skip)
  replace H := Own.ifn H; obtain ⟨c7, H⟩ := H; have LMc7 := Aside0.mk c7; clear c7
  obtain ⟨y403, hy403⟩ : ∃ y_ : List ByteArray, y_ = (l1 ++ [a0_1]) := ⟨_, rfl⟩
  replace H : (impl_addNames.j0 k y403 a0_0 a0_1 a0_2 l0_3) = some r := by first | (rw [hy403]; with_reducible exact H) | (have H2_ := (Option.bind_some _ _).symm.trans H; rw [hy403]; with_reducible exact H2_) | (have H2_ := (Option.bind_some _ _).symm.trans H; with_reducible exact H2_) | with_reducible exact H | (rw [hy403]; exact H) | exact H
  have Ny403 := Aside0.mk hy403; clear hy403; have H' := Aside0.mk H; clear H; obtain ⟨z8_0, z8_1, z8_2, z8_3, y8_0, y8_1, y8_2, y8_3⟩ := Own.box4 BK402.out
  go_wp2_with (first | ((with_reducible refine gate_builtin (b := .append) (xs := #[.tmp 10, .tmp 13]) rfl ?_); at_builtin; refine Kd.R_append Kd.string (w0 := w0) w0.heap.size rfl (.tmp 10) (.tmp 13) 22 9 (.string ⟨#[]⟩) 16 rfl Tryz.underlying22 info9 rfl (by decide) (by omega) u9000_ l1 a0_1 [.string a0_1] (fun k_ => (P1_ k_ ∨ w.heap.size ≤ k_)) (fun _ => False) rfl rfl ?aP (fun _ hk => hk.elim) ?aF ?aO ?aB ?aS ?aL ?_; (case aP => exact rfl); (case aB => exact Own.bl); (case aF => exact (fun k_ hk => (.inr (Nat.le_trans (by first | exact HK.out.1 | exact (show Kept w _ (fun k_ => P1_ k_) from by repeat (first | (with_reducible first | exact HK.out | apply Kept.alloc | apply Kept.drewN | apply Kept.drew | refine Kept.setCell ?_ (.inr GW402.out) _) | exact HK.out)).1) hk)))); (case aO => exact (Own.rd HO1.out)); (case aS => exact (below_size Own.bl)); (case aL => have := LMc7.out; omega); intro v404 w9 ho hb hg hat; rw [← Ny403.out] at ho; have HO405 := Aside0.mk ho; replace BK402 := Aside0.mk (blk_grown (Own.bkf BK402.out) hg (Kd.R_ne HO1.out BK402.out (by decide))); replace HK := Aside0.mk (Kept.of_grown (S := (fun k_ => P1_ k_)) hg (by repeat (first | (with_reducible first | exact HK.out | apply Kept.alloc | apply Kept.drewN | apply Kept.drew | refine Kept.setCell ?_ (.inr GW402.out) _) | exact HK.out)) (fun k_ e_ => (HO1.out.1 k_ e_))); replace HB := Aside0.mk hb; clear HO1; clear ho hb hg hat))
  go_meet
  case rel => exact ⟨_, (y403), H', ⟨by first | omega | exact Nat.le_refl _⟩, ⟨Own.rd HO405.out⟩, ⟨Own.bk⟩, ⟨by repeat (first | (with_reducible first | exact HK.out | apply Kept.alloc | apply Kept.drewN | apply Kept.drew | refine Kept.setCell ?_ (.inr GW402.out) _) | exact HK.out)⟩, ⟨Own.bl⟩⟩
 case rest =>
  clear HC3; try clear z5_0 z5_1 z5_2 z5_3; try clear y5_0 y5_1 y5_2 y5_3
  obtain ⟨kq, x1_2, HA, HJ2, HO_1, BK402, HK, HB⟩ := hcut
  cases kq with
  | zero => exact absurd HA.out (by simp [impl_addNames.j0])
  | succ kj2 =>
   have H := HA.out; clear HA
   simp only [impl_addNames.j0] at H
   have H' := Aside0.mk H; clear H; obtain ⟨z10_0, z10_1, z10_2, z10_3, y10_0, y10_1, y10_2, y10_3⟩ := Own.box4 BK402.out
   go_wp2
   go_loopg [1, 18] kj2 (fun kq v1 v18 w' => ∃ (x1_2 : List ByteArray) (x18_2 : Int), v18 = .int .i64 x18_2 ∧ Aside0 (impl_addNames.l0 kq x1_2 l0_3 (l0_3.length : Int) x18_2 = some r) ∧ Aside0 (kq ≤ kj2) ∧ Aside0 (Kd.R Kd.string 9 w' w0.heap.size (fun k_ => (P1_ k_ ∨ w.heap.size ≤ k_)) v1 x1_2) ∧ Aside0 (w'.heap[gb402]? = some (.cells #[.int .i64 a0_0, .string a0_1, .int .i64 a0_2, (.slice A0_3 l0_3.length c0_3)] 49 (0, 0))) ∧ Aside0 (Kept w w' (fun k_ => P1_ k_)) ∧ Aside0 (Below w0.heap.size w0 w'))
   case atStart => exact ⟨(x1_2), (0), Own.rs, H', ⟨Nat.le_refl _⟩, ⟨Own.rd HO_1.out⟩, ⟨Own.bk⟩, ⟨by repeat (first | (with_reducible first | exact HK.out | apply Kept.alloc | apply Kept.drewN | apply Kept.drew | refine Kept.setCell ?_ (.inr GW402.out) _) | exact HK.out)⟩, ⟨Own.bl⟩⟩
   case round =>
    clear H'; try clear z10_0 z10_1 z10_2 z10_3; try clear z5_0 z5_1 z5_2 z5_3; try clear y10_0 y10_1 y10_2 y10_3; try clear y5_0 y5_1 y5_2 y5_3
    obtain ⟨x1_2, x18_2, rfl, HA, HK2, HO_1, BK402, HK, HB⟩ := hrel
    cases gk with
    | zero => exact absurd HA.out (by simp [impl_addNames.l0])
    | succ k2 =>
     have H := HA.out; clear HA
     simp only [impl_addNames.l0] at H
     by_cases c11 : x18_2 < (l0_3.length : Int)
     rotate_left
     ·
      rw [if_neg c11] at H; replace c11 := decide_eq_false c11; obtain rfl := Option.some.inj H
      go_wp2
      go_ret
      exact ⟨_, Own.rr, Own.rd HO_1.out, Own.bl, by repeat (first | (with_reducible first | exact HK.out | apply Kept.alloc | apply Kept.drewN | apply Kept.drew | refine Kept.setCell ?_ (.inr GW402.out) _) | exact HK.out)⟩
     rw [if_pos c11] at H; replace c11 := decide_eq_true c11
     replace H := Own.ifd H; obtain ⟨c12, H⟩ := H
     replace H := Own.ifd H; obtain ⟨c13, H⟩ := H
     replace H := Own.bd H; obtain ⟨t408, A14, H⟩ := H; have H' := Aside0.mk H; clear H
     have p406 : 0 ≤ (x18_2 : Int) := Own.dp
     have q406 : x18_2 < (l0_3.length : Int) := Own.dp
     obtain ⟨ad406, A406_3, c406_3, e406, hx406_0, hx406_1, hx406_2, hx406_3, hl406_3, hi406_3⟩ := at_T49 (Kd.C_kept_now HR0_3.out HK.out) x18_2 p406 q406
     have HF406_3 := Aside0.mk (kept_T49_3 HR0_3.out HK.out x18_2 p406 q406 e406 hx406_3)
     cases e406; have HR406_3 := Aside0.mk hi406_3; have HC406_3 := Aside0.mk hl406_3; clear hi406_3 hl406_3; replace p406 := eq_true p406; replace q406 := eq_true q406
     go_wp2_with (first | ((with_reducible refine gate_dst (N := 6) rfl ?_); refine Own.be (N := 6) (cs := #[.int .i64 0, .string (⟨#[]⟩ : ByteArray), .int .i64 0, .slice none 0 0]) (t := 49) ?_; intro gb407 hg w15 hbox hb; have BK407 := Aside0.mk hbox; have GW407 := Aside0.mk ((by rw [hg]; exact (by first | exact HK.out.1 | exact (show Kept w _ (fun k_ => P1_ k_) from by repeat (first | (with_reducible first | exact HK.out | apply Kept.alloc | apply Kept.drewN | apply Kept.drew | refine Kept.setCell ?_ (.inr GW402.out) _) | exact HK.out)).1) : w.heap.size ≤ gb407)); have GE407 := Aside0.mk ((by rw [hg]; exact (below_size Own.bl) : w0.heap.size ≤ gb407)); have NB402_407 := Own.nl hg BK402.out; have NB407_402 := Aside0.mk NB402_407.out.symm; replace HO_1 := Aside0.mk (Kd.R_below (Own.rd HO_1.out) hb); replace BK402 := Own.bb BK402.out hb; replace HR406_3 := Aside0.mk (Kd.C_below (by repeat (first | (with_reducible exact HR406_3.out) | (with_reducible refine Kd.C_alloc ?_ _) | (with_reducible refine Kd.C_drewN ?_ _) | (with_reducible refine Kd.C_drew ?_) | exact HR406_3.out)) hb); replace HK := Aside0.mk (Kept.below (S := (fun k_ => P1_ k_)) (by repeat (first | (with_reducible first | exact HK.out | apply Kept.alloc | apply Kept.drewN | apply Kept.drew | refine Kept.setCell ?_ (.inr GW402.out) _) | exact HK.out)) hb); replace HB := Own.bs hb; clear hb hbox hg; have hnb16 := NB407_402.out; have hnc16 := NB402_407.out; obtain ⟨z17_0, z17_1, z17_2, z17_3, y17_0, y17_1, y17_2, y17_3⟩ := Own.box4 BK407.out) | ((with_reducible refine gate_store (t := 49) (p := 6) rfl ?_); refine store_event (t := 49) (p := 6) (v := ?vo_w18) (w1 := ((((w15.setCell ⟨gb407, 0, none⟩ (.int .i64 ((rd_T49 l0_3 x18_2).f0))).setCell ⟨gb407, 1, none⟩ (.string ((rd_T49 l0_3 x18_2).f1))).setCell ⟨gb407, 2, none⟩ (.int .i64 ((rd_T49 l0_3 x18_2).f2))).setCell ⟨gb407, 3, none⟩ (.slice A406_3 ((rd_T49 l0_3 x18_2).f3).length c406_3))) ?hg ?ho ?hn ?hr ?_; (case ho => rfl); (case hg => rfl); (case hn => rfl); (case hr => first | (go_simp; done) | (go_simp; rfl)); intro w18 hw; have n0_ : Aside0 (Kd.R Kd.string 9 w18 w0.heap.size (fun k_ => (P1_ k_ ∨ w.heap.size ≤ k_)) u1 x1_2) := ⟨(by rw [hw]; exact (by (with_reducible repeat (first | apply Kd.R_alloc | apply Kd.R_drewN | apply Kd.R_drew)); exact Kd.R_mono (Kd.R_far (p := ⟨gb407, 3, none⟩) (Kd.R_far (p := ⟨gb407, 2, none⟩) (Kd.R_far (p := ⟨gb407, 1, none⟩) (Kd.R_far (p := ⟨gb407, 0, none⟩) (Kd.R_types HO_1.out BK407.out (by decide)) (fun _ hk => hk.2) (.int .i64 ((rd_T49 l0_3 x18_2).f0))) (fun _ hk => hk.2) (.string ((rd_T49 l0_3 x18_2).f1))) (fun _ hk => hk.2) (.int .i64 ((rd_T49 l0_3 x18_2).f2))) (fun _ hk => hk.2) (.slice A406_3 ((rd_T49 l0_3 x18_2).f3).length c406_3)) (fun _ hk => hk.1)))⟩; have n1_ : Aside0 (w18.heap[gb402]? = some (.cells #[.int .i64 a0_0, .string a0_1, .int .i64 a0_2, .slice (some ad406) l0_3.length c0_3] 49 (0, 0))) := ⟨(by rw [hw]; exact (by (with_reducible repeat (first | refine blk_drewN ?_ _ | refine blk_drew ?_ | refine blk_alloc ?_ _ | refine blk_far ?_ NB402_407.out _)); (with_reducible repeat (first | refine blk_drewN ?_ _ | refine blk_drew ?_ | refine blk_alloc ?_ _)); exact BK402.out))⟩; have n2_ : Aside0 (w18.heap[gb407]? = some (.cells #[.int .i64 ((rd_T49 l0_3 x18_2).f0), .string ((rd_T49 l0_3 x18_2).f1), .int .i64 ((rd_T49 l0_3 x18_2).f2), .slice A406_3 ((rd_T49 l0_3 x18_2).f3).length c406_3] 49 (0, 0))) := ⟨(by rw [hw]; exact (by (with_reducible repeat (first | refine blk_drewN ?_ _ | refine blk_drew ?_ | refine blk_alloc ?_ _)); with_reducible exact Own.put4 BK407.out))⟩; have n3_ : Aside0 (Kept w w18 (fun k_ => P1_ k_)) := ⟨(by rw [hw]; exact (by repeat (first | (with_reducible first | exact HK.out | apply Kept.alloc | apply Kept.drewN | apply Kept.drew | refine Kept.setCell ?_ (.inr GW402.out) _ | refine Kept.setCell ?_ (.inr GW407.out) _) | exact HK.out)))⟩; have n4_ : Aside0 (Below w0.heap.size w0 w18) := ⟨(by rw [hw]; exact Own.bl)⟩; clear hw; clear HO_1; clear BK402; clear BK407; clear HK; clear HB; have HO_1 := n0_; have BK402 := n1_; have BK407 := n2_; have HK := n3_; have HB := n4_; clear n0_ n1_ n2_ n3_ n4_; obtain ⟨z19_0, z19_1, z19_2, z19_3, y19_0, y19_1, y19_2, y19_3⟩ := Own.box4 BK407.out; obtain ⟨Ao20, co20, eo20⟩ := Kd.R_slice HO_1.out; subst eo20) | ((with_reducible refine gate_callee (f := 68) rfl ?_); refine goesL_ (some 24) rfl rfl Tryz.func68 (by kernel_rfl) rfl #[.agg #[.int .i64 ((rd_T49 l0_3 x18_2).f0), .string ((rd_T49 l0_3 x18_2).f1), .int .i64 ((rd_T49 l0_3 x18_2).f2), .slice A406_3 ((rd_T49 l0_3 x18_2).f3).length c406_3], .slice Ao20 x1_2.length co20] rfl Own.ha ?_; (with_reducible refine (ih k2 (by have := HJ2.out; have := HK2.out; omega) ((rd_T49 l0_3 x18_2).f0) ((rd_T49 l0_3 x18_2).f1) ((rd_T49 l0_3 x18_2).f2) _ _ ((rd_T49 l0_3 x18_2).f3) (fun k_ => some k_ = (.slice Ao20 x1_2.length co20 : Value).ownBlock) (.slice Ao20 x1_2.length co20) x1_2 t408 w0 _ ?side1 ?side2 ?side3 ?side4 A14.out).mono ?_); (case side1 => repeat (first | (with_reducible first | exact HB.out | apply below_alloc | apply pw_below_drewN | apply below_drew1 | refine below_set ?_ GE402.out | refine below_set ?_ GE407.out) | exact HB.out)); (case side2 => exact Kd.C_kept_call HF406_3.out (by repeat (first | (with_reducible first | exact HK.out | apply Kept.alloc | apply Kept.drewN | apply Kept.drew | refine Kept.setCell ?_ (.inr GW402.out) _ | refine Kept.setCell ?_ (.inr GW407.out) _) | exact HK.out)) (fun k_ hs_ => (fun e_ => (HO_1.out.1 k_ e_.symm)) hs_)); (case side3 => exact HC406_3.out); (case side4 => exact Kd.R_tight rfl HO_1.out); rintro e w21 ⟨v409, rfl, ho0, hb, hkp⟩; refine ⟨_, rfl, ?_⟩; have HO410 := Aside0.mk (Kd.R_mono (ok' := fun k_ => (P1_ k_ ∨ w.heap.size ≤ k_)) ho0 (fun k_ hk_ => Or.elim hk_ (fun hs_ => (HO_1.out.1 k_ (hs_).symm)) (fun hn_ => (.inr (Nat.le_trans (by first | exact HK.out.1 | exact (show Kept w _ (fun k_ => P1_ k_) from by repeat (first | (with_reducible first | exact HK.out | apply Kept.alloc | apply Kept.drewN | apply Kept.drew | refine Kept.setCell ?_ (.inr GW402.out) _ | refine Kept.setCell ?_ (.inr GW407.out) _) | exact HK.out)).1) hn_))))); replace BK402 := Aside0.mk (blk_kept (by (with_reducible repeat (first | refine blk_drewN ?_ _ | refine blk_drew ?_ | refine blk_alloc ?_ _)); exact BK402.out) hkp (fun hs_ => (fun e_ => (Kd.R_ne HO_1.out BK402.out (by decide)) e_) hs_)); replace BK407 := Aside0.mk (blk_kept (by (with_reducible repeat (first | refine blk_drewN ?_ _ | refine blk_drew ?_ | refine blk_alloc ?_ _)); exact BK407.out) hkp (fun hs_ => (fun e_ => (Kd.R_ne HO_1.out BK407.out (by decide)) e_) hs_)); replace HK := Aside0.mk (Kept.then_ (S := (fun k_ => P1_ k_)) (by repeat (first | (with_reducible first | exact HK.out | apply Kept.alloc | apply Kept.drewN | apply Kept.drew | refine Kept.setCell ?_ (.inr GW402.out) _ | refine Kept.setCell ?_ (.inr GW407.out) _) | exact HK.out)) hkp (fun k_ hs_ => (fun e_ => (HO_1.out.1 k_ e_.symm)) hs_)); replace HB := Aside0.mk hb; clear HO_1; (try clear hb); (try clear hkp); (try clear ho0)))
     go_roundg k2
     case measure => have := HJ2.out; have := HK2.out; omega
     case rel => exact ⟨(t408), (wrap64 (x18_2 + 1)), Own.rs, H', ⟨by have := HJ2.out; have := HK2.out; omega⟩, ⟨Own.rd HO410.out⟩, ⟨Own.bk⟩, ⟨by repeat (first | (with_reducible first | exact HK.out | apply Kept.alloc | apply Kept.drewN | apply Kept.drew | refine Kept.setCell ?_ (.inr GW402.out) _ | refine Kept.setCell ?_ (.inr GW407.out) _) | exact HK.out)⟩, ⟨Own.bl⟩⟩
/-! ### impl_sorted: function 69 -/
def impl_sorted.f (l0 : List ByteArray) : Option (List ByteArray) := Own.sortedF l0
theorem impl_sorted.calls (P0_ : Nat → Prop) (u9000_ : Value) (l0 : List ByteArray) (r : List ByteArray) (w0 w : World) (hB : Below w0.heap.size w0 w) (ho0 : Kd.R Kd.string 9 w w0.heap.size P0_ u9000_ l0) (h : impl_sorted.f l0 = some r) :
  Calls Tryz.prog 69 #[u9000_] w fun e w' => ∃ v0_ : Value, e = .returned (v0_) ∧ Kd.R Kd.string 9 w' w0.heap.size (fun k_ => (P0_ k_ ∨ w.heap.size ≤ k_)) v0_ r ∧ Below w0.heap.size w0 w' ∧ Kept w w' (fun k_ => P0_ k_) :=
 Own.sorted_calls P0_ u9000_ l0 r w0 w hB ho0 h
/-! ### impl_factNames: function 58 -/
def impl_factNames.l0 : Nat → List ByteArray → List (S51) → Int → Int → Option (List ByteArray)
 | 0, _, _, _, _ => none
 | k + 1, x3, x8, x9, x10 => if x10 < x9 then (if 0 ≤ x10 then (if x10 < (x8.length : Int) then (if x3.length < 8796093022208 then ((impl_addNames.f k ((rd_T51 x8 x10).f6.f0) ((rd_T51 x8 x10).f6.f1) ((rd_T51 x8 x10).f6.f2) ((rd_T51 x8 x10).f6.f3) (x3 ++ [(rd_T51 x8 x10).f3])).bind fun t420 => (impl_factNames.l0 k t420 x8 x9 (wrap64 (x10 + 1)))) else (none)) else (none)) else (none)) else ((impl_sorted.f x3).bind fun t423 => (some t423))
def impl_factNames.f (k : Nat) (l0_0 : List ByteArray) (l0_1 : List (S51)) : Option (List ByteArray) := impl_factNames.l0 k (([] : List ByteArray)) l0_1 (l0_1.length : Int) 0
def impl_factNames.T5 : Bool × List (List Nat × List Nat) := (true, [([], []), ([0], [0]), ([], []), ([], []), ([3], [3]), ([4], [4]), ([2, 5], [2, 5]), ([1, 6, 6], [1, 6]), ([7, 7, 0, 1, 2, 3, 4, 5, 6, 7], [2, 7])])
def impl_factNames.B5 : List Nat := [0, 1, 0, 0, 8, 24, 60, 127, 255]
theorem impl_factNames.tab5 : rtab .any (opsOf Tryz.f58 5) = impl_factNames.T5 := by kernel_rfl
theorem impl_factNames.bits5 : waitsOk impl_factNames.T5.2 impl_factNames.B5 = true := by kernel_rfl
set_option maxHeartbeats 8000000 in
set_option maxRecDepth 100000 in
theorem impl_factNames.calls (k : Nat) (A0_0 : Option Addr) (c0_0 : Nat) (l0_0 : List ByteArray) (A0_1 : Option Addr) (c0_1 : Nat) (l0_1 : List (S51)) (r : List ByteArray) (w : World) (hr0_0 : Kd.C Kd.string w A0_0 l0_0.length l0_0) (hc0_0 : l0_0.length ≤ c0_0) (hr0_1 : Kd.C k51 w A0_1 l0_1.length l0_1) (hc0_1 : l0_1.length ≤ c0_1) (h : impl_factNames.f k l0_0 l0_1 = some r) :
  Calls Tryz.prog 58 #[.agg #[.slice A0_0 l0_0.length c0_0, .slice A0_1 l0_1.length c0_1]] w fun e w' => ∃ v0_ : Value, e = .returned (v0_) ∧ Kd.R Kd.string 9 w' w.heap.size (fun _ => True) v0_ r ∧ Below w.heap.size w w' := by
 have hu29 := Tryz.underlying29
 have hu51 := Tryz.underlying51
 have hu49 := Tryz.underlying49
 have HR0_0 := Aside0.mk hr0_0
 have HC0_0 := Aside0.mk hc0_0
 clear hr0_0 hc0_0
 have HR0_1 := Aside0.mk hr0_1
 have HC0_1 := Aside0.mk hc0_1
 clear hr0_1 hc0_1
 have HB := Aside0.mk (Below.refl w.heap.size w)
 have H : (impl_factNames.l0 k (([] : List ByteArray)) l0_1 (l0_1.length : Int) 0) = some r := h
 clear h
 obtain ⟨y412, hy412⟩ : ∃ y_ : List ByteArray, y_ = (([] : List ByteArray)) := ⟨_, rfl⟩
 replace H : (impl_factNames.l0 k y412 l0_1 (l0_1.length : Int) 0) = some r := by first | (rw [hy412]; with_reducible exact H) | (have H2_ := (Option.bind_some _ _).symm.trans H; rw [hy412]; with_reducible exact H2_) | (have H2_ := (Option.bind_some _ _).symm.trans H; with_reducible exact H2_) | with_reducible exact H | (rw [hy412]; exact H) | exact H
 have Ny412 := Aside0.mk hy412
 clear hy412
 have H' := Aside0.mk H
 clear H
 go_enter Tryz.func58, Tryz.ntmps58
 go_wp2_with (first | ((with_reducible refine gate_dst (N := 1) rfl ?_); refine Own.be (N := 1) (cs := #[.slice A0_0 l0_0.length c0_0, .slice A0_1 l0_1.length c0_1]) (t := 29) ?_; intro gb411 hg w2 hbox hb; have BK411 := Aside0.mk hbox; have GW411 := (Own.gs hg : Aside0 (w.heap.size ≤ gb411)); have GE411 := GW411; replace HB := Own.bs hb; clear hb hbox hg) | ((with_reducible refine gate_dst (N := 6) rfl ?_); refine Kd.R_lit Kd.string _ 9 ?hg (N := 6) ?hd (xs := ([] : List ByteArray)) (inner := []) (ok := fun _ => True) (okp := fun _ => True) ?hr ?hp (fun _ hk => hk) trivial (Below.refl _ _) (Nat.le_refl _) (by simp) ?_; (case hd => rfl); (case hg => rfl); (case hr => first | (go_simp; done) | (go_simp; rfl)); (case hp => exact (Reps.none _ _)); intro v413 w3 ho4 hb hg_ hnew_; clear hg_ hnew_; (first | rw [← Ny412.out] at ho4 | (simp only [Int.reduceToNat] at ho4; rw [← Ny412.out] at ho4)); have HO414 := Aside0.mk (Kd.R_lower ho4 (below_size Own.bl)); replace BK411 := Own.bb BK411.out hb; replace HB := Own.bs hb; clear hb ho4; obtain ⟨z5_0, z5_1, y5_0, y5_1⟩ := Own.box2 BK411.out))
 go_loopg [3, 10] k (fun kq v3 v10 w' => ∃ (x3_1 : List ByteArray) (x10_1 : Int), v10 = .int .i64 x10_1 ∧ Aside0 (impl_factNames.l0 kq x3_1 l0_1 (l0_1.length : Int) x10_1 = some r) ∧ Aside0 (kq ≤ k) ∧ Aside0 (Kd.R Kd.string 9 w' w.heap.size (fun _ => True) v3 x3_1) ∧ Aside0 (w'.heap[gb411]? = some (.cells #[(.slice A0_0 l0_0.length c0_0), (.slice A0_1 l0_1.length c0_1)] 29 (0, 0))) ∧ Aside0 (Below w.heap.size w w'))
 case atStart => exact ⟨(y412), (0), Own.rs, H', ⟨Nat.le_refl _⟩, ⟨Own.rd HO414.out⟩, ⟨Own.bk⟩, ⟨Own.bl⟩⟩
 case round =>
  clear H'; try clear z5_0 z5_1 y5_0 y5_1
  obtain ⟨x3_1, x10_1, rfl, HA, HK1, HO_3, BK411, HB⟩ := hrel
  cases gk with
  | zero => exact absurd HA.out (by simp [impl_factNames.l0])
  | succ k1 =>
   have H := HA.out; clear HA
   simp only [impl_factNames.l0] at H
   by_cases c6 : x10_1 < (l0_1.length : Int)
   rotate_left
   ·
    rw [if_neg c6] at H; replace c6 := decide_eq_false c6
    replace H := Own.bd H; obtain ⟨t423, A19, H⟩ := H; obtain rfl := Option.some.inj H; obtain ⟨Ao20, co20, eo20⟩ := Kd.R_slice HO_3.out; subst eo20
    go_wp2_with (first | ((with_reducible refine gate_callee (f := 69) rfl ?_); refine goesL_ (some 24) rfl rfl Tryz.func69 (by kernel_rfl) rfl #[.slice Ao20 x3_1.length co20] rfl Own.ha ?_; (with_reducible refine (impl_sorted.calls (fun k_ => some k_ = (.slice Ao20 x3_1.length co20 : Value).ownBlock) (.slice Ao20 x3_1.length co20) x3_1 t423 w _ ?side1 ?side2 A19.out).mono ?_); (case side1 => repeat (first | (with_reducible first | exact HB.out | apply below_alloc | apply pw_below_drewN | apply below_drew1 | refine below_set ?_ GE411.out) | exact HB.out)); (case side2 => exact Kd.R_tight rfl HO_3.out); rintro e w21 ⟨v424, rfl, ho0, hb, hkp⟩; refine ⟨_, rfl, ?_⟩; have HO425 := Aside0.mk (Kd.R_mono (ok' := fun k_ => True) ho0 (fun k_ hk_ => trivial)); replace BK411 := Aside0.mk (blk_kept (by (with_reducible repeat (first | refine blk_drewN ?_ _ | refine blk_drew ?_ | refine blk_alloc ?_ _)); exact BK411.out) hkp (fun hs_ => (fun e_ => (Kd.R_ne HO_3.out BK411.out (by decide)) e_) hs_)); replace HB := Aside0.mk hb; clear HO_3; (try clear hb); (try clear hkp); (try clear ho0)))
    go_ret
    exact ⟨_, Own.rr, Own.rd HO425.out, Own.bl⟩
   rw [if_pos c6] at H; replace c6 := decide_eq_true c6
   replace H := Own.ifd H; obtain ⟨c7, H⟩ := H
   replace H := Own.ifd H; obtain ⟨c8, H⟩ := H
   replace H := Own.ifn H; obtain ⟨c9, H⟩ := H; have LMc9 := Aside0.mk c9; clear c9
   obtain ⟨y417, hy417⟩ : ∃ y_ : List ByteArray, y_ = (x3_1 ++ [(rd_T51 l0_1 x10_1).f3]) := ⟨_, rfl⟩
   replace H : ((impl_addNames.f k1 ((rd_T51 l0_1 x10_1).f6.f0) ((rd_T51 l0_1 x10_1).f6.f1) ((rd_T51 l0_1 x10_1).f6.f2) ((rd_T51 l0_1 x10_1).f6.f3) y417).bind fun t420 => (impl_factNames.l0 k1 t420 l0_1 (l0_1.length : Int) (wrap64 (x10_1 + 1)))) = some r := by first | (rw [hy417]; with_reducible exact H) | (have H2_ := (Option.bind_some _ _).symm.trans H; rw [hy417]; with_reducible exact H2_) | (have H2_ := (Option.bind_some _ _).symm.trans H; with_reducible exact H2_) | with_reducible exact H | (rw [hy417]; exact H) | exact H
   have Ny417 := Aside0.mk hy417; clear hy417
   replace H := Own.bd H; obtain ⟨t420, A10, H⟩ := H; have H' := Aside0.mk H; clear H
   have p415 : 0 ≤ (x10_1 : Int) := Own.dp
   have q415 : x10_1 < (l0_1.length : Int) := Own.dp
   obtain ⟨ad415, A415_9, c415_9, e415, hx415_0, hx415_1, hx415_2, hx415_3, hx415_4, hx415_5, hx415_6, hx415_7, hx415_8, hx415_9, hx415_10, hx415_11, hl415_9, hi415_9⟩ := at_T51 HR0_1.out x10_1 p415 q415; cases e415; replace hx415_0 := Own.up HB.out hx415_0; replace hx415_1 := Own.up HB.out hx415_1; replace hx415_2 := Own.up HB.out hx415_2; replace hx415_3 := Own.up HB.out hx415_3; replace hx415_4 := Own.up HB.out hx415_4; replace hx415_5 := Own.up HB.out hx415_5; replace hx415_6 := Own.up HB.out hx415_6; replace hx415_7 := Own.up HB.out hx415_7; replace hx415_8 := Own.up HB.out hx415_8; replace hx415_9 := Own.up HB.out hx415_9; replace hx415_10 := Own.up HB.out hx415_10; replace hx415_11 := Own.up HB.out hx415_11; have HR415_9 := Aside0.mk hi415_9; have HC415_9 := Aside0.mk hl415_9; clear hi415_9 hl415_9; replace p415 := eq_true p415; replace q415 := eq_true q415
   try go_wp2_with (first | ((with_reducible refine gate_dst (N := 5) rfl ?_); refine Own.be (N := 5) (cs := #[.string (⟨#[]⟩ : ByteArray), .int .i64 0, .int .i64 0, .string (⟨#[]⟩ : ByteArray), .int .i64 0, .int .i64 0, .int .i64 0, .string (⟨#[]⟩ : ByteArray), .int .i64 0, .slice none 0 0, .int .i64 0, .string (⟨#[]⟩ : ByteArray)]) (t := 51) ?_; intro gb416 hg w11 hbox hb; have BK416 := Aside0.mk hbox; have GW416 := (Own.gs hg : Aside0 (w.heap.size ≤ gb416)); have GE416 := GW416; have NB411_416 := Own.nl hg BK411.out; have NB416_411 := Aside0.mk NB411_416.out.symm; replace HO_3 := Aside0.mk (Kd.R_below (Own.rd HO_3.out) hb); replace BK411 := Own.bb BK411.out hb; replace HB := Own.bs hb; clear hb hbox hg; have hnb12 := NB416_411.out; have hnc12 := NB411_416.out; obtain ⟨z13_0, z13_1, z13_2, z13_3, z13_4, z13_5, z13_6, z13_7, z13_8, z13_9, z13_10, z13_11, y13_0, y13_1, y13_2, y13_3, y13_4, y13_5, y13_6, y13_7, y13_8, y13_9, y13_10, y13_11⟩ := Own.box12 BK416.out))
   have n0_ : Aside0 (Kd.R Kd.string 9 ((((((((((((w11.setCell ⟨gb416, 0, none⟩ (.string ((rd_T51 l0_1 x10_1).f0))).setCell ⟨gb416, 1, none⟩ (.int .i64 ((rd_T51 l0_1 x10_1).f1))).setCell ⟨gb416, 2, none⟩ (.int .i64 ((rd_T51 l0_1 x10_1).f2))).setCell ⟨gb416, 3, none⟩ (.string ((rd_T51 l0_1 x10_1).f3))).setCell ⟨gb416, 4, none⟩ (.int .i64 ((rd_T51 l0_1 x10_1).f4))).setCell ⟨gb416, 5, none⟩ (.int .i64 ((rd_T51 l0_1 x10_1).f5))).setCell ⟨gb416, 6, none⟩ (.int .i64 ((rd_T51 l0_1 x10_1).f6.f0))).setCell ⟨gb416, 7, none⟩ (.string ((rd_T51 l0_1 x10_1).f6.f1))).setCell ⟨gb416, 8, none⟩ (.int .i64 ((rd_T51 l0_1 x10_1).f6.f2))).setCell ⟨gb416, 9, none⟩ (.slice A415_9 ((rd_T51 l0_1 x10_1).f6.f3).length c415_9)).setCell ⟨gb416, 10, none⟩ (.int .i64 ((rd_T51 l0_1 x10_1).f7))).setCell ⟨gb416, 11, none⟩ (.string ((rd_T51 l0_1 x10_1).f8))) w.heap.size (fun _ => True) u3 x3_1) := ⟨by (with_reducible repeat (first | apply Kd.R_alloc | apply Kd.R_drewN | apply Kd.R_drew)); exact Kd.R_mono (Kd.R_far (p := ⟨gb416, 11, none⟩) (Kd.R_far (p := ⟨gb416, 10, none⟩) (Kd.R_far (p := ⟨gb416, 9, none⟩) (Kd.R_far (p := ⟨gb416, 8, none⟩) (Kd.R_far (p := ⟨gb416, 7, none⟩) (Kd.R_far (p := ⟨gb416, 6, none⟩) (Kd.R_far (p := ⟨gb416, 5, none⟩) (Kd.R_far (p := ⟨gb416, 4, none⟩) (Kd.R_far (p := ⟨gb416, 3, none⟩) (Kd.R_far (p := ⟨gb416, 2, none⟩) (Kd.R_far (p := ⟨gb416, 1, none⟩) (Kd.R_far (p := ⟨gb416, 0, none⟩) (Kd.R_types HO_3.out BK416.out (by decide)) (fun _ hk => hk.2) (.string ((rd_T51 l0_1 x10_1).f0))) (fun _ hk => hk.2) (.int .i64 ((rd_T51 l0_1 x10_1).f1))) (fun _ hk => hk.2) (.int .i64 ((rd_T51 l0_1 x10_1).f2))) (fun _ hk => hk.2) (.string ((rd_T51 l0_1 x10_1).f3))) (fun _ hk => hk.2) (.int .i64 ((rd_T51 l0_1 x10_1).f4))) (fun _ hk => hk.2) (.int .i64 ((rd_T51 l0_1 x10_1).f5))) (fun _ hk => hk.2) (.int .i64 ((rd_T51 l0_1 x10_1).f6.f0))) (fun _ hk => hk.2) (.string ((rd_T51 l0_1 x10_1).f6.f1))) (fun _ hk => hk.2) (.int .i64 ((rd_T51 l0_1 x10_1).f6.f2))) (fun _ hk => hk.2) (.slice A415_9 ((rd_T51 l0_1 x10_1).f6.f3).length c415_9)) (fun _ hk => hk.2) (.int .i64 ((rd_T51 l0_1 x10_1).f7))) (fun _ hk => hk.2) (.string ((rd_T51 l0_1 x10_1).f8))) (fun _ hk => trivial)⟩
   have n1_ : Aside0 (((((((((((((w11.setCell ⟨gb416, 0, none⟩ (.string ((rd_T51 l0_1 x10_1).f0))).setCell ⟨gb416, 1, none⟩ (.int .i64 ((rd_T51 l0_1 x10_1).f1))).setCell ⟨gb416, 2, none⟩ (.int .i64 ((rd_T51 l0_1 x10_1).f2))).setCell ⟨gb416, 3, none⟩ (.string ((rd_T51 l0_1 x10_1).f3))).setCell ⟨gb416, 4, none⟩ (.int .i64 ((rd_T51 l0_1 x10_1).f4))).setCell ⟨gb416, 5, none⟩ (.int .i64 ((rd_T51 l0_1 x10_1).f5))).setCell ⟨gb416, 6, none⟩ (.int .i64 ((rd_T51 l0_1 x10_1).f6.f0))).setCell ⟨gb416, 7, none⟩ (.string ((rd_T51 l0_1 x10_1).f6.f1))).setCell ⟨gb416, 8, none⟩ (.int .i64 ((rd_T51 l0_1 x10_1).f6.f2))).setCell ⟨gb416, 9, none⟩ (.slice A415_9 ((rd_T51 l0_1 x10_1).f6.f3).length c415_9)).setCell ⟨gb416, 10, none⟩ (.int .i64 ((rd_T51 l0_1 x10_1).f7))).setCell ⟨gb416, 11, none⟩ (.string ((rd_T51 l0_1 x10_1).f8))).heap[gb411]? = some (.cells #[.slice A0_0 l0_0.length c0_0, .slice (some ad415) l0_1.length c0_1] 29 (0, 0))) := ⟨by (with_reducible repeat (first | refine blk_drewN ?_ _ | refine blk_drew ?_ | refine blk_alloc ?_ _ | refine blk_far ?_ NB411_416.out _)); (with_reducible repeat (first | refine blk_drewN ?_ _ | refine blk_drew ?_ | refine blk_alloc ?_ _)); exact BK411.out⟩
   have n2_ : Aside0 (((((((((((((w11.setCell ⟨gb416, 0, none⟩ (.string ((rd_T51 l0_1 x10_1).f0))).setCell ⟨gb416, 1, none⟩ (.int .i64 ((rd_T51 l0_1 x10_1).f1))).setCell ⟨gb416, 2, none⟩ (.int .i64 ((rd_T51 l0_1 x10_1).f2))).setCell ⟨gb416, 3, none⟩ (.string ((rd_T51 l0_1 x10_1).f3))).setCell ⟨gb416, 4, none⟩ (.int .i64 ((rd_T51 l0_1 x10_1).f4))).setCell ⟨gb416, 5, none⟩ (.int .i64 ((rd_T51 l0_1 x10_1).f5))).setCell ⟨gb416, 6, none⟩ (.int .i64 ((rd_T51 l0_1 x10_1).f6.f0))).setCell ⟨gb416, 7, none⟩ (.string ((rd_T51 l0_1 x10_1).f6.f1))).setCell ⟨gb416, 8, none⟩ (.int .i64 ((rd_T51 l0_1 x10_1).f6.f2))).setCell ⟨gb416, 9, none⟩ (.slice A415_9 ((rd_T51 l0_1 x10_1).f6.f3).length c415_9)).setCell ⟨gb416, 10, none⟩ (.int .i64 ((rd_T51 l0_1 x10_1).f7))).setCell ⟨gb416, 11, none⟩ (.string ((rd_T51 l0_1 x10_1).f8))).heap[gb416]? = some (.cells #[.string ((rd_T51 l0_1 x10_1).f0), .int .i64 ((rd_T51 l0_1 x10_1).f1), .int .i64 ((rd_T51 l0_1 x10_1).f2), .string ((rd_T51 l0_1 x10_1).f3), .int .i64 ((rd_T51 l0_1 x10_1).f4), .int .i64 ((rd_T51 l0_1 x10_1).f5), .int .i64 ((rd_T51 l0_1 x10_1).f6.f0), .string ((rd_T51 l0_1 x10_1).f6.f1), .int .i64 ((rd_T51 l0_1 x10_1).f6.f2), .slice A415_9 ((rd_T51 l0_1 x10_1).f6.f3).length c415_9, .int .i64 ((rd_T51 l0_1 x10_1).f7), .string ((rd_T51 l0_1 x10_1).f8)] 51 (0, 0))) := ⟨by (with_reducible repeat (first | refine blk_drewN ?_ _ | refine blk_drew ?_ | refine blk_alloc ?_ _)); exact Own.put12 BK416.out⟩
   have n3_ : Aside0 (Below w.heap.size w ((((((((((((w11.setCell ⟨gb416, 0, none⟩ (.string ((rd_T51 l0_1 x10_1).f0))).setCell ⟨gb416, 1, none⟩ (.int .i64 ((rd_T51 l0_1 x10_1).f1))).setCell ⟨gb416, 2, none⟩ (.int .i64 ((rd_T51 l0_1 x10_1).f2))).setCell ⟨gb416, 3, none⟩ (.string ((rd_T51 l0_1 x10_1).f3))).setCell ⟨gb416, 4, none⟩ (.int .i64 ((rd_T51 l0_1 x10_1).f4))).setCell ⟨gb416, 5, none⟩ (.int .i64 ((rd_T51 l0_1 x10_1).f5))).setCell ⟨gb416, 6, none⟩ (.int .i64 ((rd_T51 l0_1 x10_1).f6.f0))).setCell ⟨gb416, 7, none⟩ (.string ((rd_T51 l0_1 x10_1).f6.f1))).setCell ⟨gb416, 8, none⟩ (.int .i64 ((rd_T51 l0_1 x10_1).f6.f2))).setCell ⟨gb416, 9, none⟩ (.slice A415_9 ((rd_T51 l0_1 x10_1).f6.f3).length c415_9)).setCell ⟨gb416, 10, none⟩ (.int .i64 ((rd_T51 l0_1 x10_1).f7))).setCell ⟨gb416, 11, none⟩ (.string ((rd_T51 l0_1 x10_1).f8)))) := ⟨Own.bl⟩
   (try clear HO_3)
   (try clear BK411)
   (try clear BK416)
   (try clear HB)
   generalize ((((((((((((w11.setCell ⟨gb416, 0, none⟩ (.string ((rd_T51 l0_1 x10_1).f0))).setCell ⟨gb416, 1, none⟩ (.int .i64 ((rd_T51 l0_1 x10_1).f1))).setCell ⟨gb416, 2, none⟩ (.int .i64 ((rd_T51 l0_1 x10_1).f2))).setCell ⟨gb416, 3, none⟩ (.string ((rd_T51 l0_1 x10_1).f3))).setCell ⟨gb416, 4, none⟩ (.int .i64 ((rd_T51 l0_1 x10_1).f4))).setCell ⟨gb416, 5, none⟩ (.int .i64 ((rd_T51 l0_1 x10_1).f5))).setCell ⟨gb416, 6, none⟩ (.int .i64 ((rd_T51 l0_1 x10_1).f6.f0))).setCell ⟨gb416, 7, none⟩ (.string ((rd_T51 l0_1 x10_1).f6.f1))).setCell ⟨gb416, 8, none⟩ (.int .i64 ((rd_T51 l0_1 x10_1).f6.f2))).setCell ⟨gb416, 9, none⟩ (.slice A415_9 ((rd_T51 l0_1 x10_1).f6.f3).length c415_9)).setCell ⟨gb416, 10, none⟩ (.int .i64 ((rd_T51 l0_1 x10_1).f7))).setCell ⟨gb416, 11, none⟩ (.string ((rd_T51 l0_1 x10_1).f8))) = w14 at n0_ n1_ n2_ n3_ ⊢
   have HO_3 := n0_; have BK411 := n1_; have BK416 := n2_; have HB := n3_; clear n0_ n1_ n2_ n3_
   have n0_ := Aside0.mk (Kd.R_drew HO_3.out)
   have n1_ := Aside0.mk (blk_drew BK411.out)
   have n2_ := Aside0.mk (blk_drew BK416.out)
   have n3_ := Aside0.mk (below_drew1 HB.out)
   clear HO_3; clear BK411; clear BK416; clear HB; have HO_3 := n0_; have BK411 := n1_; have BK416 := n2_; have HB := n3_; clear n0_ n1_ n2_ n3_
   refine start_ (n := 9) (S := fun w' => w'.cell? ⟨gb416, 0, none⟩ = some (.string ((rd_T51 l0_1 x10_1).f0)) ∧ w'.cell? ⟨gb416, 1, none⟩ = some (.int .i64 ((rd_T51 l0_1 x10_1).f1)) ∧ w'.cell? ⟨gb416, 2, none⟩ = some (.int .i64 ((rd_T51 l0_1 x10_1).f2)) ∧ w'.cell? ⟨gb416, 3, none⟩ = some (.string ((rd_T51 l0_1 x10_1).f3)) ∧ w'.cell? ⟨gb416, 4, none⟩ = some (.int .i64 ((rd_T51 l0_1 x10_1).f4)) ∧ w'.cell? ⟨gb416, 5, none⟩ = some (.int .i64 ((rd_T51 l0_1 x10_1).f5)) ∧ w'.cell? ⟨gb416, 6, none⟩ = some (.int .i64 ((rd_T51 l0_1 x10_1).f6.f0)) ∧ w'.cell? ⟨gb416, 7, none⟩ = some (.string ((rd_T51 l0_1 x10_1).f6.f1)) ∧ w'.cell? ⟨gb416, 8, none⟩ = some (.int .i64 ((rd_T51 l0_1 x10_1).f6.f2)) ∧ w'.cell? ⟨gb416, 9, none⟩ = some (.slice A415_9 ((rd_T51 l0_1 x10_1).f6.f3).length c415_9) ∧ w'.cell? ⟨gb416, 10, none⟩ = some (.int .i64 ((rd_T51 l0_1 x10_1).f7)) ∧ w'.cell? ⟨gb416, 11, none⟩ = some (.string ((rd_T51 l0_1 x10_1).f8))) (ds := []) (Own.fl 9 0) (by kernel_rfl) rfl rfl ⟨(blk_cell BK416.out 0).trans rfl, (blk_cell BK416.out 1).trans rfl, (blk_cell BK416.out 2).trans rfl, (blk_cell BK416.out 3).trans rfl, (blk_cell BK416.out 4).trans rfl, (blk_cell BK416.out 5).trans rfl, (blk_cell BK416.out 6).trans rfl, (blk_cell BK416.out 7).trans rfl, (blk_cell BK416.out 8).trans rfl, (blk_cell BK416.out 9).trans rfl, (blk_cell BK416.out 10).trans rfl, (blk_cell BK416.out 11).trans rfl⟩ (fun hHeld => ?_); refine with_tabW impl_factNames.tab5 impl_factNames.bits5 (fun HT_ HW_ => ?_)
   generalize w14.drew = w15 at HO_3 BK411 BK416 HB hHeld ⊢
   refine pure_ (i := 0) (N := some 14) (v := ?_) (a' := ?_) (Own.fl 9 1) rfl rfl (any_of HT_.out (by kernel_rfl)) (fun _ _ _ h => h) (Or.inl ⟨by rfl, ?_⟩) ?_ ?_; rotate_left; intro w'; go_simp; with_reducible rfl; rotate_left; simp only [Own.ps]; rfl
   refine pure_ (i := 2) (N := some 16) (v := ?_) (a' := ?_) (Own.fl 9 5) rfl rfl (any_of HT_.out (by kernel_rfl)) (fun _ _ _ h => h) (Or.inl ⟨by rfl, ?_⟩) ?_ ?_; rotate_left; intro w'; go_simp; with_reducible rfl; rotate_left; simp only [Own.ps]; rfl
   refine pure_ (i := 3) (N := some 17) (v := ?_) (a' := ?_) (Own.fl 9 13) rfl rfl (any_of HT_.out (by kernel_rfl)) (fun _ _ _ h => h) (Or.inl ⟨by rfl, ?_⟩) ?_ ?_; rotate_left; intro w'; go_simp; with_reducible rfl; rotate_left; simp only [Own.ps]; rfl
   refine take_ (i := 1) (N := some 15) (v := ?_) (a' := ?_) (Own.fl 9 15) rfl rfl (take_ofW HT_.out HW_.out (by kernel_rfl)) (fun _ _ _ h => h) (Or.inl ⟨by rfl, ?_⟩) hHeld ?_ ?_; rotate_left; rintro w' ⟨s0, s1, s2, s3, s4, s5, s6, s7, s8, s9, s10, s11⟩; go_simp; with_reducible rfl; rotate_left; simp only [Own.ps]; rfl
   refine take_ (i := 4) (N := some 18) (v := ?_) (a' := ?_) (Own.fl 9 31) rfl rfl (take_ofW HT_.out HW_.out (by kernel_rfl)) (fun _ _ _ h => h) (Or.inl ⟨by rfl, ?_⟩) hHeld ?_ ?_; rotate_left; rintro w' ⟨s0, s1, s2, s3, s4, s5, s6, s7, s8, s9, s10, s11⟩; go_simp; with_reducible rfl; rotate_left; simp only [Own.ps]; rfl
   refine one_ (i := 5) (N := some 19) (Own.fl 9 63) rfl rfl (one_of HT_.out (by kernel_rfl)) (by decide) (fun K hK => ?_)
   refine value_ (w1 := ?_) (v := ?_) (by rfl) rfl ?_ ?_
   rotate_left 2
   ·
    go_simp
    constructor
    ·
     rfl
    ·
     rfl
   refine hK.out _ _ ⟨(blk_cell (blk_alloc BK416.out _) 0).trans rfl, (blk_cell (blk_alloc BK416.out _) 1).trans rfl, (blk_cell (blk_alloc BK416.out _) 2).trans rfl, (blk_cell (blk_alloc BK416.out _) 3).trans rfl, (blk_cell (blk_alloc BK416.out _) 4).trans rfl, (blk_cell (blk_alloc BK416.out _) 5).trans rfl, (blk_cell (blk_alloc BK416.out _) 6).trans rfl, (blk_cell (blk_alloc BK416.out _) 7).trans rfl, (blk_cell (blk_alloc BK416.out _) 8).trans rfl, (blk_cell (blk_alloc BK416.out _) 9).trans rfl, (blk_cell (blk_alloc BK416.out _) 10).trans rfl, (blk_cell (blk_alloc BK416.out _) 11).trans rfl⟩ (fun hHeld => ?_)
   clear hK K; refine norm_ (a' := ?_) ?_ ?_; rotate_left; show Act.put _ (some 19) _ = _; simp only [Own.ps]; rfl
   refine one_ (i := 6) (N := some 20) (Own.fl 9 127) rfl rfl (one_of HT_.out (by kernel_rfl)) (by decide) (fun K hK => ?_)
   refine Kd.R_append_step Kd.string (w0 := w) w.heap.size (by rfl) (.tmp 16) (.tmp 19) 22 9 (.string ⟨#[]⟩) 16 rfl Tryz.underlying22 info9 rfl (by decide) (by omega) u3 x3_1 ((rd_T51 l0_1 x10_1).f3) [.string ((rd_T51 l0_1 x10_1).f3)] (fun _ => True) (fun _ => False) rfl rfl ?aP (fun _ hk => hk.elim) ?aF ?aO ?aB ?aS ?aL ?_
   (case aP => exact rfl)
   (case aB => exact Own.bl)
   (case aF => exact (fun _ _ => trivial))
   (case aO => exact (Own.rd HO_3.out))
   (case aS => exact (below_size Own.bl))
   (case aL => have := LMc9.out; omega)
   intro v418 w16 ho hb hg hat; rw [← Ny417.out] at ho
   have n0_ := Aside0.mk (blk_grown (Own.bkf BK411.out) hg (Kd.R_ne HO_3.out BK411.out (by decide)))
   have n1_ := Aside0.mk (blk_grown (Own.bkf BK416.out) hg (Kd.R_ne HO_3.out BK416.out (by decide)))
   have n2_ := Aside0.mk (hb)
   have n3_ := Aside0.mk (ho)
   clear BK411; clear BK416; clear HB; clear HO_3; have BK411 := n0_; have BK416 := n1_; have HB := n2_; have HO419 := n3_; clear n0_ n1_ n2_ n3_; clear ho hb hg hat; obtain ⟨Ao17, co17, eo17⟩ := Kd.R_slice HO419.out
   (first | subst eo17 | (injection eo17 with f1_ f2_ f3_; have f4_ := f1_.symm; have f5_ := f3_.symm; clear f1_ f2_ f3_; subst f4_; subst f5_))
   refine hK.out _ _ ⟨(blk_cell BK416.out 0).trans rfl, (blk_cell BK416.out 1).trans rfl, (blk_cell BK416.out 2).trans rfl, (blk_cell BK416.out 3).trans rfl, (blk_cell BK416.out 4).trans rfl, (blk_cell BK416.out 5).trans rfl, (blk_cell BK416.out 6).trans rfl, (blk_cell BK416.out 7).trans rfl, (blk_cell BK416.out 8).trans rfl, (blk_cell BK416.out 9).trans rfl, (blk_cell BK416.out 10).trans rfl, (blk_cell BK416.out 11).trans rfl⟩ (fun hHeld => ?_)
   clear hK K; refine norm_ (a' := ?_) ?_ ?_; rotate_left; show Act.put _ (some 20) _ = _; simp only [Own.ps]; rfl
   refine one_ (i := 7) (N := some 21) (Own.fl 9 255) rfl rfl (one_of HT_.out (by kernel_rfl)) (by decide) (fun K hK => ?_)
   refine goes_ Tryz.func68 (by kernel_rfl) rfl #[.agg #[.int .i64 ((rd_T51 l0_1 x10_1).f6.f0), .string ((rd_T51 l0_1 x10_1).f6.f1), .int .i64 ((rd_T51 l0_1 x10_1).f6.f2), .slice A415_9 ((rd_T51 l0_1 x10_1).f6.f3).length c415_9], .slice Ao17 y417.length co17] (by rfl) rfl rfl Own.ha ?_
   with_reducible refine (impl_addNames.calls k1 ((rd_T51 l0_1 x10_1).f6.f0) ((rd_T51 l0_1 x10_1).f6.f1) ((rd_T51 l0_1 x10_1).f6.f2) _ _ ((rd_T51 l0_1 x10_1).f6.f3) (fun k_ => some k_ = (.slice Ao17 y417.length co17 : Value).ownBlock) (.slice Ao17 y417.length co17) y417 t420 w _ ?side1 ?side2 ?side3 ?side4 A10.out).mono ?_
   (case side1 => repeat (first | (with_reducible first | exact HB.out | apply below_alloc | apply pw_below_drewN | apply below_drew1 | refine below_set ?_ GE411.out | refine below_set ?_ GE416.out) | exact HB.out))
   (case side2 => exact Kd.C_kept_came k49_heap HR415_9.out Own.bl (fun k_ hs_ => (fun e_ => Kd.R_base HO419.out k_ e_.symm) hs_))
   (case side3 => exact HC415_9.out)
   (case side4 => exact Kd.R_tight rfl HO419.out)
   rintro e w18 ⟨v421, rfl, ho0, hb, hkp⟩
   refine ⟨_, rfl, ?_⟩
   have n0_ := Aside0.mk (blk_kept (by (with_reducible repeat (first | refine blk_drewN ?_ _ | refine blk_drew ?_ | refine blk_alloc ?_ _)); exact BK411.out) hkp (fun hs_ => (fun e_ => (Kd.R_ne HO419.out BK411.out (by decide)) e_) hs_))
   have n1_ := Aside0.mk (blk_kept (by (with_reducible repeat (first | refine blk_drewN ?_ _ | refine blk_drew ?_ | refine blk_alloc ?_ _)); exact BK416.out) hkp (fun hs_ => (fun e_ => (Kd.R_ne HO419.out BK416.out (by decide)) e_) hs_))
   have n2_ := Aside0.mk (Kd.R_mono (ok' := fun k_ => True) ho0 (fun k_ hk_ => trivial))
   have n3_ := Aside0.mk (hb)
   clear BK411; clear BK416; clear HB; clear HO419; have BK411 := n0_; have BK416 := n1_; have HO422 := n2_; have HB := n3_; clear n0_ n1_ n2_ n3_
   (try clear hb)
   (try clear hkp)
   (try clear ho0)
   refine hK.out _ _ ⟨(blk_cell BK416.out 0).trans rfl, (blk_cell BK416.out 1).trans rfl, (blk_cell BK416.out 2).trans rfl, (blk_cell BK416.out 3).trans rfl, (blk_cell BK416.out 4).trans rfl, (blk_cell BK416.out 5).trans rfl, (blk_cell BK416.out 6).trans rfl, (blk_cell BK416.out 7).trans rfl, (blk_cell BK416.out 8).trans rfl, (blk_cell BK416.out 9).trans rfl, (blk_cell BK416.out 10).trans rfl, (blk_cell BK416.out 11).trans rfl⟩ (fun hHeld => ?_)
   clear hK K; refine norm_ (a' := ?_) ?_ ?_; rotate_left; show Act.put _ (some 21) _ = _; simp only [Own.ps]; rfl
   refine pure_ (i := 8) (N := some 3) (v := ?_) (a' := ?_) (Own.fl 9 511) rfl rfl (any_of HT_.out (by kernel_rfl)) (fun _ _ _ h => h) (Or.inl ⟨by rfl, ?_⟩) ?_ ?_; rotate_left; intro w'; go_simp; with_reducible rfl; rotate_left; simp only [Own.ps]; rfl
   refine done_ (done_of HT_.out (by kernel_rfl)) ?_
   try go_wp2
   go_roundg k1
   case measure => have := HK1.out; omega
   case rel => exact ⟨(t420), (wrap64 (x10_1 + 1)), Own.rs, H', ⟨by have := HK1.out; omega⟩, ⟨Own.rd HO422.out⟩, ⟨Own.bk⟩, ⟨Own.bl⟩⟩
/-! ### impl_IsValidContract: function 37 -/
mutual
def impl_IsValidContract.j0 : Nat → Bool → List ByteArray → List (S51) → Option (Bool)
 | 0, _, _, _ => none
 | k + 1, x14, x427000, x427001 => if x14 = true then (some false) else (impl_IsValidContract.l0 k (x427001.length : Int) 0 x427000 x427001)
def impl_IsValidContract.l0 : Nat → Int → Int → List ByteArray → List (S51) → Option (Bool)
 | 0, _, _, _, _ => none
 | k + 1, x17, x18, x427000, x427001 => if x18 < x17 then ((impl_isClause.f k x427000 x427001 x18).bind fun t429 => (if t429 = true then (impl_IsValidContract.l0 k x17 (wrap64 (x18 + 1)) x427000 x427001) else (some false))) else ((impl_factNames.f k x427000 x427001).bind fun t430 => (some (decide ((t430.length : Int) ≤ 16))))
end
def impl_IsValidContract.f (k : Nat) (l0_0 : List ByteArray) (l0_1 : List (S51)) : Option (Bool) := (impl_areParties.f k l0_0).bind fun t427 => (if t427 = true then ((impl_within.f (l0_1.length : Int) 1 12).bind fun t428 => (impl_IsValidContract.j0 k (!t428) l0_0 l0_1)) else (impl_IsValidContract.j0 k true l0_0 l0_1))
set_option maxHeartbeats 8000000 in
set_option maxRecDepth 100000 in
theorem impl_IsValidContract.calls (k : Nat) (A0_0 : Option Addr) (c0_0 : Nat) (l0_0 : List ByteArray) (A0_1 : Option Addr) (c0_1 : Nat) (l0_1 : List (S51)) (r : Bool) (w : World) (hr0_0 : Kd.C Kd.string w A0_0 l0_0.length l0_0) (hc0_0 : l0_0.length ≤ c0_0) (hr0_1 : Kd.C k51 w A0_1 l0_1.length l0_1) (hc0_1 : l0_1.length ≤ c0_1) (hG : Own.Glob w) (h : impl_IsValidContract.f k l0_0 l0_1 = some r) :
  Calls Tryz.prog 37 #[.agg #[.slice A0_0 l0_0.length c0_0, .slice A0_1 l0_1.length c0_1]] w fun e w' => e = .returned (.bool r) ∧ Below w.heap.size w w' := by
 have hu29 := Tryz.underlying29
 have HR0_0 := Aside0.mk hr0_0
 have HC0_0 := Aside0.mk hc0_0
 clear hr0_0 hc0_0
 have HR0_1 := Aside0.mk hr0_1
 have HC0_1 := Aside0.mk hc0_1
 clear hr0_1 hc0_1
 have HB := Aside0.mk (Below.refl w.heap.size w)
 have HG := Aside0.mk hG
 clear hG
 have H : ((impl_areParties.f k l0_0).bind fun t427 => (if t427 = true then ((impl_within.f (l0_1.length : Int) 1 12).bind fun t428 => (impl_IsValidContract.j0 k (!t428) l0_0 l0_1)) else (impl_IsValidContract.j0 k true l0_0 l0_1))) = some r := h
 clear h
 have HC2 := Aside0.mk H
 clear H
 go_enter Tryz.func37, Tryz.ntmps37
 go_upto_region 1 with (first | ((with_reducible refine gate_dst (N := 1) rfl ?_); (try (refine gate_guard (by rfl) ?_; dsimp only)); refine Own.be (N := 1) (cs := #[.slice A0_0 l0_0.length c0_0, .slice A0_1 l0_1.length c0_1]) (t := 29) ?_; intro gb426 hg w3 hbox hb; have BK426 := Aside0.mk hbox; have GW426 := (Own.gs hg : Aside0 (w.heap.size ≤ gb426)); have GE426 := GW426; replace HB := Own.bs hb; clear hb hbox hg))
 (try simp only [Own.ps])
 go_cut [14] (fun v14 wc => ∃ (kq : Nat) (x14_1 : Bool), v14 = .bool x14_1 ∧ Aside0 (impl_IsValidContract.j0 kq x14_1 l0_0 l0_1 = some r) ∧ Aside0 (kq ≤ k) ∧ Aside0 (wc.heap[gb426]? = some (.cells #[(.slice A0_0 l0_0.length c0_0), (.slice A0_1 l0_1.length c0_1)] 29 (0, 0))) ∧ Aside0 (Below w.heap.size w wc))
 case first =>
  have H := HC2.out; clear HC2
  replace H := Own.bd H; obtain ⟨t427, A4, H⟩ := H
  replace H := Own.ifu H; obtain ⟨rfl, H⟩ | ⟨rfl, H⟩ := H
  ·
   replace H := Own.bd H; obtain ⟨t428, A6, H⟩ := H; have H' := Aside0.mk H; clear H; obtain ⟨z7_0, z7_1, y7_0, y7_1⟩ := Own.box2 BK426.out
   go_wp2_with (first | ((with_reducible refine gate_callee (f := 55) rfl ?_); refine goesL_ (some 6) rfl rfl Tryz.func55 (by kernel_rfl) rfl #[.slice A0_0 l0_0.length c0_0] rfl Own.ha ?_; (with_reducible refine (impl_areParties.calls k _ _ l0_0 true _ ?side1 ?side2 ?side3 A4.out).mono ?_); (case side1 => exact Kd.C_below HR0_0.out Own.bl); (case side2 => exact HC0_0.out); (case side3 => exact Own.gl HG.out); rintro e w8 ⟨rfl, hb⟩; refine ⟨_, rfl, ?_⟩; replace BK426 := Own.bb BK426.out hb; replace HB := Own.bs hb; (try clear hb); obtain ⟨z9_0, z9_1, y9_0, y9_1⟩ := Own.box2 BK426.out) | (go_at_call 56; (with_reducible refine (impl_within.calls (l0_1.length : Int) 1 12 t428 _ A6.out).mono ?_); rintro e w' ⟨rfl, ⟨nd, rfl⟩⟩))
   go_meet
   case rel => exact ⟨_, (!t428), Own.rs, H', ⟨by first | omega | exact Nat.le_refl _⟩, ⟨Own.bk⟩, ⟨Own.bl⟩⟩
  have H' := Aside0.mk H; clear H; obtain ⟨z10_0, z10_1, y10_0, y10_1⟩ := Own.box2 BK426.out
  go_wp2_with (first | ((with_reducible refine gate_callee (f := 55) rfl ?_); refine goesL_ (some 6) rfl rfl Tryz.func55 (by kernel_rfl) rfl #[.slice A0_0 l0_0.length c0_0] rfl Own.ha ?_; (with_reducible refine (impl_areParties.calls k _ _ l0_0 false _ ?side1 ?side2 ?side3 A4.out).mono ?_); (case side1 => exact Kd.C_below HR0_0.out Own.bl); (case side2 => exact HC0_0.out); (case side3 => exact Own.gl HG.out); rintro e w11 ⟨rfl, hb⟩; refine ⟨_, rfl, ?_⟩; replace BK426 := Own.bb BK426.out hb; replace HB := Own.bs hb; (try clear hb)))
  go_meet
  case rel => exact ⟨_, (true), Own.rs, H', ⟨by first | omega | exact Nat.le_refl _⟩, ⟨Own.bk⟩, ⟨Own.bl⟩⟩
 case rest =>
  clear HC2
  skip
  obtain ⟨kq, x14_1, rfl, HA, HJ1, BK426, HB⟩ := hcut
  cases kq with
  | zero => exact absurd HA.out (by simp [impl_IsValidContract.j0])
  | succ kj1 =>
   have H := HA.out; clear HA
   simp only [impl_IsValidContract.j0] at H
   replace H := Own.ifu H; obtain ⟨rfl, H⟩ | ⟨rfl, H⟩ := H
   ·
    obtain rfl := Option.some.inj H
    go_wp2
    go_ret
    exact ⟨Own.rr, Own.bl⟩
   have H' := Aside0.mk H; clear H; obtain ⟨z13_0, z13_1, y13_0, y13_1⟩ := Own.box2 BK426.out
   go_wp2
   go_loopg [18] kj1 (fun kq v18 w' => ∃ (x18_2 : Int), v18 = .int .i64 x18_2 ∧ Aside0 (impl_IsValidContract.l0 kq (l0_1.length : Int) x18_2 l0_0 l0_1 = some r) ∧ Aside0 (kq ≤ kj1) ∧ Aside0 (w'.heap[gb426]? = some (.cells #[(.slice A0_0 l0_0.length c0_0), (.slice A0_1 l0_1.length c0_1)] 29 (0, 0))) ∧ Aside0 (Below w.heap.size w w'))
   case atStart => exact ⟨(0), Own.rs, H', ⟨Nat.le_refl _⟩, ⟨Own.bk⟩, ⟨Own.bl⟩⟩
   case round =>
    clear H'; try clear z13_0 z13_1; try clear y13_0 y13_1
    obtain ⟨x18_2, rfl, HA, HK2, BK426, HB⟩ := hrel
    cases gk with
    | zero => exact absurd HA.out (by simp [impl_IsValidContract.l0])
    | succ k2 =>
     have H := HA.out; clear HA
     simp only [impl_IsValidContract.l0] at H
     by_cases c14 : x18_2 < (l0_1.length : Int)
     rotate_left
     ·
      rw [if_neg c14] at H; replace c14 := decide_eq_false c14
      replace H := Own.bd H; obtain ⟨t430, A21, H⟩ := H; obtain rfl := Option.some.inj H; obtain ⟨z22_0, z22_1, y22_0, y22_1⟩ := Own.box2 BK426.out
      go_wp2_with (first | ((with_reducible refine gate_callee (f := 58) rfl ?_); refine goesL_ (some 27) rfl rfl Tryz.func58 (by kernel_rfl) rfl #[.agg #[.slice A0_0 l0_0.length c0_0, .slice A0_1 l0_1.length c0_1]] rfl Own.ha ?_; (with_reducible refine (impl_factNames.calls k2 _ _ l0_0 _ _ l0_1 t430 _ ?side1 ?side2 ?side3 ?side4 A21.out).mono ?_); (case side1 => exact Kd.C_below HR0_0.out Own.bl); (case side2 => exact HC0_0.out); (case side3 => exact Kd.C_below HR0_1.out Own.bl); (case side4 => exact HC0_1.out); rintro e w23 ⟨v431, rfl, ho0, hb⟩; refine ⟨_, rfl, ?_⟩; have HO432 := Aside0.mk (Kd.R_lower ho0 (below_size Own.bl)); replace BK426 := Own.bb BK426.out hb; replace HB := Own.bs hb; (try clear hb); (try clear ho0); obtain ⟨Ao24, co24, eo24⟩ := Kd.R_slice HO432.out; subst eo24))
      go_ret
      exact ⟨Own.rr, Own.bl⟩
     rw [if_pos c14] at H; replace c14 := decide_eq_true c14
     replace H := Own.bd H; obtain ⟨t429, A15, H⟩ := H
     replace H := Own.ift H; obtain ⟨rfl, H⟩ | ⟨rfl, H⟩ := H
     ·
      obtain rfl := Option.some.inj H; obtain ⟨z19_0, z19_1, y19_0, y19_1⟩ := Own.box2 BK426.out
      go_wp2_with (first | ((with_reducible refine gate_callee (f := 57) rfl ?_); refine goesL_ (some 23) rfl rfl Tryz.func57 (by kernel_rfl) rfl #[.agg #[.slice A0_0 l0_0.length c0_0, .slice A0_1 l0_1.length c0_1], .int .i64 x18_2] rfl Own.ha ?_; (with_reducible refine (impl_isClause.calls k2 _ _ l0_0 _ _ l0_1 x18_2 false _ ?side1 ?side2 ?side3 ?side4 ?side5 A15.out).mono ?_); (case side1 => exact Kd.C_below HR0_0.out Own.bl); (case side2 => exact HC0_0.out); (case side3 => exact Kd.C_below HR0_1.out Own.bl); (case side4 => exact HC0_1.out); (case side5 => exact Own.gl HG.out); rintro e w20 ⟨rfl, hb⟩; refine ⟨_, rfl, ?_⟩; replace BK426 := Own.bb BK426.out hb; replace HB := Own.bs hb; (try clear hb)))
      go_ret
      exact ⟨Own.rr, Own.bl⟩
     have H' := Aside0.mk H; clear H; obtain ⟨z17_0, z17_1, y17_0, y17_1⟩ := Own.box2 BK426.out
     go_wp2_with (first | ((with_reducible refine gate_callee (f := 57) rfl ?_); refine goesL_ (some 23) rfl rfl Tryz.func57 (by kernel_rfl) rfl #[.agg #[.slice A0_0 l0_0.length c0_0, .slice A0_1 l0_1.length c0_1], .int .i64 x18_2] rfl Own.ha ?_; (with_reducible refine (impl_isClause.calls k2 _ _ l0_0 _ _ l0_1 x18_2 true _ ?side1 ?side2 ?side3 ?side4 ?side5 A15.out).mono ?_); (case side1 => exact Kd.C_below HR0_0.out Own.bl); (case side2 => exact HC0_0.out); (case side3 => exact Kd.C_below HR0_1.out Own.bl); (case side4 => exact HC0_1.out); (case side5 => exact Own.gl HG.out); rintro e w18 ⟨rfl, hb⟩; refine ⟨_, rfl, ?_⟩; replace BK426 := Own.bb BK426.out hb; replace HB := Own.bs hb; (try clear hb)))
     go_roundg k2
     case measure => have := HJ1.out; have := HK2.out; omega
     case rel => exact ⟨(wrap64 (x18_2 + 1)), Own.rs, H', ⟨by have := HJ1.out; have := HK2.out; omega⟩, ⟨Own.bk⟩, ⟨Own.bl⟩⟩
end Go.Proofs.YtckopglnblcnoaaGreatDoor.QFnExactRemoveClause
