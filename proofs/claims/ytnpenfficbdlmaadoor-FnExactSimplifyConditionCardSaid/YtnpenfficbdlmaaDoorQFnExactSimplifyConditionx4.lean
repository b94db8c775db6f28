-- Written by a program of this session out of the translation; Lean checks it.
import Derived.Test.YtnpenfficbdlmaaDoorQFnExactSimplifyConditionx0
import Derived.Test.YtnpenfficbdlmaaDoorQFnExactSimplifyConditionx2
import Derived.Test.YtnpenfficbdlmaaDoorQFnExactSimplifyConditionx3
namespace Go.Proofs.YtnpenfficbdlmaaDoor.QFnExactSimplifyCondition
open Go.RowKit Go.Proofs.YtnpenfficbdlmaaDoorW.PrintWords Go.Proofs.YtnpenfficbdlmaaDoorW.PrintLast Go.Proofs.YtnpenfficbdlmaaDoorW.PrintMore
attribute [local go_sem] Instr.field asAgg Own.str_leq Own.str_gtr Own.str_geq
attribute [local go_sem] max2_int min2_int max_two min_two max_three min_three max_four min_four   -- for this text's walks alone
set_option linter.unusedVariables false
set_option linter.unusedSimpArgs false

/-! ### spec_l5Pair: function 33 -/
mutual
def spec_l5Pair.j0 : Nat → Int → Bool → Bool → Int → ByteArray → Int → List (S28) → Int → ByteArray → Int → List (S28) → Option (Int × ByteArray × Int × (List (S28)))
 | 0, _, _, _, _, _, _, _, _, _, _, _ => none
 | k + 1, x0, x7, x10, x129000, x129001, x129002, x129003, x130000, x130001, x130002, x130003 => if x10 = true then (some (x130000, x130001, x130002, x130003)) else (if x130000 = 1 then (spec_l5Pair.j1 k x0 x7 x7 x129000 x129001 x129002 x129003 x130000 x130001 x130002 x130003) else (spec_l5Pair.j1 k x0 x7 false x129000 x129001 x129002 x129003 x130000 x130001 x130002 x130003))
def spec_l5Pair.j1 : Nat → Int → Bool → Bool → Int → ByteArray → Int → List (S28) → Int → ByteArray → Int → List (S28) → Option (Int × ByteArray × Int × (List (S28)))
 | 0, _, _, _, _, _, _, _, _, _, _, _ => none
 | k + 1, x0, x7, x18, x129000, x129001, x129002, x129003, x130000, x130001, x130002, x130003 => if x18 = true then (some (x129000, x129001, x129002, x129003)) else ((spec_l5Never.f x129000 x129001 x129002 x129003).bind fun t131 => (if t131 = true then (spec_l5Pair.j2 k x0 x7 x7 x129000 x129001 x129002 x129003 x130000 x130001 x130002 x130003) else (spec_l5Pair.j2 k x0 x7 false x129000 x129001 x129002 x129003 x130000 x130001 x130002 x130003)))
def spec_l5Pair.j2 : Nat → Int → Bool → Bool → Int → ByteArray → Int → List (S28) → Int → ByteArray → Int → List (S28) → Option (Int × ByteArray × Int × (List (S28)))
 | 0, _, _, _, _, _, _, _, _, _, _, _ => none
 | k + 1, x0, x7, x26, x129000, x129001, x129002, x129003, x130000, x130001, x130002, x130003 => if x26 = true then (some (x129000, x129001, x129002, x129003)) else ((spec_l5Never.f x130000 x130001 x130002 x130003).bind fun t132 => (if t132 = true then (spec_l5Pair.j3 k x0 x7 x7 x129000 x129001 x129002 x129003 x130000 x130001 x130002 x130003) else (spec_l5Pair.j3 k x0 x7 false x129000 x129001 x129002 x129003 x130000 x130001 x130002 x130003)))
def spec_l5Pair.j3 : Nat → Int → Bool → Bool → Int → ByteArray → Int → List (S28) → Int → ByteArray → Int → List (S28) → Option (Int × ByteArray × Int × (List (S28)))
 | 0, _, _, _, _, _, _, _, _, _, _, _ => none
 | k + 1, x0, x7, x33, x129000, x129001, x129002, x129003, x130000, x130001, x130002, x130003 => if x33 = true then (some (x130000, x130001, x130002, x130003)) else (if x129000 = 1 then (some (x129000, x129001, x129002, x129003)) else (if x130000 = 1 then (spec_l5Pair.j4 k x0 (!x7) x129000 x129001 x129002 x129003 x130000 x130001 x130002 x130003) else (spec_l5Pair.j4 k x0 false x129000 x129001 x129002 x129003 x130000 x130001 x130002 x130003)))
def spec_l5Pair.j4 : Nat → Int → Bool → Int → ByteArray → Int → List (S28) → Int → ByteArray → Int → List (S28) → Option (Int × ByteArray × Int × (List (S28)))
 | 0, _, _, _, _, _, _, _, _, _, _ => none
 | k + 1, x0, x45, x129000, x129001, x129002, x129003, x130000, x130001, x130002, x130003 => if x45 = true then (some (x130000, x130001, x130002, x130003)) else ((spec_l5Never.f x129000 x129001 x129002 x129003).bind fun t133 => (if t133 = true then (some (x130000, x130001, x130002, x130003)) else ((spec_l5Never.f x130000 x130001 x130002 x130003).bind fun t134 => (if t134 = true then (some (x129000, x129001, x129002, x129003)) else ((spec_l5Same.f k x129000 x129001 x129002 x129003 x130000 x130001 x130002 x130003).bind fun t135 => (if t135 = true then (some (x129000, x129001, x129002, x129003)) else (some (x0, (⟨#[]⟩ : ByteArray), 0, (([(⟨x129000, x129001, x129002, x129003⟩ : S28), (⟨x130000, x130001, x130002, x130003⟩ : S28)] : List (S28)))))))))))
end
def spec_l5Pair.f (k : Nat) (a0 : Int) (a1_0 : Int) (a1_1 : ByteArray) (a1_2 : Int) (l1_3 : List (S28)) (a2_0 : Int) (a2_1 : ByteArray) (a2_2 : Int) (l2_3 : List (S28)) : Option (Int × ByteArray × Int × (List (S28))) := if a1_0 = 1 then (spec_l5Pair.j0 k a0 (a0 == 5) (a0 == 5) a1_0 a1_1 a1_2 l1_3 a2_0 a2_1 a2_2 l2_3) else (spec_l5Pair.j0 k a0 (a0 == 5) false a1_0 a1_1 a1_2 l1_3 a2_0 a2_1 a2_2 l2_3)
theorem spec_l5Pair.mono_l : ∀ k, (∀ y0 y1 y2 y3 y4 y5 y6 y7 y8 y9 y10, LeO (spec_l5Pair.j0 k y0 y1 y2 y3 y4 y5 y6 y7 y8 y9 y10) (spec_l5Pair.j0 (k + 1) y0 y1 y2 y3 y4 y5 y6 y7 y8 y9 y10)) ∧ (∀ y0 y1 y2 y3 y4 y5 y6 y7 y8 y9 y10, LeO (spec_l5Pair.j1 k y0 y1 y2 y3 y4 y5 y6 y7 y8 y9 y10) (spec_l5Pair.j1 (k + 1) y0 y1 y2 y3 y4 y5 y6 y7 y8 y9 y10)) ∧ (∀ y0 y1 y2 y3 y4 y5 y6 y7 y8 y9 y10, LeO (spec_l5Pair.j2 k y0 y1 y2 y3 y4 y5 y6 y7 y8 y9 y10) (spec_l5Pair.j2 (k + 1) y0 y1 y2 y3 y4 y5 y6 y7 y8 y9 y10)) ∧ (∀ y0 y1 y2 y3 y4 y5 y6 y7 y8 y9 y10, LeO (spec_l5Pair.j3 k y0 y1 y2 y3 y4 y5 y6 y7 y8 y9 y10) (spec_l5Pair.j3 (k + 1) y0 y1 y2 y3 y4 y5 y6 y7 y8 y9 y10)) ∧ (∀ y0 y1 y2 y3 y4 y5 y6 y7 y8 y9, LeO (spec_l5Pair.j4 k y0 y1 y2 y3 y4 y5 y6 y7 y8 y9) (spec_l5Pair.j4 (k + 1) y0 y1 y2 y3 y4 y5 y6 y7 y8 y9))
 | 0 => ⟨fun _ _ _ _ _ _ _ _ _ _ _ r h => by simp [spec_l5Pair.j0] at h, fun _ _ _ _ _ _ _ _ _ _ _ r h => by simp [spec_l5Pair.j1] at h, fun _ _ _ _ _ _ _ _ _ _ _ r h => by simp [spec_l5Pair.j2] at h, fun _ _ _ _ _ _ _ _ _ _ _ r h => by simp [spec_l5Pair.j3] at h, fun _ _ _ _ _ _ _ _ _ _ r h => by simp [spec_l5Pair.j4] at h⟩
 | k + 1 => by
  obtain ⟨ih0, ih1, ih2, ih3, ih4⟩ := spec_l5Pair.mono_l k
  refine ⟨?_, ?_, ?_, ?_, ?_⟩
  ·
   intro y0 y1 y2 y3 y4 y5 y6 y7 y8 y9 y10
   unfold spec_l5Pair.j0
   repeat' first
   | (with_reducible first | exact ih0 _ _ _ _ _ _ _ _ _ _ _ | exact ih1 _ _ _ _ _ _ _ _ _ _ _ | exact ih2 _ _ _ _ _ _ _ _ _ _ _ | exact ih3 _ _ _ _ _ _ _ _ _ _ _ | exact ih4 _ _ _ _ _ _ _ _ _ _ | exact spec_l5Same.mono _ _ _ _ _ _ _ _ _ | exact LeO.refl _ | exact LeO.none _ | refine LeO.ite ?_ ?_ | refine LeO.bind ?_ (fun _ => ?_))
  ·
   intro y0 y1 y2 y3 y4 y5 y6 y7 y8 y9 y10
   unfold spec_l5Pair.j1
   repeat' first
   | (with_reducible first | exact ih0 _ _ _ _ _ _ _ _ _ _ _ | exact ih1 _ _ _ _ _ _ _ _ _ _ _ | exact ih2 _ _ _ _ _ _ _ _ _ _ _ | exact ih3 _ _ _ _ _ _ _ _ _ _ _ | exact ih4 _ _ _ _ _ _ _ _ _ _ | exact spec_l5Same.mono _ _ _ _ _ _ _ _ _ | exact LeO.refl _ | exact LeO.none _ | refine LeO.ite ?_ ?_ | refine LeO.bind ?_ (fun _ => ?_))
  ·
   intro y0 y1 y2 y3 y4 y5 y6 y7 y8 y9 y10
   unfold spec_l5Pair.j2
   repeat' first
   | (with_reducible first | exact ih0 _ _ _ _ _ _ _ _ _ _ _ | exact ih1 _ _ _ _ _ _ _ _ _ _ _ | exact ih2 _ _ _ _ _ _ _ _ _ _ _ | exact ih3 _ _ _ _ _ _ _ _ _ _ _ | exact ih4 _ _ _ _ _ _ _ _ _ _ | exact spec_l5Same.mono _ _ _ _ _ _ _ _ _ | exact LeO.refl _ | exact LeO.none _ | refine LeO.ite ?_ ?_ | refine LeO.bind ?_ (fun _ => ?_))
  ·
   intro y0 y1 y2 y3 y4 y5 y6 y7 y8 y9 y10
   unfold spec_l5Pair.j3
   repeat' first
   | (with_reducible first | exact ih0 _ _ _ _ _ _ _ _ _ _ _ | exact ih1 _ _ _ _ _ _ _ _ _ _ _ | exact ih2 _ _ _ _ _ _ _ _ _ _ _ | exact ih3 _ _ _ _ _ _ _ _ _ _ _ | exact ih4 _ _ _ _ _ _ _ _ _ _ | exact spec_l5Same.mono _ _ _ _ _ _ _ _ _ | exact LeO.refl _ | exact LeO.none _ | refine LeO.ite ?_ ?_ | refine LeO.bind ?_ (fun _ => ?_))
  ·
   intro y0 y1 y2 y3 y4 y5 y6 y7 y8 y9
   unfold spec_l5Pair.j4
   repeat' first
   | (with_reducible first | exact ih0 _ _ _ _ _ _ _ _ _ _ _ | exact ih1 _ _ _ _ _ _ _ _ _ _ _ | exact ih2 _ _ _ _ _ _ _ _ _ _ _ | exact ih3 _ _ _ _ _ _ _ _ _ _ _ | exact ih4 _ _ _ _ _ _ _ _ _ _ | exact spec_l5Same.mono _ _ _ _ _ _ _ _ _ | exact LeO.refl _ | exact LeO.none _ | refine LeO.ite ?_ ?_ | refine LeO.bind ?_ (fun _ => ?_))
theorem spec_l5Pair.mono : ∀ a0 a1 a2 a3 a4 a5 a6 a7 a8 k, LeO (spec_l5Pair.f k a0 a1 a2 a3 a4 a5 a6 a7 a8) (spec_l5Pair.f (k + 1) a0 a1 a2 a3 a4 a5 a6 a7 a8) := by
 intro a0 a1 a2 a3 a4 a5 a6 a7 a8 k
 obtain ⟨ih0, ih1, ih2, ih3, ih4⟩ := spec_l5Pair.mono_l k
 unfold spec_l5Pair.f
 repeat' first
   | (with_reducible first | exact ih0 _ _ _ _ _ _ _ _ _ _ _ | exact ih1 _ _ _ _ _ _ _ _ _ _ _ | exact ih2 _ _ _ _ _ _ _ _ _ _ _ | exact ih3 _ _ _ _ _ _ _ _ _ _ _ | exact ih4 _ _ _ _ _ _ _ _ _ _ | exact spec_l5Same.mono _ _ _ _ _ _ _ _ _ | exact LeO.refl _ | exact LeO.none _ | refine LeO.ite ?_ ?_ | refine LeO.bind ?_ (fun _ => ?_))
set_option maxHeartbeats 8000000 in
set_option maxRecDepth 100000 in
theorem spec_l5Pair.calls (k : Nat) (a0 : Int) (a1_0 : Int) (a1_1 : ByteArray) (a1_2 : Int) (P1_3_ : Nat → Prop) (A1_3 : Option Addr) (c1_3 : Nat) (l1_3 : List (S28)) (a2_0 : Int) (a2_1 : ByteArray) (a2_2 : Int) (P2_3_ : Nat → Prop) (A2_3 : Option Addr) (c2_3 : Nat) (l2_3 : List (S28)) (r1 : Int) (r2 : ByteArray) (r3 : Int) (r4 : List (S28)) (w : World) (hs1_3 : Kd.V k28 28 w w.heap.size (fun k_ => P1_3_ k_) (.slice A1_3 l1_3.length c1_3) l1_3) (hs2_3 : Kd.V k28 28 w w.heap.size (fun k_ => P2_3_ k_) (.slice A2_3 l2_3.length c2_3) l2_3) (h : spec_l5Pair.f k a0 a1_0 a1_1 a1_2 l1_3 a2_0 a2_1 a2_2 l2_3 = some (r1, r2, r3, r4)) :
  Calls Tryd.prog 33 #[.int .i64 a0, .agg #[.int .i64 a1_0, .string a1_1, .int .i64 a1_2, .slice A1_3 l1_3.length c1_3], .agg #[.int .i64 a2_0, .string a2_1, .int .i64 a2_2, .slice A2_3 l2_3.length c2_3]] w fun e w' => ∃ v3_ : Value, e = .returned (.agg #[.int .i64 r1, .string r2, .int .i64 r3, v3_]) ∧ Kd.V k28 28 w' w.heap.size (fun k_ => ((P1_3_ k_ ∨ P2_3_ k_) ∨ w.heap.size ≤ k_)) v3_ r4 ∧ Below w.heap.size w w' := by
 have hu28 := Tryd.underlying28
 have HO1_3 := Aside0.mk (show Kd.V k28 28 w w.heap.size (fun k_ => ((P1_3_ k_ ∨ P2_3_ k_) ∨ w.heap.size ≤ k_)) (.slice A1_3 l1_3.length c1_3) l1_3 from Kd.V_mono hs1_3 (fun k_ hk => .inl (.inl hk)))
 have HO2_3 := Aside0.mk (show Kd.V k28 28 w w.heap.size (fun k_ => ((P1_3_ k_ ∨ P2_3_ k_) ∨ w.heap.size ≤ k_)) (.slice A2_3 l2_3.length c2_3) l2_3 from Kd.V_mono hs2_3 (fun k_ hk => .inl (.inr hk)))
 have HB := Aside0.mk (Below.refl w.heap.size w)
 have H : (if a1_0 = 1 then (spec_l5Pair.j0 k a0 (a0 == 5) (a0 == 5) a1_0 a1_1 a1_2 l1_3 a2_0 a2_1 a2_2 l2_3) else (spec_l5Pair.j0 k a0 (a0 == 5) false a1_0 a1_1 a1_2 l1_3 a2_0 a2_1 a2_2 l2_3)) = some (r1, r2, r3, r4) := h
 clear h
 have HC4 := Aside0.mk H
 clear H
 go_enter Tryd.func33, Tryd.ntmps33
 go_upto_region 2 with (first | ((with_reducible refine gate_dst (N := 4) rfl ?_); refine Own.be (N := 4) (cs := #[.int .i64 a1_0, .string a1_1, .int .i64 a1_2, .slice A1_3 l1_3.length c1_3]) (t := 28) ?_; intro gb128 hg w5 hbox hb; have BK128 := Aside0.mk hbox; have GW128 := (Own.gs hg : Aside0 (w.heap.size ≤ gb128)); have GE128 := GW128; replace HO1_3 := Aside0.mk (Kd.V_below (Kd.V_elderB (by (with_reducible repeat (first | apply Kd.V_alloc | apply Kd.V_drewN | apply Kd.V_drew)); exact HO1_3.out) gb128 (Nat.le_of_eq hg.symm)) hb); replace HO2_3 := Aside0.mk (Kd.V_below (Kd.V_elderB (by (with_reducible repeat (first | apply Kd.V_alloc | apply Kd.V_drewN | apply Kd.V_drew)); exact HO2_3.out) gb128 (Nat.le_of_eq hg.symm)) hb); replace HB := Own.bs hb; clear hb hbox hg) | ((with_reducible refine gate_dst (N := 5) rfl ?_); refine Own.be (N := 5) (cs := #[.int .i64 a2_0, .string a2_1, .int .i64 a2_2, .slice A2_3 l2_3.length c2_3]) (t := 28) ?_; intro gb129 hg w6 hbox hb; have BK129 := Aside0.mk hbox; have GW129 := (Own.gs hg : Aside0 (w.heap.size ≤ gb129)); have GE129 := GW129; have NB128_129 := Own.nl hg BK128.out; have NB129_128 := Aside0.mk NB128_129.out.symm; replace HO1_3 := Aside0.mk (Kd.V_below (Kd.V_elderB (by (with_reducible repeat (first | apply Kd.V_alloc | apply Kd.V_drewN | apply Kd.V_drew)); exact HO1_3.out) gb129 (Nat.le_of_eq hg.symm)) hb); replace HO2_3 := Aside0.mk (Kd.V_below (Kd.V_elderB (by (with_reducible repeat (first | apply Kd.V_alloc | apply Kd.V_drewN | apply Kd.V_drew)); exact HO2_3.out) gb129 (Nat.le_of_eq hg.symm)) hb); replace BK128 := Own.bb BK128.out hb; replace HB := Own.bs hb; clear hb hbox hg) | ((with_reducible refine gate_dst (N := 6) rfl ?_); refine Own.be (N := 6) (cs := #[.int .i64 0, .string (⟨#[]⟩ : ByteArray), .int .i64 0, .slice none 0 0]) (t := 28) ?_; intro gb130 hg w7 hbox hb; have BK130 := Aside0.mk hbox; have GW130 := (Own.gs hg : Aside0 (w.heap.size ≤ gb130)); have GE130 := GW130; have NB128_130 := Own.nl hg BK128.out; have NB130_128 := Aside0.mk NB128_130.out.symm; have NB129_130 := Own.nl hg BK129.out; have NB130_129 := Aside0.mk NB129_130.out.symm; replace HO1_3 := Aside0.mk (Kd.V_below (Kd.V_elderB (by (with_reducible repeat (first | apply Kd.V_alloc | apply Kd.V_drewN | apply Kd.V_drew)); exact HO1_3.out) gb130 (Nat.le_of_eq hg.symm)) hb); replace HO2_3 := Aside0.mk (Kd.V_below (Kd.V_elderB (by (with_reducible repeat (first | apply Kd.V_alloc | apply Kd.V_drewN | apply Kd.V_drew)); exact HO2_3.out) gb130 (Nat.le_of_eq hg.symm)) hb); replace BK128 := Own.bb BK128.out hb; replace BK129 := Own.bb BK129.out hb; replace HB := Own.bs hb; clear hb hbox hg))
 (try simp only [Own.ps])
 go_cut [10] (fun v10 wc => ∃ (kq : Nat) (x10_3 : Bool), v10 = .bool x10_3 ∧ Aside0 (spec_l5Pair.j0 kq a0 (a0 == 5) x10_3 a1_0 a1_1 a1_2 l1_3 a2_0 a2_1 a2_2 l2_3 = some (r1, r2, r3, r4)) ∧ Aside0 (kq ≤ k) ∧ Aside0 (Kd.V k28 28 wc w.heap.size (fun k_ => ((P1_3_ k_ ∨ P2_3_ k_) ∨ w.heap.size ≤ k_) ∧ k_ ≠ gb128 ∧ k_ ≠ gb129 ∧ k_ ≠ gb130) (.slice A1_3 l1_3.length c1_3) l1_3) ∧ Aside0 (Kd.V k28 28 wc w.heap.size (fun k_ => ((P1_3_ k_ ∨ P2_3_ k_) ∨ w.heap.size ≤ k_) ∧ k_ ≠ gb128 ∧ k_ ≠ gb129 ∧ k_ ≠ gb130) (.slice A2_3 l2_3.length c2_3) l2_3) ∧ Aside0 (wc.heap[gb128]? = some (.cells #[.int .i64 a1_0, .string a1_1, .int .i64 a1_2, (.slice A1_3 l1_3.length c1_3)] 28 (0, 0))) ∧ Aside0 (wc.heap[gb129]? = some (.cells #[.int .i64 a2_0, .string a2_1, .int .i64 a2_2, (.slice A2_3 l2_3.length c2_3)] 28 (0, 0))) ∧ Aside0 (wc.heap[gb130]? = some (.cells #[.int .i64 0, .string (⟨#[]⟩ : ByteArray), .int .i64 0, (.slice none 0 0)] 28 (0, 0))) ∧ Aside0 (Below w.heap.size w wc))
 case first =>
  have H := HC4.out
  clear HC4
  by_cases c8 : a1_0 = 1
  rotate_left
  ·
   rw [if_neg c8] at H
   have c8b0 : (a1_0 == 1) = false := beq_eq_false_iff_ne.mpr c8
   have c8b1 : (a1_0 != 1) = true := bne_iff_ne.mpr c8
   (first | rw [c8b0] | (simp only [i64_w, i32_w]; rw [c8b0]) | skip)
   have H' := Aside0.mk H
   clear H
   have hnb12 := NB128_129.out
   have hnc12 := NB129_128.out
   have hnb13 := NB128_130.out
   have hnc13 := NB130_128.out
   obtain ⟨z14_0, z14_1, z14_2, z14_3, y14_0, y14_1, y14_2, y14_3⟩ := Own.box4 BK128.out
   go_wp2
   go_meet
   case rel => exact ⟨_, (false), Own.rs, H', ⟨by first | omega | exact Nat.le_refl _⟩, ⟨by (with_reducible repeat (first | apply Kd.V_alloc | apply Kd.V_drewN | apply Kd.V_drew)); exact Kd.V_mono HO1_3.out (fun _ hk => ⟨hk.1.1.1, ⟨hk.1.1.2, ⟨hk.1.2, hk.2⟩⟩⟩)⟩, ⟨by (with_reducible repeat (first | apply Kd.V_alloc | apply Kd.V_drewN | apply Kd.V_drew)); exact Kd.V_mono HO2_3.out (fun _ hk => ⟨hk.1.1.1, ⟨hk.1.1.2, ⟨hk.1.2, hk.2⟩⟩⟩)⟩, ⟨Own.bk⟩, ⟨Own.bk⟩, ⟨Own.bk⟩, ⟨Own.bl⟩⟩
  rw [if_pos c8] at H
  have c8b0 : (a1_0 == 1) = true := beq_iff_eq.mpr c8
  have c8b1 : (a1_0 != 1) = false := bne_eq_false_iff_eq.mpr c8
  clear c8
  (first | rw [c8b0] | (simp only [i64_w, i32_w]; rw [c8b0]) | skip)
  have H' := Aside0.mk H
  clear H
  have hnb9 := NB128_129.out
  have hnc9 := NB129_128.out
  have hnb10 := NB128_130.out
  have hnc10 := NB130_128.out
  obtain ⟨z11_0, z11_1, z11_2, z11_3, y11_0, y11_1, y11_2, y11_3⟩ := Own.box4 BK128.out
  go_wp2
  go_meet
  case rel => exact ⟨_, ((a0 == 5)), Own.rs, H', ⟨by first | omega | exact Nat.le_refl _⟩, ⟨by (with_reducible repeat (first | apply Kd.V_alloc | apply Kd.V_drewN | apply Kd.V_drew)); exact Kd.V_mono HO1_3.out (fun _ hk => ⟨hk.1.1.1, ⟨hk.1.1.2, ⟨hk.1.2, hk.2⟩⟩⟩)⟩, ⟨by (with_reducible repeat (first | apply Kd.V_alloc | apply Kd.V_drewN | apply Kd.V_drew)); exact Kd.V_mono HO2_3.out (fun _ hk => ⟨hk.1.1.1, ⟨hk.1.1.2, ⟨hk.1.2, hk.2⟩⟩⟩)⟩, ⟨Own.bk⟩, ⟨Own.bk⟩, ⟨Own.bk⟩, ⟨Own.bl⟩⟩
 case rest =>
  clear HC4
  try clear c1; try clear c2; try clear p2; try clear c3; try clear c8; try clear c8b0; try clear c8b1; try clear c9; try clear c10; try clear c12; try clear c13; try clear z11_0 z11_1 z11_2 z11_3; try clear z14_0 z14_1 z14_2 z14_3; try clear y11_0 y11_1 y11_2 y11_3; try clear y14_0 y14_1 y14_2 y14_3
  obtain ⟨kq, x10_3, rfl, HA, HJ3, HO_129003, HO_130003, BK128, BK129, BK130, HB⟩ := hcut
  cases kq with
  | zero => exact absurd HA.out (by simp [spec_l5Pair.j0])
  | succ kj3 =>
   have H := HA.out
   clear HA
   simp only [spec_l5Pair.j0] at H
   replace H := Own.ifu H; obtain ⟨rfl, H⟩ | ⟨rfl, H⟩ := H
   ·
    simp only [Option.some.injEq, Prod.mk.injEq] at H
    obtain ⟨rfl, rfl, rfl, rfl⟩ := H
    have hnb16 := NB129_128.out
    have hnc16 := NB128_129.out
    have hnb17 := NB129_130.out
    have hnc17 := NB130_129.out
    obtain ⟨z18_0, z18_1, z18_2, z18_3, y18_0, y18_1, y18_2, y18_3⟩ := Own.box4 BK129.out
    have hnb19 := NB130_128.out
    have hnc19 := NB128_130.out
    obtain ⟨z20_0, z20_1, z20_2, z20_3, y20_0, y20_1, y20_2, y20_3⟩ := Own.box4 BK130.out
    go_wp2
    refine bodyPost_ret (results_cell_row rfl _ _ gb130 28 #[.int .i64 a2_0, .string a2_1, .int .i64 a2_2, .slice A2_3 l2_3.length c2_3] (0, 0) _ rfl (by (with_reducible repeat (first | refine blk_drewN ?_ _ | refine blk_drew ?_ | refine blk_alloc ?_ _)); with_reducible exact Own.put4 BK130.out) Tryd.underlying28 rfl (by kernel_rfl)) rfl ?_
    exact ⟨_, Own.rr, by (with_reducible repeat (first | apply Kd.V_alloc | apply Kd.V_drewN | apply Kd.V_drew)); exact Kd.V_mono (Kd.V_far (p := ⟨gb130, 3, none⟩) (Kd.V_far (p := ⟨gb130, 2, none⟩) (Kd.V_far (p := ⟨gb130, 1, none⟩) (Kd.V_far (p := ⟨gb130, 0, none⟩) (Kd.V_mono HO_130003.out (fun k_ hk => (⟨hk, hk.2.2.2⟩ : _ ∧ k_ ≠ gb130))) (fun _ hk => hk.2) (.int .i64 a2_0)) (fun _ hk => hk.2) (.string a2_1)) (fun _ hk => hk.2) (.int .i64 a2_2)) (fun _ hk => hk.2) (.slice A2_3 l2_3.length c2_3)) (fun _ hk => hk.1.1), Own.bl⟩
   have HC21 := Aside0.mk H
   clear H
   go_upto_region 4 with (fail)
   go_cut [18] (fun v18 wc => ∃ (kq : Nat) (x18_20 : Bool), v18 = .bool x18_20 ∧ Aside0 (spec_l5Pair.j1 kq a0 (a0 == 5) x18_20 a1_0 a1_1 a1_2 l1_3 a2_0 a2_1 a2_2 l2_3 = some (r1, r2, r3, r4)) ∧ Aside0 (kq ≤ kj3) ∧ Aside0 (Kd.V k28 28 wc w.heap.size (fun k_ => ((P1_3_ k_ ∨ P2_3_ k_) ∨ w.heap.size ≤ k_) ∧ k_ ≠ gb128 ∧ k_ ≠ gb129 ∧ k_ ≠ gb130) (.slice A1_3 l1_3.length c1_3) l1_3) ∧ Aside0 (Kd.V k28 28 wc w.heap.size (fun k_ => ((P1_3_ k_ ∨ P2_3_ k_) ∨ w.heap.size ≤ k_) ∧ k_ ≠ gb128 ∧ k_ ≠ gb129 ∧ k_ ≠ gb130) (.slice A2_3 l2_3.length c2_3) l2_3) ∧ Aside0 (wc.heap[gb128]? = some (.cells #[.int .i64 a1_0, .string a1_1, .int .i64 a1_2, (.slice A1_3 l1_3.length c1_3)] 28 (0, 0))) ∧ Aside0 (wc.heap[gb129]? = some (.cells #[.int .i64 a2_0, .string a2_1, .int .i64 a2_2, (.slice A2_3 l2_3.length c2_3)] 28 (0, 0))) ∧ Aside0 (wc.heap[gb130]? = some (.cells #[.int .i64 0, .string (⟨#[]⟩ : ByteArray), .int .i64 0, (.slice none 0 0)] 28 (0, 0))) ∧ Aside0 (Below w.heap.size w wc))
   case first =>
    have H := HC21.out
    clear HC21
    by_cases c22 : a2_0 = 1
    rotate_left
    ·
     rw [if_neg c22] at H
     have c22b0 : (a2_0 == 1) = false := beq_eq_false_iff_ne.mpr c22
     have c22b1 : (a2_0 != 1) = true := bne_iff_ne.mpr c22
     (first | rw [c22b0] | (simp only [i64_w, i32_w]; rw [c22b0]) | skip)
     have H' := Aside0.mk H
     clear H
     have hnb26 := NB129_128.out
     have hnc26 := NB128_129.out
     have hnb27 := NB129_130.out
     have hnc27 := NB130_129.out
     obtain ⟨z28_0, z28_1, z28_2, z28_3, y28_0, y28_1, y28_2, y28_3⟩ := Own.box4 BK129.out
     go_wp2
     go_meet
     case rel => exact ⟨_, (false), Own.rs, H', ⟨by have := HJ3.out; first | omega | exact Nat.le_refl _⟩, ⟨Own.vd HO_129003.out⟩, ⟨Own.vd HO_130003.out⟩, ⟨Own.bk⟩, ⟨Own.bk⟩, ⟨Own.bk⟩, ⟨Own.bl⟩⟩
    rw [if_pos c22] at H
    have c22b0 : (a2_0 == 1) = true := beq_iff_eq.mpr c22
    have c22b1 : (a2_0 != 1) = false := bne_eq_false_iff_eq.mpr c22
    clear c22
    (first | rw [c22b0] | (simp only [i64_w, i32_w]; rw [c22b0]) | skip)
    have H' := Aside0.mk H
    clear H
    have hnb23 := NB129_128.out
    have hnc23 := NB128_129.out
    have hnb24 := NB129_130.out
    have hnc24 := NB130_129.out
    obtain ⟨z25_0, z25_1, z25_2, z25_3, y25_0, y25_1, y25_2, y25_3⟩ := Own.box4 BK129.out
    go_wp2
    go_meet
    case rel => exact ⟨_, ((a0 == 5)), Own.rs, H', ⟨by have := HJ3.out; first | omega | exact Nat.le_refl _⟩, ⟨Own.vd HO_129003.out⟩, ⟨Own.vd HO_130003.out⟩, ⟨Own.bk⟩, ⟨Own.bk⟩, ⟨Own.bk⟩, ⟨Own.bl⟩⟩
   case rest =>
    clear HC21
    try clear c1; try clear c2; try clear p2; try clear c3; try clear c8; try clear c8b0; try clear c8b1; try clear c9; try clear c10; try clear c12; try clear c13; try clear c15; try clear c16; try clear c17; try clear c19; try clear c22; try clear c22b0; try clear c22b1; try clear c23; try clear c24; try clear c26; try clear c27; try clear z11_0 z11_1 z11_2 z11_3; try clear z14_0 z14_1 z14_2 z14_3; try clear z18_0 z18_1 z18_2 z18_3; try clear z20_0 z20_1 z20_2 z20_3; try clear z25_0 z25_1 z25_2 z25_3; try clear z28_0 z28_1 z28_2 z28_3; try clear y11_0 y11_1 y11_2 y11_3; try clear y14_0 y14_1 y14_2 y14_3; try clear y18_0 y18_1 y18_2 y18_3; try clear y20_0 y20_1 y20_2 y20_3; try clear y25_0 y25_1 y25_2 y25_3; try clear y28_0 y28_1 y28_2 y28_3; try clear p2
    obtain ⟨kq, x18_20, rfl, HA, HJ20, HO_129003, HO_130003, BK128, BK129, BK130, HB⟩ := hcut
    cases kq with
    | zero => exact absurd HA.out (by simp [spec_l5Pair.j1])
    | succ kj20 =>
     have H := HA.out
     clear HA
     simp only [spec_l5Pair.j1] at H
     replace H := Own.ifu H; obtain ⟨rfl, H⟩ | ⟨rfl, H⟩ := H
     ·
      simp only [Option.some.injEq, Prod.mk.injEq] at H
      obtain ⟨rfl, rfl, rfl, rfl⟩ := H
      have hnb30 := NB128_129.out
      have hnc30 := NB129_128.out
      have hnb31 := NB128_130.out
      have hnc31 := NB130_128.out
      obtain ⟨z32_0, z32_1, z32_2, z32_3, y32_0, y32_1, y32_2, y32_3⟩ := Own.box4 BK128.out
      have hnb33 := NB130_129.out
      have hnc33 := NB129_130.out
      obtain ⟨z34_0, z34_1, z34_2, z34_3, y34_0, y34_1, y34_2, y34_3⟩ := Own.box4 BK130.out
      go_wp2
      refine bodyPost_ret (results_cell_row rfl _ _ gb130 28 #[.int .i64 a1_0, .string a1_1, .int .i64 a1_2, .slice A1_3 l1_3.length c1_3] (0, 0) _ rfl (by (with_reducible repeat (first | refine blk_drewN ?_ _ | refine blk_drew ?_ | refine blk_alloc ?_ _)); with_reducible exact Own.put4 BK130.out) Tryd.underlying28 rfl (by kernel_rfl)) rfl ?_
      exact ⟨_, Own.rr, by (with_reducible repeat (first | apply Kd.V_alloc | apply Kd.V_drewN | apply Kd.V_drew)); exact Kd.V_mono (Kd.V_far (p := ⟨gb130, 3, none⟩) (Kd.V_far (p := ⟨gb130, 2, none⟩) (Kd.V_far (p := ⟨gb130, 1, none⟩) (Kd.V_far (p := ⟨gb130, 0, none⟩) (Kd.V_mono HO_129003.out (fun k_ hk => (⟨hk, hk.2.2.2⟩ : _ ∧ k_ ≠ gb130))) (fun _ hk => hk.2) (.int .i64 a1_0)) (fun _ hk => hk.2) (.string a1_1)) (fun _ hk => hk.2) (.int .i64 a1_2)) (fun _ hk => hk.2) (.slice A1_3 l1_3.length c1_3)) (fun _ hk => hk.1.1), Own.bl⟩
     have HC35 := Aside0.mk H
     clear H
     go_upto_region 6 with (fail)
     go_cut [26] (fun v26 wc => ∃ (kq : Nat) (x26_34 : Bool), v26 = .bool x26_34 ∧ Aside0 (spec_l5Pair.j2 kq a0 (a0 == 5) x26_34 a1_0 a1_1 a1_2 l1_3 a2_0 a2_1 a2_2 l2_3 = some (r1, r2, r3, r4)) ∧ Aside0 (kq ≤ kj20) ∧ Aside0 (Kd.V k28 28 wc w.heap.size (fun k_ => ((P1_3_ k_ ∨ P2_3_ k_) ∨ w.heap.size ≤ k_) ∧ k_ ≠ gb128 ∧ k_ ≠ gb129 ∧ k_ ≠ gb130) (.slice A1_3 l1_3.length c1_3) l1_3) ∧ Aside0 (Kd.V k28 28 wc w.heap.size (fun k_ => ((P1_3_ k_ ∨ P2_3_ k_) ∨ w.heap.size ≤ k_) ∧ k_ ≠ gb128 ∧ k_ ≠ gb129 ∧ k_ ≠ gb130) (.slice A2_3 l2_3.length c2_3) l2_3) ∧ Aside0 (wc.heap[gb128]? = some (.cells #[.int .i64 a1_0, .string a1_1, .int .i64 a1_2, (.slice A1_3 l1_3.length c1_3)] 28 (0, 0))) ∧ Aside0 (wc.heap[gb129]? = some (.cells #[.int .i64 a2_0, .string a2_1, .int .i64 a2_2, (.slice A2_3 l2_3.length c2_3)] 28 (0, 0))) ∧ Aside0 (wc.heap[gb130]? = some (.cells #[.int .i64 0, .string (⟨#[]⟩ : ByteArray), .int .i64 0, (.slice none 0 0)] 28 (0, 0))) ∧ Aside0 (Below w.heap.size w wc))
     case first =>
      have H := HC35.out
      clear HC35
      replace H := Own.bd H; obtain ⟨t131, A36, H⟩ := H
      replace H := Own.ifu H; obtain ⟨rfl, H⟩ | ⟨rfl, H⟩ := H
      ·
       have H' := Aside0.mk H
       clear H
       have hnb38 := NB128_129.out
       have hnc38 := NB129_128.out
       have hnb39 := NB128_130.out
       have hnc39 := NB130_128.out
       obtain ⟨z40_0, z40_1, z40_2, z40_3, y40_0, y40_1, y40_2, y40_3⟩ := Own.box4 BK128.out
       go_wp2_with (first | ((with_reducible refine gate_callee (f := 43) rfl ?_); refine goesL_ (some 28) rfl rfl Tryd.func43 (by kernel_rfl) rfl #[.agg #[.int .i64 a1_0, .string a1_1, .int .i64 a1_2, .slice A1_3 l1_3.length c1_3]] rfl Own.ha ?_; (with_reducible refine (spec_l5Never.calls a1_0 a1_1 a1_2 _ _ l1_3 true _ ?side1 ?side2 A36.out).mono ?_); (case side1 => repeat (first | exact (Kd.V_reads' HO_129003.out).2.2 | (with_reducible refine Kd.C_alloc ?_ _) | (with_reducible refine Kd.C_drewN ?_ _) | (with_reducible refine Kd.C_drew ?_))); (case side2 => exact (Kd.V_reads' HO_129003.out).2.1); rintro e w41 ⟨rfl, hb⟩; refine ⟨_, rfl, ?_⟩; replace HO_129003 := Aside0.mk (Kd.V_below (Own.vd HO_129003.out) hb); replace HO_130003 := Aside0.mk (Kd.V_below (Own.vd HO_130003.out) hb); replace BK128 := Own.bb BK128.out hb; replace BK129 := Own.bb BK129.out hb; replace BK130 := Own.bb BK130.out hb; replace HB := Own.bs hb; (try clear hb)))
       go_meet
       case rel => exact ⟨_, ((a0 == 5)), Own.rs, H', ⟨by have := HJ3.out; have := HJ20.out; first | omega | exact Nat.le_refl _⟩, ⟨Own.vd HO_129003.out⟩, ⟨Own.vd HO_130003.out⟩, ⟨Own.bk⟩, ⟨Own.bk⟩, ⟨Own.bk⟩, ⟨Own.bl⟩⟩
      have H' := Aside0.mk H
      clear H
      have hnb42 := NB128_129.out
      have hnc42 := NB129_128.out
      have hnb43 := NB128_130.out
      have hnc43 := NB130_128.out
      obtain ⟨z44_0, z44_1, z44_2, z44_3, y44_0, y44_1, y44_2, y44_3⟩ := Own.box4 BK128.out
      go_wp2_with (first | ((with_reducible refine gate_callee (f := 43) rfl ?_); refine goesL_ (some 28) rfl rfl Tryd.func43 (by kernel_rfl) rfl #[.agg #[.int .i64 a1_0, .string a1_1, .int .i64 a1_2, .slice A1_3 l1_3.length c1_3]] rfl Own.ha ?_; (with_reducible refine (spec_l5Never.calls a1_0 a1_1 a1_2 _ _ l1_3 false _ ?side1 ?side2 A36.out).mono ?_); (case side1 => repeat (first | exact (Kd.V_reads' HO_129003.out).2.2 | (with_reducible refine Kd.C_alloc ?_ _) | (with_reducible refine Kd.C_drewN ?_ _) | (with_reducible refine Kd.C_drew ?_))); (case side2 => exact (Kd.V_reads' HO_129003.out).2.1); rintro e w45 ⟨rfl, hb⟩; refine ⟨_, rfl, ?_⟩; replace HO_129003 := Aside0.mk (Kd.V_below (Own.vd HO_129003.out) hb); replace HO_130003 := Aside0.mk (Kd.V_below (Own.vd HO_130003.out) hb); replace BK128 := Own.bb BK128.out hb; replace BK129 := Own.bb BK129.out hb; replace BK130 := Own.bb BK130.out hb; replace HB := Own.bs hb; (try clear hb)))
      go_meet
      case rel => exact ⟨_, (false), Own.rs, H', ⟨by have := HJ3.out; have := HJ20.out; first | omega | exact Nat.le_refl _⟩, ⟨Own.vd HO_129003.out⟩, ⟨Own.vd HO_130003.out⟩, ⟨Own.bk⟩, ⟨Own.bk⟩, ⟨Own.bk⟩, ⟨Own.bl⟩⟩
     case rest =>
      clear HC35
      try clear c1; try clear c2; try clear p2; try clear c3; try clear c4; try clear c8; try clear c8b0; try clear c8b1; try clear c9; try clear c10; try clear c12; try clear c13; try clear c15; try clear c16; try clear c17; try clear c19; try clear c22; try clear c22b0; try clear c22b1; try clear c23; try clear c24; try clear c26; try clear c27; try clear c29; try clear c30; try clear c31; try clear c33; try clear c37; try clear c38; try clear c39; try clear c42; try clear c43; try clear z11_0 z11_1 z11_2 z11_3; try clear z14_0 z14_1 z14_2 z14_3; try clear z18_0 z18_1 z18_2 z18_3; try clear z20_0 z20_1 z20_2 z20_3; try clear z25_0 z25_1 z25_2 z25_3; try clear z28_0 z28_1 z28_2 z28_3; try clear z32_0 z32_1 z32_2 z32_3; try clear z34_0 z34_1 z34_2 z34_3; try clear z40_0 z40_1 z40_2 z40_3; try clear z44_0 z44_1 z44_2 z44_3; try clear y11_0 y11_1 y11_2 y11_3; try clear y14_0 y14_1 y14_2 y14_3; try clear y18_0 y18_1 y18_2 y18_3; try clear y20_0 y20_1 y20_2 y20_3; try clear y25_0 y25_1 y25_2 y25_3; try clear y28_0 y28_1 y28_2 y28_3; try clear y32_0 y32_1 y32_2 y32_3; try clear y34_0 y34_1 y34_2 y34_3; try clear y40_0 y40_1 y40_2 y40_3; try clear y44_0 y44_1 y44_2 y44_3; try clear p2
      obtain ⟨kq, x26_34, rfl, HA, HJ34, HO_129003, HO_130003, BK128, BK129, BK130, HB⟩ := hcut
      cases kq with
      | zero => exact absurd HA.out (by simp [spec_l5Pair.j2])
      | succ kj34 =>
       have H := HA.out
       clear HA
       simp only [spec_l5Pair.j2] at H
       replace H := Own.ifu H; obtain ⟨rfl, H⟩ | ⟨rfl, H⟩ := H
       ·
        simp only [Option.some.injEq, Prod.mk.injEq] at H
        obtain ⟨rfl, rfl, rfl, rfl⟩ := H
        have hnb47 := NB128_129.out
        have hnc47 := NB129_128.out
        have hnb48 := NB128_130.out
        have hnc48 := NB130_128.out
        obtain ⟨z49_0, z49_1, z49_2, z49_3, y49_0, y49_1, y49_2, y49_3⟩ := Own.box4 BK128.out
        have hnb50 := NB130_129.out
        have hnc50 := NB129_130.out
        obtain ⟨z51_0, z51_1, z51_2, z51_3, y51_0, y51_1, y51_2, y51_3⟩ := Own.box4 BK130.out
        go_wp2
        refine bodyPost_ret (results_cell_row rfl _ _ gb130 28 #[.int .i64 a1_0, .string a1_1, .int .i64 a1_2, .slice A1_3 l1_3.length c1_3] (0, 0) _ rfl (by (with_reducible repeat (first | refine blk_drewN ?_ _ | refine blk_drew ?_ | refine blk_alloc ?_ _)); with_reducible exact Own.put4 BK130.out) Tryd.underlying28 rfl (by kernel_rfl)) rfl ?_
        exact ⟨_, Own.rr, by (with_reducible repeat (first | apply Kd.V_alloc | apply Kd.V_drewN | apply Kd.V_drew)); exact Kd.V_mono (Kd.V_far (p := ⟨gb130, 3, none⟩) (Kd.V_far (p := ⟨gb130, 2, none⟩) (Kd.V_far (p := ⟨gb130, 1, none⟩) (Kd.V_far (p := ⟨gb130, 0, none⟩) (Kd.V_mono HO_129003.out (fun k_ hk => (⟨hk, hk.2.2.2⟩ : _ ∧ k_ ≠ gb130))) (fun _ hk => hk.2) (.int .i64 a1_0)) (fun _ hk => hk.2) (.string a1_1)) (fun _ hk => hk.2) (.int .i64 a1_2)) (fun _ hk => hk.2) (.slice A1_3 l1_3.length c1_3)) (fun _ hk => hk.1.1), Own.bl⟩
       have HC52 := Aside0.mk H
       clear H
       go_upto_region 8 with (fail)
       go_cut [33] (fun v33 wc => ∃ (kq : Nat) (x33_51 : Bool), v33 = .bool x33_51 ∧ Aside0 (spec_l5Pair.j3 kq a0 (a0 == 5) x33_51 a1_0 a1_1 a1_2 l1_3 a2_0 a2_1 a2_2 l2_3 = some (r1, r2, r3, r4)) ∧ Aside0 (kq ≤ kj34) ∧ Aside0 (Kd.V k28 28 wc w.heap.size (fun k_ => ((P1_3_ k_ ∨ P2_3_ k_) ∨ w.heap.size ≤ k_) ∧ k_ ≠ gb128 ∧ k_ ≠ gb129 ∧ k_ ≠ gb130) (.slice A1_3 l1_3.length c1_3) l1_3) ∧ Aside0 (Kd.V k28 28 wc w.heap.size (fun k_ => ((P1_3_ k_ ∨ P2_3_ k_) ∨ w.heap.size ≤ k_) ∧ k_ ≠ gb128 ∧ k_ ≠ gb129 ∧ k_ ≠ gb130) (.slice A2_3 l2_3.length c2_3) l2_3) ∧ Aside0 (wc.heap[gb128]? = some (.cells #[.int .i64 a1_0, .string a1_1, .int .i64 a1_2, (.slice A1_3 l1_3.length c1_3)] 28 (0, 0))) ∧ Aside0 (wc.heap[gb129]? = some (.cells #[.int .i64 a2_0, .string a2_1, .int .i64 a2_2, (.slice A2_3 l2_3.length c2_3)] 28 (0, 0))) ∧ Aside0 (wc.heap[gb130]? = some (.cells #[.int .i64 0, .string (⟨#[]⟩ : ByteArray), .int .i64 0, (.slice none 0 0)] 28 (0, 0))) ∧ Aside0 (Below w.heap.size w wc))
       case first =>
        have H := HC52.out
        clear HC52
        replace H := Own.bd H; obtain ⟨t132, A53, H⟩ := H
        replace H := Own.ifu H; obtain ⟨rfl, H⟩ | ⟨rfl, H⟩ := H
        ·
         have H' := Aside0.mk H
         clear H
         have hnb55 := NB129_128.out
         have hnc55 := NB128_129.out
         have hnb56 := NB129_130.out
         have hnc56 := NB130_129.out
         obtain ⟨z57_0, z57_1, z57_2, z57_3, y57_0, y57_1, y57_2, y57_3⟩ := Own.box4 BK129.out
         go_wp2_with (first | ((with_reducible refine gate_callee (f := 43) rfl ?_); refine goesL_ (some 35) rfl rfl Tryd.func43 (by kernel_rfl) rfl #[.agg #[.int .i64 a2_0, .string a2_1, .int .i64 a2_2, .slice A2_3 l2_3.length c2_3]] rfl Own.ha ?_; (with_reducible refine (spec_l5Never.calls a2_0 a2_1 a2_2 _ _ l2_3 true _ ?side1 ?side2 A53.out).mono ?_); (case side1 => repeat (first | exact (Kd.V_reads' HO_130003.out).2.2 | (with_reducible refine Kd.C_alloc ?_ _) | (with_reducible refine Kd.C_drewN ?_ _) | (with_reducible refine Kd.C_drew ?_))); (case side2 => exact (Kd.V_reads' HO_130003.out).2.1); rintro e w58 ⟨rfl, hb⟩; refine ⟨_, rfl, ?_⟩; replace HO_129003 := Aside0.mk (Kd.V_below (Own.vd HO_129003.out) hb); replace HO_130003 := Aside0.mk (Kd.V_below (Own.vd HO_130003.out) hb); replace BK128 := Own.bb BK128.out hb; replace BK129 := Own.bb BK129.out hb; replace BK130 := Own.bb BK130.out hb; replace HB := Own.bs hb; (try clear hb)))
         go_meet
         case rel => exact ⟨_, ((a0 == 5)), Own.rs, H', ⟨by have := HJ3.out; have := HJ20.out; have := HJ34.out; first | omega | exact Nat.le_refl _⟩, ⟨Own.vd HO_129003.out⟩, ⟨Own.vd HO_130003.out⟩, ⟨Own.bk⟩, ⟨Own.bk⟩, ⟨Own.bk⟩, ⟨Own.bl⟩⟩
        have H' := Aside0.mk H
        clear H
        have hnb59 := NB129_128.out
        have hnc59 := NB128_129.out
        have hnb60 := NB129_130.out
        have hnc60 := NB130_129.out
        obtain ⟨z61_0, z61_1, z61_2, z61_3, y61_0, y61_1, y61_2, y61_3⟩ := Own.box4 BK129.out
        go_wp2_with (first | ((with_reducible refine gate_callee (f := 43) rfl ?_); refine goesL_ (some 35) rfl rfl Tryd.func43 (by kernel_rfl) rfl #[.agg #[.int .i64 a2_0, .string a2_1, .int .i64 a2_2, .slice A2_3 l2_3.length c2_3]] rfl Own.ha ?_; (with_reducible refine (spec_l5Never.calls a2_0 a2_1 a2_2 _ _ l2_3 false _ ?side1 ?side2 A53.out).mono ?_); (case side1 => repeat (first | exact (Kd.V_reads' HO_130003.out).2.2 | (with_reducible refine Kd.C_alloc ?_ _) | (with_reducible refine Kd.C_drewN ?_ _) | (with_reducible refine Kd.C_drew ?_))); (case side2 => exact (Kd.V_reads' HO_130003.out).2.1); rintro e w62 ⟨rfl, hb⟩; refine ⟨_, rfl, ?_⟩; replace HO_129003 := Aside0.mk (Kd.V_below (Own.vd HO_129003.out) hb); replace HO_130003 := Aside0.mk (Kd.V_below (Own.vd HO_130003.out) hb); replace BK128 := Own.bb BK128.out hb; replace BK129 := Own.bb BK129.out hb; replace BK130 := Own.bb BK130.out hb; replace HB := Own.bs hb; (try clear hb)))
        go_meet
        case rel => exact ⟨_, (false), Own.rs, H', ⟨by have := HJ3.out; have := HJ20.out; have := HJ34.out; first | omega | exact Nat.le_refl _⟩, ⟨Own.vd HO_129003.out⟩, ⟨Own.vd HO_130003.out⟩, ⟨Own.bk⟩, ⟨Own.bk⟩, ⟨Own.bk⟩, ⟨Own.bl⟩⟩
       case rest =>
        clear HC52
        try clear c1; try clear c2; try clear p2; try clear c3; try clear c4; try clear c5; try clear c6; try clear c8; try clear c8b0; try clear c8b1; try clear c9; try clear c10; try clear c12; try clear c13; try clear c15; try clear c16; try clear c17; try clear c19; try clear c22; try clear c22b0; try clear c22b1; try clear c23; try clear c24; try clear c26; try clear c27; try clear c29; try clear c30; try clear c31; try clear c33; try clear c37; try clear c38; try clear c39; try clear c42; try clear c43; try clear c46; try clear c47; try clear c48; try clear c50; try clear c54; try clear c55; try clear c56; try clear c59; try clear c60; try clear z11_0 z11_1 z11_2 z11_3; try clear z14_0 z14_1 z14_2 z14_3; try clear z18_0 z18_1 z18_2 z18_3; try clear z20_0 z20_1 z20_2 z20_3; try clear z25_0 z25_1 z25_2 z25_3; try clear z28_0 z28_1 z28_2 z28_3; try clear z32_0 z32_1 z32_2 z32_3; try clear z34_0 z34_1 z34_2 z34_3; try clear z40_0 z40_1 z40_2 z40_3; try clear z44_0 z44_1 z44_2 z44_3; try clear z49_0 z49_1 z49_2 z49_3; try clear z51_0 z51_1 z51_2 z51_3; try clear z57_0 z57_1 z57_2 z57_3; try clear z61_0 z61_1 z61_2 z61_3; try clear y11_0 y11_1 y11_2 y11_3; try clear y14_0 y14_1 y14_2 y14_3; try clear y18_0 y18_1 y18_2 y18_3; try clear y20_0 y20_1 y20_2 y20_3; try clear y25_0 y25_1 y25_2 y25_3; try clear y28_0 y28_1 y28_2 y28_3; try clear y32_0 y32_1 y32_2 y32_3; try clear y34_0 y34_1 y34_2 y34_3; try clear y40_0 y40_1 y40_2 y40_3; try clear y44_0 y44_1 y44_2 y44_3; try clear y49_0 y49_1 y49_2 y49_3; try clear y51_0 y51_1 y51_2 y51_3; try clear y57_0 y57_1 y57_2 y57_3; try clear y61_0 y61_1 y61_2 y61_3; try clear p2
        obtain ⟨kq, x33_51, rfl, HA, HJ51, HO_129003, HO_130003, BK128, BK129, BK130, HB⟩ := hcut
        cases kq with
        | zero => exact absurd HA.out (by simp [spec_l5Pair.j3])
        | succ kj51 =>
         have H := HA.out
         clear HA
         simp only [spec_l5Pair.j3] at H
         replace H := Own.ifu H; obtain ⟨rfl, H⟩ | ⟨rfl, H⟩ := H
         ·
          simp only [Option.some.injEq, Prod.mk.injEq] at H
          obtain ⟨rfl, rfl, rfl, rfl⟩ := H
          have hnb64 := NB129_128.out
          have hnc64 := NB128_129.out
          have hnb65 := NB129_130.out
          have hnc65 := NB130_129.out
          obtain ⟨z66_0, z66_1, z66_2, z66_3, y66_0, y66_1, y66_2, y66_3⟩ := Own.box4 BK129.out
          have hnb67 := NB130_128.out
          have hnc67 := NB128_130.out
          obtain ⟨z68_0, z68_1, z68_2, z68_3, y68_0, y68_1, y68_2, y68_3⟩ := Own.box4 BK130.out
          go_wp2
          refine bodyPost_ret (results_cell_row rfl _ _ gb130 28 #[.int .i64 a2_0, .string a2_1, .int .i64 a2_2, .slice A2_3 l2_3.length c2_3] (0, 0) _ rfl (by (with_reducible repeat (first | refine blk_drewN ?_ _ | refine blk_drew ?_ | refine blk_alloc ?_ _)); with_reducible exact Own.put4 BK130.out) Tryd.underlying28 rfl (by kernel_rfl)) rfl ?_
          exact ⟨_, Own.rr, by (with_reducible repeat (first | apply Kd.V_alloc | apply Kd.V_drewN | apply Kd.V_drew)); exact Kd.V_mono (Kd.V_far (p := ⟨gb130, 3, none⟩) (Kd.V_far (p := ⟨gb130, 2, none⟩) (Kd.V_far (p := ⟨gb130, 1, none⟩) (Kd.V_far (p := ⟨gb130, 0, none⟩) (Kd.V_mono HO_130003.out (fun k_ hk => (⟨hk, hk.2.2.2⟩ : _ ∧ k_ ≠ gb130))) (fun _ hk => hk.2) (.int .i64 a2_0)) (fun _ hk => hk.2) (.string a2_1)) (fun _ hk => hk.2) (.int .i64 a2_2)) (fun _ hk => hk.2) (.slice A2_3 l2_3.length c2_3)) (fun _ hk => hk.1.1), Own.bl⟩
         by_cases c69 : a1_0 = 1
         ·
          rw [if_pos c69] at H
          have c69b0 : (a1_0 == 1) = true := beq_iff_eq.mpr c69
          have c69b1 : (a1_0 != 1) = false := bne_eq_false_iff_eq.mpr c69
          clear c69
          simp only [Option.some.injEq, Prod.mk.injEq] at H
          obtain ⟨rfl, rfl, rfl, rfl⟩ := H
          have hnb70 := NB128_129.out
          have hnc70 := NB129_128.out
          have hnb71 := NB128_130.out
          have hnc71 := NB130_128.out
          obtain ⟨z72_0, z72_1, z72_2, z72_3, y72_0, y72_1, y72_2, y72_3⟩ := Own.box4 BK128.out
          have hnb73 := NB130_129.out
          have hnc73 := NB129_130.out
          obtain ⟨z74_0, z74_1, z74_2, z74_3, y74_0, y74_1, y74_2, y74_3⟩ := Own.box4 BK130.out
          go_wp2
          refine bodyPost_ret (results_cell_row rfl _ _ gb130 28 #[.int .i64 a1_0, .string a1_1, .int .i64 a1_2, .slice A1_3 l1_3.length c1_3] (0, 0) _ rfl (by (with_reducible repeat (first | refine blk_drewN ?_ _ | refine blk_drew ?_ | refine blk_alloc ?_ _)); with_reducible exact Own.put4 BK130.out) Tryd.underlying28 rfl (by kernel_rfl)) rfl ?_
          exact ⟨_, Own.rr, by (with_reducible repeat (first | apply Kd.V_alloc | apply Kd.V_drewN | apply Kd.V_drew)); exact Kd.V_mono (Kd.V_far (p := ⟨gb130, 3, none⟩) (Kd.V_far (p := ⟨gb130, 2, none⟩) (Kd.V_far (p := ⟨gb130, 1, none⟩) (Kd.V_far (p := ⟨gb130, 0, none⟩) (Kd.V_mono HO_129003.out (fun k_ hk => (⟨hk, hk.2.2.2⟩ : _ ∧ k_ ≠ gb130))) (fun _ hk => hk.2) (.int .i64 a1_0)) (fun _ hk => hk.2) (.string a1_1)) (fun _ hk => hk.2) (.int .i64 a1_2)) (fun _ hk => hk.2) (.slice A1_3 l1_3.length c1_3)) (fun _ hk => hk.1.1), Own.bl⟩
         rw [if_neg c69] at H
         have c69b0 : (a1_0 == 1) = false := beq_eq_false_iff_ne.mpr c69
         have c69b1 : (a1_0 != 1) = true := bne_iff_ne.mpr c69
         have HC75 := Aside0.mk H
         clear H
         have hnb76 := NB128_129.out
         have hnc76 := NB129_128.out
         have hnb77 := NB128_130.out
         have hnc77 := NB130_128.out
         obtain ⟨z78_0, z78_1, z78_2, z78_3, y78_0, y78_1, y78_2, y78_3⟩ := Own.box4 BK128.out
         go_upto_region 12 with (fail)
         go_cut [45] (fun v45 wc => ∃ (kq : Nat) (x45_74 : Bool), v45 = .bool x45_74 ∧ Aside0 (spec_l5Pair.j4 kq a0 x45_74 a1_0 a1_1 a1_2 l1_3 a2_0 a2_1 a2_2 l2_3 = some (r1, r2, r3, r4)) ∧ Aside0 (kq ≤ kj51) ∧ Aside0 (Kd.V k28 28 wc w.heap.size (fun k_ => ((P1_3_ k_ ∨ P2_3_ k_) ∨ w.heap.size ≤ k_) ∧ k_ ≠ gb128 ∧ k_ ≠ gb129 ∧ k_ ≠ gb130) (.slice A1_3 l1_3.length c1_3) l1_3) ∧ Aside0 (Kd.V k28 28 wc w.heap.size (fun k_ => ((P1_3_ k_ ∨ P2_3_ k_) ∨ w.heap.size ≤ k_) ∧ k_ ≠ gb128 ∧ k_ ≠ gb129 ∧ k_ ≠ gb130) (.slice A2_3 l2_3.length c2_3) l2_3) ∧ Aside0 (wc.heap[gb128]? = some (.cells #[.int .i64 a1_0, .string a1_1, .int .i64 a1_2, (.slice A1_3 l1_3.length c1_3)] 28 (0, 0))) ∧ Aside0 (wc.heap[gb129]? = some (.cells #[.int .i64 a2_0, .string a2_1, .int .i64 a2_2, (.slice A2_3 l2_3.length c2_3)] 28 (0, 0))) ∧ Aside0 (wc.heap[gb130]? = some (.cells #[.int .i64 0, .string (⟨#[]⟩ : ByteArray), .int .i64 0, (.slice none 0 0)] 28 (0, 0))) ∧ Aside0 (Below w.heap.size w wc))
         case first =>
          have H := HC75.out
          clear HC75
          by_cases c79 : a2_0 = 1
          rotate_left
          ·
           rw [if_neg c79] at H
           have c79b0 : (a2_0 == 1) = false := beq_eq_false_iff_ne.mpr c79
           have c79b1 : (a2_0 != 1) = true := bne_iff_ne.mpr c79
           (first | rw [c79b0] | (simp only [i64_w, i32_w]; rw [c79b0]) | skip)
           have H' := Aside0.mk H
           clear H
           have hnb83 := NB129_128.out
           have hnc83 := NB128_129.out
           have hnb84 := NB129_130.out
           have hnc84 := NB130_129.out
           obtain ⟨z85_0, z85_1, z85_2, z85_3, y85_0, y85_1, y85_2, y85_3⟩ := Own.box4 BK129.out
           go_wp2
           go_meet
           case rel => exact ⟨_, (false), Own.rs, H', ⟨by have := HJ3.out; have := HJ20.out; have := HJ34.out; have := HJ51.out; first | omega | exact Nat.le_refl _⟩, ⟨Own.vd HO_129003.out⟩, ⟨Own.vd HO_130003.out⟩, ⟨Own.bk⟩, ⟨Own.bk⟩, ⟨Own.bk⟩, ⟨Own.bl⟩⟩
          rw [if_pos c79] at H
          have c79b0 : (a2_0 == 1) = true := beq_iff_eq.mpr c79
          have c79b1 : (a2_0 != 1) = false := bne_eq_false_iff_eq.mpr c79
          clear c79
          (first | rw [c79b0] | (simp only [i64_w, i32_w]; rw [c79b0]) | skip)
          have H' := Aside0.mk H
          clear H
          have hnb80 := NB129_128.out
          have hnc80 := NB128_129.out
          have hnb81 := NB129_130.out
          have hnc81 := NB130_129.out
          obtain ⟨z82_0, z82_1, z82_2, z82_3, y82_0, y82_1, y82_2, y82_3⟩ := Own.box4 BK129.out
          go_wp2
          go_meet
          case rel => exact ⟨_, (!(a0 == 5)), Own.rs, H', ⟨by have := HJ3.out; have := HJ20.out; have := HJ34.out; have := HJ51.out; first | omega | exact Nat.le_refl _⟩, ⟨Own.vd HO_129003.out⟩, ⟨Own.vd HO_130003.out⟩, ⟨Own.bk⟩, ⟨Own.bk⟩, ⟨Own.bk⟩, ⟨Own.bl⟩⟩
         case rest =>
          clear HC75
          try clear c1; try clear c2; try clear p2; try clear c3; try clear c4; try clear c5; try clear c6; try clear c7; try clear c8; try clear c8b0; try clear c8b1; try clear c9; try clear c10; try clear c12; try clear c13; try clear c15; try clear c16; try clear c17; try clear c19; try clear c22; try clear c22b0; try clear c22b1; try clear c23; try clear c24; try clear c26; try clear c27; try clear c29; try clear c30; try clear c31; try clear c33; try clear c37; try clear c38; try clear c39; try clear c42; try clear c43; try clear c46; try clear c47; try clear c48; try clear c50; try clear c54; try clear c55; try clear c56; try clear c59; try clear c60; try clear c63; try clear c64; try clear c65; try clear c67; try clear c69; try clear c69b0; try clear c69b1; try clear c70; try clear c71; try clear c73; try clear c76; try clear c77; try clear c79; try clear c79b0; try clear c79b1; try clear c80; try clear c81; try clear c83; try clear c84; try clear z11_0 z11_1 z11_2 z11_3; try clear z14_0 z14_1 z14_2 z14_3; try clear z18_0 z18_1 z18_2 z18_3; try clear z20_0 z20_1 z20_2 z20_3; try clear z25_0 z25_1 z25_2 z25_3; try clear z28_0 z28_1 z28_2 z28_3; try clear z32_0 z32_1 z32_2 z32_3; try clear z34_0 z34_1 z34_2 z34_3; try clear z40_0 z40_1 z40_2 z40_3; try clear z44_0 z44_1 z44_2 z44_3; try clear z49_0 z49_1 z49_2 z49_3; try clear z51_0 z51_1 z51_2 z51_3; try clear z57_0 z57_1 z57_2 z57_3; try clear z61_0 z61_1 z61_2 z61_3; try clear z66_0 z66_1 z66_2 z66_3; try clear z68_0 z68_1 z68_2 z68_3; try clear z72_0 z72_1 z72_2 z72_3; try clear z74_0 z74_1 z74_2 z74_3; try clear z78_0 z78_1 z78_2 z78_3; try clear z82_0 z82_1 z82_2 z82_3; try clear z85_0 z85_1 z85_2 z85_3; try clear y11_0 y11_1 y11_2 y11_3; try clear y14_0 y14_1 y14_2 y14_3; try clear y18_0 y18_1 y18_2 y18_3; try clear y20_0 y20_1 y20_2 y20_3; try clear y25_0 y25_1 y25_2 y25_3; try clear y28_0 y28_1 y28_2 y28_3; try clear y32_0 y32_1 y32_2 y32_3; try clear y34_0 y34_1 y34_2 y34_3; try clear y40_0 y40_1 y40_2 y40_3; try clear y44_0 y44_1 y44_2 y44_3; try clear y49_0 y49_1 y49_2 y49_3; try clear y51_0 y51_1 y51_2 y51_3; try clear y57_0 y57_1 y57_2 y57_3; try clear y61_0 y61_1 y61_2 y61_3; try clear y66_0 y66_1 y66_2 y66_3; try clear y68_0 y68_1 y68_2 y68_3; try clear y72_0 y72_1 y72_2 y72_3; try clear y74_0 y74_1 y74_2 y74_3; try clear y78_0 y78_1 y78_2 y78_3; try clear y82_0 y82_1 y82_2 y82_3; try clear y85_0 y85_1 y85_2 y85_3; try clear p2
          obtain ⟨kq, x45_74, rfl, HA, HJ74, HO_129003, HO_130003, BK128, BK129, BK130, HB⟩ := hcut
          cases kq with
          | zero => exact absurd HA.out (by simp [spec_l5Pair.j4])
          | succ kj74 =>
           have H := HA.out
           clear HA
           simp only [spec_l5Pair.j4] at H
           replace H := Own.ifu H; obtain ⟨rfl, H⟩ | ⟨rfl, H⟩ := H
           ·
            simp only [Option.some.injEq, Prod.mk.injEq] at H
            obtain ⟨rfl, rfl, rfl, rfl⟩ := H
            have hnb87 := NB129_128.out
            have hnc87 := NB128_129.out
            have hnb88 := NB129_130.out
            have hnc88 := NB130_129.out
            obtain ⟨z89_0, z89_1, z89_2, z89_3, y89_0, y89_1, y89_2, y89_3⟩ := Own.box4 BK129.out
            have hnb90 := NB130_128.out
            have hnc90 := NB128_130.out
            obtain ⟨z91_0, z91_1, z91_2, z91_3, y91_0, y91_1, y91_2, y91_3⟩ := Own.box4 BK130.out
            go_wp2
            refine bodyPost_ret (results_cell_row rfl _ _ gb130 28 #[.int .i64 a2_0, .string a2_1, .int .i64 a2_2, .slice A2_3 l2_3.length c2_3] (0, 0) _ rfl (by (with_reducible repeat (first | refine blk_drewN ?_ _ | refine blk_drew ?_ | refine blk_alloc ?_ _)); with_reducible exact Own.put4 BK130.out) Tryd.underlying28 rfl (by kernel_rfl)) rfl ?_
            exact ⟨_, Own.rr, by (with_reducible repeat (first | apply Kd.V_alloc | apply Kd.V_drewN | apply Kd.V_drew)); exact Kd.V_mono (Kd.V_far (p := ⟨gb130, 3, none⟩) (Kd.V_far (p := ⟨gb130, 2, none⟩) (Kd.V_far (p := ⟨gb130, 1, none⟩) (Kd.V_far (p := ⟨gb130, 0, none⟩) (Kd.V_mono HO_130003.out (fun k_ hk => (⟨hk, hk.2.2.2⟩ : _ ∧ k_ ≠ gb130))) (fun _ hk => hk.2) (.int .i64 a2_0)) (fun _ hk => hk.2) (.string a2_1)) (fun _ hk => hk.2) (.int .i64 a2_2)) (fun _ hk => hk.2) (.slice A2_3 l2_3.length c2_3)) (fun _ hk => hk.1.1), Own.bl⟩
           replace H := Own.bd H; obtain ⟨t133, A92, H⟩ := H
           replace H := Own.ifu H; obtain ⟨rfl, H⟩ | ⟨rfl, H⟩ := H
           ·
            simp only [Option.some.injEq, Prod.mk.injEq] at H
            obtain ⟨rfl, rfl, rfl, rfl⟩ := H
            have hnb94 := NB128_129.out
            have hnc94 := NB129_128.out
            have hnb95 := NB128_130.out
            have hnc95 := NB130_128.out
            obtain ⟨z96_0, z96_1, z96_2, z96_3, y96_0, y96_1, y96_2, y96_3⟩ := Own.box4 BK128.out
            go_wp2_with (first | ((with_reducible refine gate_callee (f := 43) rfl ?_); refine goesL_ (some 56) rfl rfl Tryd.func43 (by kernel_rfl) rfl #[.agg #[.int .i64 a1_0, .string a1_1, .int .i64 a1_2, .slice A1_3 l1_3.length c1_3]] rfl Own.ha ?_; (with_reducible refine (spec_l5Never.calls a1_0 a1_1 a1_2 _ _ l1_3 true _ ?side1 ?side2 A92.out).mono ?_); (case side1 => repeat (first | exact (Kd.V_reads' HO_129003.out).2.2 | (with_reducible refine Kd.C_alloc ?_ _) | (with_reducible refine Kd.C_drewN ?_ _) | (with_reducible refine Kd.C_drew ?_))); (case side2 => exact (Kd.V_reads' HO_129003.out).2.1); rintro e w97 ⟨rfl, hb⟩; refine ⟨_, rfl, ?_⟩; replace HO_129003 := Aside0.mk (Kd.V_below (Own.vd HO_129003.out) hb); replace HO_130003 := Aside0.mk (Kd.V_below (Own.vd HO_130003.out) hb); replace BK128 := Own.bb BK128.out hb; replace BK129 := Own.bb BK129.out hb; replace BK130 := Own.bb BK130.out hb; replace HB := Own.bs hb; (try clear hb); have hnb98 := NB129_130.out; have hnc98 := NB130_129.out; obtain ⟨z99_0, z99_1, z99_2, z99_3, y99_0, y99_1, y99_2, y99_3⟩ := Own.box4 BK129.out; obtain ⟨z100_0, z100_1, z100_2, z100_3, y100_0, y100_1, y100_2, y100_3⟩ := Own.box4 BK130.out))
            refine bodyPost_ret (results_cell_row rfl _ _ gb130 28 #[.int .i64 a2_0, .string a2_1, .int .i64 a2_2, .slice A2_3 l2_3.length c2_3] (0, 0) _ rfl (by (with_reducible repeat (first | refine blk_drewN ?_ _ | refine blk_drew ?_ | refine blk_alloc ?_ _)); with_reducible exact Own.put4 BK130.out) Tryd.underlying28 rfl (by kernel_rfl)) rfl ?_
            exact ⟨_, Own.rr, by (with_reducible repeat (first | apply Kd.V_alloc | apply Kd.V_drewN | apply Kd.V_drew)); exact Kd.V_mono (Kd.V_far (p := ⟨gb130, 3, none⟩) (Kd.V_far (p := ⟨gb130, 2, none⟩) (Kd.V_far (p := ⟨gb130, 1, none⟩) (Kd.V_far (p := ⟨gb130, 0, none⟩) (Kd.V_mono HO_130003.out (fun k_ hk => (⟨hk, hk.2.2.2⟩ : _ ∧ k_ ≠ gb130))) (fun _ hk => hk.2) (.int .i64 a2_0)) (fun _ hk => hk.2) (.string a2_1)) (fun _ hk => hk.2) (.int .i64 a2_2)) (fun _ hk => hk.2) (.slice A2_3 l2_3.length c2_3)) (fun _ hk => hk.1.1), Own.bl⟩
           replace H := Own.bd H; obtain ⟨t134, A101, H⟩ := H
           replace H := Own.ifu H; obtain ⟨rfl, H⟩ | ⟨rfl, H⟩ := H
           ·
            simp only [Option.some.injEq, Prod.mk.injEq] at H
            obtain ⟨rfl, rfl, rfl, rfl⟩ := H
            have hnb103 := NB128_129.out
            have hnc103 := NB129_128.out
            have hnb104 := NB128_130.out
            have hnc104 := NB130_128.out
            obtain ⟨z105_0, z105_1, z105_2, z105_3, y105_0, y105_1, y105_2, y105_3⟩ := Own.box4 BK128.out
            go_wp2_with (first | ((with_reducible refine gate_callee (f := 43) rfl ?_); refine goesL_ (some 56) rfl rfl Tryd.func43 (by kernel_rfl) rfl #[.agg #[.int .i64 a1_0, .string a1_1, .int .i64 a1_2, .slice A1_3 l1_3.length c1_3]] rfl Own.ha ?_; (with_reducible refine (spec_l5Never.calls a1_0 a1_1 a1_2 _ _ l1_3 false _ ?side1 ?side2 A92.out).mono ?_); (case side1 => repeat (first | exact (Kd.V_reads' HO_129003.out).2.2 | (with_reducible refine Kd.C_alloc ?_ _) | (with_reducible refine Kd.C_drewN ?_ _) | (with_reducible refine Kd.C_drew ?_))); (case side2 => exact (Kd.V_reads' HO_129003.out).2.1); rintro e w106 ⟨rfl, hb⟩; refine ⟨_, rfl, ?_⟩; replace HO_129003 := Aside0.mk (Kd.V_below (Own.vd HO_129003.out) hb); replace HO_130003 := Aside0.mk (Kd.V_below (Own.vd HO_130003.out) hb); replace BK128 := Own.bb BK128.out hb; replace BK129 := Own.bb BK129.out hb; replace BK130 := Own.bb BK130.out hb; replace HB := Own.bs hb; (try clear hb); have hnb107 := NB129_130.out; have hnc107 := NB130_129.out; obtain ⟨z108_0, z108_1, z108_2, z108_3, y108_0, y108_1, y108_2, y108_3⟩ := Own.box4 BK129.out) | ((with_reducible refine gate_callee (f := 43) rfl ?_); refine goesL_ (some 60) rfl rfl Tryd.func43 (by kernel_rfl) rfl #[.agg #[.int .i64 a2_0, .string a2_1, .int .i64 a2_2, .slice A2_3 l2_3.length c2_3]] rfl Own.ha ?_; (with_reducible refine (spec_l5Never.calls a2_0 a2_1 a2_2 _ _ l2_3 true _ ?side1 ?side2 A101.out).mono ?_); (case side1 => repeat (first | exact (Kd.V_reads' HO_130003.out).2.2 | (with_reducible refine Kd.C_alloc ?_ _) | (with_reducible refine Kd.C_drewN ?_ _) | (with_reducible refine Kd.C_drew ?_))); (case side2 => exact (Kd.V_reads' HO_130003.out).2.1); rintro e w109 ⟨rfl, hb⟩; refine ⟨_, rfl, ?_⟩; replace HO_129003 := Aside0.mk (Kd.V_below (Own.vd HO_129003.out) hb); replace HO_130003 := Aside0.mk (Kd.V_below (Own.vd HO_130003.out) hb); replace BK128 := Own.bb BK128.out hb; replace BK129 := Own.bb BK129.out hb; replace BK130 := Own.bb BK130.out hb; replace HB := Own.bs hb; (try clear hb); obtain ⟨z110_0, z110_1, z110_2, z110_3, y110_0, y110_1, y110_2, y110_3⟩ := Own.box4 BK128.out; obtain ⟨z111_0, z111_1, z111_2, z111_3, y111_0, y111_1, y111_2, y111_3⟩ := Own.box4 BK130.out))
            refine bodyPost_ret (results_cell_row rfl _ _ gb130 28 #[.int .i64 a1_0, .string a1_1, .int .i64 a1_2, .slice A1_3 l1_3.length c1_3] (0, 0) _ rfl (by (with_reducible repeat (first | refine blk_drewN ?_ _ | refine blk_drew ?_ | refine blk_alloc ?_ _)); with_reducible exact Own.put4 BK130.out) Tryd.underlying28 rfl (by kernel_rfl)) rfl ?_
            exact ⟨_, Own.rr, by (with_reducible repeat (first | apply Kd.V_alloc | apply Kd.V_drewN | apply Kd.V_drew)); exact Kd.V_mono (Kd.V_far (p := ⟨gb130, 3, none⟩) (Kd.V_far (p := ⟨gb130, 2, none⟩) (Kd.V_far (p := ⟨gb130, 1, none⟩) (Kd.V_far (p := ⟨gb130, 0, none⟩) (Kd.V_mono HO_129003.out (fun k_ hk => (⟨hk, hk.2.2.2⟩ : _ ∧ k_ ≠ gb130))) (fun _ hk => hk.2) (.int .i64 a1_0)) (fun _ hk => hk.2) (.string a1_1)) (fun _ hk => hk.2) (.int .i64 a1_2)) (fun _ hk => hk.2) (.slice A1_3 l1_3.length c1_3)) (fun _ hk => hk.1.1), Own.bl⟩
           replace H := Own.bd H; obtain ⟨t135, A112, H⟩ := H
           replace H := Own.ifu H; obtain ⟨rfl, H⟩ | ⟨rfl, H⟩ := H
           ·
            simp only [Option.some.injEq, Prod.mk.injEq] at H
            obtain ⟨rfl, rfl, rfl, rfl⟩ := H
            have hnb114 := NB128_129.out
            have hnc114 := NB129_128.out
            have hnb115 := NB128_130.out
            have hnc115 := NB130_128.out
            obtain ⟨z116_0, z116_1, z116_2, z116_3, y116_0, y116_1, y116_2, y116_3⟩ := Own.box4 BK128.out
            go_wp2_with (first | ((with_reducible refine gate_callee (f := 43) rfl ?_); refine goesL_ (some 56) rfl rfl Tryd.func43 (by kernel_rfl) rfl #[.agg #[.int .i64 a1_0, .string a1_1, .int .i64 a1_2, .slice A1_3 l1_3.length c1_3]] rfl Own.ha ?_; (with_reducible refine (spec_l5Never.calls a1_0 a1_1 a1_2 _ _ l1_3 false _ ?side1 ?side2 A92.out).mono ?_); (case side1 => repeat (first | exact (Kd.V_reads' HO_129003.out).2.2 | (with_reducible refine Kd.C_alloc ?_ _) | (with_reducible refine Kd.C_drewN ?_ _) | (with_reducible refine Kd.C_drew ?_))); (case side2 => exact (Kd.V_reads' HO_129003.out).2.1); rintro e w117 ⟨rfl, hb⟩; refine ⟨_, rfl, ?_⟩; replace HO_129003 := Aside0.mk (Kd.V_below (Own.vd HO_129003.out) hb); replace HO_130003 := Aside0.mk (Kd.V_below (Own.vd HO_130003.out) hb); replace BK128 := Own.bb BK128.out hb; replace BK129 := Own.bb BK129.out hb; replace BK130 := Own.bb BK130.out hb; replace HB := Own.bs hb; (try clear hb); have hnb118 := NB129_130.out; have hnc118 := NB130_129.out; obtain ⟨z119_0, z119_1, z119_2, z119_3, y119_0, y119_1, y119_2, y119_3⟩ := Own.box4 BK129.out) | ((with_reducible refine gate_callee (f := 43) rfl ?_); refine goesL_ (some 60) rfl rfl Tryd.func43 (by kernel_rfl) rfl #[.agg #[.int .i64 a2_0, .string a2_1, .int .i64 a2_2, .slice A2_3 l2_3.length c2_3]] rfl Own.ha ?_; (with_reducible refine (spec_l5Never.calls a2_0 a2_1 a2_2 _ _ l2_3 false _ ?side1 ?side2 A101.out).mono ?_); (case side1 => repeat (first | exact (Kd.V_reads' HO_130003.out).2.2 | (with_reducible refine Kd.C_alloc ?_ _) | (with_reducible refine Kd.C_drewN ?_ _) | (with_reducible refine Kd.C_drew ?_))); (case side2 => exact (Kd.V_reads' HO_130003.out).2.1); rintro e w120 ⟨rfl, hb⟩; refine ⟨_, rfl, ?_⟩; replace HO_129003 := Aside0.mk (Kd.V_below (Own.vd HO_129003.out) hb); replace HO_130003 := Aside0.mk (Kd.V_below (Own.vd HO_130003.out) hb); replace BK128 := Own.bb BK128.out hb; replace BK129 := Own.bb BK129.out hb; replace BK130 := Own.bb BK130.out hb; replace HB := Own.bs hb; (try clear hb); obtain ⟨z121_0, z121_1, z121_2, z121_3, y121_0, y121_1, y121_2, y121_3⟩ := Own.box4 BK128.out; obtain ⟨z122_0, z122_1, z122_2, z122_3, y122_0, y122_1, y122_2, y122_3⟩ := Own.box4 BK129.out) | ((with_reducible refine gate_callee (f := 44) rfl ?_); refine goesL_ (some 65) rfl rfl Tryd.func44 (by kernel_rfl) rfl #[.agg #[.int .i64 a1_0, .string a1_1, .int .i64 a1_2, .slice A1_3 l1_3.length c1_3], .agg #[.int .i64 a2_0, .string a2_1, .int .i64 a2_2, .slice A2_3 l2_3.length c2_3]] rfl Own.ha ?_; (with_reducible refine (spec_l5Same.calls kj74 a1_0 a1_1 a1_2 _ _ l1_3 a2_0 a2_1 a2_2 _ _ l2_3 true _ ?side1 ?side2 ?side3 ?side4 A112.out).mono ?_); (case side1 => repeat (first | exact (Kd.V_reads' HO_129003.out).2.2 | (with_reducible refine Kd.C_alloc ?_ _) | (with_reducible refine Kd.C_drewN ?_ _) | (with_reducible refine Kd.C_drew ?_))); (case side2 => exact (Kd.V_reads' HO_129003.out).2.1); (case side3 => repeat (first | exact (Kd.V_reads' HO_130003.out).2.2 | (with_reducible refine Kd.C_alloc ?_ _) | (with_reducible refine Kd.C_drewN ?_ _) | (with_reducible refine Kd.C_drew ?_))); (case side4 => exact (Kd.V_reads' HO_130003.out).2.1); rintro e w123 ⟨rfl, hb⟩; refine ⟨_, rfl, ?_⟩; replace HO_129003 := Aside0.mk (Kd.V_below (Own.vd HO_129003.out) hb); replace HO_130003 := Aside0.mk (Kd.V_below (Own.vd HO_130003.out) hb); replace BK128 := Own.bb BK128.out hb; replace BK129 := Own.bb BK129.out hb; replace BK130 := Own.bb BK130.out hb; replace HB := Own.bs hb; (try clear hb); obtain ⟨z124_0, z124_1, z124_2, z124_3, y124_0, y124_1, y124_2, y124_3⟩ := Own.box4 BK128.out; obtain ⟨z125_0, z125_1, z125_2, z125_3, y125_0, y125_1, y125_2, y125_3⟩ := Own.box4 BK130.out))
            refine bodyPost_ret (results_cell_row rfl _ _ gb130 28 #[.int .i64 a1_0, .string a1_1, .int .i64 a1_2, .slice A1_3 l1_3.length c1_3] (0, 0) _ rfl (by (with_reducible repeat (first | refine blk_drewN ?_ _ | refine blk_drew ?_ | refine blk_alloc ?_ _)); with_reducible exact Own.put4 BK130.out) Tryd.underlying28 rfl (by kernel_rfl)) rfl ?_
            exact ⟨_, Own.rr, by (with_reducible repeat (first | apply Kd.V_alloc | apply Kd.V_drewN | apply Kd.V_drew)); exact Kd.V_mono (Kd.V_far (p := ⟨gb130, 3, none⟩) (Kd.V_far (p := ⟨gb130, 2, none⟩) (Kd.V_far (p := ⟨gb130, 1, none⟩) (Kd.V_far (p := ⟨gb130, 0, none⟩) (Kd.V_mono HO_129003.out (fun k_ hk => (⟨hk, hk.2.2.2⟩ : _ ∧ k_ ≠ gb130))) (fun _ hk => hk.2) (.int .i64 a1_0)) (fun _ hk => hk.2) (.string a1_1)) (fun _ hk => hk.2) (.int .i64 a1_2)) (fun _ hk => hk.2) (.slice A1_3 l1_3.length c1_3)) (fun _ hk => hk.1.1), Own.bl⟩
           obtain ⟨y136, hy136⟩ : ∃ y_ : List (S28), y_ = (([(⟨a1_0, a1_1, a1_2, l1_3⟩ : S28), (⟨a2_0, a2_1, a2_2, l2_3⟩ : S28)] : List (S28))) := ⟨_, rfl⟩
           replace H : (some (a0, (⟨#[]⟩ : ByteArray), 0, y136)) = some (r1, r2, r3, r4) := by first | (rw [hy136]; with_reducible exact H) | (have H2_ := (Option.bind_some _ _).symm.trans H; rw [hy136]; with_reducible exact H2_) | (have H2_ := (Option.bind_some _ _).symm.trans H; with_reducible exact H2_) | with_reducible exact H | (rw [hy136]; exact H) | exact H
           have Ny136 := Aside0.mk hy136
           clear hy136
           simp only [Option.some.injEq, Prod.mk.injEq] at H
           obtain ⟨rfl, rfl, rfl, rfl⟩ := H
           have hnb126 := NB128_129.out
           have hnc126 := NB129_128.out
           have hnb127 := NB128_130.out
           have hnc127 := NB130_128.out
           obtain ⟨z128_0, z128_1, z128_2, z128_3, y128_0, y128_1, y128_2, y128_3⟩ := Own.box4 BK128.out
           go_wp2_with (first | ((with_reducible refine gate_callee (f := 43) rfl ?_); refine goesL_ (some 56) rfl rfl Tryd.func43 (by kernel_rfl) rfl #[.agg #[.int .i64 a1_0, .string a1_1, .int .i64 a1_2, .slice A1_3 l1_3.length c1_3]] rfl Own.ha ?_; (with_reducible refine (spec_l5Never.calls a1_0 a1_1 a1_2 _ _ l1_3 false _ ?side1 ?side2 A92.out).mono ?_); (case side1 => repeat (first | exact (Kd.V_reads' HO_129003.out).2.2 | (with_reducible refine Kd.C_alloc ?_ _) | (with_reducible refine Kd.C_drewN ?_ _) | (with_reducible refine Kd.C_drew ?_))); (case side2 => exact (Kd.V_reads' HO_129003.out).2.1); rintro e w129 ⟨rfl, hb⟩; refine ⟨_, rfl, ?_⟩; replace HO_129003 := Aside0.mk (Kd.V_below (Own.vd HO_129003.out) hb); replace HO_130003 := Aside0.mk (Kd.V_below (Own.vd HO_130003.out) hb); replace BK128 := Own.bb BK128.out hb; replace BK129 := Own.bb BK129.out hb; replace BK130 := Own.bb BK130.out hb; replace HB := Own.bs hb; (try clear hb); (try clear hk); have hnb130 := NB129_130.out; have hnc130 := NB130_129.out; obtain ⟨z131_0, z131_1, z131_2, z131_3, y131_0, y131_1, y131_2, y131_3⟩ := Own.box4 BK129.out) | ((with_reducible refine gate_callee (f := 43) rfl ?_); refine goesL_ (some 60) rfl rfl Tryd.func43 (by kernel_rfl) rfl #[.agg #[.int .i64 a2_0, .string a2_1, .int .i64 a2_2, .slice A2_3 l2_3.length c2_3]] rfl Own.ha ?_; (with_reducible refine (spec_l5Never.calls a2_0 a2_1 a2_2 _ _ l2_3 false _ ?side1 ?side2 A101.out).mono ?_); (case side1 => repeat (first | exact (Kd.V_reads' HO_130003.out).2.2 | (with_reducible refine Kd.C_alloc ?_ _) | (with_reducible refine Kd.C_drewN ?_ _) | (with_reducible refine Kd.C_drew ?_))); (case side2 => exact (Kd.V_reads' HO_130003.out).2.1); rintro e w132 ⟨rfl, hb⟩; refine ⟨_, rfl, ?_⟩; replace HO_129003 := Aside0.mk (Kd.V_below (Own.vd HO_129003.out) hb); replace HO_130003 := Aside0.mk (Kd.V_below (Own.vd HO_130003.out) hb); replace BK128 := Own.bb BK128.out hb; replace BK129 := Own.bb BK129.out hb; replace BK130 := Own.bb BK130.out hb; replace HB := Own.bs hb; (try clear hb); (try clear hk); obtain ⟨z133_0, z133_1, z133_2, z133_3, y133_0, y133_1, y133_2, y133_3⟩ := Own.box4 BK128.out; obtain ⟨z134_0, z134_1, z134_2, z134_3, y134_0, y134_1, y134_2, y134_3⟩ := Own.box4 BK129.out) | ((with_reducible refine gate_callee (f := 44) rfl ?_); refine goesL_ (some 65) rfl rfl Tryd.func44 (by kernel_rfl) rfl #[.agg #[.int .i64 a1_0, .string a1_1, .int .i64 a1_2, .slice A1_3 l1_3.length c1_3], .agg #[.int .i64 a2_0, .string a2_1, .int .i64 a2_2, .slice A2_3 l2_3.length c2_3]] rfl Own.ha ?_; (with_reducible refine (spec_l5Same.calls kj74 a1_0 a1_1 a1_2 _ _ l1_3 a2_0 a2_1 a2_2 _ _ l2_3 false _ ?side1 ?side2 ?side3 ?side4 A112.out).mono ?_); (case side1 => repeat (first | exact (Kd.V_reads' HO_129003.out).2.2 | (with_reducible refine Kd.C_alloc ?_ _) | (with_reducible refine Kd.C_drewN ?_ _) | (with_reducible refine Kd.C_drew ?_))); (case side2 => exact (Kd.V_reads' HO_129003.out).2.1); (case side3 => repeat (first | exact (Kd.V_reads' HO_130003.out).2.2 | (with_reducible refine Kd.C_alloc ?_ _) | (with_reducible refine Kd.C_drewN ?_ _) | (with_reducible refine Kd.C_drew ?_))); (case side4 => exact (Kd.V_reads' HO_130003.out).2.1); rintro e w135 ⟨rfl, hb⟩; refine ⟨_, rfl, ?_⟩; replace HO_129003 := Aside0.mk (Kd.V_below (Own.vd HO_129003.out) hb); replace HO_130003 := Aside0.mk (Kd.V_below (Own.vd HO_130003.out) hb); replace BK128 := Own.bb BK128.out hb; replace BK129 := Own.bb BK129.out hb; replace BK130 := Own.bb BK130.out hb; replace HB := Own.bs hb; (try clear hb); (try clear hk); obtain ⟨z136_0, z136_1, z136_2, z136_3, y136_0, y136_1, y136_2, y136_3⟩ := Own.box4 BK128.out; obtain ⟨z137_0, z137_1, z137_2, z137_3, y137_0, y137_1, y137_2, y137_3⟩ := Own.box4 BK129.out) | ((with_reducible refine gate_dst (N := 70) rfl ?_); refine Kd.N_lit k28 _ 28 ?hg (N' := 70) ?hd (xs := ([(⟨a1_0, a1_1, a1_2, l1_3⟩ : S28), (⟨a2_0, a2_1, a2_2, l2_3⟩ : S28)] : List (S28))) (inner := [.int .i64 a1_0, .string a1_1, .int .i64 a1_2, .slice A1_3 l1_3.length c1_3, .int .i64 a2_0, .string a2_1, .int .i64 a2_2, .slice A2_3 l2_3.length c2_3]) (ok := (fun k_ => ((P1_3_ k_ ∨ P2_3_ k_) ∨ w.heap.size ≤ k_) ∧ k_ ≠ gb128 ∧ k_ ≠ gb129 ∧ k_ ≠ gb130)) (okp := (fun k_ => ((P1_3_ k_ ∨ P2_3_ k_) ∨ w.heap.size ≤ k_) ∧ k_ ≠ gb128 ∧ k_ ≠ gb129 ∧ k_ ≠ gb130)) ?hr ?hp (fun _ hk => hk) ((show ∀ k_, w135.heap.size ≤ k_ → (fun k_ => ((P1_3_ k_ ∨ P2_3_ k_) ∨ w.heap.size ≤ k_) ∧ k_ ≠ gb128 ∧ k_ ≠ gb129 ∧ k_ ≠ gb130) k_ from fun k_ hk => ⟨(.inr (Nat.le_trans (below_size Own.bl) hk)), Kd.freshB (Own.bkf BK128.out) k_ hk, Kd.freshB (Own.bkf BK129.out) k_ hk, Kd.freshB (Own.bkf BK130.out) k_ hk⟩) _ (Nat.le_refl _)) (Below.refl _ _) (Nat.le_refl _) (by simp) ?_; (case hd => rfl); (case hg => rfl); (case hr => first | (go_simp; done) | (go_simp; rfl)); (case hp => exact (Reps.c4 (show Kd.FK k28 _ _ (⟨a1_0, a1_1, a1_2, l1_3⟩ : S28) [.int .i64 a1_0, .string a1_1, .int .i64 a1_2, .slice A1_3 l1_3.length c1_3] from (k28_mkF _ _ (⟨a1_0, a1_1, a1_2, l1_3⟩ : S28) (Kd.V_reads' (Kd.V_mono (ok' := (fun k_ => ((P1_3_ k_ ∨ P2_3_ k_) ∨ w.heap.size ≤ k_) ∧ k_ ≠ gb128 ∧ k_ ≠ gb129 ∧ k_ ≠ gb130)) (HO_129003.out) (fun k_ hk => ⟨hk.1, ⟨hk.2.1, ⟨hk.2.2.1, hk.2.2.2⟩⟩⟩))).2.1 (Kd.V_F (Kd.V_mono (ok' := (fun k_ => ((P1_3_ k_ ∨ P2_3_ k_) ∨ w.heap.size ≤ k_) ∧ k_ ≠ gb128 ∧ k_ ≠ gb129 ∧ k_ ≠ gb130)) (HO_129003.out) (fun k_ hk => ⟨hk.1, ⟨hk.2.1, ⟨hk.2.2.1, hk.2.2.2⟩⟩⟩))))) (Reps.c4 (show Kd.FK k28 _ _ (⟨a2_0, a2_1, a2_2, l2_3⟩ : S28) [.int .i64 a2_0, .string a2_1, .int .i64 a2_2, .slice A2_3 l2_3.length c2_3] from (k28_mkF _ _ (⟨a2_0, a2_1, a2_2, l2_3⟩ : S28) (Kd.V_reads' (Kd.V_mono (ok' := (fun k_ => ((P1_3_ k_ ∨ P2_3_ k_) ∨ w.heap.size ≤ k_) ∧ k_ ≠ gb128 ∧ k_ ≠ gb129 ∧ k_ ≠ gb130)) (HO_130003.out) (fun k_ hk => ⟨hk.1, ⟨hk.2.1, ⟨hk.2.2.1, hk.2.2.2⟩⟩⟩))).2.1 (Kd.V_F (Kd.V_mono (ok' := (fun k_ => ((P1_3_ k_ ∨ P2_3_ k_) ∨ w.heap.size ≤ k_) ∧ k_ ≠ gb128 ∧ k_ ≠ gb129 ∧ k_ ≠ gb130)) (HO_130003.out) (fun k_ hk => ⟨hk.1, ⟨hk.2.1, ⟨hk.2.2.1, hk.2.2.2⟩⟩⟩))))) (Reps.none _ _)))); intro v137 w138 ho139 hb hg_ hnew_; clear hg_ hnew_; (first | rw [← Ny136.out] at ho139 | (simp only [Int.reduceToNat] at ho139; rw [← Ny136.out] at ho139)); have HO138 := Aside0.mk (Kd.N_lower ho139 (below_size Own.bl)); replace HO_129003 := Aside0.mk (Kd.V_elder' (Own.vd HO_129003.out) (Kd.N_base ho139) hb); replace HO_130003 := Aside0.mk (Kd.V_elder' (Own.vd HO_130003.out) (Kd.N_base ho139) hb); replace BK128 := Own.bb BK128.out hb; replace BK129 := Own.bb BK129.out hb; replace BK130 := Own.bb BK130.out hb; replace HB := Own.bs hb; clear hb ho139; obtain ⟨Ao140, co140, eo140⟩ := Kd.N_slice HO138.out; subst eo140; obtain ⟨z141_0, z141_1, z141_2, z141_3, y141_0, y141_1, y141_2, y141_3⟩ := Own.box4 BK130.out))
           refine bodyPost_ret (results_cell_row rfl _ _ gb130 28 #[.int .i64 a0, .string (⟨#[]⟩ : ByteArray), .int .i64 0, .slice Ao140 y136.length co140] (0, 0) _ rfl (by (with_reducible repeat (first | refine blk_drewN ?_ _ | refine blk_drew ?_ | refine blk_alloc ?_ _)); with_reducible exact Own.put4 BK130.out) Tryd.underlying28 rfl (by kernel_rfl)) rfl ?_
           exact ⟨_, Own.rr, Kd.N_V (by (with_reducible repeat (first | apply Kd.N_alloc | apply Kd.N_drewN | apply Kd.N_drew)); exact Kd.N_mono (Kd.N_far (p := ⟨gb130, 3, none⟩) (Kd.N_far (p := ⟨gb130, 2, none⟩) (Kd.N_far (p := ⟨gb130, 1, none⟩) (Kd.N_far (p := ⟨gb130, 0, none⟩) (Kd.N_mono HO138.out (fun k_ hk => (⟨hk, hk.2.2.2⟩ : _ ∧ k_ ≠ gb130))) (fun _ hk => hk.2) (.int .i64 a0)) (fun _ hk => hk.2) (.string (⟨#[]⟩ : ByteArray))) (fun _ hk => hk.2) (.int .i64 0)) (fun _ hk => hk.2) (.slice Ao140 y136.length co140)) (fun _ hk => hk.1.1)), Own.bl⟩

end Go.Proofs.YtnpenfficbdlmaaDoor.QFnExactSimplifyCondition
