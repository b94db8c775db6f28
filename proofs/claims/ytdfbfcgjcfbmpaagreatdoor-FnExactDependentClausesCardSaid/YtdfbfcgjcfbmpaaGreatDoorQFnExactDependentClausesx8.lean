-- Written by a program of this session out of the translation; Lean checks it.
import Derived.Test.YtdfbfcgjcfbmpaaGreatDoorQFnExactDependentClausesx0
import Derived.Test.YtdfbfcgjcfbmpaaGreatDoorQFnExactDependentClausesx7
namespace Go.Proofs.YtdfbfcgjcfbmpaaGreatDoor.QFnExactDependentClauses
open Go.RowKit Go.Proofs.YtdfbfcgjcfbmpaaGreatDoorW.PrintWords Go.Proofs.YtdfbfcgjcfbmpaaGreatDoorW.PrintLast Go.Proofs.YtdfbfcgjcfbmpaaGreatDoorW.PrintMore
attribute [local go_sem] Instr.field asAgg Own.str_leq Own.str_gtr Own.str_geq
attribute [local go_sem] max2_int min2_int max_two min_two max_three min_three max_four min_four   -- for this text's walks alone
set_option linter.unusedVariables false
set_option linter.unusedSimpArgs false

/-! ### spec_l6Dependent: function 33 -/
def spec_l6Dependent.l0 : Nat → Int → Int → List ByteArray → List (S51) → Option (Bool)
 | 0, _, _, _, _ => none
 | k + 1, x1, x5, x234000, x234001 => if x5 < (x234001.length : Int) then (if 0 ≤ x5 then (if 0 ≤ x1 then (if x1 < (x234001.length : Int) then (if ((rd_T51 x234001 x5).f8).toList = ((rd_T51 x234001 x1).f0).toList then (some true) else (spec_l6Dependent.l0 k x1 (wrap64 (x5 + 1)) x234000 x234001)) else (none)) else (none)) else (none)) else (some false)
def spec_l6Dependent.f (k : Nat) (l0_0 : List ByteArray) (l0_1 : List (S51)) (a1 : Int) : Option (Bool) := spec_l6Dependent.l0 k a1 0 l0_0 l0_1
theorem spec_l6Dependent.mono_l : ∀ k, (∀ y0 y1 y2 y3, LeO (spec_l6Dependent.l0 k y0 y1 y2 y3) (spec_l6Dependent.l0 (k + 1) y0 y1 y2 y3))
 | 0 => fun _ _ _ _ r h => by simp [spec_l6Dependent.l0] at h
 | k + 1 => by
  have ih0 := spec_l6Dependent.mono_l k
  ·
   intro y0 y1 y2 y3
   unfold spec_l6Dependent.l0
   repeat' first
   | (with_reducible first | exact ih0 _ _ _ _ | exact LeO.refl _ | exact LeO.none _ | refine LeO.ite ?_ ?_ | refine LeO.bind ?_ (fun _ => ?_))
theorem spec_l6Dependent.mono : ∀ a0 a1 a2 k, LeO (spec_l6Dependent.f k a0 a1 a2) (spec_l6Dependent.f (k + 1) a0 a1 a2) := by
 intro a0 a1 a2 k
 have ih0 := spec_l6Dependent.mono_l k
 unfold spec_l6Dependent.f
 repeat' first
   | (with_reducible first | exact ih0 _ _ _ _ | exact LeO.refl _ | exact LeO.none _ | refine LeO.ite ?_ ?_ | refine LeO.bind ?_ (fun _ => ?_))
set_option maxHeartbeats 8000000 in
set_option maxRecDepth 100000 in
theorem spec_l6Dependent.calls (k : Nat) (A0_0 : Option Addr) (c0_0 : Nat) (l0_0 : List ByteArray) (A0_1 : Option Addr) (c0_1 : Nat) (l0_1 : List (S51)) (a1 : Int) (r : Bool) (w : World) (hr0_0 : Kd.C Kd.string w A0_0 l0_0.length l0_0) (hc0_0 : l0_0.length ≤ c0_0) (hr0_1 : Kd.C k51 w A0_1 l0_1.length l0_1) (hc0_1 : l0_1.length ≤ c0_1) (h : spec_l6Dependent.f k l0_0 l0_1 a1 = some r) :
  Calls Tryz.prog 33 #[.agg #[.slice A0_0 l0_0.length c0_0, .slice A0_1 l0_1.length c0_1], .int .i64 a1] w fun e w' => e = .returned (.bool r) ∧ Below w.heap.size w w' := by
 have hu32 := Tryz.underlying32
 have HR0_0 := Aside0.mk hr0_0
 have HC0_0 := Aside0.mk hc0_0
 clear hr0_0 hc0_0
 have HR0_1 := Aside0.mk hr0_1
 have HC0_1 := Aside0.mk hc0_1
 clear hr0_1 hc0_1
 have HB := Aside0.mk (Below.refl w.heap.size w)
 have H : (spec_l6Dependent.l0 k a1 0 l0_0 l0_1) = some r := h
 clear h
 have H' := Aside0.mk H
 clear H
 go_enter Tryz.func33, Tryz.ntmps33
 go_wp2_with (first | ((with_reducible refine gate_dst (N := 2) rfl ?_); refine Own.be (N := 2) (cs := #[.slice A0_0 l0_0.length c0_0, .slice A0_1 l0_1.length c0_1]) (t := 32) ?_; intro gb233 hg w3 hbox hb; have BK233 := Aside0.mk hbox; have GW233 := (Own.gs hg : Aside0 (w.heap.size ≤ gb233)); have GE233 := GW233; replace HB := Own.bs hb; clear hb hbox hg))
 repeat (go_quiet (first | ((with_reducible refine gate_dst (N := 2) rfl ?_); refine Own.be (N := 2) (cs := #[.slice A0_0 l0_0.length c0_0, .slice A0_1 l0_1.length c0_1]) (t := 32) ?_; intro gb233 hg w3 hbox hb; have BK233 := Aside0.mk hbox; have GW233 := (Own.gs hg : Aside0 (w.heap.size ≤ gb233)); have GE233 := GW233; replace HB := Own.bs hb; clear hb hbox hg)); try go_wp2_with (first | ((with_reducible refine gate_dst (N := 2) rfl ?_); refine Own.be (N := 2) (cs := #[.slice A0_0 l0_0.length c0_0, .slice A0_1 l0_1.length c0_1]) (t := 32) ?_; intro gb233 hg w3 hbox hb; have BK233 := Aside0.mk hbox; have GW233 := (Own.gs hg : Aside0 (w.heap.size ≤ gb233)); have GE233 := GW233; replace HB := Own.bs hb; clear hb hbox hg)))
 go_loopg [5] k (fun kq v5 w' => ∃ (x5_1 : Int), v5 = .int .i64 x5_1 ∧ Aside0 (spec_l6Dependent.l0 kq a1 x5_1 l0_0 l0_1 = some r) ∧ Aside0 (kq ≤ k) ∧ Aside0 (w'.heap[gb233]? = some (.cells #[(.slice A0_0 l0_0.length c0_0), (.slice A0_1 l0_1.length c0_1)] 32 (0, 0))) ∧ Aside0 (Below w.heap.size w w'))
 case atStart => exact ⟨(0), Own.rs, H', ⟨Nat.le_refl _⟩, ⟨Own.bk⟩, ⟨Own.bl⟩⟩
 case round =>
  clear H'
  try clear p2; try clear c3
  obtain ⟨x5_1, rfl, HA, HK1, BK233, HB⟩ := hrel
  cases gk with
  | zero => exact absurd HA.out (by simp [spec_l6Dependent.l0])
  | succ k1 =>
   have H := HA.out
   clear HA
   simp only [spec_l6Dependent.l0] at H
   by_cases c4 : x5_1 < (l0_1.length : Int)
   rotate_left
   ·
    rw [if_neg c4] at H
    replace c4 := decide_eq_false c4
    obtain rfl := Option.some.inj H
    obtain ⟨z11_0, z11_1, y11_0, y11_1⟩ := Own.box2 BK233.out
    go_wp2
    repeat (go_quiet (fail); try go_wp2)
    go_ret
    exact ⟨Own.rr, Own.bl⟩
   rw [if_pos c4] at H
   replace c4 := decide_eq_true c4
   replace H := Own.ifd H; obtain ⟨c5, H⟩ := H
   replace H := Own.ifd H; obtain ⟨c6, H⟩ := H
   replace H := Own.ifd H; obtain ⟨c7, H⟩ := H
   by_cases c8 : ((rd_T51 l0_1 x5_1).f8).toList = ((rd_T51 l0_1 a1).f0).toList
   ·
    rw [if_pos c8] at H
    have c8b0 : (((rd_T51 l0_1 x5_1).f8).toList == ((rd_T51 l0_1 a1).f0).toList) = true := beq_iff_eq.mpr c8
    have c8b1 : (((rd_T51 l0_1 x5_1).f8).toList != ((rd_T51 l0_1 a1).f0).toList) = false := bne_eq_false_iff_eq.mpr c8
    clear c8
    obtain rfl := Option.some.inj H
    obtain ⟨z9_0, z9_1, y9_0, y9_1⟩ := Own.box2 BK233.out
    have p234 : 0 ≤ (x5_1 : Int) := Own.dp
    have q234 : x5_1 < (l0_1.length : Int) := Own.dp
    obtain ⟨ad234, A234_9, c234_9, e234, hx234_0, hx234_1, hx234_2, hx234_3, hx234_4, hx234_5, hx234_6, hx234_7, hx234_8, hx234_9, hx234_10, hx234_11, hl234_9, hi234_9⟩ := at_T51 HR0_1.out x5_1 p234 q234
    cases e234
    replace hx234_0 := Own.up HB.out hx234_0
    replace hx234_1 := Own.up HB.out hx234_1
    replace hx234_2 := Own.up HB.out hx234_2
    replace hx234_3 := Own.up HB.out hx234_3
    replace hx234_4 := Own.up HB.out hx234_4
    replace hx234_5 := Own.up HB.out hx234_5
    replace hx234_6 := Own.up HB.out hx234_6
    replace hx234_7 := Own.up HB.out hx234_7
    replace hx234_8 := Own.up HB.out hx234_8
    replace hx234_9 := Own.up HB.out hx234_9
    replace hx234_10 := Own.up HB.out hx234_10
    replace hx234_11 := Own.up HB.out hx234_11
    have HR234_9 := Aside0.mk hi234_9
    have HC234_9 := Aside0.mk hl234_9
    clear hi234_9 hl234_9
    replace p234 := eq_true p234
    replace q234 := eq_true q234
    have p235 : 0 ≤ (a1 : Int) := Own.dp
    have q235 : a1 < (l0_1.length : Int) := Own.dp
    obtain ⟨ad235, A235_9, c235_9, e235, hx235_0, hx235_1, hx235_2, hx235_3, hx235_4, hx235_5, hx235_6, hx235_7, hx235_8, hx235_9, hx235_10, hx235_11, hl235_9, hi235_9⟩ := at_T51 HR0_1.out a1 p235 q235
    obtain rfl : ad234 = ad235 := (by injection e235)
    replace hx235_0 := Own.up HB.out hx235_0
    replace hx235_1 := Own.up HB.out hx235_1
    replace hx235_2 := Own.up HB.out hx235_2
    replace hx235_3 := Own.up HB.out hx235_3
    replace hx235_4 := Own.up HB.out hx235_4
    replace hx235_5 := Own.up HB.out hx235_5
    replace hx235_6 := Own.up HB.out hx235_6
    replace hx235_7 := Own.up HB.out hx235_7
    replace hx235_8 := Own.up HB.out hx235_8
    replace hx235_9 := Own.up HB.out hx235_9
    replace hx235_10 := Own.up HB.out hx235_10
    replace hx235_11 := Own.up HB.out hx235_11
    have HR235_9 := Aside0.mk hi235_9
    have HC235_9 := Aside0.mk hl235_9
    clear hi235_9 hl235_9
    replace p235 := eq_true p235
    replace q235 := eq_true q235
    go_wp2
    repeat (go_quiet (fail); try go_wp2)
    go_ret
    exact ⟨Own.rr, Own.bl⟩
   rw [if_neg c8] at H
   have c8b0 : (((rd_T51 l0_1 x5_1).f8).toList == ((rd_T51 l0_1 a1).f0).toList) = false := beq_eq_false_iff_ne.mpr c8
   have c8b1 : (((rd_T51 l0_1 x5_1).f8).toList != ((rd_T51 l0_1 a1).f0).toList) = true := bne_iff_ne.mpr c8
   have H' := Aside0.mk H
   clear H
   obtain ⟨z10_0, z10_1, y10_0, y10_1⟩ := Own.box2 BK233.out
   have p234 : 0 ≤ (x5_1 : Int) := Own.dp
   have q234 : x5_1 < (l0_1.length : Int) := Own.dp
   obtain ⟨ad234, A234_9, c234_9, e234, hx234_0, hx234_1, hx234_2, hx234_3, hx234_4, hx234_5, hx234_6, hx234_7, hx234_8, hx234_9, hx234_10, hx234_11, hl234_9, hi234_9⟩ := at_T51 HR0_1.out x5_1 p234 q234
   cases e234
   replace hx234_0 := Own.up HB.out hx234_0
   replace hx234_1 := Own.up HB.out hx234_1
   replace hx234_2 := Own.up HB.out hx234_2
   replace hx234_3 := Own.up HB.out hx234_3
   replace hx234_4 := Own.up HB.out hx234_4
   replace hx234_5 := Own.up HB.out hx234_5
   replace hx234_6 := Own.up HB.out hx234_6
   replace hx234_7 := Own.up HB.out hx234_7
   replace hx234_8 := Own.up HB.out hx234_8
   replace hx234_9 := Own.up HB.out hx234_9
   replace hx234_10 := Own.up HB.out hx234_10
   replace hx234_11 := Own.up HB.out hx234_11
   have HR234_9 := Aside0.mk hi234_9
   have HC234_9 := Aside0.mk hl234_9
   clear hi234_9 hl234_9
   replace p234 := eq_true p234
   replace q234 := eq_true q234
   have p235 : 0 ≤ (a1 : Int) := Own.dp
   have q235 : a1 < (l0_1.length : Int) := Own.dp
   obtain ⟨ad235, A235_9, c235_9, e235, hx235_0, hx235_1, hx235_2, hx235_3, hx235_4, hx235_5, hx235_6, hx235_7, hx235_8, hx235_9, hx235_10, hx235_11, hl235_9, hi235_9⟩ := at_T51 HR0_1.out a1 p235 q235
   obtain rfl : ad234 = ad235 := (by injection e235)
   replace hx235_0 := Own.up HB.out hx235_0
   replace hx235_1 := Own.up HB.out hx235_1
   replace hx235_2 := Own.up HB.out hx235_2
   replace hx235_3 := Own.up HB.out hx235_3
   replace hx235_4 := Own.up HB.out hx235_4
   replace hx235_5 := Own.up HB.out hx235_5
   replace hx235_6 := Own.up HB.out hx235_6
   replace hx235_7 := Own.up HB.out hx235_7
   replace hx235_8 := Own.up HB.out hx235_8
   replace hx235_9 := Own.up HB.out hx235_9
   replace hx235_10 := Own.up HB.out hx235_10
   replace hx235_11 := Own.up HB.out hx235_11
   have HR235_9 := Aside0.mk hi235_9
   have HC235_9 := Aside0.mk hl235_9
   clear hi235_9 hl235_9
   replace p235 := eq_true p235
   replace q235 := eq_true q235
   go_wp2
   repeat (go_quiet (fail); try go_wp2)
   go_roundg k1
   case measure => have := HK1.out; omega
   case rel => exact ⟨(wrap64 (x5_1 + 1)), Own.rs, H', ⟨by have := HK1.out; omega⟩, ⟨Own.bk⟩, ⟨Own.bl⟩⟩

/-! ### spec_DependentClauses: function 9 -/
def spec_DependentClauses.l0 : Nat → List Int → Int → List ByteArray → List (S51) → Option (List Int × Bool)
 | 0, _, _, _, _ => none
 | k + 1, x4, x5, x237000, x237001 => if x5 < (x237001.length : Int) then ((spec_l6Dependent.f k x237000 x237001 x5).bind fun t241 => (if t241 = true then (if x4.length < 17592186044416 then (spec_DependentClauses.l0 k (x4 ++ [x5]) (wrap64 (x5 + 1)) x237000 x237001) else (none)) else (spec_DependentClauses.l0 k x4 (wrap64 (x5 + 1)) x237000 x237001))) else (some (x4, true))
def spec_DependentClauses.f (k : Nat) (l0_0 : List ByteArray) (l0_1 : List (S51)) : Option (List Int × Bool) := (some (([] : List Int) : List Int)).bind fun y237 => ((spec_l6Good.f k l0_0 l0_1).bind fun t240 => (if t240 = true then (spec_DependentClauses.l0 k y237 0 l0_0 l0_1) else (some (y237, false))))
theorem spec_DependentClauses.mono_l : ∀ k, (∀ y0 y1 y2 y3, LeO (spec_DependentClauses.l0 k y0 y1 y2 y3) (spec_DependentClauses.l0 (k + 1) y0 y1 y2 y3))
 | 0 => fun _ _ _ _ r h => by simp [spec_DependentClauses.l0] at h
 | k + 1 => by
  have ih0 := spec_DependentClauses.mono_l k
  ·
   intro y0 y1 y2 y3
   unfold spec_DependentClauses.l0
   repeat' first
   | (with_reducible first | exact ih0 _ _ _ _ | exact spec_l6Dependent.mono _ _ _ _ | exact spec_l6Good.mono _ _ _ | exact LeO.refl _ | exact LeO.none _ | refine LeO.ite ?_ ?_ | refine LeO.bind ?_ (fun _ => ?_))
theorem spec_DependentClauses.mono : ∀ a0 a1 k, LeO (spec_DependentClauses.f k a0 a1) (spec_DependentClauses.f (k + 1) a0 a1) := by
 intro a0 a1 k
 have ih0 := spec_DependentClauses.mono_l k
 unfold spec_DependentClauses.f
 repeat' first
   | (with_reducible first | exact ih0 _ _ _ _ | exact spec_l6Dependent.mono _ _ _ _ | exact spec_l6Good.mono _ _ _ | exact LeO.refl _ | exact LeO.none _ | refine LeO.ite ?_ ?_ | refine LeO.bind ?_ (fun _ => ?_))
set_option maxHeartbeats 8000000 in
set_option maxRecDepth 100000 in
theorem spec_DependentClauses.calls (k : Nat) (A0_0 : Option Addr) (c0_0 : Nat) (l0_0 : List ByteArray) (A0_1 : Option Addr) (c0_1 : Nat) (l0_1 : List (S51)) (r1 : List Int) (r2 : Bool) (w : World) (hr0_0 : Kd.C Kd.string w A0_0 l0_0.length l0_0) (hc0_0 : l0_0.length ≤ c0_0) (hr0_1 : Kd.C k51 w A0_1 l0_1.length l0_1) (hc0_1 : l0_1.length ≤ c0_1) (h : spec_DependentClauses.f k l0_0 l0_1 = some (r1, r2)) :
  Calls Tryz.prog 9 #[.agg #[.slice A0_0 l0_0.length c0_0, .slice A0_1 l0_1.length c0_1]] w fun e w' => ∃ v0_ : Value, e = .returned (.tuple #[v0_, .bool r2]) ∧ Kd.R (Kd.int .i64) 3 w' w.heap.size (fun _ => True) v0_ r1 ∧ Below w.heap.size w w' := by
 have hu32 := Tryz.underlying32
 have HR0_0 := Aside0.mk hr0_0
 have HC0_0 := Aside0.mk hc0_0
 clear hr0_0 hc0_0
 have HR0_1 := Aside0.mk hr0_1
 have HC0_1 := Aside0.mk hc0_1
 clear hr0_1 hc0_1
 have HB := Aside0.mk (Below.refl w.heap.size w)
 have H : ((some (([] : List Int) : List Int)).bind fun y237 => ((spec_l6Good.f k l0_0 l0_1).bind fun t240 => (if t240 = true then (spec_DependentClauses.l0 k y237 0 l0_0 l0_1) else (some (y237, false))))) = some (r1, r2) := h
 clear h
 obtain ⟨y237, hy237⟩ : ∃ y_ : List Int, y_ = (([] : List Int)) := ⟨_, rfl⟩
 replace H : ((spec_l6Good.f k l0_0 l0_1).bind fun t240 => (if t240 = true then (spec_DependentClauses.l0 k y237 0 l0_0 l0_1) else (some (y237, false)))) = some (r1, r2) := by first | (rw [hy237]; with_reducible exact H) | (have H2_ := (Option.bind_some _ _).symm.trans H; rw [hy237]; with_reducible exact H2_) | (have H2_ := (Option.bind_some _ _).symm.trans H; with_reducible exact H2_) | with_reducible exact H | (rw [hy237]; exact H) | exact H
 have Ny237 := Aside0.mk hy237
 clear hy237
 replace H := Own.bd H; obtain ⟨t240, A2, H⟩ := H
 replace H := Own.ift H; obtain ⟨rfl, H⟩ | ⟨rfl, H⟩ := H
 ·
  simp only [Option.some.injEq, Prod.mk.injEq] at H
  obtain ⟨rfl, rfl⟩ := H
  go_enter Tryz.func9, Tryz.ntmps9
  go_wp2_with (first | ((with_reducible refine gate_dst (N := 1) rfl ?_); refine Own.be (N := 1) (cs := #[.slice A0_0 l0_0.length c0_0, .slice A0_1 l0_1.length c0_1]) (t := 32) ?_; intro gb236 hg w19 hbox hb; have BK236 := Aside0.mk hbox; have GW236 := (Own.gs hg : Aside0 (w.heap.size ≤ gb236)); have GE236 := GW236; replace HB := Own.bs hb; clear hb hbox hg) | ((with_reducible refine gate_dst (N := 6) rfl ?_); refine Kd.R_lit (Kd.int .i64) _ 3 ?hg (N := 6) ?hd (xs := ([] : List Int)) (inner := []) (ok := fun _ => True) (okp := fun _ => True) ?hr ?hp (fun _ hk => hk) trivial (Below.refl _ _) (Nat.le_refl _) (by simp) ?_; (case hd => rfl); (case hg => rfl); (case hr => first | (go_simp; done) | (go_simp; rfl)); (case hp => exact (Reps.none _ _)); intro v238 w20 ho21 hb hg_ hnew_; clear hg_ hnew_; (first | rw [← Ny237.out] at ho21 | (simp only [Int.reduceToNat] at ho21; rw [← Ny237.out] at ho21)); have HO239 := Aside0.mk (Kd.R_lower ho21 (below_size Own.bl)); replace BK236 := Own.bb BK236.out hb; replace HB := Own.bs hb; clear hb ho21; obtain ⟨z22_0, z22_1, y22_0, y22_1⟩ := Own.box2 BK236.out) | ((with_reducible refine gate_callee (f := 32) rfl ?_); refine goesL_ (some 8) rfl rfl Tryz.func32 (by kernel_rfl) rfl #[.agg #[.slice A0_0 l0_0.length c0_0, .slice A0_1 l0_1.length c0_1]] rfl Own.ha ?_; (with_reducible refine (spec_l6Good.calls k _ _ l0_0 _ _ l0_1 false _ ?side1 ?side2 ?side3 ?side4 A2.out).mono ?_); (case side1 => exact Kd.C_below HR0_0.out Own.bl); (case side2 => exact HC0_0.out); (case side3 => exact Kd.C_below HR0_1.out Own.bl); (case side4 => exact HC0_1.out); rintro e w23 ⟨rfl, hb⟩; refine ⟨_, rfl, ?_⟩; replace HO239 := Aside0.mk (Kd.R_below (Own.rd HO239.out) hb); replace BK236 := Own.bb BK236.out hb; replace HB := Own.bs hb; (try clear hb); (try clear hk)))
  go_ret2
  exact ⟨_, Own.rr, Own.rd HO239.out, Own.bl⟩
 have H' := Aside0.mk H
 clear H
 go_enter Tryz.func9, Tryz.ntmps9
 go_wp2_with (first | ((with_reducible refine gate_dst (N := 1) rfl ?_); refine Own.be (N := 1) (cs := #[.slice A0_0 l0_0.length c0_0, .slice A0_1 l0_1.length c0_1]) (t := 32) ?_; intro gb236 hg w4 hbox hb; have BK236 := Aside0.mk hbox; have GW236 := (Own.gs hg : Aside0 (w.heap.size ≤ gb236)); have GE236 := GW236; replace HB := Own.bs hb; clear hb hbox hg) | ((with_reducible refine gate_dst (N := 6) rfl ?_); refine Kd.R_lit (Kd.int .i64) _ 3 ?hg (N := 6) ?hd (xs := ([] : List Int)) (inner := []) (ok := fun _ => True) (okp := fun _ => True) ?hr ?hp (fun _ hk => hk) trivial (Below.refl _ _) (Nat.le_refl _) (by simp) ?_; (case hd => rfl); (case hg => rfl); (case hr => first | (go_simp; done) | (go_simp; rfl)); (case hp => exact (Reps.none _ _)); intro v238 w5 ho6 hb hg_ hnew_; clear hg_ hnew_; (first | rw [← Ny237.out] at ho6 | (simp only [Int.reduceToNat] at ho6; rw [← Ny237.out] at ho6)); have HO239 := Aside0.mk (Kd.R_lower ho6 (below_size Own.bl)); replace BK236 := Own.bb BK236.out hb; replace HB := Own.bs hb; clear hb ho6; obtain ⟨z7_0, z7_1, y7_0, y7_1⟩ := Own.box2 BK236.out) | ((with_reducible refine gate_callee (f := 32) rfl ?_); refine goesL_ (some 8) rfl rfl Tryz.func32 (by kernel_rfl) rfl #[.agg #[.slice A0_0 l0_0.length c0_0, .slice A0_1 l0_1.length c0_1]] rfl Own.ha ?_; (with_reducible refine (spec_l6Good.calls k _ _ l0_0 _ _ l0_1 true _ ?side1 ?side2 ?side3 ?side4 A2.out).mono ?_); (case side1 => exact Kd.C_below HR0_0.out Own.bl); (case side2 => exact HC0_0.out); (case side3 => exact Kd.C_below HR0_1.out Own.bl); (case side4 => exact HC0_1.out); rintro e w8 ⟨rfl, hb⟩; refine ⟨_, rfl, ?_⟩; replace HO239 := Aside0.mk (Kd.R_below (Own.rd HO239.out) hb); replace BK236 := Own.bb BK236.out hb; replace HB := Own.bs hb; (try clear hb); (try clear hk)))
 go_loopg [4, 5] k (fun kq v4 v5 w' => ∃ (x4_1 : List Int) (x5_1 : Int), v5 = .int .i64 x5_1 ∧ Aside0 (spec_DependentClauses.l0 kq x4_1 x5_1 l0_0 l0_1 = some (r1, r2)) ∧ Aside0 (kq ≤ k) ∧ Aside0 (Kd.R (Kd.int .i64) 3 w' w.heap.size (fun _ => True) v4 x4_1) ∧ Aside0 (w'.heap[gb236]? = some (.cells #[(.slice A0_0 l0_0.length c0_0), (.slice A0_1 l0_1.length c0_1)] 32 (0, 0))) ∧ Aside0 (Below w.heap.size w w'))
 case atStart => exact ⟨(y237), (0), Own.rs, H', ⟨Nat.le_refl _⟩, ⟨Own.rd HO239.out⟩, ⟨Own.bk⟩, ⟨Own.bl⟩⟩
 case round =>
  clear H'
  try clear p2; try clear c3; try clear z7_0 z7_1 y7_0 y7_1
  obtain ⟨x4_1, x5_1, rfl, HA, HK1, HO_4, BK236, HB⟩ := hrel
  cases gk with
  | zero => exact absurd HA.out (by simp [spec_DependentClauses.l0])
  | succ k1 =>
   have H := HA.out
   clear HA
   simp only [spec_DependentClauses.l0] at H
   by_cases c9 : x5_1 < (l0_1.length : Int)
   rotate_left
   ·
    rw [if_neg c9] at H
    replace c9 := decide_eq_false c9
    simp only [Option.some.injEq, Prod.mk.injEq] at H
    obtain ⟨rfl, rfl⟩ := H
    obtain ⟨z18_0, z18_1, y18_0, y18_1⟩ := Own.box2 BK236.out
    go_wp2
    go_ret2
    exact ⟨_, Own.rr, Own.rd HO_4.out, Own.bl⟩
   rw [if_pos c9] at H
   replace c9 := decide_eq_true c9
   replace H := Own.bd H; obtain ⟨t241, A10, H⟩ := H
   replace H := Own.ift H; obtain ⟨rfl, H⟩ | ⟨rfl, H⟩ := H
   ·
    have H' := Aside0.mk H
    clear H
    obtain ⟨z16_0, z16_1, y16_0, y16_1⟩ := Own.box2 BK236.out
    go_wp2_with (first | ((with_reducible refine gate_callee (f := 33) rfl ?_); refine goesL_ (some 20) rfl rfl Tryz.func33 (by kernel_rfl) rfl #[.agg #[.slice A0_0 l0_0.length c0_0, .slice A0_1 l0_1.length c0_1], .int .i64 x5_1] rfl Own.ha ?_; (with_reducible refine (spec_l6Dependent.calls k1 _ _ l0_0 _ _ l0_1 x5_1 false _ ?side1 ?side2 ?side3 ?side4 A10.out).mono ?_); (case side1 => exact Kd.C_below HR0_0.out Own.bl); (case side2 => exact HC0_0.out); (case side3 => exact Kd.C_below HR0_1.out Own.bl); (case side4 => exact HC0_1.out); rintro e w17 ⟨rfl, hb⟩; refine ⟨_, rfl, ?_⟩; replace HO_4 := Aside0.mk (Kd.R_below (Own.rd HO_4.out) hb); replace BK236 := Own.bb BK236.out hb; replace HB := Own.bs hb; (try clear hb)))
    go_roundg k1
    case measure => have := HK1.out; omega
    case rel => exact ⟨(x4_1), (wrap64 (x5_1 + 1)), Own.rs, H', ⟨by have := HK1.out; omega⟩, ⟨Own.rd HO_4.out⟩, ⟨Own.bk⟩, ⟨Own.bl⟩⟩
   replace H := Own.ifn H; obtain ⟨c12, H⟩ := H
   have LMc12 := Aside0.mk c12
   clear c12
   obtain ⟨y242, hy242⟩ : ∃ y_ : List Int, y_ = (x4_1 ++ [x5_1]) := ⟨_, rfl⟩
   replace H : (spec_DependentClauses.l0 k1 y242 (wrap64 (x5_1 + 1)) l0_0 l0_1) = some (r1, r2) := by first | (rw [hy242]; with_reducible exact H) | (have H2_ := (Option.bind_some _ _).symm.trans H; rw [hy242]; with_reducible exact H2_) | (have H2_ := (Option.bind_some _ _).symm.trans H; with_reducible exact H2_) | with_reducible exact H | (rw [hy242]; exact H) | exact H
   have Ny242 := Aside0.mk hy242
   clear hy242
   have H' := Aside0.mk H
   clear H
   obtain ⟨z13_0, z13_1, y13_0, y13_1⟩ := Own.box2 BK236.out
   go_wp2_with (first | ((with_reducible refine gate_callee (f := 33) rfl ?_); refine goesL_ (some 20) rfl rfl Tryz.func33 (by kernel_rfl) rfl #[.agg #[.slice A0_0 l0_0.length c0_0, .slice A0_1 l0_1.length c0_1], .int .i64 x5_1] rfl Own.ha ?_; (with_reducible refine (spec_l6Dependent.calls k1 _ _ l0_0 _ _ l0_1 x5_1 true _ ?side1 ?side2 ?side3 ?side4 A10.out).mono ?_); (case side1 => exact Kd.C_below HR0_0.out Own.bl); (case side2 => exact HC0_0.out); (case side3 => exact Kd.C_below HR0_1.out Own.bl); (case side4 => exact HC0_1.out); rintro e w14 ⟨rfl, hb⟩; refine ⟨_, rfl, ?_⟩; replace HO_4 := Aside0.mk (Kd.R_below (Own.rd HO_4.out) hb); replace BK236 := Own.bb BK236.out hb; replace HB := Own.bs hb; (try clear hb); (try clear hk)) | ((with_reducible refine gate_builtin (b := .append) (xs := #[.tmp 21, .tmp 23]) rfl ?_); at_builtin; refine Kd.R_append (Kd.int .i64) (w0 := w) w.heap.size rfl (.tmp 21) (.tmp 23) 27 3 (.int .i64 0) 8 rfl Tryz.underlying27 info3 rfl (by decide) (by omega) u4 x4_1 x5_1 [.int .i64 x5_1] (fun _ => True) (fun _ => False) rfl rfl ?aP (fun _ hk => hk.elim) ?aF ?aO ?aB ?aS ?aL ?_; (case aP => exact rfl); (case aB => exact Own.bl); (case aF => exact (fun _ _ => trivial)); (case aO => exact (Own.rd HO_4.out)); (case aS => exact (below_size Own.bl)); (case aL => have := LMc12.out; omega); intro v243 w15 ho hb hg hat; rw [← Ny242.out] at ho; have HO244 := Aside0.mk ho; replace BK236 := Aside0.mk (blk_grown (Own.bkf BK236.out) hg (Kd.R_ne HO_4.out BK236.out (by decide))); replace HB := Aside0.mk hb; clear HO_4; clear ho hb hg hat))
   go_roundg k1
   case measure => have := HK1.out; omega
   case rel => exact ⟨(y242), (wrap64 (x5_1 + 1)), Own.rs, H', ⟨by have := HK1.out; omega⟩, ⟨Own.rd HO244.out⟩, ⟨Own.bk⟩, ⟨Own.bl⟩⟩

/-! ### laws_toStringS: function 34 -/
def laws_toStringS.l0 : Nat → List ByteArray → List ByteArray → Int → Option (List ByteArray)
 | 0, _, _, _ => none
 | k + 1, x0, x3, x4 => if x4 < (x0.length : Int) then (if 0 ≤ x4 then (if x4 < (x3.length : Int) then (laws_toStringS.l0 k x0 (x3.set (x4 : Int).toNat (rdOf ByteArray.empty x0 x4)) (wrap64 (x4 + 1))) else (none)) else (none)) else (some x3)
def laws_toStringS.f (k : Nat) (l0 : List ByteArray) : Option (List ByteArray) := if 0 ≤ (l0.length : Int) then (if ((l0.length : Int) : Int).toNat ≤ 17592186044416 then (laws_toStringS.l0 k l0 (List.replicate ((l0.length : Int) : Int).toNat (⟨#[]⟩ : ByteArray)) 0) else (none)) else (none)
theorem laws_toStringS.mono_l : ∀ k, (∀ y0 y1 y2, LeO (laws_toStringS.l0 k y0 y1 y2) (laws_toStringS.l0 (k + 1) y0 y1 y2))
 | 0 => fun _ _ _ r h => by simp [laws_toStringS.l0] at h
 | k + 1 => by
  have ih0 := laws_toStringS.mono_l k
  ·
   intro y0 y1 y2
   unfold laws_toStringS.l0
   repeat' first
   | (with_reducible first | exact ih0 _ _ _ | exact LeO.refl _ | exact LeO.none _ | refine LeO.ite ?_ ?_ | refine LeO.bind ?_ (fun _ => ?_))
theorem laws_toStringS.mono : ∀ a0 k, LeO (laws_toStringS.f k a0) (laws_toStringS.f (k + 1) a0) := by
 intro a0 k
 have ih0 := laws_toStringS.mono_l k
 unfold laws_toStringS.f
 repeat' first
   | (with_reducible first | exact ih0 _ _ _ | exact LeO.refl _ | exact LeO.none _ | refine LeO.ite ?_ ?_ | refine LeO.bind ?_ (fun _ => ?_))
set_option maxHeartbeats 8000000 in
set_option maxRecDepth 100000 in
theorem laws_toStringS.calls (k : Nat) (A0 : Option Addr) (c0 : Nat) (l0 : List ByteArray) (r : List ByteArray) (w : World) (hr0 : Kd.C Kd.string w A0 l0.length l0) (hc0 : l0.length ≤ c0) (h : laws_toStringS.f k l0 = some r) :
  Calls Tryz.prog 34 #[.slice A0 l0.length c0] w fun e w' => ∃ v0_ : Value, e = .returned (v0_) ∧ Kd.R Kd.string 9 w' w.heap.size (fun _ => True) v0_ r ∧ Below w.heap.size w w' := by
 have HR0 := Aside0.mk hr0
 have HC0 := Aside0.mk hc0
 clear hr0 hc0
 have HB := Aside0.mk (Below.refl w.heap.size w)
 have H : (if 0 ≤ (l0.length : Int) then (if ((l0.length : Int) : Int).toNat ≤ 17592186044416 then (laws_toStringS.l0 k l0 (List.replicate ((l0.length : Int) : Int).toNat (⟨#[]⟩ : ByteArray)) 0) else (none)) else (none)) = some r := h
 clear h
 replace H := Own.ifn H; obtain ⟨c2, H⟩ := H
 have c2b0 := eq_true c2
 have c2b1 : decide (0 ≤ (l0.length : Int)) = true := decide_eq_true c2
 clear c2
 replace H := Own.ifn H; obtain ⟨c3, H⟩ := H
 have c3b0 := eq_true c3
 have c3b1 : decide (((l0.length : Int) : Int).toNat ≤ 17592186044416) = true := decide_eq_true c3
 clear c3
 obtain ⟨y245, hy245⟩ : ∃ y_ : List ByteArray, y_ = (List.replicate ((l0.length : Int) : Int).toNat (⟨#[]⟩ : ByteArray)) := ⟨_, rfl⟩
 replace H : (laws_toStringS.l0 k l0 y245 0) = some r := by first | (rw [hy245]; with_reducible exact H) | (have H2_ := (Option.bind_some _ _).symm.trans H; rw [hy245]; with_reducible exact H2_) | (have H2_ := (Option.bind_some _ _).symm.trans H; with_reducible exact H2_) | with_reducible exact H | (rw [hy245]; exact H) | exact H
 have Ny245 := Aside0.mk hy245
 clear hy245
 have H' := Aside0.mk H
 clear H
 go_enter Tryz.func34, Tryz.ntmps34
 go_wp2_with (first | ((with_reducible refine gate_dst (N := 7) rfl ?_); refine Kd.R_make Kd.string _ 9 rfl (N := 7) rfl 22 _ _ rfl (l0.length : Int) rfl rfl Tryz.underlying22 (.string ⟨#[]⟩) 16 info9 rfl (by decide) (by omega) (⟨#[]⟩ : ByteArray) (ok := fun _ => True) (okp := fun _ => True) rfl (fun _ hk => hk) trivial (Own.dp) (Nat.le_trans (Nat.mul_le_mul_right _ (Own.dp : (l0.length : Int).toNat ≤ 17592186044416)) (by omega)) (Below.refl _ _) (Nat.le_refl _) ?_; intro v246 w4 ho5 hb hg_ hnew_; clear hg_ hnew_; (first | rw [← Ny245.out] at ho5 | (simp only [Int.reduceToNat] at ho5; rw [← Ny245.out] at ho5)); have HO247 := Aside0.mk (Kd.R_lower ho5 (below_size Own.bl)); replace HB := Own.bs hb; clear hb ho5))
 go_loopg [4] k (fun kq v4 w' => ∃ (x3_1 : List ByteArray) (x4_1 : Int), v4 = .int .i64 x4_1 ∧ Aside0 (laws_toStringS.l0 kq l0 x3_1 x4_1 = some r) ∧ Aside0 (kq ≤ k) ∧ Aside0 (Kd.R Kd.string 9 w' w.heap.size (fun _ => True) v246 x3_1) ∧ Aside0 (Below w.heap.size w w'))
 case atStart => exact ⟨(y245), (0), Own.rs, H', ⟨Nat.le_refl _⟩, ⟨Own.rd HO247.out⟩, ⟨Own.bl⟩⟩
 case round =>
  clear H'
  try clear c2; try clear c2b0; try clear c2b1; try clear p2; try clear c3; try clear c3b0; try clear c3b1
  obtain ⟨x3_1, x4_1, rfl, HA, HK1, HO_3, HB⟩ := hrel
  cases gk with
  | zero => exact absurd HA.out (by simp [laws_toStringS.l0])
  | succ k1 =>
   have H := HA.out
   clear HA
   simp only [laws_toStringS.l0] at H
   by_cases c6 : x4_1 < (l0.length : Int)
   rotate_left
   ·
    rw [if_neg c6] at H
    replace c6 := decide_eq_false c6
    obtain rfl := Option.some.inj H
    go_wp2
    go_ret
    exact ⟨_, Own.rr, Own.rd HO_3.out, Own.bl⟩
   rw [if_pos c6] at H
   replace c6 := decide_eq_true c6
   replace H := Own.ifd H; obtain ⟨c7, H⟩ := H
   replace H := Own.ifd H; obtain ⟨c8, H⟩ := H
   obtain ⟨y249, hy249⟩ : ∃ y_ : List ByteArray, y_ = (x3_1.set (x4_1 : Int).toNat (rdOf ByteArray.empty l0 x4_1)) := ⟨_, rfl⟩
   replace H : (laws_toStringS.l0 k1 l0 y249 (wrap64 (x4_1 + 1))) = some r := by first | (rw [hy249]; with_reducible exact H) | (have H2_ := (Option.bind_some _ _).symm.trans H; rw [hy249]; with_reducible exact H2_) | (have H2_ := (Option.bind_some _ _).symm.trans H; with_reducible exact H2_) | with_reducible exact H | (rw [hy249]; exact H) | exact H
   have Ny249 := Aside0.mk hy249
   clear hy249
   have H' := Aside0.mk H
   clear H
   have p248 : 0 ≤ (x4_1 : Int) := Own.dp
   have q248 : x4_1 < (l0.length : Int) := Own.dp
   obtain ⟨ad248, e248, hx248_0⟩ := Kd.at_string HR0.out x4_1 p248 q248
   cases e248
   replace hx248_0 := Own.up HB.out hx248_0
   replace p248 := eq_true p248
   replace q248 := eq_true q248
   have p9 : 0 ≤ (x4_1 : Int) := Own.dp
   have q9 : (x4_1 : Int) < ((x3_1.length : Int) : Int) := Own.dp
   obtain ⟨go9, co9, eo9, gb9, gl9, cl9, HG9⟩ := Kd.R_form HO_3.out (by omega)
   (first | cases eo9 | (injection eo9 with ea_ en_ ec_; (first | subst ea_ | (injection ea_ with ea_; subst ea_)); subst ec_; clear en_))
   have GB9 := Aside0.mk gb9
   have GG9 := Aside0.mk HG9
   clear gb9 gl9 HG9
   obtain ⟨hx9_0, hf9_0⟩ := Kd.R_celln (⟨#[]⟩ : ByteArray) HO_3.out (x4_1 : Int) p9 q9
   replace p9 := eq_true p9
   replace q9 := eq_true q9
   have HP10 := Kd.R_putg HO_3.out (x4_1 : Int) (rdOf ByteArray.empty l0 x4_1)
   go_wp2_with (first | ((with_reducible refine gate_store (t := 9) (p := 20) rfl ?_); refine store_event (t := 9) (p := 20) (v := ?vo_w11) (w1 := (wr.setCell ⟨go9, (x4_1 : Int).toNat, none⟩ (.string (rdOf ByteArray.empty l0 x4_1)))) ?hg ?ho ?hn ?hr ?_; (case ho => rfl); (case hg => rfl); (case hn => rfl); (case hr => first | (go_simp; done) | (go_simp; rfl)); intro w11 hw; have hg : wr.grownBy w11 (some go9) := (by rw [hw]; exact HP10.2); have hp_ : Kd.R Kd.string 9 w11 w.heap.size (fun _ => True) (.slice (some ⟨go9, 0, none⟩) x3_1.length co9) y249 := (by rw [hw, Ny249.out]; exact HP10.1); clear HP10; replace HO_3 := Aside0.mk hp_; replace HB := Aside0.mk ((by rw [hw]; exact below_set (HB.out) GB9.out : Below w.heap.size w w11)); clear hg hw hp_))
   go_roundg k1
   case measure => have := HK1.out; omega
   case rel => exact ⟨(y249), (wrap64 (x4_1 + 1)), Own.rs, H', ⟨by have := HK1.out; omega⟩, ⟨Own.rd HO_3.out⟩, ⟨Own.bl⟩⟩

/-! ### laws_toCondition: function 47 -/
/-! ### laws_toConditionS: function 74 -/
mutual
def laws_toCondition.f : Nat → Int → ByteArray → Int → List (S41) → Option (Int × ByteArray × Int × (List (S49)))
 | 0, _, _, _, _ => none
 | k + 1, a0_0, a0_1, a0_2, l0_3 => (laws_toConditionS.f k l0_3).bind fun t253 => (some (a0_0, a0_1, a0_2, t253))
def laws_toConditionS.l0 : Nat → List (S41) → List (S49) → Int → Option ((List (S49)))
 | 0, _, _, _ => none
 | k + 1, x0, x3, x4 => if x4 < (x0.length : Int) then (if 0 ≤ x4 then ((laws_toCondition.f k ((rd_T41 x0 x4).f0) ((rd_T41 x0 x4).f1) ((rd_T41 x0 x4).f2) ((rd_T41 x0 x4).f3)).bind fun bt260 => (if x4 < (x3.length : Int) then (laws_toConditionS.l0 k x0 (x3.set (x4 : Int).toNat (⟨bt260.1, bt260.2.1, bt260.2.2.1, bt260.2.2.2⟩ : S49)) (wrap64 (x4 + 1))) else (none))) else (none)) else (some x3)
def laws_toConditionS.f : Nat → List (S41) → Option ((List (S49)))
 | 0, _ => none
 | k + 1, l0 => if 0 ≤ (l0.length : Int) then (if ((l0.length : Int) : Int).toNat ≤ 5026338869833 then (laws_toConditionS.l0 k l0 (List.replicate ((l0.length : Int) : Int).toNat z49) 0) else (none)) else (none)
end
theorem laws_toCondition.mono_l : ∀ k, (∀ y0 y1 y2 y3, LeO (laws_toCondition.f k y0 y1 y2 y3) (laws_toCondition.f (k + 1) y0 y1 y2 y3)) ∧ (∀ y0, LeO (laws_toConditionS.f k y0) (laws_toConditionS.f (k + 1) y0)) ∧ (∀ y0 y1 y2, LeO (laws_toConditionS.l0 k y0 y1 y2) (laws_toConditionS.l0 (k + 1) y0 y1 y2))
 | 0 => ⟨fun _ _ _ _ r h => by simp [laws_toCondition.f] at h, fun _ r h => by simp [laws_toConditionS.f] at h, fun _ _ _ r h => by simp [laws_toConditionS.l0] at h⟩
 | k + 1 => by
  obtain ⟨ih0, ih1, ih2⟩ := laws_toCondition.mono_l k
  refine ⟨?_, ?_, ?_⟩
  ·
   intro y0 y1 y2 y3
   unfold laws_toCondition.f
   repeat' first
   | (with_reducible first | exact ih0 _ _ _ _ | exact ih1 _ | exact ih2 _ _ _ | exact LeO.refl _ | exact LeO.none _ | refine LeO.ite ?_ ?_ | refine LeO.bind ?_ (fun _ => ?_))
  ·
   intro y0
   unfold laws_toConditionS.f
   repeat' first
   | (with_reducible first | exact ih0 _ _ _ _ | exact ih1 _ | exact ih2 _ _ _ | exact LeO.refl _ | exact LeO.none _ | refine LeO.ite ?_ ?_ | refine LeO.bind ?_ (fun _ => ?_))
  ·
   intro y0 y1 y2
   unfold laws_toConditionS.l0
   repeat' first
   | (with_reducible first | exact ih0 _ _ _ _ | exact ih1 _ | exact ih2 _ _ _ | exact LeO.refl _ | exact LeO.none _ | refine LeO.ite ?_ ?_ | refine LeO.bind ?_ (fun _ => ?_))
theorem laws_toCondition.mono : ∀ a0 a1 a2 a3 k, LeO (laws_toCondition.f k a0 a1 a2 a3) (laws_toCondition.f (k + 1) a0 a1 a2 a3) := by
 intro a0 a1 a2 a3 k
 obtain ⟨ih0, ih1, ih2⟩ := laws_toCondition.mono_l k
 exact ih0 a0 a1 a2 a3
theorem laws_toConditionS.mono : ∀ a0 k, LeO (laws_toConditionS.f k a0) (laws_toConditionS.f (k + 1) a0) := by
 intro a0 k
 obtain ⟨ih0, ih1, ih2⟩ := laws_toCondition.mono_l k
 exact ih1 a0

set_option maxHeartbeats 8000000 in
set_option maxRecDepth 100000 in
theorem laws_toCondition.callsI (k : Nat) (ih_47 : ∀ m_, m_ < k → ∀ (a0_0 : Int) (a0_1 : ByteArray) (a0_2 : Int) (A0_3 : Option Addr) (c0_3 : Nat) (l0_3 : List (S41)) (r1 : Int) (r2 : ByteArray) (r3 : Int) (r4 : List (S49)) (w : World) (hr0_3 : Kd.C k41 w A0_3 l0_3.length l0_3) (hc0_3 : l0_3.length ≤ c0_3) (h : laws_toCondition.f m_ a0_0 a0_1 a0_2 l0_3 = some (r1, r2, r3, r4)),
  Calls Tryz.prog 47 #[.agg #[.int .i64 a0_0, .string a0_1, .int .i64 a0_2, .slice A0_3 l0_3.length c0_3]] w fun e w' => ∃ v3_ : Value, e = .returned (.agg #[.int .i64 r1, .string r2, .int .i64 r3, v3_]) ∧ Kd.R k49 49 w' w.heap.size (fun _ => True) v3_ r4 ∧ Below w.heap.size w w') (ih_74 : ∀ m_, m_ < k → ∀ (A0 : Option Addr) (c0 : Nat) (l0 : List (S41)) (r : List (S49)) (w : World) (hr0 : Kd.C k41 w A0 l0.length l0) (hc0 : l0.length ≤ c0) (h : laws_toConditionS.f m_ l0 = some r),
  Calls Tryz.prog 74 #[.slice A0 l0.length c0] w fun e w' => ∃ v0_ : Value, e = .returned (v0_) ∧ Kd.R k49 49 w' w.heap.size (fun _ => True) v0_ r ∧ Below w.heap.size w w') : ∀ (a0_0 : Int) (a0_1 : ByteArray) (a0_2 : Int) (A0_3 : Option Addr) (c0_3 : Nat) (l0_3 : List (S41)) (r1 : Int) (r2 : ByteArray) (r3 : Int) (r4 : List (S49)) (w : World) (hr0_3 : Kd.C k41 w A0_3 l0_3.length l0_3) (hc0_3 : l0_3.length ≤ c0_3) (h : laws_toCondition.f k a0_0 a0_1 a0_2 l0_3 = some (r1, r2, r3, r4)),
  Calls Tryz.prog 47 #[.agg #[.int .i64 a0_0, .string a0_1, .int .i64 a0_2, .slice A0_3 l0_3.length c0_3]] w fun e w' => ∃ v3_ : Value, e = .returned (.agg #[.int .i64 r1, .string r2, .int .i64 r3, v3_]) ∧ Kd.R k49 49 w' w.heap.size (fun _ => True) v3_ r4 ∧ Below w.heap.size w w' := by
 intro a0_0 a0_1 a0_2 A0_3 c0_3 l0_3 r1 r2 r3 r4 w hr0_3 hc0_3 h
 cases k with
 | zero => exact absurd h (by simp [laws_toCondition.f])
 | succ k =>
 simp only [laws_toCondition.f] at h
 have hu41 := Tryz.underlying41
 have hu49 := Tryz.underlying49
 have HR0_3 := Aside0.mk hr0_3
 have HC0_3 := Aside0.mk hc0_3
 clear hr0_3 hc0_3
 have HB := Aside0.mk (Below.refl w.heap.size w)
 have H : ((laws_toConditionS.f k l0_3).bind fun t253 => (some (a0_0, a0_1, a0_2, t253))) = some (r1, r2, r3, r4) := h
 clear h
 replace H := Own.bd H; obtain ⟨t253, A2, H⟩ := H
 simp only [Option.some.injEq, Prod.mk.injEq] at H
 obtain ⟨rfl, rfl, rfl, rfl⟩ := H
 go_enter Tryz.func47, Tryz.ntmps47
 go_wp2_with (first | ((with_reducible refine gate_dst (N := 1) rfl ?_); refine Own.be (N := 1) (cs := #[.int .i64 a0_0, .string a0_1, .int .i64 a0_2, .slice A0_3 l0_3.length c0_3]) (t := 41) ?_; intro gb250 hg w3 hbox hb; have BK250 := Aside0.mk hbox; have GW250 := (Own.gs hg : Aside0 (w.heap.size ≤ gb250)); have GE250 := GW250; replace HB := Own.bs hb; clear hb hbox hg) | ((with_reducible refine gate_dst (N := 2) rfl ?_); refine Own.be (N := 2) (cs := #[.int .i64 0, .string (⟨#[]⟩ : ByteArray), .int .i64 0, .slice none 0 0]) (t := 49) ?_; intro gb251 hg w4 hbox hb; have BK251 := Aside0.mk hbox; have GW251 := (Own.gs hg : Aside0 (w.heap.size ≤ gb251)); have GE251 := GW251; have NB250_251 := Own.nl hg BK250.out; have NB251_250 := Aside0.mk NB250_251.out.symm; replace BK250 := Own.bb BK250.out hb; replace HB := Own.bs hb; clear hb hbox hg) | ((with_reducible refine gate_dst (N := 3) rfl ?_); refine Own.be (N := 3) (cs := #[.int .i64 0, .string (⟨#[]⟩ : ByteArray), .int .i64 0, .slice none 0 0]) (t := 49) ?_; intro gb252 hg w5 hbox hb; have BK252 := Aside0.mk hbox; have GW252 := (Own.gs hg : Aside0 (w.heap.size ≤ gb252)); have GE252 := GW252; have NB250_252 := Own.nl hg BK250.out; have NB252_250 := Aside0.mk NB250_252.out.symm; have NB251_252 := Own.nl hg BK251.out; have NB252_251 := Aside0.mk NB251_252.out.symm; replace BK250 := Own.bb BK250.out hb; replace BK251 := Own.bb BK251.out hb; replace HB := Own.bs hb; clear hb hbox hg; have hnb6 := NB250_251.out; have hnc6 := NB251_250.out; have hnb7 := NB250_252.out; have hnc7 := NB252_250.out; obtain ⟨z8_0, z8_1, z8_2, z8_3, y8_0, y8_1, y8_2, y8_3⟩ := Own.box4 BK250.out; have hnb9 := NB252_251.out; have hnc9 := NB251_252.out; obtain ⟨z10_0, z10_1, z10_2, z10_3, y10_0, y10_1, y10_2, y10_3⟩ := Own.box4 BK252.out) | ((with_reducible refine gate_callee (f := 74) rfl ?_); refine goesL_ (some 15) rfl rfl Tryz.func74 (by kernel_rfl) rfl #[.slice A0_3 l0_3.length c0_3] rfl Own.ha ?_; (with_reducible refine (ih_74 k (by omega) _ _ l0_3 t253 _ ?side1 ?side2 A2.out).mono ?_); (case side1 => exact Kd.C_below HR0_3.out Own.bl); (case side2 => exact HC0_3.out); rintro e w11 ⟨v254, rfl, ho0, hb⟩; refine ⟨_, rfl, ?_⟩; have HO255 := Aside0.mk (Kd.R_lower (Kd.R_newB (Kd.R_newB ho0 (Own.bkf BK251.out)) (g := gb252) (o := .cells #[.int .i64 a0_0, .string a0_1, .int .i64 a0_2, .slice none 0 0] 49 (0, 0)) (by (with_reducible repeat (first | refine blk_drewN ?_ _ | refine blk_drew ?_ | refine blk_alloc ?_ _)); refine blk_put (cs := #[.int .i64 a0_0, .string a0_1, .int .i64 0, .slice none 0 0]) ?_ 2 _ rfl; (with_reducible repeat (first | refine blk_drewN ?_ _ | refine blk_drew ?_ | refine blk_alloc ?_ _)); refine blk_put (cs := #[.int .i64 a0_0, .string (⟨#[]⟩ : ByteArray), .int .i64 0, .slice none 0 0]) ?_ 1 _ rfl; (with_reducible repeat (first | refine blk_drewN ?_ _ | refine blk_drew ?_ | refine blk_alloc ?_ _)); refine blk_put (cs := #[.int .i64 0, .string (⟨#[]⟩ : ByteArray), .int .i64 0, .slice none 0 0]) ?_ 0 _ rfl; (with_reducible repeat (first | refine blk_drewN ?_ _ | refine blk_drew ?_ | refine blk_alloc ?_ _)); exact BK252.out)) (below_size Own.bl)); replace BK250 := Own.bb BK250.out hb; replace BK251 := Own.bb BK251.out hb; replace BK252 := Aside0.mk (blk_below (g := gb252) (o := .cells #[.int .i64 a0_0, .string a0_1, .int .i64 a0_2, .slice none 0 0] 49 (0, 0)) (by (with_reducible repeat (first | refine blk_drewN ?_ _ | refine blk_drew ?_ | refine blk_alloc ?_ _)); refine blk_put (cs := #[.int .i64 a0_0, .string a0_1, .int .i64 0, .slice none 0 0]) ?_ 2 _ rfl; (with_reducible repeat (first | refine blk_drewN ?_ _ | refine blk_drew ?_ | refine blk_alloc ?_ _)); refine blk_put (cs := #[.int .i64 a0_0, .string (⟨#[]⟩ : ByteArray), .int .i64 0, .slice none 0 0]) ?_ 1 _ rfl; (with_reducible repeat (first | refine blk_drewN ?_ _ | refine blk_drew ?_ | refine blk_alloc ?_ _)); refine blk_put (cs := #[.int .i64 0, .string (⟨#[]⟩ : ByteArray), .int .i64 0, .slice none 0 0]) ?_ 0 _ rfl; (with_reducible repeat (first | refine blk_drewN ?_ _ | refine blk_drew ?_ | refine blk_alloc ?_ _)); exact BK252.out) hb); replace HB := Own.bs hb; (try clear hb); (try clear ho0); obtain ⟨Ao12, co12, eo12⟩ := Kd.R_slice HO255.out; subst eo12; obtain ⟨z13_0, z13_1, z13_2, z13_3, y13_0, y13_1, y13_2, y13_3⟩ := Own.box4 BK252.out; obtain ⟨z14_0, z14_1, z14_2, z14_3, y14_0, y14_1, y14_2, y14_3⟩ := Own.box4 BK251.out))
 refine bodyPost_ret (results_cell_row rfl _ _ gb251 49 #[.int .i64 a0_0, .string a0_1, .int .i64 a0_2, .slice Ao12 t253.length co12] (0, 0) _ rfl (by (with_reducible repeat (first | refine blk_drewN ?_ _ | refine blk_drew ?_ | refine blk_alloc ?_ _)); refine blk_put (cs := #[.int .i64 a0_0, .string a0_1, .int .i64 a0_2, .slice none 0 0]) ?_ 3 _ rfl; (with_reducible repeat (first | refine blk_drewN ?_ _ | refine blk_drew ?_ | refine blk_alloc ?_ _)); refine blk_put (cs := #[.int .i64 a0_0, .string a0_1, .int .i64 0, .slice none 0 0]) ?_ 2 _ rfl; (with_reducible repeat (first | refine blk_drewN ?_ _ | refine blk_drew ?_ | refine blk_alloc ?_ _)); refine blk_put (cs := #[.int .i64 a0_0, .string (⟨#[]⟩ : ByteArray), .int .i64 0, .slice none 0 0]) ?_ 1 _ rfl; (with_reducible repeat (first | refine blk_drewN ?_ _ | refine blk_drew ?_ | refine blk_alloc ?_ _)); refine blk_put (cs := #[.int .i64 0, .string (⟨#[]⟩ : ByteArray), .int .i64 0, .slice none 0 0]) ?_ 0 _ rfl; (with_reducible repeat (first | refine blk_drewN ?_ _ | refine blk_drew ?_ | refine blk_alloc ?_ _)); refine blk_far ?_ NB251_252.out _; (with_reducible repeat (first | refine blk_drewN ?_ _ | refine blk_drew ?_ | refine blk_alloc ?_ _)); exact BK251.out) Tryz.underlying49 rfl (by kernel_rfl)) rfl ?_
 exact ⟨_, Own.rr, by (with_reducible repeat (first | apply Kd.R_alloc | apply Kd.R_drewN | apply Kd.R_drew)); exact Kd.R_mono (Kd.R_far (p := ⟨gb251, 3, none⟩) (Kd.R_far (p := ⟨gb251, 2, none⟩) (Kd.R_far (p := ⟨gb251, 1, none⟩) (Kd.R_far (p := ⟨gb251, 0, none⟩) (Kd.R_far (p := ⟨gb252, 3, none⟩) (Kd.R_mono (Kd.R_mono HO255.out (fun k_ hk => (⟨hk, hk.2⟩ : _ ∧ k_ ≠ gb252))) (fun k_ hk => (⟨hk, hk.1.1.2⟩ : _ ∧ k_ ≠ gb251))) (fun _ hk => hk.1.2) (.slice Ao12 t253.length co12)) (fun _ hk => hk.2) (.int .i64 a0_0)) (fun _ hk => hk.2) (.string a0_1)) (fun _ hk => hk.2) (.int .i64 a0_2)) (fun _ hk => hk.2) (.slice Ao12 t253.length co12)) (fun _ hk => trivial), Own.bl⟩


set_option maxHeartbeats 8000000 in
set_option maxRecDepth 100000 in
theorem laws_toConditionS.callsI (k : Nat) (ih_47 : ∀ m_, m_ < k → ∀ (a0_0 : Int) (a0_1 : ByteArray) (a0_2 : Int) (A0_3 : Option Addr) (c0_3 : Nat) (l0_3 : List (S41)) (r1 : Int) (r2 : ByteArray) (r3 : Int) (r4 : List (S49)) (w : World) (hr0_3 : Kd.C k41 w A0_3 l0_3.length l0_3) (hc0_3 : l0_3.length ≤ c0_3) (h : laws_toCondition.f m_ a0_0 a0_1 a0_2 l0_3 = some (r1, r2, r3, r4)),
  Calls Tryz.prog 47 #[.agg #[.int .i64 a0_0, .string a0_1, .int .i64 a0_2, .slice A0_3 l0_3.length c0_3]] w fun e w' => ∃ v3_ : Value, e = .returned (.agg #[.int .i64 r1, .string r2, .int .i64 r3, v3_]) ∧ Kd.R k49 49 w' w.heap.size (fun _ => True) v3_ r4 ∧ Below w.heap.size w w') (ih_74 : ∀ m_, m_ < k → ∀ (A0 : Option Addr) (c0 : Nat) (l0 : List (S41)) (r : List (S49)) (w : World) (hr0 : Kd.C k41 w A0 l0.length l0) (hc0 : l0.length ≤ c0) (h : laws_toConditionS.f m_ l0 = some r),
  Calls Tryz.prog 74 #[.slice A0 l0.length c0] w fun e w' => ∃ v0_ : Value, e = .returned (v0_) ∧ Kd.R k49 49 w' w.heap.size (fun _ => True) v0_ r ∧ Below w.heap.size w w') : ∀ (A0 : Option Addr) (c0 : Nat) (l0 : List (S41)) (r : List (S49)) (w : World) (hr0 : Kd.C k41 w A0 l0.length l0) (hc0 : l0.length ≤ c0) (h : laws_toConditionS.f k l0 = some r),
  Calls Tryz.prog 74 #[.slice A0 l0.length c0] w fun e w' => ∃ v0_ : Value, e = .returned (v0_) ∧ Kd.R k49 49 w' w.heap.size (fun _ => True) v0_ r ∧ Below w.heap.size w w' := by
 intro A0 c0 l0 r w hr0 hc0 h
 cases k with
 | zero => exact absurd h (by simp [laws_toConditionS.f])
 | succ k =>
 simp only [laws_toConditionS.f] at h
 have hu41 := Tryz.underlying41
 have hu49 := Tryz.underlying49
 have HR0 := Aside0.mk hr0
 have HC0 := Aside0.mk hc0
 clear hr0 hc0
 have HB := Aside0.mk (Below.refl w.heap.size w)
 have H : (if 0 ≤ (l0.length : Int) then (if ((l0.length : Int) : Int).toNat ≤ 5026338869833 then (laws_toConditionS.l0 k l0 (List.replicate ((l0.length : Int) : Int).toNat z49) 0) else (none)) else (none)) = some r := h
 clear h
 replace H := Own.ifn H; obtain ⟨c2, H⟩ := H
 have c2b0 := eq_true c2
 have c2b1 : decide (0 ≤ (l0.length : Int)) = true := decide_eq_true c2
 clear c2
 replace H := Own.ifn H; obtain ⟨c3, H⟩ := H
 have c3b0 := eq_true c3
 have c3b1 : decide (((l0.length : Int) : Int).toNat ≤ 5026338869833) = true := decide_eq_true c3
 clear c3
 obtain ⟨y256, hy256⟩ : ∃ y_ : List (S49), y_ = (List.replicate ((l0.length : Int) : Int).toNat z49) := ⟨_, rfl⟩
 replace H : (laws_toConditionS.l0 k l0 y256 0) = some r := by first | (rw [hy256]; with_reducible exact H) | (have H2_ := (Option.bind_some _ _).symm.trans H; rw [hy256]; with_reducible exact H2_) | (have H2_ := (Option.bind_some _ _).symm.trans H; with_reducible exact H2_) | with_reducible exact H | (rw [hy256]; exact H) | exact H
 have Ny256 := Aside0.mk hy256
 clear hy256
 have H' := Aside0.mk H
 clear H
 go_enter Tryz.func74, Tryz.ntmps74
 go_wp2_with (first | ((with_reducible refine gate_dst (N := 7) rfl ?_); refine Kd.R_make k49 _ 49 rfl (N := 7) rfl 47 _ _ rfl (l0.length : Int) rfl rfl Tryz.underlying47 (.agg #[(.int .i64 0), (.string ⟨#[]⟩), (.int .i64 0), (.slice none 0 0)]) 56 info49 rfl (by decide) (by omega) z49 (ok := fun _ => True) (okp := fun _ => True) (k49_mkM _ _ _ z49 (Kd.R_nil _ _ _ _ _)) (fun _ hk => hk) trivial (Own.dp) (Nat.le_trans (Nat.mul_le_mul_right _ (Own.dp : (l0.length : Int).toNat ≤ 5026338869833)) (by omega)) (Below.refl _ _) (Nat.le_refl _) ?_; intro v257 w4 ho5 hb hg_ hnew_; clear hg_ hnew_; (first | rw [← Ny256.out] at ho5 | (simp only [Int.reduceToNat] at ho5; rw [← Ny256.out] at ho5)); have HO258 := Aside0.mk (Kd.R_lower ho5 (below_size Own.bl)); replace HB := Own.bs hb; clear hb ho5))
 go_loopg [4] k (fun kq v4 w' => ∃ (x3_1 : List (S49)) (x4_1 : Int), v4 = .int .i64 x4_1 ∧ Aside0 (laws_toConditionS.l0 kq l0 x3_1 x4_1 = some r) ∧ Aside0 (kq ≤ k) ∧ Aside0 (Kd.R k49 49 w' w.heap.size (fun _ => True) v257 x3_1) ∧ Aside0 (Below w.heap.size w w'))
 case atStart => exact ⟨(y256), (0), Own.rs, H', ⟨Nat.le_refl _⟩, ⟨Own.rd HO258.out⟩, ⟨Own.bl⟩⟩
 case round =>
  clear H'
  try clear c2; try clear c2b0; try clear c2b1; try clear p2; try clear c3; try clear c3b0; try clear c3b1
  obtain ⟨x3_1, x4_1, rfl, HA, HK1, HO_3, HB⟩ := hrel
  cases gk with
  | zero => exact absurd HA.out (by simp [laws_toConditionS.l0])
  | succ k1 =>
   have H := HA.out
   clear HA
   simp only [laws_toConditionS.l0] at H
   by_cases c6 : x4_1 < (l0.length : Int)
   rotate_left
   ·
    rw [if_neg c6] at H
    replace c6 := decide_eq_false c6
    obtain rfl := Option.some.inj H
    go_wp2
    go_ret
    exact ⟨_, Own.rr, Own.rd HO_3.out, Own.bl⟩
   rw [if_pos c6] at H
   replace c6 := decide_eq_true c6
   replace H := Own.ifd H; obtain ⟨c7, H⟩ := H
   replace H := Option.bind_eq_some_iff.mp H
   obtain ⟨⟨t260, t261, t262, t263⟩, A80, H⟩ := H
   replace H : (if x4_1 < (x3_1.length : Int) then (laws_toConditionS.l0 k1 l0 (x3_1.set (x4_1 : Int).toNat (⟨t260, t261, t262, t263⟩ : S49)) (wrap64 (x4_1 + 1))) else (none)) = some r := H
   have A8 := Aside0.mk A80
   clear A80
   replace H := Own.ifd H; obtain ⟨c9, H⟩ := H
   obtain ⟨y266, hy266⟩ : ∃ y_ : List (S49), y_ = (x3_1.set (x4_1 : Int).toNat (⟨t260, t261, t262, t263⟩ : S49)) := ⟨_, rfl⟩
   replace H : (laws_toConditionS.l0 k1 l0 y266 (wrap64 (x4_1 + 1))) = some r := by first | (rw [hy266]; with_reducible exact H) | (have H2_ := (Option.bind_some _ _).symm.trans H; rw [hy266]; with_reducible exact H2_) | (have H2_ := (Option.bind_some _ _).symm.trans H; with_reducible exact H2_) | with_reducible exact H | (rw [hy266]; exact H) | exact H
   have Ny266 := Aside0.mk hy266
   clear hy266
   have H' := Aside0.mk H
   clear H
   have p259 : 0 ≤ (x4_1 : Int) := Own.dp
   have q259 : x4_1 < (l0.length : Int) := Own.dp
   obtain ⟨ad259, A259_3, c259_3, e259, hx259_0, hx259_1, hx259_2, hx259_3, hl259_3, hi259_3⟩ := at_T41 HR0.out x4_1 p259 q259
   cases e259
   replace hx259_0 := Own.up HB.out hx259_0
   replace hx259_1 := Own.up HB.out hx259_1
   replace hx259_2 := Own.up HB.out hx259_2
   replace hx259_3 := Own.up HB.out hx259_3
   have HR259_3 := Aside0.mk hi259_3
   have HC259_3 := Aside0.mk hl259_3
   clear hi259_3 hl259_3
   replace p259 := eq_true p259
   replace q259 := eq_true q259
   go_wp2_with (first | ((with_reducible refine gate_callee (f := 47) rfl ?_); refine goesL_ (some 20) rfl rfl Tryz.func47 (by kernel_rfl) rfl #[.agg #[.int .i64 ((rd_T41 l0 x4_1).f0), .string ((rd_T41 l0 x4_1).f1), .int .i64 ((rd_T41 l0 x4_1).f2), .slice A259_3 ((rd_T41 l0 x4_1).f3).length c259_3]] rfl Own.ha ?_; (with_reducible refine (ih_47 k1 (by have := HK1.out; omega) ((rd_T41 l0 x4_1).f0) ((rd_T41 l0 x4_1).f1) ((rd_T41 l0 x4_1).f2) _ _ ((rd_T41 l0 x4_1).f3) t260 t261 t262 t263 _ ?side1 ?side2 A8.out).mono ?_); (case side1 => exact Kd.C_below HR259_3.out Own.bl); (case side2 => exact HC259_3.out); rintro e w11 ⟨v264, rfl, ho0, hb⟩; refine ⟨_, rfl, ?_⟩; have HO265 := Aside0.mk (Kd.R_lower (Kd.R_new' ho0 (Kd.R_lt (Own.rd HO_3.out))) (below_size Own.bl)); replace HO_3 := Aside0.mk (Kd.R_elder' (Own.rd HO_3.out) (Kd.R_base ho0) hb); replace HB := Own.bs hb; (try clear hb); (try clear hk); (try clear ho0); have p10 : 0 ≤ (x4_1 : Int) := Own.dp; have q10 : (x4_1 : Int) < ((x3_1.length : Int) : Int) := Own.dp; obtain ⟨go10, co10, eo10, gb10, gl10, cl10, HG10⟩ := Kd.R_form HO_3.out (by omega); (first | cases eo10 | (injection eo10 with ea_ en_ ec_; (first | subst ea_ | (injection ea_ with ea_; subst ea_)); subst ec_; clear en_)); have GB10 := Aside0.mk gb10; have GG10 := Aside0.mk HG10; clear gb10 gl10 HG10; obtain ⟨ce10, hcl10, hM10, hcc10, hfr10⟩ := Kd.R_elem HO_3.out z49 (x4_1 : Int) p10 q10; obtain ⟨ve10_3, rfl, ge10_3⟩ := k49_openM hM10; have hx10_0 : w11.cell? ⟨go10, (x4_1 : Int).toNat * 4, none⟩ = some (.int .i64 ((rd_T49 x3_1 x4_1).f0)) := hcc10 0 _ rfl; have hx10_1 : w11.cell? ⟨go10, (x4_1 : Int).toNat * 4 + 1, none⟩ = some (.string ((rd_T49 x3_1 x4_1).f1)) := hcc10 1 _ rfl; have hx10_2 : w11.cell? ⟨go10, (x4_1 : Int).toNat * 4 + 2, none⟩ = some (.int .i64 ((rd_T49 x3_1 x4_1).f2)) := hcc10 2 _ rfl; have hx10_3 : w11.cell? ⟨go10, (x4_1 : Int).toNat * 4 + 3, none⟩ = some (ve10_3) := hcc10 3 _ rfl; have hf10_0 : w11.frozen? ⟨go10, (x4_1 : Int).toNat * 4, none⟩ = false := hfr10 0; have hf10_1 : w11.frozen? ⟨go10, (x4_1 : Int).toNat * 4 + 1, none⟩ = false := hfr10 1; have hf10_2 : w11.frozen? ⟨go10, (x4_1 : Int).toNat * 4 + 2, none⟩ = false := hfr10 2; have hf10_3 : w11.frozen? ⟨go10, (x4_1 : Int).toNat * 4 + 3, none⟩ = false := hfr10 3; clear hcl10 hcc10 hfr10 hM10; replace p10 := eq_true p10; replace q10 := eq_true q10; obtain ⟨Ao12, co12, eo12⟩ := Kd.R_slice HO265.out; subst eo12; have n_ := Aside0.mk (Kd.R_mono (ok' := (fun k_ => some k_ ≠ (.slice Ao12 t263.length co12 : Value).ownBlock)) HO_3.out (fun k_ hk => hk.2)); clear HO_3; have HO_3 := n_; clear n_; have HX13 := Aside0.mk (show Kd.R k49 49 w11 w.heap.size (fun _ => True) (.slice (some ⟨go10, 0, none⟩) x3_1.length co10) x3_1 from (by (with_reducible repeat (first | apply Kd.R_alloc | apply Kd.R_drewN | apply Kd.R_drew)); exact Kd.R_mono HO_3.out (fun _ hk => trivial))); obtain ⟨ce13, hcl13, hM13, hcc13, hfr13⟩ := Kd.R_elem HX13.out z49 (x4_1 : Int) (Own.dp) (by have h_ : (x4_1 : Int) < ((x3_1.length : Int) : Int) := Own.dp; first | exact h_ | (have e_ := (Kd.R_reads' HO_3.out).1; omega) | simpa using h_); obtain ⟨ve13_3, rfl, ge13_3⟩ := k49_openM hM13; have HP13 := Kd.R_seg HX13.out (x4_1 : Int) (Own.dp) (by have h_ : (x4_1 : Int) < ((x3_1.length : Int) : Int) := Own.dp; first | exact h_ | (have e_ := (Kd.R_reads' HO_3.out).1; omega) | simpa using h_) (seg := [.int .i64 t260, .string t261, .int .i64 t262, .slice Ao12 t263.length co12]) (j := 0) hcl13 hcc13 (show 4 ≤ 4 from by decide) (x' := (⟨t260, t261, t262, t263⟩ : S49)) (k49_mkM _ _ _ (⟨t260, t261, t262, t263⟩ : S49) (Kd.R_mono (HO265.out) (fun k_ hk => ⟨trivial, fun e_ => (hk.2) (by rw [e_]; rfl)⟩))) (fun _ hk => hk); have hx13_0 := hcc13 0 _ rfl; (try simp only [show (k49).sz = 4 from rfl, Nat.mul_one, Nat.add_zero] at hx13_0); have hf13_0 := hfr13 0; (try simp only [show (k49).sz = 4 from rfl, Nat.mul_one, Nat.add_zero] at hf13_0); have hx13_1 := hcc13 1 _ rfl; (try simp only [show (k49).sz = 4 from rfl, Nat.mul_one, Nat.add_zero] at hx13_1); have hf13_1 := hfr13 1; (try simp only [show (k49).sz = 4 from rfl, Nat.mul_one, Nat.add_zero] at hf13_1); have hx13_2 := hcc13 2 _ rfl; (try simp only [show (k49).sz = 4 from rfl, Nat.mul_one, Nat.add_zero] at hx13_2); have hf13_2 := hfr13 2; (try simp only [show (k49).sz = 4 from rfl, Nat.mul_one, Nat.add_zero] at hf13_2); have hx13_3 := hcc13 3 _ rfl; (try simp only [show (k49).sz = 4 from rfl, Nat.mul_one, Nat.add_zero] at hx13_3); have hf13_3 := hfr13 3; (try simp only [show (k49).sz = 4 from rfl, Nat.mul_one, Nat.add_zero] at hf13_3); clear hcl13 hcc13 hfr13 hM13) | ((with_reducible refine gate_store (t := 49) (p := 21) rfl ?_); refine store_event (t := 49) (p := 21) (v := ?vo_w14) (w1 := ((((w11.setCell ⟨go10, (x4_1 : Int).toNat * 4, none⟩ (.int .i64 t260)).setCell ⟨go10, (x4_1 : Int).toNat * 4 + 1, none⟩ (.string t261)).setCell ⟨go10, (x4_1 : Int).toNat * 4 + 2, none⟩ (.int .i64 t262)).setCell ⟨go10, (x4_1 : Int).toNat * 4 + 3, none⟩ (.slice Ao12 t263.length co12))) ?hg ?ho ?hn ?hr ?_; (case ho => rfl); (case hg => rfl); (case hn => rfl); (case hr => first | (go_simp; done) | (go_simp; rfl)); intro w14 hw; have hg : w11.grownBy w14 (some go10) := (by rw [hw]; exact HP13.2); have hp_ : Kd.R k49 49 w14 w.heap.size (fun _ => True) (.slice (some ⟨go10, 0, none⟩) x3_1.length co10) y266 := (by rw [hw, Ny266.out]; exact HP13.1); clear HP13; replace HO_3 := Aside0.mk hp_; replace HB := Aside0.mk ((by rw [hw]; exact below_set (below_set (below_set (below_set (HB.out) GB10.out) GB10.out) GB10.out) GB10.out : Below w.heap.size w w14)); clear HO265; clear hg hw hp_))
   go_roundg k1
   case measure => have := HK1.out; omega
   case rel => exact ⟨(y266), (wrap64 (x4_1 + 1)), Own.rs, H', ⟨by have := HK1.out; omega⟩, ⟨Own.rd HO_3.out⟩, ⟨Own.bl⟩⟩

theorem laws_toCondition.callsG (k : Nat) : (∀ (a0_0 : Int) (a0_1 : ByteArray) (a0_2 : Int) (A0_3 : Option Addr) (c0_3 : Nat) (l0_3 : List (S41)) (r1 : Int) (r2 : ByteArray) (r3 : Int) (r4 : List (S49)) (w : World) (hr0_3 : Kd.C k41 w A0_3 l0_3.length l0_3) (hc0_3 : l0_3.length ≤ c0_3) (h : laws_toCondition.f k a0_0 a0_1 a0_2 l0_3 = some (r1, r2, r3, r4)),
  Calls Tryz.prog 47 #[.agg #[.int .i64 a0_0, .string a0_1, .int .i64 a0_2, .slice A0_3 l0_3.length c0_3]] w fun e w' => ∃ v3_ : Value, e = .returned (.agg #[.int .i64 r1, .string r2, .int .i64 r3, v3_]) ∧ Kd.R k49 49 w' w.heap.size (fun _ => True) v3_ r4 ∧ Below w.heap.size w w') ∧
 (∀ (A0 : Option Addr) (c0 : Nat) (l0 : List (S41)) (r : List (S49)) (w : World) (hr0 : Kd.C k41 w A0 l0.length l0) (hc0 : l0.length ≤ c0) (h : laws_toConditionS.f k l0 = some r),
  Calls Tryz.prog 74 #[.slice A0 l0.length c0] w fun e w' => ∃ v0_ : Value, e = .returned (v0_) ∧ Kd.R k49 49 w' w.heap.size (fun _ => True) v0_ r ∧ Below w.heap.size w w') := by
 induction k using Nat.strongRecOn with
 | _ k ih => exact ⟨laws_toCondition.callsI k (fun m_ hm_ => (ih m_ hm_).1) (fun m_ hm_ => (ih m_ hm_).2), laws_toConditionS.callsI k (fun m_ hm_ => (ih m_ hm_).1) (fun m_ hm_ => (ih m_ hm_).2)⟩
theorem laws_toCondition.calls (k : Nat) : (∀ (a0_0 : Int) (a0_1 : ByteArray) (a0_2 : Int) (A0_3 : Option Addr) (c0_3 : Nat) (l0_3 : List (S41)) (r1 : Int) (r2 : ByteArray) (r3 : Int) (r4 : List (S49)) (w : World) (hr0_3 : Kd.C k41 w A0_3 l0_3.length l0_3) (hc0_3 : l0_3.length ≤ c0_3) (h : laws_toCondition.f k a0_0 a0_1 a0_2 l0_3 = some (r1, r2, r3, r4)),
  Calls Tryz.prog 47 #[.agg #[.int .i64 a0_0, .string a0_1, .int .i64 a0_2, .slice A0_3 l0_3.length c0_3]] w fun e w' => ∃ v3_ : Value, e = .returned (.agg #[.int .i64 r1, .string r2, .int .i64 r3, v3_]) ∧ Kd.R k49 49 w' w.heap.size (fun _ => True) v3_ r4 ∧ Below w.heap.size w w') := (laws_toCondition.callsG k).1
theorem laws_toConditionS.calls (k : Nat) : (∀ (A0 : Option Addr) (c0 : Nat) (l0 : List (S41)) (r : List (S49)) (w : World) (hr0 : Kd.C k41 w A0 l0.length l0) (hc0 : l0.length ≤ c0) (h : laws_toConditionS.f k l0 = some r),
  Calls Tryz.prog 74 #[.slice A0 l0.length c0] w fun e w' => ∃ v0_ : Value, e = .returned (v0_) ∧ Kd.R k49 49 w' w.heap.size (fun _ => True) v0_ r ∧ Below w.heap.size w w') := (laws_toCondition.callsG k).2

/-! ### laws_toClause: function 19 -/
def laws_toClause.f (k : Nat) (a0_0 : ByteArray) (a0_1 : Int) (a0_2 : Int) (a0_3 : ByteArray) (a0_4 : Int) (a0_5 : Int) (a0_6 : Int) (a0_7 : ByteArray) (a0_8 : Int) (l0_9 : List (S41)) (a0_10 : Int) (a0_11 : ByteArray) : Option (ByteArray × Int × Int × ByteArray × Int × Int × Int × ByteArray × Int × (List (S49)) × Int × ByteArray) := (laws_toCondition.f k a0_6 a0_7 a0_8 l0_9).bind fun bt270 => (some (a0_0, a0_1, a0_2, a0_3, a0_4, a0_5, bt270.1, bt270.2.1, bt270.2.2.1, bt270.2.2.2, a0_10, a0_11))
theorem laws_toClause.mono : ∀ a0 a1 a2 a3 a4 a5 a6 a7 a8 a9 a10 a11 k, LeO (laws_toClause.f k a0 a1 a2 a3 a4 a5 a6 a7 a8 a9 a10 a11) (laws_toClause.f (k + 1) a0 a1 a2 a3 a4 a5 a6 a7 a8 a9 a10 a11) := by
 intro a0 a1 a2 a3 a4 a5 a6 a7 a8 a9 a10 a11 k
 unfold laws_toClause.f
 repeat' first
   | (with_reducible first | exact laws_toCondition.mono _ _ _ _ _ | exact LeO.refl _ | exact LeO.none _ | refine LeO.ite ?_ ?_ | refine LeO.bind ?_ (fun _ => ?_))
set_option maxHeartbeats 8000000 in
set_option maxRecDepth 100000 in
theorem laws_toClause.calls (k : Nat) (a0_0 : ByteArray) (a0_1 : Int) (a0_2 : Int) (a0_3 : ByteArray) (a0_4 : Int) (a0_5 : Int) (a0_6 : Int) (a0_7 : ByteArray) (a0_8 : Int) (A0_9 : Option Addr) (c0_9 : Nat) (l0_9 : List (S41)) (a0_10 : Int) (a0_11 : ByteArray) (r1 : ByteArray) (r2 : Int) (r3 : Int) (r4 : ByteArray) (r5 : Int) (r6 : Int) (r7 : Int) (r8 : ByteArray) (r9 : Int) (r10 : List (S49)) (r11 : Int) (r12 : ByteArray) (w : World) (hr0_9 : Kd.C k41 w A0_9 l0_9.length l0_9) (hc0_9 : l0_9.length ≤ c0_9) (h : laws_toClause.f k a0_0 a0_1 a0_2 a0_3 a0_4 a0_5 a0_6 a0_7 a0_8 l0_9 a0_10 a0_11 = some (r1, r2, r3, r4, r5, r6, r7, r8, r9, r10, r11, r12)) :
  Calls Tryz.prog 19 #[.agg #[.string a0_0, .int .i64 a0_1, .int .i64 a0_2, .string a0_3, .int .i64 a0_4, .int .i64 a0_5, .int .i64 a0_6, .string a0_7, .int .i64 a0_8, .slice A0_9 l0_9.length c0_9, .int .i64 a0_10, .string a0_11]] w fun e w' => ∃ v9_ : Value, e = .returned (.agg #[.string r1, .int .i64 r2, .int .i64 r3, .string r4, .int .i64 r5, .int .i64 r6, .int .i64 r7, .string r8, .int .i64 r9, v9_, .int .i64 r11, .string r12]) ∧ Kd.R k49 49 w' w.heap.size (fun _ => True) v9_ r10 ∧ Below w.heap.size w w' := by
 have hu43 := Tryz.underlying43
 have hu51 := Tryz.underlying51
 have hu41 := Tryz.underlying41
 have hu49 := Tryz.underlying49
 have HR0_9 := Aside0.mk hr0_9
 have HC0_9 := Aside0.mk hc0_9
 clear hr0_9 hc0_9
 have HB := Aside0.mk (Below.refl w.heap.size w)
 have H : ((laws_toCondition.f k a0_6 a0_7 a0_8 l0_9).bind fun bt270 => (some (a0_0, a0_1, a0_2, a0_3, a0_4, a0_5, bt270.1, bt270.2.1, bt270.2.2.1, bt270.2.2.2, a0_10, a0_11))) = some (r1, r2, r3, r4, r5, r6, r7, r8, r9, r10, r11, r12) := h
 clear h
 replace H := Option.bind_eq_some_iff.mp H
 obtain ⟨⟨t270, t271, t272, t273⟩, A20, H⟩ := H
 replace H : (some (a0_0, a0_1, a0_2, a0_3, a0_4, a0_5, t270, t271, t272, t273, a0_10, a0_11)) = some (r1, r2, r3, r4, r5, r6, r7, r8, r9, r10, r11, r12) := H
 have A2 := Aside0.mk A20
 clear A20
 simp only [Option.some.injEq, Prod.mk.injEq] at H
 obtain ⟨rfl, rfl, rfl, rfl, rfl, rfl, rfl, rfl, rfl, rfl, rfl, rfl⟩ := H
 go_enter Tryz.func19, Tryz.ntmps19
 go_wp2_with (first | ((with_reducible refine gate_dst (N := 1) rfl ?_); refine Own.be (N := 1) (cs := #[.string a0_0, .int .i64 a0_1, .int .i64 a0_2, .string a0_3, .int .i64 a0_4, .int .i64 a0_5, .int .i64 a0_6, .string a0_7, .int .i64 a0_8, .slice A0_9 l0_9.length c0_9, .int .i64 a0_10, .string a0_11]) (t := 43) ?_; intro gb267 hg w3 hbox hb; have BK267 := Aside0.mk hbox; have GW267 := (Own.gs hg : Aside0 (w.heap.size ≤ gb267)); have GE267 := GW267; replace HB := Own.bs hb; clear hb hbox hg) | ((with_reducible refine gate_dst (N := 2) rfl ?_); refine Own.be (N := 2) (cs := #[.string (⟨#[]⟩ : ByteArray), .int .i64 0, .int .i64 0, .string (⟨#[]⟩ : ByteArray), .int .i64 0, .int .i64 0, .int .i64 0, .string (⟨#[]⟩ : ByteArray), .int .i64 0, .slice none 0 0, .int .i64 0, .string (⟨#[]⟩ : ByteArray)]) (t := 51) ?_; intro gb268 hg w4 hbox hb; have BK268 := Aside0.mk hbox; have GW268 := (Own.gs hg : Aside0 (w.heap.size ≤ gb268)); have GE268 := GW268; have NB267_268 := Own.nl hg BK267.out; have NB268_267 := Aside0.mk NB267_268.out.symm; replace BK267 := Own.bb BK267.out hb; replace HB := Own.bs hb; clear hb hbox hg) | ((with_reducible refine gate_dst (N := 3) rfl ?_); refine Own.be (N := 3) (cs := #[.string (⟨#[]⟩ : ByteArray), .int .i64 0, .int .i64 0, .string (⟨#[]⟩ : ByteArray), .int .i64 0, .int .i64 0, .int .i64 0, .string (⟨#[]⟩ : ByteArray), .int .i64 0, .slice none 0 0, .int .i64 0, .string (⟨#[]⟩ : ByteArray)]) (t := 51) ?_; intro gb269 hg w5 hbox hb; have BK269 := Aside0.mk hbox; have GW269 := (Own.gs hg : Aside0 (w.heap.size ≤ gb269)); have GE269 := GW269; have NB267_269 := Own.nl hg BK267.out; have NB269_267 := Aside0.mk NB267_269.out.symm; have NB268_269 := Own.nl hg BK268.out; have NB269_268 := Aside0.mk NB268_269.out.symm; replace BK267 := Own.bb BK267.out hb; replace BK268 := Own.bb BK268.out hb; replace HB := Own.bs hb; clear hb hbox hg; have hnb6 := NB267_268.out; have hnc6 := NB268_267.out; have hnb7 := NB267_269.out; have hnc7 := NB269_267.out; obtain ⟨z8_0, z8_1, z8_2, z8_3, z8_4, z8_5, z8_6, z8_7, z8_8, z8_9, z8_10, z8_11, y8_0, y8_1, y8_2, y8_3, y8_4, y8_5, y8_6, y8_7, y8_8, y8_9, y8_10, y8_11⟩ := Own.box12 BK267.out; have hnb9 := NB269_268.out; have hnc9 := NB268_269.out; obtain ⟨z10_0, z10_1, z10_2, z10_3, z10_4, z10_5, z10_6, z10_7, z10_8, z10_9, z10_10, z10_11, y10_0, y10_1, y10_2, y10_3, y10_4, y10_5, y10_6, y10_7, y10_8, y10_9, y10_10, y10_11⟩ := Own.box12 BK269.out) | ((with_reducible refine gate_callee (f := 47) rfl ?_); refine goesL_ (some 24) rfl rfl Tryz.func47 (by kernel_rfl) rfl #[.agg #[.int .i64 a0_6, .string a0_7, .int .i64 a0_8, .slice A0_9 l0_9.length c0_9]] rfl Own.ha ?_; (with_reducible refine (laws_toCondition.calls k a0_6 a0_7 a0_8 _ _ l0_9 t270 t271 t272 t273 _ ?side1 ?side2 A2.out).mono ?_); (case side1 => exact Kd.C_below HR0_9.out Own.bl); (case side2 => exact HC0_9.out); rintro e w11 ⟨v274, rfl, ho0, hb⟩; refine ⟨_, rfl, ?_⟩; have HO275 := Aside0.mk (Kd.R_lower ho0 (below_size Own.bl)); replace BK267 := Own.bb BK267.out hb; replace BK268 := Own.bb BK268.out hb; replace BK269 := Aside0.mk (blk_below (g := gb269) (o := .cells #[.string a0_0, .int .i64 a0_1, .int .i64 a0_2, .string a0_3, .int .i64 a0_4, .int .i64 a0_5, .int .i64 0, .string (⟨#[]⟩ : ByteArray), .int .i64 0, .slice none 0 0, .int .i64 0, .string (⟨#[]⟩ : ByteArray)] 51 (0, 0)) (by (with_reducible repeat (first | refine blk_drewN ?_ _ | refine blk_drew ?_ | refine blk_alloc ?_ _)); refine blk_put (cs := #[.string a0_0, .int .i64 a0_1, .int .i64 a0_2, .string a0_3, .int .i64 a0_4, .int .i64 0, .int .i64 0, .string (⟨#[]⟩ : ByteArray), .int .i64 0, .slice none 0 0, .int .i64 0, .string (⟨#[]⟩ : ByteArray)]) ?_ 5 _ rfl; (with_reducible repeat (first | refine blk_drewN ?_ _ | refine blk_drew ?_ | refine blk_alloc ?_ _)); refine blk_put (cs := #[.string a0_0, .int .i64 a0_1, .int .i64 a0_2, .string a0_3, .int .i64 0, .int .i64 0, .int .i64 0, .string (⟨#[]⟩ : ByteArray), .int .i64 0, .slice none 0 0, .int .i64 0, .string (⟨#[]⟩ : ByteArray)]) ?_ 4 _ rfl; (with_reducible repeat (first | refine blk_drewN ?_ _ | refine blk_drew ?_ | refine blk_alloc ?_ _)); refine blk_put (cs := #[.string a0_0, .int .i64 a0_1, .int .i64 a0_2, .string (⟨#[]⟩ : ByteArray), .int .i64 0, .int .i64 0, .int .i64 0, .string (⟨#[]⟩ : ByteArray), .int .i64 0, .slice none 0 0, .int .i64 0, .string (⟨#[]⟩ : ByteArray)]) ?_ 3 _ rfl; (with_reducible repeat (first | refine blk_drewN ?_ _ | refine blk_drew ?_ | refine blk_alloc ?_ _)); refine blk_put (cs := #[.string a0_0, .int .i64 a0_1, .int .i64 0, .string (⟨#[]⟩ : ByteArray), .int .i64 0, .int .i64 0, .int .i64 0, .string (⟨#[]⟩ : ByteArray), .int .i64 0, .slice none 0 0, .int .i64 0, .string (⟨#[]⟩ : ByteArray)]) ?_ 2 _ rfl; (with_reducible repeat (first | refine blk_drewN ?_ _ | refine blk_drew ?_ | refine blk_alloc ?_ _)); refine blk_put (cs := #[.string a0_0, .int .i64 0, .int .i64 0, .string (⟨#[]⟩ : ByteArray), .int .i64 0, .int .i64 0, .int .i64 0, .string (⟨#[]⟩ : ByteArray), .int .i64 0, .slice none 0 0, .int .i64 0, .string (⟨#[]⟩ : ByteArray)]) ?_ 1 _ rfl; (with_reducible repeat (first | refine blk_drewN ?_ _ | refine blk_drew ?_ | refine blk_alloc ?_ _)); refine blk_put (cs := #[.string (⟨#[]⟩ : ByteArray), .int .i64 0, .int .i64 0, .string (⟨#[]⟩ : ByteArray), .int .i64 0, .int .i64 0, .int .i64 0, .string (⟨#[]⟩ : ByteArray), .int .i64 0, .slice none 0 0, .int .i64 0, .string (⟨#[]⟩ : ByteArray)]) ?_ 0 _ rfl; (with_reducible repeat (first | refine blk_drewN ?_ _ | refine blk_drew ?_ | refine blk_alloc ?_ _)); exact BK269.out) hb); replace HB := Own.bs hb; (try clear hb); (try clear ho0); obtain ⟨z12_0, z12_1, z12_2, z12_3, z12_4, z12_5, z12_6, z12_7, z12_8, z12_9, z12_10, z12_11, y12_0, y12_1, y12_2, y12_3, y12_4, y12_5, y12_6, y12_7, y12_8, y12_9, y12_10, y12_11⟩ := Own.box12 BK269.out; obtain ⟨Ao13, co13, eo13⟩ := Kd.R_slice HO275.out; subst eo13; obtain ⟨z14_0, z14_1, z14_2, z14_3, z14_4, z14_5, z14_6, z14_7, z14_8, z14_9, z14_10, z14_11, y14_0, y14_1, y14_2, y14_3, y14_4, y14_5, y14_6, y14_7, y14_8, y14_9, y14_10, y14_11⟩ := Own.box12 BK267.out; obtain ⟨z15_0, z15_1, z15_2, z15_3, z15_4, z15_5, z15_6, z15_7, z15_8, z15_9, z15_10, z15_11, y15_0, y15_1, y15_2, y15_3, y15_4, y15_5, y15_6, y15_7, y15_8, y15_9, y15_10, y15_11⟩ := Own.box12 BK268.out))
 refine bodyPost_ret (results_cell_row rfl _ _ gb268 51 #[.string a0_0, .int .i64 a0_1, .int .i64 a0_2, .string a0_3, .int .i64 a0_4, .int .i64 a0_5, .int .i64 t270, .string t271, .int .i64 t272, .slice Ao13 t273.length co13, .int .i64 a0_10, .string a0_11] (0, 0) _ rfl (by (with_reducible repeat (first | refine blk_drewN ?_ _ | refine blk_drew ?_ | refine blk_alloc ?_ _)); refine blk_put (cs := #[.string a0_0, .int .i64 a0_1, .int .i64 a0_2, .string a0_3, .int .i64 a0_4, .int .i64 a0_5, .int .i64 t270, .string t271, .int .i64 t272, .slice Ao13 t273.length co13, .int .i64 a0_10, .string (⟨#[]⟩ : ByteArray)]) ?_ 11 _ rfl; (with_reducible repeat (first | refine blk_drewN ?_ _ | refine blk_drew ?_ | refine blk_alloc ?_ _)); refine blk_put (cs := #[.string a0_0, .int .i64 a0_1, .int .i64 a0_2, .string a0_3, .int .i64 a0_4, .int .i64 a0_5, .int .i64 t270, .string t271, .int .i64 t272, .slice Ao13 t273.length co13, .int .i64 0, .string (⟨#[]⟩ : ByteArray)]) ?_ 10 _ rfl; (with_reducible repeat (first | refine blk_drewN ?_ _ | refine blk_drew ?_ | refine blk_alloc ?_ _)); refine blk_put (cs := #[.string a0_0, .int .i64 a0_1, .int .i64 a0_2, .string a0_3, .int .i64 a0_4, .int .i64 a0_5, .int .i64 t270, .string t271, .int .i64 t272, .slice none 0 0, .int .i64 0, .string (⟨#[]⟩ : ByteArray)]) ?_ 9 _ rfl; (with_reducible repeat (first | refine blk_drewN ?_ _ | refine blk_drew ?_ | refine blk_alloc ?_ _)); refine blk_put (cs := #[.string a0_0, .int .i64 a0_1, .int .i64 a0_2, .string a0_3, .int .i64 a0_4, .int .i64 a0_5, .int .i64 t270, .string t271, .int .i64 0, .slice none 0 0, .int .i64 0, .string (⟨#[]⟩ : ByteArray)]) ?_ 8 _ rfl; (with_reducible repeat (first | refine blk_drewN ?_ _ | refine blk_drew ?_ | refine blk_alloc ?_ _)); refine blk_put (cs := #[.string a0_0, .int .i64 a0_1, .int .i64 a0_2, .string a0_3, .int .i64 a0_4, .int .i64 a0_5, .int .i64 t270, .string (⟨#[]⟩ : ByteArray), .int .i64 0, .slice none 0 0, .int .i64 0, .string (⟨#[]⟩ : ByteArray)]) ?_ 7 _ rfl; (with_reducible repeat (first | refine blk_drewN ?_ _ | refine blk_drew ?_ | refine blk_alloc ?_ _)); refine blk_put (cs := #[.string a0_0, .int .i64 a0_1, .int .i64 a0_2, .string a0_3, .int .i64 a0_4, .int .i64 a0_5, .int .i64 0, .string (⟨#[]⟩ : ByteArray), .int .i64 0, .slice none 0 0, .int .i64 0, .string (⟨#[]⟩ : ByteArray)]) ?_ 6 _ rfl; (with_reducible repeat (first | refine blk_drewN ?_ _ | refine blk_drew ?_ | refine blk_alloc ?_ _)); refine blk_put (cs := #[.string a0_0, .int .i64 a0_1, .int .i64 a0_2, .string a0_3, .int .i64 a0_4, .int .i64 0, .int .i64 0, .string (⟨#[]⟩ : ByteArray), .int .i64 0, .slice none 0 0, .int .i64 0, .string (⟨#[]⟩ : ByteArray)]) ?_ 5 _ rfl; (with_reducible repeat (first | refine blk_drewN ?_ _ | refine blk_drew ?_ | refine blk_alloc ?_ _)); refine blk_put (cs := #[.string a0_0, .int .i64 a0_1, .int .i64 a0_2, .string a0_3, .int .i64 0, .int .i64 0, .int .i64 0, .string (⟨#[]⟩ : ByteArray), .int .i64 0, .slice none 0 0, .int .i64 0, .string (⟨#[]⟩ : ByteArray)]) ?_ 4 _ rfl; (with_reducible repeat (first | refine blk_drewN ?_ _ | refine blk_drew ?_ | refine blk_alloc ?_ _)); refine blk_put (cs := #[.string a0_0, .int .i64 a0_1, .int .i64 a0_2, .string (⟨#[]⟩ : ByteArray), .int .i64 0, .int .i64 0, .int .i64 0, .string (⟨#[]⟩ : ByteArray), .int .i64 0, .slice none 0 0, .int .i64 0, .string (⟨#[]⟩ : ByteArray)]) ?_ 3 _ rfl; (with_reducible repeat (first | refine blk_drewN ?_ _ | refine blk_drew ?_ | refine blk_alloc ?_ _)); refine blk_put (cs := #[.string a0_0, .int .i64 a0_1, .int .i64 0, .string (⟨#[]⟩ : ByteArray), .int .i64 0, .int .i64 0, .int .i64 0, .string (⟨#[]⟩ : ByteArray), .int .i64 0, .slice none 0 0, .int .i64 0, .string (⟨#[]⟩ : ByteArray)]) ?_ 2 _ rfl; (with_reducible repeat (first | refine blk_drewN ?_ _ | refine blk_drew ?_ | refine blk_alloc ?_ _)); refine blk_put (cs := #[.string a0_0, .int .i64 0, .int .i64 0, .string (⟨#[]⟩ : ByteArray), .int .i64 0, .int .i64 0, .int .i64 0, .string (⟨#[]⟩ : ByteArray), .int .i64 0, .slice none 0 0, .int .i64 0, .string (⟨#[]⟩ : ByteArray)]) ?_ 1 _ rfl; (with_reducible repeat (first | refine blk_drewN ?_ _ | refine blk_drew ?_ | refine blk_alloc ?_ _)); refine blk_put (cs := #[.string (⟨#[]⟩ : ByteArray), .int .i64 0, .int .i64 0, .string (⟨#[]⟩ : ByteArray), .int .i64 0, .int .i64 0, .int .i64 0, .string (⟨#[]⟩ : ByteArray), .int .i64 0, .slice none 0 0, .int .i64 0, .string (⟨#[]⟩ : ByteArray)]) ?_ 0 _ rfl; (with_reducible repeat (first | refine blk_drewN ?_ _ | refine blk_drew ?_ | refine blk_alloc ?_ _)); refine blk_far ?_ NB268_269.out _; (with_reducible repeat (first | refine blk_drewN ?_ _ | refine blk_drew ?_ | refine blk_alloc ?_ _)); refine blk_far ?_ NB268_269.out _; (with_reducible repeat (first | refine blk_drewN ?_ _ | refine blk_drew ?_ | refine blk_alloc ?_ _)); refine blk_far ?_ NB268_269.out _; (with_reducible repeat (first | refine blk_drewN ?_ _ | refine blk_drew ?_ | refine blk_alloc ?_ _)); refine blk_far ?_ NB268_269.out _; (with_reducible repeat (first | refine blk_drewN ?_ _ | refine blk_drew ?_ | refine blk_alloc ?_ _)); refine blk_far ?_ NB268_269.out _; (with_reducible repeat (first | refine blk_drewN ?_ _ | refine blk_drew ?_ | refine blk_alloc ?_ _)); refine blk_far ?_ NB268_269.out _; (with_reducible repeat (first | refine blk_drewN ?_ _ | refine blk_drew ?_ | refine blk_alloc ?_ _)); exact BK268.out) Tryz.underlying51 rfl (by kernel_rfl)) rfl ?_
 exact ⟨_, Own.rr, by (with_reducible repeat (first | apply Kd.R_alloc | apply Kd.R_drewN | apply Kd.R_drew)); exact Kd.R_mono (Kd.R_far (p := ⟨gb268, 11, none⟩) (Kd.R_far (p := ⟨gb268, 10, none⟩) (Kd.R_far (p := ⟨gb268, 9, none⟩) (Kd.R_far (p := ⟨gb268, 8, none⟩) (Kd.R_far (p := ⟨gb268, 7, none⟩) (Kd.R_far (p := ⟨gb268, 6, none⟩) (Kd.R_far (p := ⟨gb268, 5, none⟩) (Kd.R_far (p := ⟨gb268, 4, none⟩) (Kd.R_far (p := ⟨gb268, 3, none⟩) (Kd.R_far (p := ⟨gb268, 2, none⟩) (Kd.R_far (p := ⟨gb268, 1, none⟩) (Kd.R_far (p := ⟨gb268, 0, none⟩) (Kd.R_far (p := ⟨gb269, 11, none⟩) (Kd.R_far (p := ⟨gb269, 10, none⟩) (Kd.R_far (p := ⟨gb269, 9, none⟩) (Kd.R_far (p := ⟨gb269, 8, none⟩) (Kd.R_far (p := ⟨gb269, 7, none⟩) (Kd.R_far (p := ⟨gb269, 6, none⟩) (Kd.R_types (Kd.R_types HO275.out BK269.out (by decide)) BK268.out (by decide)) (fun _ hk => hk.1.2) (.int .i64 t270)) (fun _ hk => hk.1.2) (.string t271)) (fun _ hk => hk.1.2) (.int .i64 t272)) (fun _ hk => hk.1.2) (.slice Ao13 t273.length co13)) (fun _ hk => hk.1.2) (.int .i64 a0_10)) (fun _ hk => hk.1.2) (.string a0_11)) (fun _ hk => hk.2) (.string a0_0)) (fun _ hk => hk.2) (.int .i64 a0_1)) (fun _ hk => hk.2) (.int .i64 a0_2)) (fun _ hk => hk.2) (.string a0_3)) (fun _ hk => hk.2) (.int .i64 a0_4)) (fun _ hk => hk.2) (.int .i64 a0_5)) (fun _ hk => hk.2) (.int .i64 t270)) (fun _ hk => hk.2) (.string t271)) (fun _ hk => hk.2) (.int .i64 t272)) (fun _ hk => hk.2) (.slice Ao13 t273.length co13)) (fun _ hk => hk.2) (.int .i64 a0_10)) (fun _ hk => hk.2) (.string a0_11)) (fun _ hk => trivial), Own.bl⟩

end Go.Proofs.YtdfbfcgjcfbmpaaGreatDoor.QFnExactDependentClauses
