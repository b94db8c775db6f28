-- Written by a program of this session out of the translation; Lean checks it.
import Derived.Test.YtdfbfcgjcfbmpaaGreatDoorQFnExactRepairChainx0
import Derived.Test.YtdfbfcgjcfbmpaaGreatDoorQFnExactRepairChainx5
import Derived.Test.YtdfbfcgjcfbmpaaGreatDoorQFnExactRepairChainx10
namespace Go.Proofs.YtdfbfcgjcfbmpaaGreatDoor.QFnExactRepairChain
open Go.RowKit Go.Proofs.YtdfbfcgjcfbmpaaGreatDoorW.PrintWords Go.Proofs.YtdfbfcgjcfbmpaaGreatDoorW.PrintLast Go.Proofs.YtdfbfcgjcfbmpaaGreatDoorW.PrintMore
attribute [local go_sem] Instr.field asAgg Own.str_leq Own.str_gtr Own.str_geq
attribute [local go_sem] max2_int min2_int max_two min_two max_three min_three max_four min_four   -- for this text's walks alone
set_option linter.unusedVariables false
set_option linter.unusedSimpArgs false

/-! ### spec_l1Has: function 79 -/
def spec_l1Has.l0 : Nat → List Int → Int → Int → Option (Bool)
 | 0, _, _, _ => none
 | k + 1, x0, x1, x5 => if x5 < (x0.length : Int) then (if 0 ≤ x5 then (if (rd x0 x5) = x1 then (some true) else (spec_l1Has.l0 k x0 x1 (wrap64 (x5 + 1)))) else (none)) else (some false)
def spec_l1Has.f (k : Nat) (l0 : List Int) (a1 : Int) : Option (Bool) := spec_l1Has.l0 k l0 a1 0
theorem spec_l1Has.mono_l : ∀ k, (∀ y0 y1 y2, LeO (spec_l1Has.l0 k y0 y1 y2) (spec_l1Has.l0 (k + 1) y0 y1 y2))
 | 0 => fun _ _ _ r h => by simp [spec_l1Has.l0] at h
 | k + 1 => by
  have ih0 := spec_l1Has.mono_l k
  ·
   intro y0 y1 y2
   unfold spec_l1Has.l0
   repeat' first
   | (with_reducible first | exact ih0 _ _ _ | exact LeO.refl _ | exact LeO.none _ | refine LeO.ite ?_ ?_ | refine LeO.bind ?_ (fun _ => ?_))
theorem spec_l1Has.mono : ∀ a0 a1 k, LeO (spec_l1Has.f k a0 a1) (spec_l1Has.f (k + 1) a0 a1) := by
 intro a0 a1 k
 have ih0 := spec_l1Has.mono_l k
 unfold spec_l1Has.f
 repeat' first
   | (with_reducible first | exact ih0 _ _ _ | exact LeO.refl _ | exact LeO.none _ | refine LeO.ite ?_ ?_ | refine LeO.bind ?_ (fun _ => ?_))
set_option maxHeartbeats 8000000 in
set_option maxRecDepth 100000 in
theorem spec_l1Has.calls (k : Nat) (A0 : Option Addr) (c0 : Nat) (l0 : List Int) (a1 : Int) (r : Bool) (w : World) (hr0 : Kd.C (Kd.int .i64) w A0 l0.length l0) (hc0 : l0.length ≤ c0) (h : spec_l1Has.f k l0 a1 = some r) :
  Calls Tryz.prog 79 #[.slice A0 l0.length c0, .int .i64 a1] w fun e w' => e = .returned (.bool r) ∧ Drawn0 w w' := by
 have HR0 := Aside0.mk hr0
 have HC0 := Aside0.mk hc0
 clear hr0 hc0
 have H : (spec_l1Has.l0 k l0 a1 0) = some r := h
 clear h
 have H' := Aside0.mk H
 clear H
 go_enter Tryz.func79, Tryz.ntmps79
 go_wp2
 go_loopg [5] k (fun kq v5 w' => ∃ (x5_1 : Int), v5 = .int .i64 x5_1 ∧ Aside0 (spec_l1Has.l0 kq l0 a1 x5_1 = some r) ∧ Aside0 (kq ≤ k) ∧ Drawn0 w w')
 case atStart => exact ⟨(0), Own.rs, H', ⟨Nat.le_refl _⟩, by repeat (first | exact Drawn0.refl _ | apply Drawn0.step)⟩
 case round =>
  clear H'
  try clear p2
  obtain ⟨x5_1, rfl, HA, HK1, ⟨m1, rfl⟩⟩ := hrel
  cases gk with
  | zero => exact absurd HA.out (by simp [spec_l1Has.l0])
  | succ k1 =>
   have H := HA.out
   clear HA
   simp only [spec_l1Has.l0] at H
   by_cases c3 : x5_1 < (l0.length : Int)
   rotate_left
   ·
    rw [if_neg c3] at H
    replace c3 := decide_eq_false c3
    obtain rfl := Option.some.inj H
    go_wp2
    go_ret
    exact ⟨by first | rfl | (simp; done) | (simp [*]; done), by repeat (first | exact Drawn0.refl _ | apply Drawn0.step)⟩
   rw [if_pos c3] at H
   replace c3 := decide_eq_true c3
   replace H := Own.ifd H; obtain ⟨c4, H⟩ := H
   by_cases c5 : (rd l0 x5_1) = a1
   ·
    rw [if_pos c5] at H
    have c5b0 : ((rd l0 x5_1) == a1) = true := beq_iff_eq.mpr c5
    have c5b1 : ((rd l0 x5_1) != a1) = false := bne_eq_false_iff_eq.mpr c5
    clear c5
    obtain rfl := Option.some.inj H
    have p323 : 0 ≤ (x5_1 : Int) := Own.dp
    have q323 : x5_1 < (l0.length : Int) := Own.dp
    obtain ⟨ad323, e323, hx323_0⟩ := Kd.at_int HR0.out x5_1 p323 q323
    cases e323
    replace p323 := eq_true p323
    replace q323 := eq_true q323
    go_wp2
    go_ret
    exact ⟨by first | rfl | (simp; done) | (simp [*]; done), by repeat (first | exact Drawn0.refl _ | apply Drawn0.step)⟩
   rw [if_neg c5] at H
   have c5b0 : ((rd l0 x5_1) == a1) = false := beq_eq_false_iff_ne.mpr c5
   have c5b1 : ((rd l0 x5_1) != a1) = true := bne_iff_ne.mpr c5
   have H' := Aside0.mk H
   clear H
   have p323 : 0 ≤ (x5_1 : Int) := Own.dp
   have q323 : x5_1 < (l0.length : Int) := Own.dp
   obtain ⟨ad323, e323, hx323_0⟩ := Kd.at_int HR0.out x5_1 p323 q323
   cases e323
   replace p323 := eq_true p323
   replace q323 := eq_true q323
   go_wp2
   go_roundg k1
   case measure => have := HK1.out; omega
   case rel => exact ⟨(wrap64 (x5_1 + 1)), Own.rs, H', ⟨by have := HK1.out; omega⟩, by repeat (first | exact Drawn0.refl _ | apply Drawn0.step)⟩

/-! ### spec_l6Chain: function 60 -/
def spec_l6Chain.l0 : Nat → Int → List Int → List ByteArray → List (S51) → Option (List Int × Bool)
 | 0, _, _, _, _ => none
 | k + 1, x1, x6, x325000, x325001 => if 0 ≤ x1 then (if x1 < (x325001.length : Int) then (if ((rd_T51 x325001 x1).f8).toList = ([] : List UInt8) then (some (x6, false)) else ((spec_l6Find.f k x325000 x325001 ((rd_T51 x325001 x1).f8)).bind fun t330 => ((spec_l1Has.f k x6 t330).bind fun t331 => (if t331 = true then (some (x6, true)) else (if x6.length < 17592186044416 then (spec_l6Chain.l0 k t330 (x6 ++ [t330]) x325000 x325001) else (none)))))) else (none)) else (none)
def spec_l6Chain.f (k : Nat) (l0_0 : List ByteArray) (l0_1 : List (S51)) (a1 : Int) : Option (List Int × Bool) := spec_l6Chain.l0 k a1 (([a1] : List Int)) l0_0 l0_1
theorem spec_l6Chain.mono_l : ∀ k, (∀ y0 y1 y2 y3, LeO (spec_l6Chain.l0 k y0 y1 y2 y3) (spec_l6Chain.l0 (k + 1) y0 y1 y2 y3))
 | 0 => fun _ _ _ _ r h => by simp [spec_l6Chain.l0] at h
 | k + 1 => by
  have ih0 := spec_l6Chain.mono_l k
  ·
   intro y0 y1 y2 y3
   unfold spec_l6Chain.l0
   repeat' first
   | (with_reducible first | exact ih0 _ _ _ _ | exact spec_l1Has.mono _ _ _ | exact spec_l6Find.mono _ _ _ _ | exact LeO.refl _ | exact LeO.none _ | refine LeO.ite ?_ ?_ | refine LeO.bind ?_ (fun _ => ?_))
theorem spec_l6Chain.mono : ∀ a0 a1 a2 k, LeO (spec_l6Chain.f k a0 a1 a2) (spec_l6Chain.f (k + 1) a0 a1 a2) := by
 intro a0 a1 a2 k
 have ih0 := spec_l6Chain.mono_l k
 unfold spec_l6Chain.f
 repeat' first
   | (with_reducible first | exact ih0 _ _ _ _ | exact spec_l1Has.mono _ _ _ | exact spec_l6Find.mono _ _ _ _ | exact LeO.refl _ | exact LeO.none _ | refine LeO.ite ?_ ?_ | refine LeO.bind ?_ (fun _ => ?_))
def spec_l6Chain.T3 : Bool × List (List Nat × List Nat) := (true, [([], []), ([], []), ([1], [1]), ([], []), ([2, 3], [2, 3]), ([4], [4]), ([5], [5]), ([0, 6], [0, 6]), ([7, 7, 0, 1, 2, 3, 4, 5, 6, 7], [3, 7])])
def spec_l6Chain.B3 : List Nat := [0, 0, 2, 0, 14, 30, 62, 127, 255]
theorem spec_l6Chain.tab3 : rtab .any (opsOf Tryz.f60 3) = spec_l6Chain.T3 := by kernel_rfl
theorem spec_l6Chain.bits3 : waitsOk spec_l6Chain.T3.2 spec_l6Chain.B3 = true := by kernel_rfl
set_option maxHeartbeats 8000000 in
set_option maxRecDepth 100000 in
theorem spec_l6Chain.calls (k : Nat) (A0_0 : Option Addr) (c0_0 : Nat) (l0_0 : List ByteArray) (A0_1 : Option Addr) (c0_1 : Nat) (l0_1 : List (S51)) (a1 : Int) (r1 : List Int) (r2 : Bool) (w : World) (hr0_0 : Kd.C Kd.string w A0_0 l0_0.length l0_0) (hc0_0 : l0_0.length ≤ c0_0) (hr0_1 : Kd.C k51 w A0_1 l0_1.length l0_1) (hc0_1 : l0_1.length ≤ c0_1) (h : spec_l6Chain.f k l0_0 l0_1 a1 = some (r1, r2)) :
  Calls Tryz.prog 60 #[.agg #[.slice A0_0 l0_0.length c0_0, .slice A0_1 l0_1.length c0_1], .int .i64 a1] w fun e w' => ∃ v0_ : Value, e = .returned (.tuple #[v0_, .bool r2]) ∧ Kd.R (Kd.int .i64) 3 w' w.heap.size (fun _ => True) v0_ r1 ∧ Below w.heap.size w w' := by
 have hu32 := Tryz.underlying32
 have HR0_0 := Aside0.mk hr0_0
 have HC0_0 := Aside0.mk hc0_0
 clear hr0_0 hc0_0
 have HR0_1 := Aside0.mk hr0_1
 have HC0_1 := Aside0.mk hc0_1
 clear hr0_1 hc0_1
 have HB := Aside0.mk (Below.refl w.heap.size w)
 have H : (spec_l6Chain.l0 k a1 (([a1] : List Int)) l0_0 l0_1) = some (r1, r2) := h
 clear h
 obtain ⟨y325, hy325⟩ : ∃ y_ : List Int, y_ = (([a1] : List Int)) := ⟨_, rfl⟩
 replace H : (spec_l6Chain.l0 k a1 y325 l0_0 l0_1) = some (r1, r2) := by first | (rw [hy325]; with_reducible exact H) | (have H2_ := (Option.bind_some _ _).symm.trans H; rw [hy325]; with_reducible exact H2_) | (have H2_ := (Option.bind_some _ _).symm.trans H; with_reducible exact H2_) | with_reducible exact H | (rw [hy325]; exact H) | exact H
 have Ny325 := Aside0.mk hy325
 clear hy325
 have H' := Aside0.mk H
 clear H
 go_enter Tryz.func60, Tryz.ntmps60
 go_wp2_with (first | ((with_reducible refine gate_dst (N := 2) rfl ?_); refine Own.be (N := 2) (cs := #[.slice A0_0 l0_0.length c0_0, .slice A0_1 l0_1.length c0_1]) (t := 32) ?_; intro gb324 hg w3 hbox hb; have BK324 := Aside0.mk hbox; have GW324 := (Own.gs hg : Aside0 (w.heap.size ≤ gb324)); have GE324 := GW324; replace HB := Own.bs hb; clear hb hbox hg) | ((with_reducible refine gate_dst (N := 8) rfl ?_); refine Kd.R_lit (Kd.int .i64) _ 3 ?hg (N := 8) ?hd (xs := ([a1] : List Int)) (inner := [.int .i64 a1]) (ok := fun _ => True) (okp := fun _ => True) ?hr ?hp (fun _ hk => hk) trivial (Below.refl _ _) (Nat.le_refl _) (by simp) ?_; (case hd => rfl); (case hg => rfl); (case hr => first | (go_simp; done) | (go_simp; rfl)); (case hp => exact (Reps.one (show Kd.M (Kd.int .i64) _ _ _ a1 [.int .i64 a1] from rfl) (Reps.none _ _))); intro v326 w4 ho5 hb hg_ hnew_; clear hg_ hnew_; (first | rw [← Ny325.out] at ho5 | (simp only [Int.reduceToNat] at ho5; rw [← Ny325.out] at ho5)); have HO327 := Aside0.mk (Kd.R_lower ho5 (below_size Own.bl)); replace BK324 := Own.bb BK324.out hb; replace HB := Own.bs hb; clear hb ho5))
 go_loopg [1, 6] k (fun kq v1 v6 w' => ∃ (x1_1 : Int) (x6_1 : List Int), v1 = .int .i64 x1_1 ∧ Aside0 (spec_l6Chain.l0 kq x1_1 x6_1 l0_0 l0_1 = some (r1, r2)) ∧ Aside0 (kq ≤ k) ∧ Aside0 (Kd.R (Kd.int .i64) 3 w' w.heap.size (fun _ => True) v6 x6_1) ∧ Aside0 (w'.heap[gb324]? = some (.cells #[(.slice A0_0 l0_0.length c0_0), (.slice A0_1 l0_1.length c0_1)] 32 (0, 0))) ∧ Aside0 (Below w.heap.size w w'))
 case atStart => exact ⟨(a1), (y325), Own.rs, H', ⟨Nat.le_refl _⟩, ⟨Own.rd HO327.out⟩, ⟨Own.bk⟩, ⟨Own.bl⟩⟩
 case round =>
  clear H'
  try clear p2
  obtain ⟨x1_1, x6_1, rfl, HA, HK1, HO_6, BK324, HB⟩ := hrel
  cases gk with
  | zero => exact absurd HA.out (by simp [spec_l6Chain.l0])
  | succ k1 =>
   have H := HA.out
   clear HA
   simp only [spec_l6Chain.l0] at H
   replace H := Own.ifd H; obtain ⟨c6, H⟩ := H
   replace H := Own.ifd H; obtain ⟨c7, H⟩ := H
   by_cases c8 : ((rd_T51 l0_1 x1_1).f8).toList = ([] : List UInt8)
   ·
    rw [if_pos c8] at H
    have c8b0 : (((rd_T51 l0_1 x1_1).f8).toList == ([] : List UInt8)) = true := beq_iff_eq.mpr c8
    have c8b1 : (((rd_T51 l0_1 x1_1).f8).toList != ([] : List UInt8)) = false := bne_eq_false_iff_eq.mpr c8
    clear c8
    simp only [Option.some.injEq, Prod.mk.injEq] at H
    obtain ⟨rfl, rfl⟩ := H
    obtain ⟨z9_0, z9_1, y9_0, y9_1⟩ := Own.box2 BK324.out
    have p328 : 0 ≤ (x1_1 : Int) := Own.dp
    have q328 : x1_1 < (l0_1.length : Int) := Own.dp
    obtain ⟨ad328, A328_9, c328_9, e328, hx328_0, hx328_1, hx328_2, hx328_3, hx328_4, hx328_5, hx328_6, hx328_7, hx328_8, hx328_9, hx328_10, hx328_11, hl328_9, hi328_9⟩ := at_T51 HR0_1.out x1_1 p328 q328
    cases e328
    replace hx328_0 := Own.up HB.out hx328_0
    replace hx328_1 := Own.up HB.out hx328_1
    replace hx328_2 := Own.up HB.out hx328_2
    replace hx328_3 := Own.up HB.out hx328_3
    replace hx328_4 := Own.up HB.out hx328_4
    replace hx328_5 := Own.up HB.out hx328_5
    replace hx328_6 := Own.up HB.out hx328_6
    replace hx328_7 := Own.up HB.out hx328_7
    replace hx328_8 := Own.up HB.out hx328_8
    replace hx328_9 := Own.up HB.out hx328_9
    replace hx328_10 := Own.up HB.out hx328_10
    replace hx328_11 := Own.up HB.out hx328_11
    have HR328_9 := Aside0.mk hi328_9
    have HC328_9 := Aside0.mk hl328_9
    clear hi328_9 hl328_9
    replace p328 := eq_true p328
    replace q328 := eq_true q328
    go_wp2
    go_ret2
    exact ⟨_, Own.rr, Own.rd HO_6.out, Own.bl⟩
   rw [if_neg c8] at H
   have c8b0 : (((rd_T51 l0_1 x1_1).f8).toList == ([] : List UInt8)) = false := beq_eq_false_iff_ne.mpr c8
   have c8b1 : (((rd_T51 l0_1 x1_1).f8).toList != ([] : List UInt8)) = true := bne_iff_ne.mpr c8
   replace H := Own.bd H; obtain ⟨t330, A10, H⟩ := H
   replace H := Own.bd H; obtain ⟨t331, A11, H⟩ := H
   replace H := Own.ifu H; obtain ⟨rfl, H⟩ | ⟨rfl, H⟩ := H
   ·
    simp only [Option.some.injEq, Prod.mk.injEq] at H
    obtain ⟨rfl, rfl⟩ := H
    obtain ⟨z13_0, z13_1, y13_0, y13_1⟩ := Own.box2 BK324.out
    have p328 : 0 ≤ (x1_1 : Int) := Own.dp
    have q328 : x1_1 < (l0_1.length : Int) := Own.dp
    obtain ⟨ad328, A328_9, c328_9, e328, hx328_0, hx328_1, hx328_2, hx328_3, hx328_4, hx328_5, hx328_6, hx328_7, hx328_8, hx328_9, hx328_10, hx328_11, hl328_9, hi328_9⟩ := at_T51 HR0_1.out x1_1 p328 q328
    cases e328
    replace hx328_0 := Own.up HB.out hx328_0
    replace hx328_1 := Own.up HB.out hx328_1
    replace hx328_2 := Own.up HB.out hx328_2
    replace hx328_3 := Own.up HB.out hx328_3
    replace hx328_4 := Own.up HB.out hx328_4
    replace hx328_5 := Own.up HB.out hx328_5
    replace hx328_6 := Own.up HB.out hx328_6
    replace hx328_7 := Own.up HB.out hx328_7
    replace hx328_8 := Own.up HB.out hx328_8
    replace hx328_9 := Own.up HB.out hx328_9
    replace hx328_10 := Own.up HB.out hx328_10
    replace hx328_11 := Own.up HB.out hx328_11
    have HR328_9 := Aside0.mk hi328_9
    have HC328_9 := Aside0.mk hl328_9
    clear hi328_9 hl328_9
    replace p328 := eq_true p328
    replace q328 := eq_true q328
    try go_wp2
    have n0_ := Aside0.mk (Kd.R_drew HO_6.out)
    have n1_ := Aside0.mk (blk_drew BK324.out)
    have n2_ := Aside0.mk (below_drew1 HB.out)
    clear HO_6
    clear BK324
    clear HB
    have HO_6 := n0_
    have BK324 := n1_
    have HB := n2_
    clear n0_ n1_ n2_
    have p329 : 0 ≤ (x1_1 : Int) := Own.dp
    have q329 : x1_1 < (l0_1.length : Int) := Own.dp
    obtain ⟨ad329, A329_9, c329_9, e329, hx329_0, hx329_1, hx329_2, hx329_3, hx329_4, hx329_5, hx329_6, hx329_7, hx329_8, hx329_9, hx329_10, hx329_11, hl329_9, hi329_9⟩ := at_T51 HR0_1.out x1_1 p329 q329
    have hw329_11 := hx329_11
    have hw329_10 := hx329_10
    have hw329_9 := hx329_9
    have hw329_8 := hx329_8
    have hw329_7 := hx329_7
    have hw329_6 := hx329_6
    have hw329_5 := hx329_5
    have hw329_4 := hx329_4
    have hw329_3 := hx329_3
    have hw329_2 := hx329_2
    have hw329_1 := hx329_1
    have hw329_0 := hx329_0
    obtain rfl : ad328 = ad329 := (by injection e329)
    replace hx329_0 := Own.up HB.out hx329_0
    replace hx329_1 := Own.up HB.out hx329_1
    replace hx329_2 := Own.up HB.out hx329_2
    replace hx329_3 := Own.up HB.out hx329_3
    replace hx329_4 := Own.up HB.out hx329_4
    replace hx329_5 := Own.up HB.out hx329_5
    replace hx329_6 := Own.up HB.out hx329_6
    replace hx329_7 := Own.up HB.out hx329_7
    replace hx329_8 := Own.up HB.out hx329_8
    replace hx329_9 := Own.up HB.out hx329_9
    replace hx329_10 := Own.up HB.out hx329_10
    replace hx329_11 := Own.up HB.out hx329_11
    have HR329_9 := Aside0.mk hi329_9
    have HC329_9 := Aside0.mk hl329_9
    clear hi329_9 hl329_9
    replace p329 := eq_true p329
    replace q329 := eq_true q329
    refine start_ (n := 9) (S := fun w' => w'.cell? ⟨gb324, 0, none⟩ = some (.slice A0_0 l0_0.length c0_0) ∧ w'.cell? ⟨gb324, 1, none⟩ = some (.slice (some ad328) l0_1.length c0_1) ∧ w'.cell? (ad328.add ((x1_1).toNat * 12)) = some (.string ((rd_T51 l0_1 x1_1).f0)) ∧ w'.cell? ⟨(ad328.add ((x1_1).toNat * 12)).block, (ad328.add ((x1_1).toNat * 12)).off + 1, none⟩ = some (.int .i64 ((rd_T51 l0_1 x1_1).f1)) ∧ w'.cell? ⟨(ad328.add ((x1_1).toNat * 12)).block, (ad328.add ((x1_1).toNat * 12)).off + 2, none⟩ = some (.int .i64 ((rd_T51 l0_1 x1_1).f2)) ∧ w'.cell? ⟨(ad328.add ((x1_1).toNat * 12)).block, (ad328.add ((x1_1).toNat * 12)).off + 3, none⟩ = some (.string ((rd_T51 l0_1 x1_1).f3)) ∧ w'.cell? ⟨(ad328.add ((x1_1).toNat * 12)).block, (ad328.add ((x1_1).toNat * 12)).off + 4, none⟩ = some (.int .i64 ((rd_T51 l0_1 x1_1).f4)) ∧ w'.cell? ⟨(ad328.add ((x1_1).toNat * 12)).block, (ad328.add ((x1_1).toNat * 12)).off + 5, none⟩ = some (.int .i64 ((rd_T51 l0_1 x1_1).f5)) ∧ w'.cell? ⟨(ad328.add ((x1_1).toNat * 12)).block, (ad328.add ((x1_1).toNat * 12)).off + 6, none⟩ = some (.int .i64 ((rd_T51 l0_1 x1_1).f6.f0)) ∧ w'.cell? ⟨(ad328.add ((x1_1).toNat * 12)).block, (ad328.add ((x1_1).toNat * 12)).off + 7, none⟩ = some (.string ((rd_T51 l0_1 x1_1).f6.f1)) ∧ w'.cell? ⟨(ad328.add ((x1_1).toNat * 12)).block, (ad328.add ((x1_1).toNat * 12)).off + 8, none⟩ = some (.int .i64 ((rd_T51 l0_1 x1_1).f6.f2)) ∧ w'.cell? ⟨(ad328.add ((x1_1).toNat * 12)).block, (ad328.add ((x1_1).toNat * 12)).off + 9, none⟩ = some (.slice A329_9 ((rd_T51 l0_1 x1_1).f6.f3).length c329_9) ∧ w'.cell? ⟨(ad328.add ((x1_1).toNat * 12)).block, (ad328.add ((x1_1).toNat * 12)).off + 10, none⟩ = some (.int .i64 ((rd_T51 l0_1 x1_1).f7)) ∧ w'.cell? ⟨(ad328.add ((x1_1).toNat * 12)).block, (ad328.add ((x1_1).toNat * 12)).off + 11, none⟩ = some (.string ((rd_T51 l0_1 x1_1).f8))) (ds := []) #[false, false, false, false, false, false, false, false, false] (by kernel_rfl) rfl rfl ⟨(blk_cell BK324.out 0).trans rfl, (blk_cell BK324.out 1).trans rfl, ((HB.out.cell (World.block_lt_of_cell? w _ hw329_0)).trans hw329_0), ((HB.out.cell (World.block_lt_of_cell? w _ hw329_1)).trans hw329_1), ((HB.out.cell (World.block_lt_of_cell? w _ hw329_2)).trans hw329_2), ((HB.out.cell (World.block_lt_of_cell? w _ hw329_3)).trans hw329_3), ((HB.out.cell (World.block_lt_of_cell? w _ hw329_4)).trans hw329_4), ((HB.out.cell (World.block_lt_of_cell? w _ hw329_5)).trans hw329_5), ((HB.out.cell (World.block_lt_of_cell? w _ hw329_6)).trans hw329_6), ((HB.out.cell (World.block_lt_of_cell? w _ hw329_7)).trans hw329_7), ((HB.out.cell (World.block_lt_of_cell? w _ hw329_8)).trans hw329_8), ((HB.out.cell (World.block_lt_of_cell? w _ hw329_9)).trans hw329_9), ((HB.out.cell (World.block_lt_of_cell? w _ hw329_10)).trans hw329_10), ((HB.out.cell (World.block_lt_of_cell? w _ hw329_11)).trans hw329_11)⟩ (fun hHeld => ?_); refine with_tabW spec_l6Chain.tab3 spec_l6Chain.bits3 (fun HT_ HW_ => ?_)
    generalize wr.drew = w14 at HO_6 BK324 HB HR329_9 hx329_0 hx329_1 hx329_10 hx329_11 hx329_2 hx329_3 hx329_4 hx329_5 hx329_6 hx329_7 hx329_8 hx329_9 hHeld ⊢
    refine pure_ (i := 1) (N := some 17) (v := ?_) (a' := ?_) #[false, true, false, false, false, false, false, false, false] rfl rfl (any_of HT_.out (by kernel_rfl)) (fun _ _ _ h => h) (Or.inl ⟨by rfl, ?_⟩) ?_ ?_
    rotate_left
    ·
     intro w'
     go_simp
     with_reducible rfl
    rotate_left
    ·
     simp only [Own.ps]
     rfl
    refine pure_ (i := 3) (N := some 19) (v := ?_) (a' := ?_) #[false, true, false, true, false, false, false, false, false] rfl rfl (any_of HT_.out (by kernel_rfl)) (fun _ _ _ h => h) (Or.inl ⟨by rfl, ?_⟩) ?_ ?_
    rotate_left
    ·
     intro w'
     go_simp
     with_reducible rfl
    rotate_left
    ·
     simp only [Own.ps]
     rfl
    refine take_ (i := 0) (N := some 16) (v := ?_) (a' := ?_) #[true, true, false, true, false, false, false, false, false] rfl rfl (take_ofW HT_.out HW_.out (by kernel_rfl)) (fun _ _ _ h => h) (Or.inl ⟨by rfl, ?_⟩) hHeld ?_ ?_
    rotate_left
    ·
     rintro w' ⟨s0, s1, s2, s3, s4, s5, s6, s7, s8, s9, s10, s11, s12, s13⟩
     go_simp
     with_reducible rfl
    rotate_left
    ·
     simp only [Own.ps]
     rfl
    refine take_ (i := 2) (N := some 18) (v := ?_) (a' := ?_) #[true, true, true, true, false, false, false, false, false] rfl rfl (take_ofW HT_.out HW_.out (by kernel_rfl)) (fun _ _ _ h => h) (Or.inl ⟨by rfl, ?_⟩) hHeld ?_ ?_
    rotate_left
    ·
     rintro w' ⟨s0, s1, s2, s3, s4, s5, s6, s7, s8, s9, s10, s11, s12, s13⟩
     go_simp
     with_reducible rfl
    rotate_left
    ·
     simp only [Own.ps]
     rfl
    refine pure_ (i := 4) (N := some 20) (v := ?_) (a' := ?_) #[true, true, true, true, true, false, false, false, false] rfl rfl (any_of HT_.out (by kernel_rfl)) (fun _ _ _ h => h) (Or.inl ⟨by rfl, ?_⟩) ?_ ?_
    rotate_left
    ·
     intro w'
     go_simp
     with_reducible rfl
    rotate_left
    ·
     simp only [Own.ps]
     rfl
    refine pure_ (i := 5) (N := some 21) (v := ?_) (a' := ?_) #[true, true, true, true, true, true, false, false, false] rfl rfl (any_of HT_.out (by kernel_rfl)) (fun _ _ _ h => h) (Or.inl ⟨by rfl, ?_⟩) ?_ ?_
    rotate_left
    ·
     intro w'
     go_simp
     with_reducible rfl
    rotate_left
    ·
     simp only [Own.ps]
     rfl
    refine take_ (i := 6) (N := some 22) (v := ?_) (a' := ?_) #[true, true, true, true, true, true, true, false, false] rfl rfl (take_ofW HT_.out HW_.out (by kernel_rfl)) (fun _ _ _ h => h) (Or.inl ⟨by rfl, ?_⟩) hHeld ?_ ?_
    rotate_left
    ·
     rintro w' ⟨s0, s1, s2, s3, s4, s5, s6, s7, s8, s9, s10, s11, s12, s13⟩
     go_simp
     with_reducible rfl
    rotate_left
    ·
     simp only [Own.ps]
     rfl
    refine one_ (i := 7) (N := some 23) #[true, true, true, true, true, true, true, true, false] rfl rfl (one_of HT_.out (by kernel_rfl)) (by decide) (fun K hK => ?_)
    refine goes_ Tryz.func54 (by kernel_rfl) rfl #[.agg #[.slice A0_0 l0_0.length c0_0, .slice (some ad328) l0_1.length c0_1], .string ((rd_T51 l0_1 x1_1).f8)] (by rfl) rfl rfl Own.ha ?_
    with_reducible refine (spec_l6Find.calls k1 _ _ l0_0 _ _ l0_1 ((rd_T51 l0_1 x1_1).f8) t330 _ ?side1 ?side2 ?side3 ?side4 A10.out).mono ?_
    (case side1 => exact Kd.C_below HR0_0.out Own.bl)
    (case side2 => exact HC0_0.out)
    (case side3 => exact Kd.C_below HR0_1.out Own.bl)
    (case side4 => exact HC0_1.out)
    rintro e w15 ⟨rfl, hb⟩
    refine ⟨_, rfl, ?_⟩
    have n0_ := Aside0.mk (Kd.R_below (Own.rd HO_6.out) hb)
    have n1_ := Own.bb BK324.out hb
    have n2_ := Own.bs hb
    clear HO_6
    clear BK324
    clear HB
    have HO_6 := n0_
    have BK324 := n1_
    have HB := n2_
    clear n0_ n1_ n2_
    (try clear hb)
    (try clear hb2)
    (try clear hk)
    (try clear hi)
    refine hK.out _ _ ⟨(blk_cell BK324.out 0).trans rfl, (blk_cell BK324.out 1).trans rfl, ((HB.out.cell (World.block_lt_of_cell? w _ hw329_0)).trans hw329_0), ((HB.out.cell (World.block_lt_of_cell? w _ hw329_1)).trans hw329_1), ((HB.out.cell (World.block_lt_of_cell? w _ hw329_2)).trans hw329_2), ((HB.out.cell (World.block_lt_of_cell? w _ hw329_3)).trans hw329_3), ((HB.out.cell (World.block_lt_of_cell? w _ hw329_4)).trans hw329_4), ((HB.out.cell (World.block_lt_of_cell? w _ hw329_5)).trans hw329_5), ((HB.out.cell (World.block_lt_of_cell? w _ hw329_6)).trans hw329_6), ((HB.out.cell (World.block_lt_of_cell? w _ hw329_7)).trans hw329_7), ((HB.out.cell (World.block_lt_of_cell? w _ hw329_8)).trans hw329_8), ((HB.out.cell (World.block_lt_of_cell? w _ hw329_9)).trans hw329_9), ((HB.out.cell (World.block_lt_of_cell? w _ hw329_10)).trans hw329_10), ((HB.out.cell (World.block_lt_of_cell? w _ hw329_11)).trans hw329_11)⟩ (fun hHeld => ?_)
    clear hK K
    refine norm_ (a' := ?_) ?_ ?_
    rotate_left
    ·
     show Act.put _ (some 23) _ = _
     simp only [Own.ps]
     rfl
    refine pure_ (i := 8) (N := some 1) (v := ?_) (a' := ?_) #[true, true, true, true, true, true, true, true, true] rfl rfl (any_of HT_.out (by kernel_rfl)) (fun _ _ _ h => h) (Or.inl ⟨by rfl, ?_⟩) ?_ ?_
    rotate_left
    ·
     intro w'
     go_simp
     with_reducible rfl
    rotate_left
    ·
     simp only [Own.ps]
     rfl
    refine done_ (done_of HT_.out (by kernel_rfl)) ?_
    obtain ⟨Ao16, co16, eo16⟩ := Kd.R_slice HO_6.out
    subst eo16
    try go_wp2_with (first | ((with_reducible refine gate_callee (f := 79) rfl ?_); refine goesL_ (some 26) rfl rfl Tryz.func79 (by kernel_rfl) rfl #[.slice Ao16 x6_1.length co16, .int .i64 t330] rfl Own.ha ?_; (with_reducible refine (spec_l1Has.calls k1 _ _ x6_1 t330 true _ ?side1 ?side2 A11.out).mono ?_); (case side1 => repeat (first | exact (Kd.R_reads' HO_6.out).2.2 | (with_reducible refine Kd.C_alloc ?_ _) | (with_reducible refine Kd.C_drewN ?_ _) | (with_reducible refine Kd.C_drew ?_))); (case side2 => exact (Kd.R_reads' HO_6.out).2.1); rintro e w' ⟨rfl, ⟨nd, rfl⟩⟩; refine ⟨_, rfl, ?_⟩))
    go_ret2
    exact ⟨_, Own.rr, Own.rd HO_6.out, Own.bl⟩
   replace H := Own.ifn H; obtain ⟨c17, H⟩ := H
   have LMc17 := Aside0.mk c17
   clear c17
   obtain ⟨y332, hy332⟩ : ∃ y_ : List Int, y_ = (x6_1 ++ [t330]) := ⟨_, rfl⟩
   replace H : (spec_l6Chain.l0 k1 t330 y332 l0_0 l0_1) = some (r1, r2) := by first | (rw [hy332]; with_reducible exact H) | (have H2_ := (Option.bind_some _ _).symm.trans H; rw [hy332]; with_reducible exact H2_) | (have H2_ := (Option.bind_some _ _).symm.trans H; with_reducible exact H2_) | with_reducible exact H | (rw [hy332]; exact H) | exact H
   have Ny332 := Aside0.mk hy332
   clear hy332
   have H' := Aside0.mk H
   clear H
   obtain ⟨z18_0, z18_1, y18_0, y18_1⟩ := Own.box2 BK324.out
   have p328 : 0 ≤ (x1_1 : Int) := Own.dp
   have q328 : x1_1 < (l0_1.length : Int) := Own.dp
   obtain ⟨ad328, A328_9, c328_9, e328, hx328_0, hx328_1, hx328_2, hx328_3, hx328_4, hx328_5, hx328_6, hx328_7, hx328_8, hx328_9, hx328_10, hx328_11, hl328_9, hi328_9⟩ := at_T51 HR0_1.out x1_1 p328 q328
   cases e328
   replace hx328_0 := Own.up HB.out hx328_0
   replace hx328_1 := Own.up HB.out hx328_1
   replace hx328_2 := Own.up HB.out hx328_2
   replace hx328_3 := Own.up HB.out hx328_3
   replace hx328_4 := Own.up HB.out hx328_4
   replace hx328_5 := Own.up HB.out hx328_5
   replace hx328_6 := Own.up HB.out hx328_6
   replace hx328_7 := Own.up HB.out hx328_7
   replace hx328_8 := Own.up HB.out hx328_8
   replace hx328_9 := Own.up HB.out hx328_9
   replace hx328_10 := Own.up HB.out hx328_10
   replace hx328_11 := Own.up HB.out hx328_11
   have HR328_9 := Aside0.mk hi328_9
   have HC328_9 := Aside0.mk hl328_9
   clear hi328_9 hl328_9
   replace p328 := eq_true p328
   replace q328 := eq_true q328
   try go_wp2
   have n0_ := Aside0.mk (Kd.R_drew HO_6.out)
   have n1_ := Aside0.mk (blk_drew BK324.out)
   have n2_ := Aside0.mk (below_drew1 HB.out)
   clear HO_6
   clear BK324
   clear HB
   have HO_6 := n0_
   have BK324 := n1_
   have HB := n2_
   clear n0_ n1_ n2_
   have p329 : 0 ≤ (x1_1 : Int) := Own.dp
   have q329 : x1_1 < (l0_1.length : Int) := Own.dp
   obtain ⟨ad329, A329_9, c329_9, e329, hx329_0, hx329_1, hx329_2, hx329_3, hx329_4, hx329_5, hx329_6, hx329_7, hx329_8, hx329_9, hx329_10, hx329_11, hl329_9, hi329_9⟩ := at_T51 HR0_1.out x1_1 p329 q329
   have hw329_11 := hx329_11
   have hw329_10 := hx329_10
   have hw329_9 := hx329_9
   have hw329_8 := hx329_8
   have hw329_7 := hx329_7
   have hw329_6 := hx329_6
   have hw329_5 := hx329_5
   have hw329_4 := hx329_4
   have hw329_3 := hx329_3
   have hw329_2 := hx329_2
   have hw329_1 := hx329_1
   have hw329_0 := hx329_0
   obtain rfl : ad328 = ad329 := (by injection e329)
   replace hx329_0 := Own.up HB.out hx329_0
   replace hx329_1 := Own.up HB.out hx329_1
   replace hx329_2 := Own.up HB.out hx329_2
   replace hx329_3 := Own.up HB.out hx329_3
   replace hx329_4 := Own.up HB.out hx329_4
   replace hx329_5 := Own.up HB.out hx329_5
   replace hx329_6 := Own.up HB.out hx329_6
   replace hx329_7 := Own.up HB.out hx329_7
   replace hx329_8 := Own.up HB.out hx329_8
   replace hx329_9 := Own.up HB.out hx329_9
   replace hx329_10 := Own.up HB.out hx329_10
   replace hx329_11 := Own.up HB.out hx329_11
   have HR329_9 := Aside0.mk hi329_9
   have HC329_9 := Aside0.mk hl329_9
   clear hi329_9 hl329_9
   replace p329 := eq_true p329
   replace q329 := eq_true q329
   refine start_ (n := 9) (S := fun w' => w'.cell? ⟨gb324, 0, none⟩ = some (.slice A0_0 l0_0.length c0_0) ∧ w'.cell? ⟨gb324, 1, none⟩ = some (.slice (some ad328) l0_1.length c0_1) ∧ w'.cell? (ad328.add ((x1_1).toNat * 12)) = some (.string ((rd_T51 l0_1 x1_1).f0)) ∧ w'.cell? ⟨(ad328.add ((x1_1).toNat * 12)).block, (ad328.add ((x1_1).toNat * 12)).off + 1, none⟩ = some (.int .i64 ((rd_T51 l0_1 x1_1).f1)) ∧ w'.cell? ⟨(ad328.add ((x1_1).toNat * 12)).block, (ad328.add ((x1_1).toNat * 12)).off + 2, none⟩ = some (.int .i64 ((rd_T51 l0_1 x1_1).f2)) ∧ w'.cell? ⟨(ad328.add ((x1_1).toNat * 12)).block, (ad328.add ((x1_1).toNat * 12)).off + 3, none⟩ = some (.string ((rd_T51 l0_1 x1_1).f3)) ∧ w'.cell? ⟨(ad328.add ((x1_1).toNat * 12)).block, (ad328.add ((x1_1).toNat * 12)).off + 4, none⟩ = some (.int .i64 ((rd_T51 l0_1 x1_1).f4)) ∧ w'.cell? ⟨(ad328.add ((x1_1).toNat * 12)).block, (ad328.add ((x1_1).toNat * 12)).off + 5, none⟩ = some (.int .i64 ((rd_T51 l0_1 x1_1).f5)) ∧ w'.cell? ⟨(ad328.add ((x1_1).toNat * 12)).block, (ad328.add ((x1_1).toNat * 12)).off + 6, none⟩ = some (.int .i64 ((rd_T51 l0_1 x1_1).f6.f0)) ∧ w'.cell? ⟨(ad328.add ((x1_1).toNat * 12)).block, (ad328.add ((x1_1).toNat * 12)).off + 7, none⟩ = some (.string ((rd_T51 l0_1 x1_1).f6.f1)) ∧ w'.cell? ⟨(ad328.add ((x1_1).toNat * 12)).block, (ad328.add ((x1_1).toNat * 12)).off + 8, none⟩ = some (.int .i64 ((rd_T51 l0_1 x1_1).f6.f2)) ∧ w'.cell? ⟨(ad328.add ((x1_1).toNat * 12)).block, (ad328.add ((x1_1).toNat * 12)).off + 9, none⟩ = some (.slice A329_9 ((rd_T51 l0_1 x1_1).f6.f3).length c329_9) ∧ w'.cell? ⟨(ad328.add ((x1_1).toNat * 12)).block, (ad328.add ((x1_1).toNat * 12)).off + 10, none⟩ = some (.int .i64 ((rd_T51 l0_1 x1_1).f7)) ∧ w'.cell? ⟨(ad328.add ((x1_1).toNat * 12)).block, (ad328.add ((x1_1).toNat * 12)).off + 11, none⟩ = some (.string ((rd_T51 l0_1 x1_1).f8))) (ds := []) #[false, false, false, false, false, false, false, false, false] (by kernel_rfl) rfl rfl ⟨(blk_cell BK324.out 0).trans rfl, (blk_cell BK324.out 1).trans rfl, ((HB.out.cell (World.block_lt_of_cell? w _ hw329_0)).trans hw329_0), ((HB.out.cell (World.block_lt_of_cell? w _ hw329_1)).trans hw329_1), ((HB.out.cell (World.block_lt_of_cell? w _ hw329_2)).trans hw329_2), ((HB.out.cell (World.block_lt_of_cell? w _ hw329_3)).trans hw329_3), ((HB.out.cell (World.block_lt_of_cell? w _ hw329_4)).trans hw329_4), ((HB.out.cell (World.block_lt_of_cell? w _ hw329_5)).trans hw329_5), ((HB.out.cell (World.block_lt_of_cell? w _ hw329_6)).trans hw329_6), ((HB.out.cell (World.block_lt_of_cell? w _ hw329_7)).trans hw329_7), ((HB.out.cell (World.block_lt_of_cell? w _ hw329_8)).trans hw329_8), ((HB.out.cell (World.block_lt_of_cell? w _ hw329_9)).trans hw329_9), ((HB.out.cell (World.block_lt_of_cell? w _ hw329_10)).trans hw329_10), ((HB.out.cell (World.block_lt_of_cell? w _ hw329_11)).trans hw329_11)⟩ (fun hHeld => ?_); refine with_tabW spec_l6Chain.tab3 spec_l6Chain.bits3 (fun HT_ HW_ => ?_)
   generalize wr.drew = w19 at HO_6 BK324 HB HR329_9 hx329_0 hx329_1 hx329_10 hx329_11 hx329_2 hx329_3 hx329_4 hx329_5 hx329_6 hx329_7 hx329_8 hx329_9 hHeld ⊢
   refine pure_ (i := 1) (N := some 17) (v := ?_) (a' := ?_) #[false, true, false, false, false, false, false, false, false] rfl rfl (any_of HT_.out (by kernel_rfl)) (fun _ _ _ h => h) (Or.inl ⟨by rfl, ?_⟩) ?_ ?_
   rotate_left
   ·
    intro w'
    go_simp
    with_reducible rfl
   rotate_left
   ·
    simp only [Own.ps]
    rfl
   refine pure_ (i := 3) (N := some 19) (v := ?_) (a' := ?_) #[false, true, false, true, false, false, false, false, false] rfl rfl (any_of HT_.out (by kernel_rfl)) (fun _ _ _ h => h) (Or.inl ⟨by rfl, ?_⟩) ?_ ?_
   rotate_left
   ·
    intro w'
    go_simp
    with_reducible rfl
   rotate_left
   ·
    simp only [Own.ps]
    rfl
   refine take_ (i := 0) (N := some 16) (v := ?_) (a' := ?_) #[true, true, false, true, false, false, false, false, false] rfl rfl (take_ofW HT_.out HW_.out (by kernel_rfl)) (fun _ _ _ h => h) (Or.inl ⟨by rfl, ?_⟩) hHeld ?_ ?_
   rotate_left
   ·
    rintro w' ⟨s0, s1, s2, s3, s4, s5, s6, s7, s8, s9, s10, s11, s12, s13⟩
    go_simp
    with_reducible rfl
   rotate_left
   ·
    simp only [Own.ps]
    rfl
   refine take_ (i := 2) (N := some 18) (v := ?_) (a' := ?_) #[true, true, true, true, false, false, false, false, false] rfl rfl (take_ofW HT_.out HW_.out (by kernel_rfl)) (fun _ _ _ h => h) (Or.inl ⟨by rfl, ?_⟩) hHeld ?_ ?_
   rotate_left
   ·
    rintro w' ⟨s0, s1, s2, s3, s4, s5, s6, s7, s8, s9, s10, s11, s12, s13⟩
    go_simp
    with_reducible rfl
   rotate_left
   ·
    simp only [Own.ps]
    rfl
   refine pure_ (i := 4) (N := some 20) (v := ?_) (a' := ?_) #[true, true, true, true, true, false, false, false, false] rfl rfl (any_of HT_.out (by kernel_rfl)) (fun _ _ _ h => h) (Or.inl ⟨by rfl, ?_⟩) ?_ ?_
   rotate_left
   ·
    intro w'
    go_simp
    with_reducible rfl
   rotate_left
   ·
    simp only [Own.ps]
    rfl
   refine pure_ (i := 5) (N := some 21) (v := ?_) (a' := ?_) #[true, true, true, true, true, true, false, false, false] rfl rfl (any_of HT_.out (by kernel_rfl)) (fun _ _ _ h => h) (Or.inl ⟨by rfl, ?_⟩) ?_ ?_
   rotate_left
   ·
    intro w'
    go_simp
    with_reducible rfl
   rotate_left
   ·
    simp only [Own.ps]
    rfl
   refine take_ (i := 6) (N := some 22) (v := ?_) (a' := ?_) #[true, true, true, true, true, true, true, false, false] rfl rfl (take_ofW HT_.out HW_.out (by kernel_rfl)) (fun _ _ _ h => h) (Or.inl ⟨by rfl, ?_⟩) hHeld ?_ ?_
   rotate_left
   ·
    rintro w' ⟨s0, s1, s2, s3, s4, s5, s6, s7, s8, s9, s10, s11, s12, s13⟩
    go_simp
    with_reducible rfl
   rotate_left
   ·
    simp only [Own.ps]
    rfl
   refine one_ (i := 7) (N := some 23) #[true, true, true, true, true, true, true, true, false] rfl rfl (one_of HT_.out (by kernel_rfl)) (by decide) (fun K hK => ?_)
   refine goes_ Tryz.func54 (by kernel_rfl) rfl #[.agg #[.slice A0_0 l0_0.length c0_0, .slice (some ad328) l0_1.length c0_1], .string ((rd_T51 l0_1 x1_1).f8)] (by rfl) rfl rfl Own.ha ?_
   with_reducible refine (spec_l6Find.calls k1 _ _ l0_0 _ _ l0_1 ((rd_T51 l0_1 x1_1).f8) t330 _ ?side1 ?side2 ?side3 ?side4 A10.out).mono ?_
   (case side1 => exact Kd.C_below HR0_0.out Own.bl)
   (case side2 => exact HC0_0.out)
   (case side3 => exact Kd.C_below HR0_1.out Own.bl)
   (case side4 => exact HC0_1.out)
   rintro e w20 ⟨rfl, hb⟩
   refine ⟨_, rfl, ?_⟩
   have n0_ := Aside0.mk (Kd.R_below (Own.rd HO_6.out) hb)
   have n1_ := Own.bb BK324.out hb
   have n2_ := Own.bs hb
   clear HO_6
   clear BK324
   clear HB
   have HO_6 := n0_
   have BK324 := n1_
   have HB := n2_
   clear n0_ n1_ n2_
   (try clear hb)
   (try clear hb2)
   (try clear hk)
   (try clear hi)
   refine hK.out _ _ ⟨(blk_cell BK324.out 0).trans rfl, (blk_cell BK324.out 1).trans rfl, ((HB.out.cell (World.block_lt_of_cell? w _ hw329_0)).trans hw329_0), ((HB.out.cell (World.block_lt_of_cell? w _ hw329_1)).trans hw329_1), ((HB.out.cell (World.block_lt_of_cell? w _ hw329_2)).trans hw329_2), ((HB.out.cell (World.block_lt_of_cell? w _ hw329_3)).trans hw329_3), ((HB.out.cell (World.block_lt_of_cell? w _ hw329_4)).trans hw329_4), ((HB.out.cell (World.block_lt_of_cell? w _ hw329_5)).trans hw329_5), ((HB.out.cell (World.block_lt_of_cell? w _ hw329_6)).trans hw329_6), ((HB.out.cell (World.block_lt_of_cell? w _ hw329_7)).trans hw329_7), ((HB.out.cell (World.block_lt_of_cell? w _ hw329_8)).trans hw329_8), ((HB.out.cell (World.block_lt_of_cell? w _ hw329_9)).trans hw329_9), ((HB.out.cell (World.block_lt_of_cell? w _ hw329_10)).trans hw329_10), ((HB.out.cell (World.block_lt_of_cell? w _ hw329_11)).trans hw329_11)⟩ (fun hHeld => ?_)
   clear hK K
   refine norm_ (a' := ?_) ?_ ?_
   rotate_left
   ·
    show Act.put _ (some 23) _ = _
    simp only [Own.ps]
    rfl
   refine pure_ (i := 8) (N := some 1) (v := ?_) (a' := ?_) #[true, true, true, true, true, true, true, true, true] rfl rfl (any_of HT_.out (by kernel_rfl)) (fun _ _ _ h => h) (Or.inl ⟨by rfl, ?_⟩) ?_ ?_
   rotate_left
   ·
    intro w'
    go_simp
    with_reducible rfl
   rotate_left
   ·
    simp only [Own.ps]
    rfl
   refine done_ (done_of HT_.out (by kernel_rfl)) ?_
   obtain ⟨Ao21, co21, eo21⟩ := Kd.R_slice HO_6.out
   subst eo21
   try go_wp2_with (first | ((with_reducible refine gate_callee (f := 79) rfl ?_); refine goesL_ (some 26) rfl rfl Tryz.func79 (by kernel_rfl) rfl #[.slice Ao21 x6_1.length co21, .int .i64 t330] rfl Own.ha ?_; (with_reducible refine (spec_l1Has.calls k1 _ _ x6_1 t330 false _ ?side1 ?side2 A11.out).mono ?_); (case side1 => repeat (first | exact (Kd.R_reads' HO_6.out).2.2 | (with_reducible refine Kd.C_alloc ?_ _) | (with_reducible refine Kd.C_drewN ?_ _) | (with_reducible refine Kd.C_drew ?_))); (case side2 => exact (Kd.R_reads' HO_6.out).2.1); rintro e w' ⟨rfl, ⟨nd, rfl⟩⟩; refine ⟨_, rfl, ?_⟩) | ((with_reducible refine gate_builtin (b := .append) (xs := #[.tmp 28, .tmp 30]) rfl ?_); at_builtin; refine Kd.R_append (Kd.int .i64) (w0 := w) w.heap.size rfl (.tmp 28) (.tmp 30) 27 3 (.int .i64 0) 8 rfl Tryz.underlying27 info3 rfl (by decide) (by omega) (.slice Ao21 x6_1.length co21) x6_1 t330 [.int .i64 t330] (fun _ => True) (fun _ => False) rfl rfl ?aP (fun _ hk => hk.elim) ?aF ?aO ?aB ?aS ?aL ?_; (case aP => exact rfl); (case aB => exact Own.bl); (case aF => exact (fun _ _ => trivial)); (case aO => exact (Own.rd HO_6.out)); (case aS => exact (below_size Own.bl)); (case aL => have := LMc17.out; omega); intro v333 w22 ho hb hg hat; rw [← Ny332.out] at ho; have HO334 := Aside0.mk ho; replace BK324 := Aside0.mk (blk_grown (Own.bkf BK324.out) hg (Kd.R_ne HO_6.out BK324.out (by decide))); replace HB := Aside0.mk hb; clear HO_6; clear ho hb hg hat))
   go_roundg k1
   case measure => have := HK1.out; omega
   case rel => exact ⟨(t330), (y332), Own.rs, H', ⟨by have := HK1.out; omega⟩, ⟨Own.rd HO334.out⟩, ⟨Own.bk⟩, ⟨Own.bl⟩⟩

/-! ### spec_RepairChain: function 28 -/
def spec_RepairChain.f (k : Nat) (l0_0 : List ByteArray) (l0_1 : List (S51)) (a1 : Int) : Option (List Int × Bool × Bool) := (spec_l6Good.f k l0_0 l0_1).bind fun t336 => (if t336 = true then ((spec_l1In.f a1 0 (wrap64 ((l0_1.length : Int) - 1))).bind fun t337 => (if t337 = true then ((spec_l6Chain.f k l0_0 l0_1 a1).bind fun bt338 => (some (bt338.1, bt338.2, true))) else (some ((([] : List Int)), false, false)))) else (some ((([] : List Int)), false, false)))
theorem spec_RepairChain.mono : ∀ a0 a1 a2 k, LeO (spec_RepairChain.f k a0 a1 a2) (spec_RepairChain.f (k + 1) a0 a1 a2) := by
 intro a0 a1 a2 k
 unfold spec_RepairChain.f
 repeat' first
   | (with_reducible first | exact spec_l6Chain.mono _ _ _ _ | exact spec_l6Good.mono _ _ _ | exact LeO.refl _ | exact LeO.none _ | refine LeO.ite ?_ ?_ | refine LeO.bind ?_ (fun _ => ?_))
set_option maxHeartbeats 8000000 in
set_option maxRecDepth 100000 in
theorem spec_RepairChain.calls (k : Nat) (A0_0 : Option Addr) (c0_0 : Nat) (l0_0 : List ByteArray) (A0_1 : Option Addr) (c0_1 : Nat) (l0_1 : List (S51)) (a1 : Int) (r1 : List Int) (r2 : Bool) (r3 : Bool) (w : World) (hr0_0 : Kd.C Kd.string w A0_0 l0_0.length l0_0) (hc0_0 : l0_0.length ≤ c0_0) (hr0_1 : Kd.C k51 w A0_1 l0_1.length l0_1) (hc0_1 : l0_1.length ≤ c0_1) (h : spec_RepairChain.f k l0_0 l0_1 a1 = some (r1, r2, r3)) :
  Calls Tryz.prog 28 #[.agg #[.slice A0_0 l0_0.length c0_0, .slice A0_1 l0_1.length c0_1], .int .i64 a1] w fun e w' => ∃ v0_ : Value, e = .returned (.tuple #[v0_, .bool r2, .bool r3]) ∧ Kd.R (Kd.int .i64) 3 w' w.heap.size (fun _ => True) v0_ r1 ∧ Below w.heap.size w w' := by
 have hu32 := Tryz.underlying32
 have HR0_0 := Aside0.mk hr0_0
 have HC0_0 := Aside0.mk hc0_0
 clear hr0_0 hc0_0
 have HR0_1 := Aside0.mk hr0_1
 have HC0_1 := Aside0.mk hc0_1
 clear hr0_1 hc0_1
 have HB := Aside0.mk (Below.refl w.heap.size w)
 have H : ((spec_l6Good.f k l0_0 l0_1).bind fun t336 => (if t336 = true then ((spec_l1In.f a1 0 (wrap64 ((l0_1.length : Int) - 1))).bind fun t337 => (if t337 = true then ((spec_l6Chain.f k l0_0 l0_1 a1).bind fun bt338 => (some (bt338.1, bt338.2, true))) else (some ((([] : List Int)), false, false)))) else (some ((([] : List Int)), false, false)))) = some (r1, r2, r3) := h
 clear h
 replace H := Own.bd H; obtain ⟨t336, A3, H⟩ := H
 replace H := Own.ift H; obtain ⟨rfl, H⟩ | ⟨rfl, H⟩ := H
 ·
  obtain ⟨y345, hy345⟩ : ∃ y_ : List Int, y_ = (([] : List Int)) := ⟨_, rfl⟩
  replace H : (some (y345, false, false)) = some (r1, r2, r3) := by first | (rw [hy345]; with_reducible exact H) | (have H2_ := (Option.bind_some _ _).symm.trans H; rw [hy345]; with_reducible exact H2_) | (have H2_ := (Option.bind_some _ _).symm.trans H; with_reducible exact H2_) | with_reducible exact H | (rw [hy345]; exact H) | exact H
  have Ny345 := Aside0.mk hy345
  clear hy345
  simp only [Option.some.injEq, Prod.mk.injEq] at H
  obtain ⟨rfl, rfl, rfl⟩ := H
  go_enter Tryz.func28, Tryz.ntmps28
  go_wp2_with (first | ((with_reducible refine gate_dst (N := 2) rfl ?_); refine Own.be (N := 2) (cs := #[.slice A0_0 l0_0.length c0_0, .slice A0_1 l0_1.length c0_1]) (t := 32) ?_; intro gb335 hg w19 hbox hb; have BK335 := Aside0.mk hbox; have GW335 := (Own.gs hg : Aside0 (w.heap.size ≤ gb335)); have GE335 := GW335; replace HB := Own.bs hb; clear hb hbox hg; obtain ⟨z20_0, z20_1, y20_0, y20_1⟩ := Own.box2 BK335.out) | ((with_reducible refine gate_callee (f := 32) rfl ?_); refine goesL_ (some 10) rfl rfl Tryz.func32 (by kernel_rfl) rfl #[.agg #[.slice A0_0 l0_0.length c0_0, .slice A0_1 l0_1.length c0_1]] rfl Own.ha ?_; (with_reducible refine (spec_l6Good.calls k _ _ l0_0 _ _ l0_1 false _ ?side1 ?side2 ?side3 ?side4 A3.out).mono ?_); (case side1 => exact Kd.C_below HR0_0.out Own.bl); (case side2 => exact HC0_0.out); (case side3 => exact Kd.C_below HR0_1.out Own.bl); (case side4 => exact HC0_1.out); rintro e w21 ⟨rfl, hb⟩; refine ⟨_, rfl, ?_⟩; replace BK335 := Own.bb BK335.out hb; replace HB := Own.bs hb; (try clear hb); (try clear hk)) | ((with_reducible refine gate_dst (N := 21) rfl ?_); refine Kd.R_lit (Kd.int .i64) _ 3 ?hg (N := 21) ?hd (xs := ([] : List Int)) (inner := []) (ok := fun _ => True) (okp := fun _ => True) ?hr ?hp (fun _ hk => hk) trivial (Below.refl _ _) (Nat.le_refl _) (by simp) ?_; (case hd => rfl); (case hg => rfl); (case hr => first | (go_simp; done) | (go_simp; rfl)); (case hp => exact (Reps.none _ _)); intro v346 w22 ho23 hb hg_ hnew_; clear hg_ hnew_; (first | rw [← Ny345.out] at ho23 | (simp only [Int.reduceToNat] at ho23; rw [← Ny345.out] at ho23)); have HO347 := Aside0.mk (Kd.R_lower ho23 (below_size Own.bl)); replace BK335 := Own.bb BK335.out hb; replace HB := Own.bs hb; clear hb ho23))
  go_ret3
  exact ⟨_, Own.rr, Own.rd HO347.out, Own.bl⟩
 replace H := Own.bd H; obtain ⟨t337, A5, H⟩ := H
 replace H := Own.ifu H; obtain ⟨rfl, H⟩ | ⟨rfl, H⟩ := H
 ·
  replace H := Option.bind_eq_some_iff.mp H
  obtain ⟨⟨t338, t341⟩, A70, H⟩ := H
  replace H : (some (t338, t341, true)) = some (r1, r2, r3) := H
  have A7 := Aside0.mk A70
  clear A70
  simp only [Option.some.injEq, Prod.mk.injEq] at H
  obtain ⟨rfl, rfl, rfl⟩ := H
  go_enter Tryz.func28, Tryz.ntmps28
  go_wp2_with (first | ((with_reducible refine gate_dst (N := 2) rfl ?_); refine Own.be (N := 2) (cs := #[.slice A0_0 l0_0.length c0_0, .slice A0_1 l0_1.length c0_1]) (t := 32) ?_; intro gb335 hg w8 hbox hb; have BK335 := Aside0.mk hbox; have GW335 := (Own.gs hg : Aside0 (w.heap.size ≤ gb335)); have GE335 := GW335; replace HB := Own.bs hb; clear hb hbox hg; obtain ⟨z9_0, z9_1, y9_0, y9_1⟩ := Own.box2 BK335.out) | ((with_reducible refine gate_callee (f := 32) rfl ?_); refine goesL_ (some 10) rfl rfl Tryz.func32 (by kernel_rfl) rfl #[.agg #[.slice A0_0 l0_0.length c0_0, .slice A0_1 l0_1.length c0_1]] rfl Own.ha ?_; (with_reducible refine (spec_l6Good.calls k _ _ l0_0 _ _ l0_1 true _ ?side1 ?side2 ?side3 ?side4 A3.out).mono ?_); (case side1 => exact Kd.C_below HR0_0.out Own.bl); (case side2 => exact HC0_0.out); (case side3 => exact Kd.C_below HR0_1.out Own.bl); (case side4 => exact HC0_1.out); rintro e w10 ⟨rfl, hb⟩; refine ⟨_, rfl, ?_⟩; replace BK335 := Own.bb BK335.out hb; replace HB := Own.bs hb; (try clear hb); obtain ⟨z11_0, z11_1, y11_0, y11_1⟩ := Own.box2 BK335.out) | (go_at_call 57; (with_reducible refine (spec_l1In.calls a1 0 (wrap64 ((l0_1.length : Int) - 1)) true _ A5.out).mono ?_); rintro e w' ⟨rfl, ⟨nd, rfl⟩⟩) | ((with_reducible refine gate_callee (f := 60) rfl ?_); refine goesL_ (some 25) rfl rfl Tryz.func60 (by kernel_rfl) rfl #[.agg #[.slice A0_0 l0_0.length c0_0, .slice A0_1 l0_1.length c0_1], .int .i64 a1] rfl Own.ha ?_; (with_reducible refine (spec_l6Chain.calls k _ _ l0_0 _ _ l0_1 a1 t338 t341 _ ?side1 ?side2 ?side3 ?side4 A7.out).mono ?_); (case side1 => exact Kd.C_below HR0_0.out Own.bl); (case side2 => exact HC0_0.out); (case side3 => exact Kd.C_below HR0_1.out Own.bl); (case side4 => exact HC0_1.out); rintro e w12 ⟨v339, rfl, ho0, hb⟩; refine ⟨_, rfl, ?_⟩; have HO340 := Aside0.mk (Kd.R_lower ho0 (below_size Own.bl)); replace BK335 := Own.bb BK335.out hb; replace HB := Own.bs hb; (try clear hb); (try clear ho0)))
  go_ret3
  exact ⟨_, Own.rr, Own.rd HO340.out, Own.bl⟩
 obtain ⟨y342, hy342⟩ : ∃ y_ : List Int, y_ = (([] : List Int)) := ⟨_, rfl⟩
 replace H : (some (y342, false, false)) = some (r1, r2, r3) := by first | (rw [hy342]; with_reducible exact H) | (have H2_ := (Option.bind_some _ _).symm.trans H; rw [hy342]; with_reducible exact H2_) | (have H2_ := (Option.bind_some _ _).symm.trans H; with_reducible exact H2_) | with_reducible exact H | (rw [hy342]; exact H) | exact H
 have Ny342 := Aside0.mk hy342
 clear hy342
 simp only [Option.some.injEq, Prod.mk.injEq] at H
 obtain ⟨rfl, rfl, rfl⟩ := H
 go_enter Tryz.func28, Tryz.ntmps28
 go_wp2_with (first | ((with_reducible refine gate_dst (N := 2) rfl ?_); refine Own.be (N := 2) (cs := #[.slice A0_0 l0_0.length c0_0, .slice A0_1 l0_1.length c0_1]) (t := 32) ?_; intro gb335 hg w13 hbox hb; have BK335 := Aside0.mk hbox; have GW335 := (Own.gs hg : Aside0 (w.heap.size ≤ gb335)); have GE335 := GW335; replace HB := Own.bs hb; clear hb hbox hg; obtain ⟨z14_0, z14_1, y14_0, y14_1⟩ := Own.box2 BK335.out) | ((with_reducible refine gate_callee (f := 32) rfl ?_); refine goesL_ (some 10) rfl rfl Tryz.func32 (by kernel_rfl) rfl #[.agg #[.slice A0_0 l0_0.length c0_0, .slice A0_1 l0_1.length c0_1]] rfl Own.ha ?_; (with_reducible refine (spec_l6Good.calls k _ _ l0_0 _ _ l0_1 true _ ?side1 ?side2 ?side3 ?side4 A3.out).mono ?_); (case side1 => exact Kd.C_below HR0_0.out Own.bl); (case side2 => exact HC0_0.out); (case side3 => exact Kd.C_below HR0_1.out Own.bl); (case side4 => exact HC0_1.out); rintro e w15 ⟨rfl, hb⟩; refine ⟨_, rfl, ?_⟩; replace BK335 := Own.bb BK335.out hb; replace HB := Own.bs hb; (try clear hb); (try clear hk); obtain ⟨z16_0, z16_1, y16_0, y16_1⟩ := Own.box2 BK335.out) | (go_at_call 57; (with_reducible refine (spec_l1In.calls a1 0 (wrap64 ((l0_1.length : Int) - 1)) false _ A5.out).mono ?_); rintro e w' ⟨rfl, ⟨nd, rfl⟩⟩) | ((with_reducible refine gate_dst (N := 21) rfl ?_); refine Kd.R_lit (Kd.int .i64) _ 3 ?hg (N := 21) ?hd (xs := ([] : List Int)) (inner := []) (ok := fun _ => True) (okp := fun _ => True) ?hr ?hp (fun _ hk => hk) trivial (Below.refl _ _) (Nat.le_refl _) (by simp) ?_; (case hd => rfl); (case hg => rfl); (case hr => first | (go_simp; done) | (go_simp; rfl)); (case hp => exact (Reps.none _ _)); intro v343 w17 ho18 hb hg_ hnew_; clear hg_ hnew_; (first | rw [← Ny342.out] at ho18 | (simp only [Int.reduceToNat] at ho18; rw [← Ny342.out] at ho18)); have HO344 := Aside0.mk (Kd.R_lower ho18 (below_size Own.bl)); replace BK335 := Own.bb BK335.out hb; replace HB := Own.bs hb; clear hb ho18))
 go_ret3
 exact ⟨_, Own.rr, Own.rd HO344.out, Own.bl⟩

/-! ### impl_within: function 58 -/
def impl_within.f (a0 : Int) (a1 : Int) (a2 : Int) : Option (Bool) := if a0 ≥ a1 then (some (decide (a0 ≤ a2))) else (some false)
set_option maxHeartbeats 8000000 in
set_option maxRecDepth 100000 in
theorem impl_within.calls (a0 : Int) (a1 : Int) (a2 : Int) (r : Bool) (w : World) (h : impl_within.f a0 a1 a2 = some r) :
  Calls Tryz.prog 58 #[.int .i64 a0, .int .i64 a1, .int .i64 a2] w fun e w' => e = .returned (.bool r) ∧ Drawn0 w w' := by
 have H : (if a0 ≥ a1 then (some (decide (a0 ≤ a2))) else (some false)) = some r := h
 clear h
 by_cases c4 : a0 ≥ a1
 ·
  rw [if_pos c4] at H
  have c4b0 : decide (a1 ≤ a0) = true := decide_eq_true c4
  clear c4
  obtain rfl := Option.some.inj H
  go_enter Tryz.func58, Tryz.ntmps58
  go_wp2
  go_ret
  exact ⟨by first | rfl | (simp; done) | (simp [*]; done), by repeat (first | exact Drawn0.refl _ | apply Drawn0.step)⟩
 rw [if_neg c4] at H
 have c4b0 : decide (a1 ≤ a0) = false := decide_eq_false c4
 clear c4
 obtain rfl := Option.some.inj H
 go_enter Tryz.func58, Tryz.ntmps58
 go_wp2
 go_ret
 exact ⟨by first | rfl | (simp; done) | (simp [*]; done), by repeat (first | exact Drawn0.refl _ | apply Drawn0.step)⟩

/-! ### slices_Index_string_string: function 97 -/
def slices_Index_string_string.l0 : Nat → List ByteArray → ByteArray → Int → Int → Option (Int)
 | 0, _, _, _, _ => none
 | k + 1, x0, x1, x7, x8 => if x8 < x7 then (if 0 ≤ x8 then (if x8 < (x0.length : Int) then (if x1.toList = (rdOf ByteArray.empty x0 x8).toList then (some x8) else (slices_Index_string_string.l0 k x0 x1 x7 (wrap64 (x8 + 1)))) else (none)) else (none)) else (some (-1))
def slices_Index_string_string.f (k : Nat) (l0 : List ByteArray) (a1 : ByteArray) : Option (Int) := slices_Index_string_string.l0 k l0 a1 (l0.length : Int) 0
theorem slices_Index_string_string.mono_l : ∀ k, (∀ y0 y1 y2 y3, LeO (slices_Index_string_string.l0 k y0 y1 y2 y3) (slices_Index_string_string.l0 (k + 1) y0 y1 y2 y3))
 | 0 => fun _ _ _ _ r h => by simp [slices_Index_string_string.l0] at h
 | k + 1 => by
  have ih0 := slices_Index_string_string.mono_l k
  ·
   intro y0 y1 y2 y3
   unfold slices_Index_string_string.l0
   repeat' first
   | (with_reducible first | exact ih0 _ _ _ _ | exact LeO.refl _ | exact LeO.none _ | refine LeO.ite ?_ ?_ | refine LeO.bind ?_ (fun _ => ?_))
theorem slices_Index_string_string.mono : ∀ a0 a1 k, LeO (slices_Index_string_string.f k a0 a1) (slices_Index_string_string.f (k + 1) a0 a1) := by
 intro a0 a1 k
 have ih0 := slices_Index_string_string.mono_l k
 unfold slices_Index_string_string.f
 repeat' first
   | (with_reducible first | exact ih0 _ _ _ _ | exact LeO.refl _ | exact LeO.none _ | refine LeO.ite ?_ ?_ | refine LeO.bind ?_ (fun _ => ?_))
set_option maxHeartbeats 8000000 in
set_option maxRecDepth 100000 in
theorem slices_Index_string_string.calls (k : Nat) (A0 : Option Addr) (c0 : Nat) (l0 : List ByteArray) (a1 : ByteArray) (r : Int) (w : World) (hr0 : Kd.C Kd.string w A0 l0.length l0) (hc0 : l0.length ≤ c0) (h : slices_Index_string_string.f k l0 a1 = some r) :
  Calls Tryz.prog 97 #[.slice A0 l0.length c0, .string a1] w fun e w' => e = .returned (.int .i64 r) ∧ Drawn0 w w' := by
 have HR0 := Aside0.mk hr0
 have HC0 := Aside0.mk hc0
 clear hr0 hc0
 have H : (slices_Index_string_string.l0 k l0 a1 (l0.length : Int) 0) = some r := h
 clear h
 have H' := Aside0.mk H
 clear H
 go_enter Tryz.func97, Tryz.ntmps97
 go_wp2
 go_loopg [8] k (fun kq v8 w' => ∃ (x8_1 : Int), v8 = .int .i64 x8_1 ∧ Aside0 (slices_Index_string_string.l0 kq l0 a1 (l0.length : Int) x8_1 = some r) ∧ Aside0 (kq ≤ k) ∧ Drawn0 w w')
 case atStart => exact ⟨(0), Own.rs, H', ⟨Nat.le_refl _⟩, by repeat (first | exact Drawn0.refl _ | apply Drawn0.step)⟩
 case round =>
  clear H'
  try clear p2
  obtain ⟨x8_1, rfl, HA, HK1, ⟨m1, rfl⟩⟩ := hrel
  cases gk with
  | zero => exact absurd HA.out (by simp [slices_Index_string_string.l0])
  | succ k1 =>
   have H := HA.out
   clear HA
   simp only [slices_Index_string_string.l0] at H
   by_cases c3 : x8_1 < (l0.length : Int)
   rotate_left
   ·
    rw [if_neg c3] at H
    replace c3 := decide_eq_false c3
    obtain rfl := Option.some.inj H
    go_wp2
    go_ret
    exact ⟨by first | rfl | (simp; done) | (simp [*]; done), by repeat (first | exact Drawn0.refl _ | apply Drawn0.step)⟩
   rw [if_pos c3] at H
   replace c3 := decide_eq_true c3
   replace H := Own.ifd H; obtain ⟨c4, H⟩ := H
   replace H := Own.ifd H; obtain ⟨c5, H⟩ := H
   by_cases c6 : a1.toList = (rdOf ByteArray.empty l0 x8_1).toList
   ·
    rw [if_pos c6] at H
    have c6b0 : (a1.toList == (rdOf ByteArray.empty l0 x8_1).toList) = true := beq_iff_eq.mpr c6
    have c6b1 : (a1.toList != (rdOf ByteArray.empty l0 x8_1).toList) = false := bne_eq_false_iff_eq.mpr c6
    clear c6
    obtain rfl := Option.some.inj H
    have p348 : 0 ≤ (x8_1 : Int) := Own.dp
    have q348 : x8_1 < (l0.length : Int) := Own.dp
    obtain ⟨ad348, e348, hx348_0⟩ := Kd.at_string HR0.out x8_1 p348 q348
    cases e348
    replace p348 := eq_true p348
    replace q348 := eq_true q348
    go_wp2
    go_ret
    exact ⟨by first | rfl | (simp; done) | (simp [*]; done), by repeat (first | exact Drawn0.refl _ | apply Drawn0.step)⟩
   rw [if_neg c6] at H
   have c6b0 : (a1.toList == (rdOf ByteArray.empty l0 x8_1).toList) = false := beq_eq_false_iff_ne.mpr c6
   have c6b1 : (a1.toList != (rdOf ByteArray.empty l0 x8_1).toList) = true := bne_iff_ne.mpr c6
   have H' := Aside0.mk H
   clear H
   have p348 : 0 ≤ (x8_1 : Int) := Own.dp
   have q348 : x8_1 < (l0.length : Int) := Own.dp
   obtain ⟨ad348, e348, hx348_0⟩ := Kd.at_string HR0.out x8_1 p348 q348
   cases e348
   replace p348 := eq_true p348
   replace q348 := eq_true q348
   go_wp2
   go_roundg k1
   case measure => have := HK1.out; omega
   case rel => exact ⟨(wrap64 (x8_1 + 1)), Own.rs, H', ⟨by have := HK1.out; omega⟩, by repeat (first | exact Drawn0.refl _ | apply Drawn0.step)⟩

/-! ### slices_Contains_string_string: function 89 -/
def slices_Contains_string_string.f (k : Nat) (l0 : List ByteArray) (a1 : ByteArray) : Option (Bool) := (slices_Index_string_string.f k l0 a1).bind fun t349 => (some (decide (t349 ≥ 0)))
theorem slices_Contains_string_string.mono : ∀ a0 a1 k, LeO (slices_Contains_string_string.f k a0 a1) (slices_Contains_string_string.f (k + 1) a0 a1) := by
 intro a0 a1 k
 unfold slices_Contains_string_string.f
 repeat' first
   | (with_reducible first | exact slices_Index_string_string.mono _ _ _ | exact LeO.refl _ | exact LeO.none _ | refine LeO.ite ?_ ?_ | refine LeO.bind ?_ (fun _ => ?_))
set_option maxHeartbeats 8000000 in
set_option maxRecDepth 100000 in
theorem slices_Contains_string_string.calls (k : Nat) (A0 : Option Addr) (c0 : Nat) (l0 : List ByteArray) (a1 : ByteArray) (r : Bool) (w : World) (hr0 : Kd.C Kd.string w A0 l0.length l0) (hc0 : l0.length ≤ c0) (h : slices_Contains_string_string.f k l0 a1 = some r) :
  Calls Tryz.prog 89 #[.slice A0 l0.length c0, .string a1] w fun e w' => e = .returned (.bool r) ∧ Drawn0 w w' := by
 have HR0 := Aside0.mk hr0
 have HC0 := Aside0.mk hc0
 clear hr0 hc0
 have H : ((slices_Index_string_string.f k l0 a1).bind fun t349 => (some (decide (t349 ≥ 0)))) = some r := h
 clear h
 replace H := Own.bd H; obtain ⟨t349, A3, H⟩ := H
 obtain rfl := Option.some.inj H
 go_enter Tryz.func89, Tryz.ntmps89
 go_wp2_with (first | ((with_reducible refine gate_callee (f := 97) rfl ?_); refine goesL_ (some 7) rfl rfl Tryz.func97 (by kernel_rfl) rfl #[.slice A0 l0.length c0, .string a1] rfl Own.ha ?_; (with_reducible refine (slices_Index_string_string.calls k _ _ l0 a1 t349 _ ?side1 ?side2 A3.out).mono ?_); (case side1 => repeat (first | exact HR0.out | (with_reducible refine Kd.C_alloc ?_ _) | (with_reducible refine Kd.C_drewN ?_ _) | (with_reducible refine Kd.C_drew ?_))); (case side2 => exact HC0.out); rintro e w' ⟨rfl, ⟨nd, rfl⟩⟩; refine ⟨_, rfl, ?_⟩))
 go_ret
 exact ⟨by first | rfl | (simp; done) | (simp [*]; done), by repeat (first | exact Drawn0.refl _ | apply Drawn0.step)⟩

/-! ### strings_Split: function 96 -/
def strings_Split.f (a0 : ByteArray) (a1 : ByteArray) : Option (List ByteArray) := Own.splitF a0 a1
theorem strings_Split.calls (a0 : ByteArray) (a1 : ByteArray) (r : List ByteArray) (w : World) (hG : Own.Glob w) (h : strings_Split.f a0 a1 = some r) :
  Calls Tryz.prog 96 #[.string a0, .string a1] w fun e w' => ∃ v0_ : Value, e = .returned (v0_) ∧ Kd.R Kd.string 9 w' w.heap.size (fun _ => True) v0_ r ∧ Below w.heap.size w w' :=
 Own.split_calls a0 a1 r w hG.maxLen h


end Go.Proofs.YtdfbfcgjcfbmpaaGreatDoor.QFnExactRepairChain
