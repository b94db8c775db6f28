-- Written by a program of this session out of the translation; Lean checks it.
import Derived.Test.YtdfbfcgjcfbmpaaDoorQFnExactFactNamesx0
import Derived.Test.YtdfbfcgjcfbmpaaDoorQFnExactFactNamesx11
namespace Go.Proofs.YtdfbfcgjcfbmpaaDoor.QFnExactFactNames
open Go.RowKit Go.Proofs.YtdfbfcgjcfbmpaaDoorW.PrintWords Go.Proofs.YtdfbfcgjcfbmpaaDoorW.PrintLast Go.Proofs.YtdfbfcgjcfbmpaaDoorW.PrintMore
attribute [local go_sem] Instr.field asAgg Own.str_leq Own.str_gtr Own.str_geq
attribute [local go_sem] max2_int min2_int max_two min_two max_three min_three max_four min_four   -- for this text's walks alone
set_option linter.unusedVariables false
set_option linter.unusedSimpArgs false

/-! ### impl_clauseIndex: function 30 -/
def impl_clauseIndex.l0 : Nat → ByteArray → Int → List ByteArray → List (S63) → Option (Int)
 | 0, _, _, _, _ => none
 | k + 1, x1, x5, x191000, x191001 => if x5 < (x191001.length : Int) then (if 0 ≤ x5 then (if ((rd_T63 x191001 x5).f0).toList = x1.toList then (some x5) else (impl_clauseIndex.l0 k x1 (wrap64 (x5 + 1)) x191000 x191001)) else (none)) else (some (-1))
def impl_clauseIndex.f (k : Nat) (l0_0 : List ByteArray) (l0_1 : List (S63)) (a1 : ByteArray) : Option (Int) := impl_clauseIndex.l0 k a1 0 l0_0 l0_1
theorem impl_clauseIndex.mono_l : ∀ k, (∀ y0 y1 y2 y3, LeO (impl_clauseIndex.l0 k y0 y1 y2 y3) (impl_clauseIndex.l0 (k + 1) y0 y1 y2 y3))
 | 0 => fun _ _ _ _ r h => by simp [impl_clauseIndex.l0] at h
 | k + 1 => by
  have ih0 := impl_clauseIndex.mono_l k
  ·
   intro y0 y1 y2 y3
   unfold impl_clauseIndex.l0
   repeat' first
   | (with_reducible first | exact ih0 _ _ _ _ | exact LeO.refl _ | exact LeO.none _ | refine LeO.ite ?_ ?_ | refine LeO.bind ?_ (fun _ => ?_))
theorem impl_clauseIndex.mono : ∀ a0 a1 a2 k, LeO (impl_clauseIndex.f k a0 a1 a2) (impl_clauseIndex.f (k + 1) a0 a1 a2) := by
 intro a0 a1 a2 k
 have ih0 := impl_clauseIndex.mono_l k
 unfold impl_clauseIndex.f
 repeat' first
   | (with_reducible first | exact ih0 _ _ _ _ | exact LeO.refl _ | exact LeO.none _ | refine LeO.ite ?_ ?_ | refine LeO.bind ?_ (fun _ => ?_))
set_option maxHeartbeats 8000000 in
set_option maxRecDepth 100000 in
theorem impl_clauseIndex.lit (gs : Nat) (a1 : ByteArray) (x : S63) (A9 : Option Addr) (c9 : Nat) (w : World) (hid : w.heap[gs]? = some (.cells #[.string a1] 9 (0, 0))) :
  Calls Tryd.prog 46 #[.agg #[.string x.f0, .int .i64 x.f1, .int .i64 x.f2, .string x.f3, .int .i64 x.f4, .int .i64 x.f5, .int .i64 x.f6.f0, .string x.f6.f1, .int .i64 x.f6.f2, .slice A9 x.f6.f3.length c9, .int .i64 x.f7, .string x.f8], .pointer (some ⟨gs, 0, none⟩)] w fun e w' => e = .returned (.bool (x.f0.toList == a1.toList)) ∧ Below w.heap.size w w' := by
 have HB := Aside0.mk (Below.refl w.heap.size w)
 have hlt : gs < w.heap.size := (Array.getElem?_eq_some_iff.1 hid).1
 have hu63 := Tryd.underlying63
 go_enter Tryd.func46, Tryd.ntmps46
 go_wp2_with (first | ((with_reducible refine gate_dst (N := 2) rfl ?_); refine Own.be (N := 2) (cs := #[.string x.f0, .int .i64 x.f1, .int .i64 x.f2, .string x.f3, .int .i64 x.f4, .int .i64 x.f5, .int .i64 x.f6.f0, .string x.f6.f1, .int .i64 x.f6.f2, .slice A9 x.f6.f3.length c9, .int .i64 x.f7, .string x.f8]) (t := 63) ?_; intro gb hg w3 hbox hb; have n0_ := Own.bs hb; have hid3 := blk_below hid hb; have hne : gs ≠ gb := (by rw [hg]; exact Nat.ne_of_lt hlt); clear HB; have HB := n0_; clear n0_; obtain ⟨hcz_0, hcz_1, hcz_2, hcz_3, hcz_4, hcz_5, hcz_6, hcz_7, hcz_8, hcz_9, hcz_10, hcz_11, hfz_0, hfz_1, hfz_2, hfz_3, hfz_4, hfz_5, hfz_6, hfz_7, hfz_8, hfz_9, hfz_10, hfz_11⟩ := Own.box12 hbox; have hcs : w3.cell? ⟨gs, 0, none⟩ = some (.string a1) := (blk_cell hid3 0).trans rfl; have hfs := blk_frozen hid3 0; clear hb hbox hg))
 go_ret
 exact ⟨by first | rfl | (simp; done), Own.bl⟩
set_option maxHeartbeats 8000000 in
set_option maxRecDepth 100000 in
theorem impl_clauseIndex.idx (k gs : Nat) (l0_0 : List ByteArray) (A0_1 : Option Addr) (c0_1 : Nat) (l0_1 : List (S63)) (a1 : ByteArray) (r : Int) (w : World) (hr0_1 : Kd.C k63 w A0_1 l0_1.length l0_1) (hc0_1 : l0_1.length ≤ c0_1) (hid : w.heap[gs]? = some (.cells #[.string a1] 9 (0, 0))) (h : impl_clauseIndex.l0 k a1 0 l0_0 l0_1 = some r) :
  Calls Tryd.prog 45 #[.slice A0_1 l0_1.length c0_1, .func (.func 46) #[] #[.pointer (some ⟨gs, 0, none⟩)]] w fun e w' => e = .returned (.int .i64 r) ∧ Below w.heap.size w w' := by
 have hu63 := Tryd.underlying63
 have HR0_1 := Aside0.mk hr0_1
 have HC0_1 := Aside0.mk hc0_1
 clear hr0_1 hc0_1
 have HB := Aside0.mk (Below.refl w.heap.size w)
 have H' := Aside0.mk h
 clear h
 go_enter Tryd.func45, Tryd.ntmps45
 go_wp2
 go_loopg [8] k (fun kq v5 w' => ∃ (x5_1 : Int), v5 = .int .i64 x5_1 ∧ Aside0 (impl_clauseIndex.l0 kq a1 x5_1 l0_0 l0_1 = some r) ∧ Aside0 (kq ≤ k) ∧ Aside0 (Below w.heap.size w w'))
 case atStart => exact ⟨(0), Own.rs, H', ⟨Nat.le_refl _⟩, ⟨Own.bl⟩⟩
 case round =>
  clear H'
  obtain ⟨x5_1, rfl, HA, HK1, HB⟩ := hrel
  cases gk with
  | zero => exact absurd HA.out (by simp [impl_clauseIndex.l0])
  | succ k1 =>
   have H := HA.out
   clear HA
   simp only [impl_clauseIndex.l0] at H
   by_cases c4 : x5_1 < (l0_1.length : Int)
   ·
    rw [if_pos c4] at H
    have c4b0 : decide (x5_1 < (l0_1.length : Int)) = true := decide_eq_true c4
    clear c4
    by_cases c5 : 0 ≤ x5_1
    ·
     rw [if_pos c5] at H
     have c5b0 : decide (0 ≤ x5_1) = true := decide_eq_true c5
     clear c5
     by_cases c6 : ((rd_T63 l0_1 x5_1).f0).toList = a1.toList
     ·
      rw [if_pos c6] at H
      have c6b0 : (((rd_T63 l0_1 x5_1).f0).toList == a1.toList) = true := beq_iff_eq.mpr c6
      clear c6
      obtain rfl := Option.some.inj H
      have p191 : 0 ≤ (x5_1 : Int) := Own.dp
      have q191 : x5_1 < (l0_1.length : Int) := Own.dp
      obtain ⟨ad191, A191_9, c191_9, e191, hx191_0, hx191_1, hx191_2, hx191_3, hx191_4, hx191_5, hx191_6, hx191_7, hx191_8, hx191_9, hx191_10, hx191_11, hl191_9, hi191_9⟩ := at_T63 HR0_1.out x5_1 p191 q191
      cases e191
      replace hx191_0 := Own.up HB.out hx191_0
      replace hx191_1 := Own.up HB.out hx191_1
      replace hx191_2 := Own.up HB.out hx191_2
      replace hx191_3 := Own.up HB.out hx191_3
      replace hx191_4 := Own.up HB.out hx191_4
      replace hx191_5 := Own.up HB.out hx191_5
      replace hx191_6 := Own.up HB.out hx191_6
      replace hx191_7 := Own.up HB.out hx191_7
      replace hx191_8 := Own.up HB.out hx191_8
      replace hx191_9 := Own.up HB.out hx191_9
      replace hx191_10 := Own.up HB.out hx191_10
      replace hx191_11 := Own.up HB.out hx191_11
      have HR191_9 := Aside0.mk hi191_9
      have HC191_9 := Aside0.mk hl191_9
      clear hi191_9 hl191_9
      replace p191 := eq_true p191
      replace q191 := eq_true q191
      go_wp2_with (first | ((with_reducible refine Own.gateT_ (t := 11) rfl ?_); refine Own.goesF_ (some 16) rfl rfl Tryd.func46 (by kernel_rfl) rfl #[.pointer (some ⟨gs, 0, none⟩)] #[.agg #[.string (rd_T63 l0_1 x5_1).f0, .int .i64 (rd_T63 l0_1 x5_1).f1, .int .i64 (rd_T63 l0_1 x5_1).f2, .string (rd_T63 l0_1 x5_1).f3, .int .i64 (rd_T63 l0_1 x5_1).f4, .int .i64 (rd_T63 l0_1 x5_1).f5, .int .i64 (rd_T63 l0_1 x5_1).f6.f0, .string (rd_T63 l0_1 x5_1).f6.f1, .int .i64 (rd_T63 l0_1 x5_1).f6.f2, .slice A191_9 (rd_T63 l0_1 x5_1).f6.f3.length c191_9, .int .i64 (rd_T63 l0_1 x5_1).f7, .string (rd_T63 l0_1 x5_1).f8]] rfl (by (try simp only [List.map_toArray, List.map_cons, List.map_nil]); first | done | rfl) ?_; refine (impl_clauseIndex.lit gs a1 (rd_T63 l0_1 x5_1) _ _ _ (blk_below hid HB.out)).mono ?_; rintro e w7 ⟨he_, hb⟩; rw [c6b0] at he_; subst he_; refine ⟨_, rfl, ?_⟩; have n0_ := Aside0.mk (below_step HB.out hb); clear HB; have HB := n0_; clear n0_ hb))
      go_ret
      exact ⟨by first | rfl | (simp; done) | (simp [*]; done), Own.bl⟩
     ·
      rw [if_neg c6] at H
      have c6b0 : (((rd_T63 l0_1 x5_1).f0).toList == a1.toList) = false := beq_eq_false_iff_ne.mpr c6
      have H' := Aside0.mk H
      clear H
      have p191 : 0 ≤ (x5_1 : Int) := Own.dp
      have q191 : x5_1 < (l0_1.length : Int) := Own.dp
      obtain ⟨ad191, A191_9, c191_9, e191, hx191_0, hx191_1, hx191_2, hx191_3, hx191_4, hx191_5, hx191_6, hx191_7, hx191_8, hx191_9, hx191_10, hx191_11, hl191_9, hi191_9⟩ := at_T63 HR0_1.out x5_1 p191 q191
      cases e191
      replace hx191_0 := Own.up HB.out hx191_0
      replace hx191_1 := Own.up HB.out hx191_1
      replace hx191_2 := Own.up HB.out hx191_2
      replace hx191_3 := Own.up HB.out hx191_3
      replace hx191_4 := Own.up HB.out hx191_4
      replace hx191_5 := Own.up HB.out hx191_5
      replace hx191_6 := Own.up HB.out hx191_6
      replace hx191_7 := Own.up HB.out hx191_7
      replace hx191_8 := Own.up HB.out hx191_8
      replace hx191_9 := Own.up HB.out hx191_9
      replace hx191_10 := Own.up HB.out hx191_10
      replace hx191_11 := Own.up HB.out hx191_11
      have HR191_9 := Aside0.mk hi191_9
      have HC191_9 := Aside0.mk hl191_9
      clear hi191_9 hl191_9
      replace p191 := eq_true p191
      replace q191 := eq_true q191
      go_wp2_with (first | ((with_reducible refine Own.gateT_ (t := 11) rfl ?_); refine Own.goesF_ (some 16) rfl rfl Tryd.func46 (by kernel_rfl) rfl #[.pointer (some ⟨gs, 0, none⟩)] #[.agg #[.string (rd_T63 l0_1 x5_1).f0, .int .i64 (rd_T63 l0_1 x5_1).f1, .int .i64 (rd_T63 l0_1 x5_1).f2, .string (rd_T63 l0_1 x5_1).f3, .int .i64 (rd_T63 l0_1 x5_1).f4, .int .i64 (rd_T63 l0_1 x5_1).f5, .int .i64 (rd_T63 l0_1 x5_1).f6.f0, .string (rd_T63 l0_1 x5_1).f6.f1, .int .i64 (rd_T63 l0_1 x5_1).f6.f2, .slice A191_9 (rd_T63 l0_1 x5_1).f6.f3.length c191_9, .int .i64 (rd_T63 l0_1 x5_1).f7, .string (rd_T63 l0_1 x5_1).f8]] rfl (by (try simp only [List.map_toArray, List.map_cons, List.map_nil]); first | done | rfl) ?_; refine (impl_clauseIndex.lit gs a1 (rd_T63 l0_1 x5_1) _ _ _ (blk_below hid HB.out)).mono ?_; rintro e w7 ⟨he_, hb⟩; rw [c6b0] at he_; subst he_; refine ⟨_, rfl, ?_⟩; have n0_ := Aside0.mk (below_step HB.out hb); clear HB; have HB := n0_; clear n0_ hb))
      go_roundg k1
      case measure => have := HK1.out; omega
      case rel => exact ⟨(wrap64 (x5_1 + 1)), Own.rs, H', ⟨by have := HK1.out; omega⟩, ⟨Own.bl⟩⟩
    ·
     rw [if_neg c5] at H
     exact absurd H (by simp)
   ·
    rw [if_neg c4] at H
    have c4b0 : decide (x5_1 < (l0_1.length : Int)) = false := decide_eq_false c4
    clear c4
    obtain rfl := Option.some.inj H
    go_wp2
    go_ret
    exact ⟨by first | rfl | (simp; done) | (simp [*]; done), Own.bl⟩
set_option maxHeartbeats 8000000 in
set_option maxRecDepth 100000 in
theorem impl_clauseIndex.calls (k : Nat) (A0_0 : Option Addr) (c0_0 : Nat) (l0_0 : List ByteArray) (A0_1 : Option Addr) (c0_1 : Nat) (l0_1 : List (S63)) (a1 : ByteArray) (r : Int) (w : World) (hr0_0 : Kd.C Kd.string w A0_0 l0_0.length l0_0) (hc0_0 : l0_0.length ≤ c0_0) (hr0_1 : Kd.C k63 w A0_1 l0_1.length l0_1) (hc0_1 : l0_1.length ≤ c0_1) (h : impl_clauseIndex.f k l0_0 l0_1 a1 = some r) :
  Calls Tryd.prog 30 #[.agg #[.slice A0_0 l0_0.length c0_0, .slice A0_1 l0_1.length c0_1], .string a1] w fun e w' => e = .returned (.int .i64 r) ∧ Below w.heap.size w w' := by
 have hu30 := Tryd.underlying30
 have HR0_1 := Aside0.mk hr0_1
 have HC0_1 := Aside0.mk hc0_1
 clear hr0_0 hc0_0 hr0_1 hc0_1
 have HB := Aside0.mk (Below.refl w.heap.size w)
 have H' := Aside0.mk h
 clear h
 go_enter Tryd.func30, Tryd.ntmps30
 go_wp2_with (first | ((with_reducible refine gate_dst (N := 2) rfl ?_); refine Own.be (N := 2) (cs := #[.slice A0_0 l0_0.length c0_0, .slice A0_1 l0_1.length c0_1]) (t := 30) ?_; intro gb hg w3 hbox hb; have n0_ := Own.bs hb; have BK := Aside0.mk hbox; clear HB; have HB := n0_; clear n0_; clear hb hbox hg) | ((with_reducible refine gate_dst (N := 3) rfl ?_); refine Own.be (N := 3) (cs := #[.string a1]) (t := 9) ?_; intro gs hgs w4 hid hb; have n0_ := Own.bs hb; have n1_ := Aside0.mk (blk_below BK.out hb); clear HB; have HB := n0_; clear n0_; clear BK; have BK := n1_; clear n1_; clear hb hgs; obtain ⟨hcz_0, hcz_1, hfz_0, hfz_1⟩ := Own.box2 BK.out) | ((with_reducible refine gate_callee (f := 45) rfl ?_); refine goesL_ (some 8) rfl rfl Tryd.func45 (by kernel_rfl) rfl #[.slice A0_1 l0_1.length c0_1, .func (.func 46) #[] #[.pointer (some ⟨gs, 0, none⟩)]] rfl (by (try simp only [List.map_toArray, List.map_cons, List.map_nil]); first | done | rfl) ?_; refine (impl_clauseIndex.idx k gs l0_0 A0_1 c0_1 l0_1 a1 r _ (Kd.C_below HR0_1.out HB.out) HC0_1.out hid H'.out).mono ?_; rintro e w7 ⟨rfl, hb⟩; refine ⟨_, rfl, ?_⟩; have n0_ := Aside0.mk (below_step HB.out hb); clear HB; have HB := n0_; clear n0_ hb))
 go_ret
 exact ⟨by first | rfl | (simp; done), Own.bl⟩


/-! ### impl_isDay: function 67 -/
def impl_isDay.f (a0 : Int) : Option (Bool) := (impl_within.f a0 0 36524).bind fun t330 => (some t330)
set_option maxHeartbeats 8000000 in
set_option maxRecDepth 100000 in
theorem impl_isDay.calls (a0 : Int) (r : Bool) (w : World) (h : impl_isDay.f a0 = some r) :
  Calls Tryd.prog 67 #[.int .i64 a0] w fun e w' => e = .returned (.bool r) ∧ Drawn0 w w' := by
 have H : ((impl_within.f a0 0 36524).bind fun t330 => (some t330)) = some r := h
 clear h
 replace H := Own.bd H; obtain ⟨t330, A2, H⟩ := H
 obtain rfl := Option.some.inj H
 go_enter Tryd.func67, Tryd.ntmps67
 go_wp2_with (first | ((with_reducible refine gate_callee (f := 25) rfl ?_); refine goesL_ (some 4) rfl rfl Tryd.func25 (by kernel_rfl) rfl #[.int .i64 a0, .int .i64 0, .int .i64 36524] rfl Own.ha ?_; (with_reducible refine (impl_within.calls a0 0 36524 t330 _ A2.out).mono ?_); rintro e w' ⟨rfl, ⟨nd, rfl⟩⟩; refine ⟨_, rfl, ?_⟩))
 go_ret
 exact ⟨by first | rfl | (simp; done) | (simp [*]; done), by repeat (first | exact Drawn0.refl _ | apply Drawn0.step)⟩

end Go.Proofs.YtdfbfcgjcfbmpaaDoor.QFnExactFactNames
