-- Written by a program of this session out of the translation; Lean checks it.
import Derived.Test.YtdfbfcgjcfbmpaaDoorQFnExactFactNamesx0
import Derived.Test.YtdfbfcgjcfbmpaaDoorQFnExactFactNamesx6
import Derived.Test.YtdfbfcgjcfbmpaaDoorQFnExactFactNamesx10
namespace Go.Proofs.YtdfbfcgjcfbmpaaDoor.QFnExactFactNames
open Go.RowKit Go.Proofs.YtdfbfcgjcfbmpaaDoorW.PrintWords Go.Proofs.YtdfbfcgjcfbmpaaDoorW.PrintLast Go.Proofs.YtdfbfcgjcfbmpaaDoorW.PrintMore
attribute [local go_sem] Instr.field asAgg Own.str_leq Own.str_gtr Own.str_geq
attribute [local go_sem] max2_int min2_int max_two min_two max_three min_three max_four min_four   -- for this text's walks alone
set_option linter.unusedVariables false
set_option linter.unusedSimpArgs false

/-! ### spec_FactNames: function 13 -/
def spec_FactNames.f (k : Nat) (l0_0 : List ByteArray) (l0_1 : List (S63)) : Option (List ByteArray × Bool) := (spec_l6Good.f k l0_0 l0_1).bind fun t311 => (if t311 = true then ((spec_l6Names.f k l0_0 l0_1).bind fun t312 => (some (t312, true))) else (some ((([] : List ByteArray)), false)))
theorem spec_FactNames.mono : ∀ a0 a1 k, LeO (spec_FactNames.f k a0 a1) (spec_FactNames.f (k + 1) a0 a1) := by
 intro a0 a1 k
 unfold spec_FactNames.f
 repeat' first
   | (with_reducible first | exact spec_l6Good.mono _ _ _ | exact spec_l6Names.mono _ _ _ | exact LeO.refl _ | exact LeO.none _ | refine LeO.ite ?_ ?_ | refine LeO.bind ?_ (fun _ => ?_))
set_option maxHeartbeats 8000000 in
set_option maxRecDepth 100000 in
theorem spec_FactNames.calls (k : Nat) (A0_0 : Option Addr) (c0_0 : Nat) (l0_0 : List ByteArray) (A0_1 : Option Addr) (c0_1 : Nat) (l0_1 : List (S63)) (r1 : List ByteArray) (r2 : Bool) (w : World) (hr0_0 : Kd.C Kd.string w A0_0 l0_0.length l0_0) (hc0_0 : l0_0.length ≤ c0_0) (hr0_1 : Kd.C k63 w A0_1 l0_1.length l0_1) (hc0_1 : l0_1.length ≤ c0_1) (h : spec_FactNames.f k l0_0 l0_1 = some (r1, r2)) :
  Calls Tryd.prog 13 #[.agg #[.slice A0_0 l0_0.length c0_0, .slice A0_1 l0_1.length c0_1]] w fun e w' => ∃ v0_ : Value, e = .returned (.tuple #[v0_, .bool r2]) ∧ Kd.V Kd.string 9 w' w.heap.size (fun k_ => (w.heap.size ≤ k_)) v0_ r1 ∧ Below w.heap.size w w' := by
 have hu30 := Tryd.underlying30
 have HR0_0 := Aside0.mk hr0_0
 have HC0_0 := Aside0.mk hc0_0
 clear hr0_0 hc0_0
 have HR0_1 := Aside0.mk hr0_1
 have HC0_1 := Aside0.mk hc0_1
 clear hr0_1 hc0_1
 have HB := Aside0.mk (Below.refl w.heap.size w)
 have H : ((spec_l6Good.f k l0_0 l0_1).bind fun t311 => (if t311 = true then ((spec_l6Names.f k l0_0 l0_1).bind fun t312 => (some (t312, true))) else (some ((([] : List ByteArray)), false)))) = some (r1, r2) := h
 clear h
 replace H := Own.bd H; obtain ⟨t311, A2, H⟩ := H
 replace H := Own.ifu H; obtain ⟨rfl, H⟩ | ⟨rfl, H⟩ := H
 ·
  replace H := Own.bd H; obtain ⟨t312, A4, H⟩ := H
  simp only [Option.some.injEq, Prod.mk.injEq] at H
  obtain ⟨rfl, rfl⟩ := H
  go_enter Tryd.func13, Tryd.ntmps13
  go_wp2_with (first | ((with_reducible refine gate_dst (N := 1) rfl ?_); refine Own.be (N := 1) (cs := #[.slice A0_0 l0_0.length c0_0, .slice A0_1 l0_1.length c0_1]) (t := 30) ?_; intro gb310 hg w5 hbox hb; have BK310 := Aside0.mk hbox; have GW310 := (Own.gs hg : Aside0 (w.heap.size ≤ gb310)); have GE310 := GW310; replace HB := Own.bs hb; clear hb hbox hg; obtain ⟨z6_0, z6_1, y6_0, y6_1⟩ := Own.box2 BK310.out) | ((with_reducible refine gate_callee (f := 21) rfl ?_); refine goesL_ (some 5) rfl rfl Tryd.func21 (by kernel_rfl) rfl #[.agg #[.slice A0_0 l0_0.length c0_0, .slice A0_1 l0_1.length c0_1]] rfl Own.ha ?_; (with_reducible refine (spec_l6Good.calls k _ _ l0_0 _ _ l0_1 true _ ?side1 ?side2 ?side3 ?side4 A2.out).mono ?_); (case side1 => exact Kd.C_below HR0_0.out Own.bl); (case side2 => exact HC0_0.out); (case side3 => exact Kd.C_below HR0_1.out Own.bl); (case side4 => exact HC0_1.out); rintro e w7 ⟨rfl, hb⟩; refine ⟨_, rfl, ?_⟩; replace BK310 := Own.bb BK310.out hb; replace HB := Own.bs hb; (try clear hb); obtain ⟨z8_0, z8_1, y8_0, y8_1⟩ := Own.box2 BK310.out) | ((with_reducible refine gate_callee (f := 31) rfl ?_); refine goesL_ (some 9) rfl rfl Tryd.func31 (by kernel_rfl) rfl #[.agg #[.slice A0_0 l0_0.length c0_0, .slice A0_1 l0_1.length c0_1]] rfl Own.ha ?_; (with_reducible refine (spec_l6Names.calls k _ _ l0_0 _ _ l0_1 t312 _ ?side1 ?side2 ?side3 ?side4 A4.out).mono ?_); (case side1 => exact Kd.C_below HR0_0.out Own.bl); (case side2 => exact HC0_0.out); (case side3 => exact Kd.C_below HR0_1.out Own.bl); (case side4 => exact HC0_1.out); rintro e w9 ⟨v313, rfl, ho0, hb⟩; refine ⟨_, rfl, ?_⟩; have HO314 := Aside0.mk (Kd.V_lower (Kd.V_mono (ok' := fun k_ => (w.heap.size ≤ k_) ∧ k_ ≠ gb310) ho0 (fun k_ hk_ => ⟨(Nat.le_trans (below_size Own.bl) hk_), (Kd.freshB (Own.bkf BK310.out) k_ hk_)⟩)) (below_size Own.bl)); replace BK310 := Own.bb BK310.out hb; replace HB := Own.bs hb; (try clear hb); (try clear ho0)))
  go_ret2
  exact ⟨_, Own.rr, by (with_reducible repeat (first | apply Kd.V_alloc | apply Kd.V_drewN | apply Kd.V_drew)); exact Kd.V_mono HO314.out (fun _ hk => hk.1), Own.bl⟩
 obtain ⟨y315, hy315⟩ : ∃ y_ : List ByteArray, y_ = (([] : List ByteArray)) := ⟨_, rfl⟩
 replace H : (some (y315, false)) = some (r1, r2) := by first | (rw [hy315]; with_reducible exact H) | (have H2_ := (Option.bind_some _ _).symm.trans H; rw [hy315]; with_reducible exact H2_) | (have H2_ := (Option.bind_some _ _).symm.trans H; with_reducible exact H2_) | with_reducible exact H | (rw [hy315]; exact H) | exact H
 have Ny315 := Aside0.mk hy315
 clear hy315
 simp only [Option.some.injEq, Prod.mk.injEq] at H
 obtain ⟨rfl, rfl⟩ := H
 go_enter Tryd.func13, Tryd.ntmps13
 go_wp2_with (first | ((with_reducible refine gate_dst (N := 1) rfl ?_); refine Own.be (N := 1) (cs := #[.slice A0_0 l0_0.length c0_0, .slice A0_1 l0_1.length c0_1]) (t := 30) ?_; intro gb310 hg w10 hbox hb; have BK310 := Aside0.mk hbox; have GW310 := (Own.gs hg : Aside0 (w.heap.size ≤ gb310)); have GE310 := GW310; replace HB := Own.bs hb; clear hb hbox hg; obtain ⟨z11_0, z11_1, y11_0, y11_1⟩ := Own.box2 BK310.out) | ((with_reducible refine gate_callee (f := 21) rfl ?_); refine goesL_ (some 5) rfl rfl Tryd.func21 (by kernel_rfl) rfl #[.agg #[.slice A0_0 l0_0.length c0_0, .slice A0_1 l0_1.length c0_1]] rfl Own.ha ?_; (with_reducible refine (spec_l6Good.calls k _ _ l0_0 _ _ l0_1 false _ ?side1 ?side2 ?side3 ?side4 A2.out).mono ?_); (case side1 => exact Kd.C_below HR0_0.out Own.bl); (case side2 => exact HC0_0.out); (case side3 => exact Kd.C_below HR0_1.out Own.bl); (case side4 => exact HC0_1.out); rintro e w12 ⟨rfl, hb⟩; refine ⟨_, rfl, ?_⟩; replace BK310 := Own.bb BK310.out hb; replace HB := Own.bs hb; (try clear hb); (try clear hk)) | ((with_reducible refine gate_dst (N := 7) rfl ?_); refine Kd.R_lit Kd.string _ 9 ?hg (N := 7) ?hd (xs := ([] : List ByteArray)) (inner := []) (ok := fun _ => True) (okp := fun _ => True) ?hr ?hp (fun _ hk => hk) trivial (Below.refl _ _) (Nat.le_refl _) (by simp) ?_; (case hd => rfl); (case hg => rfl); (case hr => first | (go_simp; done) | (go_simp; rfl)); (case hp => exact (Reps.none _ _)); intro v316 w13 ho14 hb hg_ hnew_; clear hg_ hnew_; (first | rw [← Ny315.out] at ho14 | (simp only [Int.reduceToNat] at ho14; rw [← Ny315.out] at ho14)); have HO317 := Aside0.mk (Kd.R_lower (Kd.R_newM (M := fun k_ => (w.heap.size ≤ k_)) ho14 (below_size Own.bl) (fun k_ h_ => h_)) (below_size Own.bl)); replace BK310 := Own.bb BK310.out hb; replace HB := Own.bs hb; clear hb ho14))
 go_ret2
 exact ⟨_, Own.rr, Kd.R_V (by (with_reducible repeat (first | apply Kd.R_alloc | apply Kd.R_drewN | apply Kd.R_drew)); exact Kd.R_mono HO317.out (fun _ hk => hk.1)), Own.bl⟩

/-! ### impl_within: function 25 -/
def impl_within.f (a0 : Int) (a1 : Int) (a2 : Int) : Option (Bool) := if a0 ≥ a1 then (some (decide (a0 ≤ a2))) else (some false)
set_option maxHeartbeats 8000000 in
set_option maxRecDepth 100000 in
theorem impl_within.calls (a0 : Int) (a1 : Int) (a2 : Int) (r : Bool) (w : World) (h : impl_within.f a0 a1 a2 = some r) :
  Calls Tryd.prog 25 #[.int .i64 a0, .int .i64 a1, .int .i64 a2] w fun e w' => e = .returned (.bool r) ∧ Drawn0 w w' := by
 have H : (if a0 ≥ a1 then (some (decide (a0 ≤ a2))) else (some false)) = some r := h
 clear h
 by_cases c4 : a0 ≥ a1
 ·
  rw [if_pos c4] at H
  have c4b0 : decide (a1 ≤ a0) = true := decide_eq_true c4
  clear c4
  obtain rfl := Option.some.inj H
  go_enter Tryd.func25, Tryd.ntmps25
  go_wp2
  go_ret
  exact ⟨by first | rfl | (simp; done) | (simp [*]; done), by repeat (first | exact Drawn0.refl _ | apply Drawn0.step)⟩
 rw [if_neg c4] at H
 have c4b0 : decide (a1 ≤ a0) = false := decide_eq_false c4
 clear c4
 obtain rfl := Option.some.inj H
 go_enter Tryd.func25, Tryd.ntmps25
 go_wp2
 go_ret
 exact ⟨by first | rfl | (simp; done) | (simp [*]; done), by repeat (first | exact Drawn0.refl _ | apply Drawn0.step)⟩

/-! ### slices_Index_string_string: function 56 -/
def slices_Index_string_string.l0 : Nat → List ByteArray → ByteArray → Int → Int → Option (Int)
 | 0, _, _, _, _ => none
 | k + 1, x0, x1, x7, x8 => if x8 < x7 then (if 0 ≤ x8 then (if x8 < (x0.length : Int) then (if x1.toList = (rdOf ByteArray.empty x0 x8).toList then (some x8) else (slices_Index_string_string.l0 k x0 x1 x7 (wrap64 (x8 + 1)))) else (none)) else (none)) else (some (-1))
def slices_Index_string_string.f (k : Nat) (l0 : List ByteArray) (a1 : ByteArray) : Option (Int) := slices_Index_string_string.l0 k l0 a1 (l0.length : Int) 0
theorem slices_Index_string_string.mono_l : ∀ k, (∀ y0 y1 y2 y3, LeO (slices_Index_string_string.l0 k y0 y1 y2 y3) (slices_Index_string_string.l0 (k + 1) y0 y1 y2 y3))
 | 0 => fun _ _ _ _ r h => by simp [slices_Index_string_string.l0] at h
 | k + 1 => by
  have ih0 := slices_Index_string_string.mono_l k
  ·
   intro y0 y1 y2 y3
   unfold slices_Index_string_string.l0
   repeat' first
   | (with_reducible first | exact ih0 _ _ _ _ | exact LeO.refl _ | exact LeO.none _ | refine LeO.ite ?_ ?_ | refine LeO.bind ?_ (fun _ => ?_))
theorem slices_Index_string_string.mono : ∀ a0 a1 k, LeO (slices_Index_string_string.f k a0 a1) (slices_Index_string_string.f (k + 1) a0 a1) := by
 intro a0 a1 k
 have ih0 := slices_Index_string_string.mono_l k
 unfold slices_Index_string_string.f
 repeat' first
   | (with_reducible first | exact ih0 _ _ _ _ | exact LeO.refl _ | exact LeO.none _ | refine LeO.ite ?_ ?_ | refine LeO.bind ?_ (fun _ => ?_))
set_option maxHeartbeats 8000000 in
set_option maxRecDepth 100000 in
theorem slices_Index_string_string.calls (k : Nat) (A0 : Option Addr) (c0 : Nat) (l0 : List ByteArray) (a1 : ByteArray) (r : Int) (w : World) (hr0 : Kd.C Kd.string w A0 l0.length l0) (hc0 : l0.length ≤ c0) (h : slices_Index_string_string.f k l0 a1 = some r) :
  Calls Tryd.prog 56 #[.slice A0 l0.length c0, .string a1] w fun e w' => e = .returned (.int .i64 r) ∧ Drawn0 w w' := by
 have HR0 := Aside0.mk hr0
 have HC0 := Aside0.mk hc0
 clear hr0 hc0
 have H : (slices_Index_string_string.l0 k l0 a1 (l0.length : Int) 0) = some r := h
 clear h
 have H' := Aside0.mk H
 clear H
 go_enter Tryd.func56, Tryd.ntmps56
 go_wp2
 go_loopg [8] k (fun kq v8 w' => ∃ (x8_1 : Int), v8 = .int .i64 x8_1 ∧ Aside0 (slices_Index_string_string.l0 kq l0 a1 (l0.length : Int) x8_1 = some r) ∧ Aside0 (kq ≤ k) ∧ Drawn0 w w')
 case atStart => exact ⟨(0), Own.rs, H', ⟨Nat.le_refl _⟩, by repeat (first | exact Drawn0.refl _ | apply Drawn0.step)⟩
 case round =>
  clear H'
  try clear p2
  obtain ⟨x8_1, rfl, HA, HK1, ⟨m1, rfl⟩⟩ := hrel
  cases gk with
  | zero => exact absurd HA.out (by simp [slices_Index_string_string.l0])
  | succ k1 =>
   have H := HA.out
   clear HA
   simp only [slices_Index_string_string.l0] at H
   by_cases c3 : x8_1 < (l0.length : Int)
   rotate_left
   ·
    rw [if_neg c3] at H
    replace c3 := decide_eq_false c3
    obtain rfl := Option.some.inj H
    go_wp2
    go_ret
    exact ⟨by first | rfl | (simp; done) | (simp [*]; done), by repeat (first | exact Drawn0.refl _ | apply Drawn0.step)⟩
   rw [if_pos c3] at H
   replace c3 := decide_eq_true c3
   replace H := Own.ifd H; obtain ⟨c4, H⟩ := H
   replace H := Own.ifd H; obtain ⟨c5, H⟩ := H
   by_cases c6 : a1.toList = (rdOf ByteArray.empty l0 x8_1).toList
   ·
    rw [if_pos c6] at H
    have c6b0 : (a1.toList == (rdOf ByteArray.empty l0 x8_1).toList) = true := beq_iff_eq.mpr c6
    have c6b1 : (a1.toList != (rdOf ByteArray.empty l0 x8_1).toList) = false := bne_eq_false_iff_eq.mpr c6
    clear c6
    obtain rfl := Option.some.inj H
    have p318 : 0 ≤ (x8_1 : Int) := Own.dp
    have q318 : x8_1 < (l0.length : Int) := Own.dp
    obtain ⟨ad318, e318, hx318_0⟩ := Kd.at_string HR0.out x8_1 p318 q318
    cases e318
    replace p318 := eq_true p318
    replace q318 := eq_true q318
    go_wp2
    go_ret
    exact ⟨by first | rfl | (simp; done) | (simp [*]; done), by repeat (first | exact Drawn0.refl _ | apply Drawn0.step)⟩
   rw [if_neg c6] at H
   have c6b0 : (a1.toList == (rdOf ByteArray.empty l0 x8_1).toList) = false := beq_eq_false_iff_ne.mpr c6
   have c6b1 : (a1.toList != (rdOf ByteArray.empty l0 x8_1).toList) = true := bne_iff_ne.mpr c6
   have H' := Aside0.mk H
   clear H
   have p318 : 0 ≤ (x8_1 : Int) := Own.dp
   have q318 : x8_1 < (l0.length : Int) := Own.dp
   obtain ⟨ad318, e318, hx318_0⟩ := Kd.at_string HR0.out x8_1 p318 q318
   cases e318
   replace p318 := eq_true p318
   replace q318 := eq_true q318
   go_wp2
   go_roundg k1
   case measure => have := HK1.out; omega
   case rel => exact ⟨(wrap64 (x8_1 + 1)), Own.rs, H', ⟨by have := HK1.out; omega⟩, by repeat (first | exact Drawn0.refl _ | apply Drawn0.step)⟩

/-! ### slices_Contains_string_string: function 40 -/
def slices_Contains_string_string.f (k : Nat) (l0 : List ByteArray) (a1 : ByteArray) : Option (Bool) := (slices_Index_string_string.f k l0 a1).bind fun t319 => (some (decide (t319 ≥ 0)))
theorem slices_Contains_string_string.mono : ∀ a0 a1 k, LeO (slices_Contains_string_string.f k a0 a1) (slices_Contains_string_string.f (k + 1) a0 a1) := by
 intro a0 a1 k
 unfold slices_Contains_string_string.f
 repeat' first
   | (with_reducible first | exact slices_Index_string_string.mono _ _ _ | exact LeO.refl _ | exact LeO.none _ | refine LeO.ite ?_ ?_ | refine LeO.bind ?_ (fun _ => ?_))
set_option maxHeartbeats 8000000 in
set_option maxRecDepth 100000 in
theorem slices_Contains_string_string.calls (k : Nat) (A0 : Option Addr) (c0 : Nat) (l0 : List ByteArray) (a1 : ByteArray) (r : Bool) (w : World) (hr0 : Kd.C Kd.string w A0 l0.length l0) (hc0 : l0.length ≤ c0) (h : slices_Contains_string_string.f k l0 a1 = some r) :
  Calls Tryd.prog 40 #[.slice A0 l0.length c0, .string a1] w fun e w' => e = .returned (.bool r) ∧ Drawn0 w w' := by
 have HR0 := Aside0.mk hr0
 have HC0 := Aside0.mk hc0
 clear hr0 hc0
 have H : ((slices_Index_string_string.f k l0 a1).bind fun t319 => (some (decide (t319 ≥ 0)))) = some r := h
 clear h
 replace H := Own.bd H; obtain ⟨t319, A3, H⟩ := H
 obtain rfl := Option.some.inj H
 go_enter Tryd.func40, Tryd.ntmps40
 go_wp2_with (first | ((with_reducible refine gate_callee (f := 56) rfl ?_); refine goesL_ (some 7) rfl rfl Tryd.func56 (by kernel_rfl) rfl #[.slice A0 l0.length c0, .string a1] rfl Own.ha ?_; (with_reducible refine (slices_Index_string_string.calls k _ _ l0 a1 t319 _ ?side1 ?side2 A3.out).mono ?_); (case side1 => repeat (first | exact HR0.out | (with_reducible refine Kd.C_alloc ?_ _) | (with_reducible refine Kd.C_drewN ?_ _) | (with_reducible refine Kd.C_drew ?_))); (case side2 => exact HC0.out); rintro e w' ⟨rfl, ⟨nd, rfl⟩⟩; refine ⟨_, rfl, ?_⟩))
 go_ret
 exact ⟨by first | rfl | (simp; done) | (simp [*]; done), by repeat (first | exact Drawn0.refl _ | apply Drawn0.step)⟩

/-! ### strings_Split: function 55 -/
def strings_Split.f (a0 : ByteArray) (a1 : ByteArray) : Option (List ByteArray) := Own.splitF a0 a1
theorem strings_Split.calls (a0 : ByteArray) (a1 : ByteArray) (r : List ByteArray) (w : World) (hG : Own.Glob w) (h : strings_Split.f a0 a1 = some r) :
  Calls Tryd.prog 55 #[.string a0, .string a1] w fun e w' => ∃ v0_ : Value, e = .returned (v0_) ∧ Kd.R Kd.string 9 w' w.heap.size (fun _ => True) v0_ r ∧ Below w.heap.size w w' :=
 Own.split_calls a0 a1 r w hG.maxLen h


/-! ### impl_IsValidName: function 39 -/
mutual
def impl_IsValidName.j0 : Nat → ByteArray → Bool → Option (Bool)
 | 0, _, _ => none
 | k + 1, x0, x18 => if x18 = true then (some false) else (impl_IsValidName.l0 k x0 (x0.size : Int) 0)
def impl_IsValidName.l0 : Nat → ByteArray → Int → Int → Option (Bool)
 | 0, _, _, _ => none
 | k + 1, x0, x20, x21 => if x21 < x20 then (if 0 ≤ x21 then (if x21 < (x0.size : Int) then (if (bt x0 x21) < 97 then (if (bt x0 x21) < 48 then (some false) else (if (bt x0 x21) > 57 then (some false) else (impl_IsValidName.l0 k x0 x20 (wrap64 (x21 + 1))))) else (if (bt x0 x21) > 122 then (if (bt x0 x21) < 48 then (some false) else (if (bt x0 x21) > 57 then (some false) else (impl_IsValidName.l0 k x0 x20 (wrap64 (x21 + 1))))) else (impl_IsValidName.l0 k x0 x20 (wrap64 (x21 + 1))))) else (none)) else (none)) else ((strings_Split.f (⟨#[116, 114, 117, 101, 32, 102, 114, 111, 109, 32, 110, 111, 116, 32, 97, 110, 100, 32, 111, 114, 32, 98, 111, 116, 104, 32, 101, 105, 116, 104, 101, 114, 32, 105, 116, 32, 105, 110]⟩ : ByteArray) (⟨#[32]⟩ : ByteArray)).bind fun t321 => ((slices_Contains_string_string.f k t321 x0).bind fun t324 => (some (!t324))))
end
def impl_IsValidName.f (k : Nat) (a0 : ByteArray) : Option (Bool) := (impl_within.f (a0.size : Int) 1 8).bind fun t320 => (if t320 = true then (if 0 < (a0.size : Int) then (if (bt a0 0) < 97 then (impl_IsValidName.j0 k a0 true) else (impl_IsValidName.j0 k a0 (decide ((bt a0 0) > 122)))) else (none)) else (impl_IsValidName.j0 k a0 true))
theorem impl_IsValidName.mono_l : ∀ k, (∀ y0 y1, LeO (impl_IsValidName.j0 k y0 y1) (impl_IsValidName.j0 (k + 1) y0 y1)) ∧ (∀ y0 y1 y2, LeO (impl_IsValidName.l0 k y0 y1 y2) (impl_IsValidName.l0 (k + 1) y0 y1 y2))
 | 0 => ⟨fun _ _ r h => by simp [impl_IsValidName.j0] at h, fun _ _ _ r h => by simp [impl_IsValidName.l0] at h⟩
 | k + 1 => by
  obtain ⟨ih0, ih1⟩ := impl_IsValidName.mono_l k
  refine ⟨?_, ?_⟩
  ·
   intro y0 y1
   unfold impl_IsValidName.j0
   repeat' first
   | (with_reducible first | exact ih0 _ _ | exact ih1 _ _ _ | exact slices_Contains_string_string.mono _ _ _ | exact LeO.refl _ | exact LeO.none _ | refine LeO.ite ?_ ?_ | refine LeO.bind ?_ (fun _ => ?_))
  ·
   intro y0 y1 y2
   unfold impl_IsValidName.l0
   repeat' first
   | (with_reducible first | exact ih0 _ _ | exact ih1 _ _ _ | exact slices_Contains_string_string.mono _ _ _ | exact LeO.refl _ | exact LeO.none _ | refine LeO.ite ?_ ?_ | refine LeO.bind ?_ (fun _ => ?_))
theorem impl_IsValidName.mono : ∀ a0 k, LeO (impl_IsValidName.f k a0) (impl_IsValidName.f (k + 1) a0) := by
 intro a0 k
 obtain ⟨ih0, ih1⟩ := impl_IsValidName.mono_l k
 unfold impl_IsValidName.f
 repeat' first
   | (with_reducible first | exact ih0 _ _ | exact ih1 _ _ _ | exact slices_Contains_string_string.mono _ _ _ | exact LeO.refl _ | exact LeO.none _ | refine LeO.ite ?_ ?_ | refine LeO.bind ?_ (fun _ => ?_))
set_option maxHeartbeats 8000000 in
set_option maxRecDepth 100000 in
theorem impl_IsValidName.calls (k : Nat) (a0 : ByteArray) (r : Bool) (w : World) (hG : Own.Glob w) (h : impl_IsValidName.f k a0 = some r) :
  Calls Tryd.prog 39 #[.string a0] w fun e w' => e = .returned (.bool r) ∧ Below w.heap.size w w' := by
 have HB := Aside0.mk (Below.refl w.heap.size w)
 have HG := Aside0.mk hG
 clear hG
 have H : ((impl_within.f (a0.size : Int) 1 8).bind fun t320 => (if t320 = true then (if 0 < (a0.size : Int) then (if (bt a0 0) < 97 then (impl_IsValidName.j0 k a0 true) else (impl_IsValidName.j0 k a0 (decide ((bt a0 0) > 122)))) else (none)) else (impl_IsValidName.j0 k a0 true))) = some r := h
 clear h
 have HC2 := Aside0.mk H
 clear H
 go_enter Tryd.func39, Tryd.ntmps39
 go_upto_region 1 with (fail)
 go_cut [18] (fun v18 wc => ∃ (kq : Nat) (x18_1 : Bool), v18 = .bool x18_1 ∧ Aside0 (impl_IsValidName.j0 kq a0 x18_1 = some r) ∧ Aside0 (kq ≤ k) ∧ Aside0 (Below w.heap.size w wc))
 case first =>
  have H := HC2.out
  clear HC2
  replace H := Own.bd H; obtain ⟨t320, A3, H⟩ := H
  replace H := Own.ift H; obtain ⟨rfl, H⟩ | ⟨rfl, H⟩ := H
  ·
   have H' := Aside0.mk H
   clear H
   go_wp2_with (first | ((with_reducible refine gate_callee (f := 25) rfl ?_); refine goesL_ (some 7) rfl rfl Tryd.func25 (by kernel_rfl) rfl #[.int .i64 (a0.size : Int), .int .i64 1, .int .i64 8] rfl Own.ha ?_; (with_reducible refine (impl_within.calls (a0.size : Int) 1 8 false _ A3.out).mono ?_); rintro e w' ⟨rfl, ⟨nd, rfl⟩⟩; refine ⟨_, rfl, ?_⟩))
   go_meet
   case rel => exact ⟨_, (true), Own.rs, H', ⟨by first | omega | exact Nat.le_refl _⟩, ⟨Own.bl⟩⟩
  replace H := Own.ifn H; obtain ⟨c5, H⟩ := H
  have c5b0 : decide (0 < (a0.size : Int)) = true := decide_eq_true c5
  have c5b1 : decide (0 < a0.size) = true := decide_eq_true (by omega)
  clear c5
  (first | rw [c5b0] | (simp only [i64_w, i32_w]; rw [c5b0]) | skip)
  by_cases c7 : (bt a0 0) < 97
  ·
   rw [if_pos c7] at H
   replace c7 := decide_eq_true c7
   have H' := Aside0.mk H
   clear H
   go_wp2_with (first | ((with_reducible refine gate_callee (f := 25) rfl ?_); refine goesL_ (some 7) rfl rfl Tryd.func25 (by kernel_rfl) rfl #[.int .i64 (a0.size : Int), .int .i64 1, .int .i64 8] rfl Own.ha ?_; (with_reducible refine (impl_within.calls (a0.size : Int) 1 8 true _ A3.out).mono ?_); rintro e w' ⟨rfl, ⟨nd, rfl⟩⟩; refine ⟨_, rfl, ?_⟩; have p6 : 0 ≤ (0 : Int) := (by omega); have q6 : 0 < a0.size := (by have : (0 : Int) < (a0.size : Int) := Own.dp; omega); have hx6 : ∀ h : 0 < a0.size, ((a0[0]'h).toNat : Int) = bt a0 0 := bt_at a0 0; clear p6; have qi6 : (0 < (a0.size : Int)) = True := eq_true (Own.dp); replace q6 := eq_true q6))
   go_meet
   case rel => exact ⟨_, (true), Own.rs, H', ⟨by first | omega | exact Nat.le_refl _⟩, ⟨Own.bl⟩⟩
  rw [if_neg c7] at H
  replace c7 := decide_eq_false c7
  have H' := Aside0.mk H
  clear H
  go_wp2_with (first | ((with_reducible refine gate_callee (f := 25) rfl ?_); refine goesL_ (some 7) rfl rfl Tryd.func25 (by kernel_rfl) rfl #[.int .i64 (a0.size : Int), .int .i64 1, .int .i64 8] rfl Own.ha ?_; (with_reducible refine (impl_within.calls (a0.size : Int) 1 8 true _ A3.out).mono ?_); rintro e w' ⟨rfl, ⟨nd, rfl⟩⟩; refine ⟨_, rfl, ?_⟩; have p6 : 0 ≤ (0 : Int) := (by omega); have q6 : 0 < a0.size := (by have : (0 : Int) < (a0.size : Int) := Own.dp; omega); have hx6 : ∀ h : 0 < a0.size, ((a0[0]'h).toNat : Int) = bt a0 0 := bt_at a0 0; clear p6; have qi6 : (0 < (a0.size : Int)) = True := eq_true (Own.dp); replace q6 := eq_true q6; have p8 : 0 ≤ (0 : Int) := (by omega); have q8 : 0 < a0.size := (by have : (0 : Int) < (a0.size : Int) := Own.dp; omega); have hx8 : ∀ h : 0 < a0.size, ((a0[0]'h).toNat : Int) = bt a0 0 := bt_at a0 0; clear p8; have qi8 : (0 < (a0.size : Int)) = True := eq_true (Own.dp); replace q8 := eq_true q8))
  go_meet
  case rel => exact ⟨_, (decide ((bt a0 0) > 122)), Own.rs, H', ⟨by first | omega | exact Nat.le_refl _⟩, ⟨Own.bl⟩⟩
 case rest =>
  clear HC2
  try clear c2; try clear p2; try clear c3; try clear c4; try clear c5; try clear c5b0; try clear c5b1; try clear p6; try clear q6; try clear hx6; try clear qi6; try clear c7; try clear p8; try clear q8; try clear hx8; try clear qi8; try clear p6; try clear p8; try clear q6; try clear q8
  obtain ⟨kq, x18_1, rfl, HA, HJ1, HB⟩ := hcut
  cases kq with
  | zero => exact absurd HA.out (by simp [impl_IsValidName.j0])
  | succ kj1 =>
   have H := HA.out
   clear HA
   simp only [impl_IsValidName.j0] at H
   replace H := Own.ifu H; obtain ⟨rfl, H⟩ | ⟨rfl, H⟩ := H
   ·
    obtain rfl := Option.some.inj H
    go_wp2
    go_ret
    exact ⟨Own.rr, Own.bl⟩
   have H' := Aside0.mk H
   clear H
   go_wp2
   go_loopg [21] kj1 (fun kq v21 w' => ∃ (x21_2 : Int), v21 = .int .i64 x21_2 ∧ Aside0 (impl_IsValidName.l0 kq a0 (a0.size : Int) x21_2 = some r) ∧ Aside0 (kq ≤ kj1) ∧ Aside0 (Below w.heap.size w w'))
   case atStart => exact ⟨(0), Own.rs, H', ⟨Nat.le_refl _⟩, ⟨Own.bl⟩⟩
   case round =>
    clear H'
    try clear c2; try clear p2; try clear c3; try clear c4; try clear c5; try clear c5b0; try clear c5b1; try clear p6; try clear q6; try clear hx6; try clear qi6; try clear c7; try clear p8; try clear q8; try clear hx8; try clear qi8; try clear c9; try clear p2; try clear p6; try clear p8; try clear q6; try clear q8
    obtain ⟨x21_2, rfl, HA, HK2, HB⟩ := hrel
    cases gk with
    | zero => exact absurd HA.out (by simp [impl_IsValidName.l0])
    | succ k2 =>
     have H := HA.out
     clear HA
     simp only [impl_IsValidName.l0] at H
     by_cases c10 : x21_2 < (a0.size : Int)
     rotate_left
     ·
      rw [if_neg c10] at H
      replace c10 := decide_eq_false c10
      replace H := Own.bd H; obtain ⟨t321, A20, H⟩ := H
      replace H := Own.bd H; obtain ⟨t324, A21, H⟩ := H
      obtain rfl := Option.some.inj H
      go_wp2_with (first | ((with_reducible refine gate_callee (f := 55) rfl ?_); refine goesL_ (some 42) rfl rfl Tryd.func55 (by kernel_rfl) rfl #[.string (⟨#[116, 114, 117, 101, 32, 102, 114, 111, 109, 32, 110, 111, 116, 32, 97, 110, 100, 32, 111, 114, 32, 98, 111, 116, 104, 32, 101, 105, 116, 104, 101, 114, 32, 105, 116, 32, 105, 110]⟩ : ByteArray), .string (⟨#[32]⟩ : ByteArray)] rfl Own.ha ?_; (with_reducible refine (strings_Split.calls (⟨#[116, 114, 117, 101, 32, 102, 114, 111, 109, 32, 110, 111, 116, 32, 97, 110, 100, 32, 111, 114, 32, 98, 111, 116, 104, 32, 101, 105, 116, 104, 101, 114, 32, 105, 116, 32, 105, 110]⟩ : ByteArray) (⟨#[32]⟩ : ByteArray) t321 _ ?side1 A20.out).mono ?_); (case side1 => exact Own.gl HG.out); rintro e w22 ⟨v322, rfl, ho0, hb⟩; refine ⟨_, rfl, ?_⟩; have HO323 := Aside0.mk (Kd.R_lower ho0 (below_size Own.bl)); replace HB := Own.bs hb; (try clear hb); (try clear ho0); obtain ⟨Ao23, co23, eo23⟩ := Kd.R_slice HO323.out; subst eo23) | ((with_reducible refine gate_callee (f := 40) rfl ?_); refine goesL_ (some 44) rfl rfl Tryd.func40 (by kernel_rfl) rfl #[.slice Ao23 t321.length co23, .string a0] rfl Own.ha ?_; (with_reducible refine (slices_Contains_string_string.calls k2 _ _ t321 a0 t324 _ ?side1 ?side2 A21.out).mono ?_); (case side1 => repeat (first | exact (Kd.R_reads' HO323.out).2.2 | (with_reducible refine Kd.C_alloc ?_ _) | (with_reducible refine Kd.C_drewN ?_ _) | (with_reducible refine Kd.C_drew ?_))); (case side2 => exact (Kd.R_reads' HO323.out).2.1); rintro e w' ⟨rfl, ⟨nd, rfl⟩⟩; refine ⟨_, rfl, ?_⟩))
      go_ret
      exact ⟨Own.rr, Own.bl⟩
     rw [if_pos c10] at H
     replace c10 := decide_eq_true c10
     replace H := Own.ifd H; obtain ⟨c11, H⟩ := H
     replace H := Own.ifd H; obtain ⟨c12, H⟩ := H
     by_cases c14 : (bt a0 x21_2) < 97
     ·
      rw [if_pos c14] at H
      replace c14 := decide_eq_true c14
      by_cases c15 : (bt a0 x21_2) < 48
      ·
       rw [if_pos c15] at H
       replace c15 := decide_eq_true c15
       obtain rfl := Option.some.inj H
       have p13 : 0 ≤ (x21_2 : Int) := Own.dp
       have q13 : x21_2 < (a0.size : Int) := Own.dp
       have hx13 := bt_at a0 x21_2
       replace p13 := eq_true p13
       replace q13 := eq_true q13
       go_wp2
       go_ret
       exact ⟨Own.rr, Own.bl⟩
      rw [if_neg c15] at H
      replace c15 := decide_eq_false c15
      by_cases c16 : (bt a0 x21_2) > 57
      ·
       rw [if_pos c16] at H
       have c16b0 : decide (57 < (bt a0 x21_2)) = true := decide_eq_true c16
       clear c16
       obtain rfl := Option.some.inj H
       have p13 : 0 ≤ (x21_2 : Int) := Own.dp
       have q13 : x21_2 < (a0.size : Int) := Own.dp
       have hx13 := bt_at a0 x21_2
       replace p13 := eq_true p13
       replace q13 := eq_true q13
       go_wp2
       go_ret
       exact ⟨Own.rr, Own.bl⟩
      rw [if_neg c16] at H
      have c16b0 : decide (57 < (bt a0 x21_2)) = false := decide_eq_false c16
      clear c16
      have H' := Aside0.mk H
      clear H
      have p13 : 0 ≤ (x21_2 : Int) := Own.dp
      have q13 : x21_2 < (a0.size : Int) := Own.dp
      have hx13 := bt_at a0 x21_2
      replace p13 := eq_true p13
      replace q13 := eq_true q13
      go_wp2
      go_roundg k2
      case measure => have := HJ1.out; have := HK2.out; omega
      case rel => exact ⟨(wrap64 (x21_2 + 1)), Own.rs, H', ⟨by have := HJ1.out; have := HK2.out; omega⟩, ⟨Own.bl⟩⟩
     rw [if_neg c14] at H
     replace c14 := decide_eq_false c14
     by_cases c17 : (bt a0 x21_2) > 122
     rotate_left
     ·
      rw [if_neg c17] at H
      have c17b0 : decide (122 < (bt a0 x21_2)) = false := decide_eq_false c17
      clear c17
      have H' := Aside0.mk H
      clear H
      have p13 : 0 ≤ (x21_2 : Int) := Own.dp
      have q13 : x21_2 < (a0.size : Int) := Own.dp
      have hx13 := bt_at a0 x21_2
      replace p13 := eq_true p13
      replace q13 := eq_true q13
      go_wp2
      go_roundg k2
      case measure => have := HJ1.out; have := HK2.out; omega
      case rel => exact ⟨(wrap64 (x21_2 + 1)), Own.rs, H', ⟨by have := HJ1.out; have := HK2.out; omega⟩, ⟨Own.bl⟩⟩
     rw [if_pos c17] at H
     have c17b0 : decide (122 < (bt a0 x21_2)) = true := decide_eq_true c17
     clear c17
     by_cases c18 : (bt a0 x21_2) < 48
     ·
      rw [if_pos c18] at H
      replace c18 := decide_eq_true c18
      obtain rfl := Option.some.inj H
      have p13 : 0 ≤ (x21_2 : Int) := Own.dp
      have q13 : x21_2 < (a0.size : Int) := Own.dp
      have hx13 := bt_at a0 x21_2
      replace p13 := eq_true p13
      replace q13 := eq_true q13
      go_wp2
      go_ret
      exact ⟨Own.rr, Own.bl⟩
     rw [if_neg c18] at H
     replace c18 := decide_eq_false c18
     by_cases c19 : (bt a0 x21_2) > 57
     ·
      rw [if_pos c19] at H
      have c19b0 : decide (57 < (bt a0 x21_2)) = true := decide_eq_true c19
      clear c19
      obtain rfl := Option.some.inj H
      have p13 : 0 ≤ (x21_2 : Int) := Own.dp
      have q13 : x21_2 < (a0.size : Int) := Own.dp
      have hx13 := bt_at a0 x21_2
      replace p13 := eq_true p13
      replace q13 := eq_true q13
      go_wp2
      go_ret
      exact ⟨Own.rr, Own.bl⟩
     rw [if_neg c19] at H
     have c19b0 : decide (57 < (bt a0 x21_2)) = false := decide_eq_false c19
     clear c19
     have H' := Aside0.mk H
     clear H
     have p13 : 0 ≤ (x21_2 : Int) := Own.dp
     have q13 : x21_2 < (a0.size : Int) := Own.dp
     have hx13 := bt_at a0 x21_2
     replace p13 := eq_true p13
     replace q13 := eq_true q13
     go_wp2
     go_roundg k2
     case measure => have := HJ1.out; have := HK2.out; omega
     case rel => exact ⟨(wrap64 (x21_2 + 1)), Own.rs, H', ⟨by have := HJ1.out; have := HK2.out; omega⟩, ⟨Own.bl⟩⟩

/-! ### impl_areParties: function 24 -/
def impl_areParties.l0 : Nat → List ByteArray → List ByteArray → Int → Int → Option (Bool)
 | 0, _, _, _, _ => none
 | k + 1, x0, x5, x6, x7 => if x7 < x6 then (if 0 ≤ x7 then (if x7 < (x5.length : Int) then ((impl_IsValidName.f k (rdOf ByteArray.empty x5 x7)).bind fun t327 => (if t327 = true then (if x7 ≤ (x0.length : Int) then ((slices_Contains_string_string.f k (x0.take (x7 : Int).toNat) (rdOf ByteArray.empty x5 x7)).bind fun t329 => (if t329 = true then (some false) else (impl_areParties.l0 k x0 x5 x6 (wrap64 (x7 + 1))))) else (none)) else (some false))) else (none)) else (none)) else ((impl_within.f (x0.length : Int) 2 4).bind fun t325 => (some t325))
def impl_areParties.f (k : Nat) (l0 : List ByteArray) : Option (Bool) := impl_areParties.l0 k l0 l0 (l0.length : Int) 0
theorem impl_areParties.mono_l : ∀ k, (∀ y0 y1 y2 y3, LeO (impl_areParties.l0 k y0 y1 y2 y3) (impl_areParties.l0 (k + 1) y0 y1 y2 y3))
 | 0 => fun _ _ _ _ r h => by simp [impl_areParties.l0] at h
 | k + 1 => by
  have ih0 := impl_areParties.mono_l k
  ·
   intro y0 y1 y2 y3
   unfold impl_areParties.l0
   repeat' first
   | (with_reducible first | exact ih0 _ _ _ _ | exact impl_IsValidName.mono _ _ | exact slices_Contains_string_string.mono _ _ _ | exact LeO.refl _ | exact LeO.none _ | refine LeO.ite ?_ ?_ | refine LeO.bind ?_ (fun _ => ?_))
theorem impl_areParties.mono : ∀ a0 k, LeO (impl_areParties.f k a0) (impl_areParties.f (k + 1) a0) := by
 intro a0 k
 have ih0 := impl_areParties.mono_l k
 unfold impl_areParties.f
 repeat' first
   | (with_reducible first | exact ih0 _ _ _ _ | exact impl_IsValidName.mono _ _ | exact slices_Contains_string_string.mono _ _ _ | exact LeO.refl _ | exact LeO.none _ | refine LeO.ite ?_ ?_ | refine LeO.bind ?_ (fun _ => ?_))
set_option maxHeartbeats 8000000 in
set_option maxRecDepth 100000 in
theorem impl_areParties.calls (k : Nat) (A0 : Option Addr) (c0 : Nat) (l0 : List ByteArray) (r : Bool) (w : World) (hr0 : Kd.C Kd.string w A0 l0.length l0) (hc0 : l0.length ≤ c0) (hG : Own.Glob w) (h : impl_areParties.f k l0 = some r) :
  Calls Tryd.prog 24 #[.slice A0 l0.length c0] w fun e w' => e = .returned (.bool r) ∧ Below w.heap.size w w' := by
 have HR0 := Aside0.mk hr0
 have HC0 := Aside0.mk hc0
 clear hr0 hc0
 have HB := Aside0.mk (Below.refl w.heap.size w)
 have HG := Aside0.mk hG
 clear hG
 have H : (impl_areParties.l0 k l0 l0 (l0.length : Int) 0) = some r := h
 clear h
 have H' := Aside0.mk H
 clear H
 go_enter Tryd.func24, Tryd.ntmps24
 go_wp2
 go_loopg [7] k (fun kq v7 w' => ∃ (x7_1 : Int), v7 = .int .i64 x7_1 ∧ Aside0 (impl_areParties.l0 kq l0 l0 (l0.length : Int) x7_1 = some r) ∧ Aside0 (kq ≤ k) ∧ Aside0 (Below w.heap.size w w'))
 case atStart => exact ⟨(0), Own.rs, H', ⟨Nat.le_refl _⟩, ⟨Own.bl⟩⟩
 case round =>
  clear H'
  obtain ⟨x7_1, rfl, HA, HK1, HB⟩ := hrel
  cases gk with
  | zero => exact absurd HA.out (by simp [impl_areParties.l0])
  | succ k1 =>
   have H := HA.out
   clear HA
   simp only [impl_areParties.l0] at H
   by_cases c2 : x7_1 < (l0.length : Int)
   rotate_left
   ·
    rw [if_neg c2] at H
    replace c2 := decide_eq_false c2
    replace H := Own.bd H; obtain ⟨t325, A16, H⟩ := H
    obtain rfl := Option.some.inj H
    go_wp2_with (first | ((with_reducible refine gate_callee (f := 25) rfl ?_); refine goesL_ (some 25) rfl rfl Tryd.func25 (by kernel_rfl) rfl #[.int .i64 (l0.length : Int), .int .i64 2, .int .i64 4] rfl Own.ha ?_; (with_reducible refine (impl_within.calls (l0.length : Int) 2 4 t325 _ A16.out).mono ?_); rintro e w' ⟨rfl, ⟨nd, rfl⟩⟩; refine ⟨_, rfl, ?_⟩))
    go_ret
    exact ⟨Own.rr, Own.bl⟩
   rw [if_pos c2] at H
   replace c2 := decide_eq_true c2
   replace H := Own.ifd H; obtain ⟨c3, H⟩ := H
   replace H := Own.ifd H; obtain ⟨c4, H⟩ := H
   replace H := Own.bd H; obtain ⟨t327, A5, H⟩ := H
   replace H := Own.ift H; obtain ⟨rfl, H⟩ | ⟨rfl, H⟩ := H
   ·
    obtain rfl := Option.some.inj H
    have p326 : 0 ≤ (x7_1 : Int) := Own.dp
    have q326 : x7_1 < (l0.length : Int) := Own.dp
    obtain ⟨ad326, e326, hx326_0⟩ := Kd.at_string HR0.out x7_1 p326 q326
    cases e326
    replace hx326_0 := Own.up HB.out hx326_0
    replace p326 := eq_true p326
    replace q326 := eq_true q326
    go_wp2_with (first | ((with_reducible refine gate_callee (f := 39) rfl ?_); refine goesL_ (some 13) rfl rfl Tryd.func39 (by kernel_rfl) rfl #[.string (rdOf ByteArray.empty l0 x7_1)] rfl Own.ha ?_; (with_reducible refine (impl_IsValidName.calls k1 (rdOf ByteArray.empty l0 x7_1) false _ ?side1 A5.out).mono ?_); (case side1 => exact Own.gl HG.out); rintro e w15 ⟨rfl, hb⟩; refine ⟨_, rfl, ?_⟩; replace HB := Own.bs hb; (try clear hb)))
    go_ret
    exact ⟨Own.rr, Own.bl⟩
   have c7b0 := eq_true (Own.dp : 0 ≤ x7_1)
   replace H := Own.ifn H; obtain ⟨c8, H⟩ := H
   have c8b0 := eq_true c8
   have c8b1 : decide (x7_1 ≤ (l0.length : Int)) = true := decide_eq_true c8
   clear c8
   replace H := Own.bd H; obtain ⟨t329, A9, H⟩ := H
   replace H := Own.ifu H; obtain ⟨rfl, H⟩ | ⟨rfl, H⟩ := H
   ·
    obtain rfl := Option.some.inj H
    have p326 : 0 ≤ (x7_1 : Int) := Own.dp
    have q326 : x7_1 < (l0.length : Int) := Own.dp
    obtain ⟨ad326, e326, hx326_0⟩ := Kd.at_string HR0.out x7_1 p326 q326
    cases e326
    replace hx326_0 := Own.up HB.out hx326_0
    replace p326 := eq_true p326
    replace q326 := eq_true q326
    go_wp2_with (first | ((with_reducible refine gate_callee (f := 39) rfl ?_); refine goesL_ (some 13) rfl rfl Tryd.func39 (by kernel_rfl) rfl #[.string (rdOf ByteArray.empty l0 x7_1)] rfl Own.ha ?_; (with_reducible refine (impl_IsValidName.calls k1 (rdOf ByteArray.empty l0 x7_1) true _ ?side1 A5.out).mono ?_); (case side1 => exact Own.gl HG.out); rintro e w11 ⟨rfl, hb⟩; refine ⟨_, rfl, ?_⟩; replace HB := Own.bs hb; (try clear hb); obtain ⟨i012, hi012, _, hsz12, _⟩ := info_parts info9; obtain ⟨hcut12, hA12, hC12⟩ := print_take_of (P := Tryd.prog) Value.string (⟨#[]⟩ : ByteArray) 22 9 .i64 Tryd.underlying22 hi012 hsz12 (some ad326) c0 l0 x7_1 (Own.dp) (Own.dp) HC0.out; have HR328 := Aside0.mk (Kd.C_of_reads (h1 := fun _ => rfl) (hA12 _ (Kd.reads_of_C HR0.out))); have HC328 := Aside0.mk hC12; clear hA12 hC12 hi012 hsz12) | (go_at_call 40; (first | ((with_reducible refine (slices_Contains_string_string.calls k1 _ _ (l0.take (x7_1 : Int).toNat) (rdOf ByteArray.empty l0 x7_1) true _ ?side1 ?side2 A9.out).mono ?_); (case side1 => exact Kd.C_below HR328.out Own.bl); (case side2 => exact HC328.out)) | (refine (Own.at_args ?argE (slices_Contains_string_string.calls k1 _ _ (l0.take (x7_1 : Int).toNat) (rdOf ByteArray.empty l0 x7_1) true _ (Kd.C_below HR328.out Own.bl) HC328.out A9.out)).mono ?_; (case argE => rw [show (l0.take (x7_1 : Int).toNat).length = (x7_1 : Int).toNat from by have a_ : 0 ≤ (x7_1 : Int) := of_decide_eq_true (by assumption); have b_ : x7_1 ≤ (l0.length : Int) := of_decide_eq_true (by assumption); rw [List.length_take]; omega]))); rintro e w' ⟨rfl, ⟨nd, rfl⟩⟩))
    go_ret
    exact ⟨Own.rr, Own.bl⟩
   have H' := Aside0.mk H
   clear H
   have p326 : 0 ≤ (x7_1 : Int) := Own.dp
   have q326 : x7_1 < (l0.length : Int) := Own.dp
   obtain ⟨ad326, e326, hx326_0⟩ := Kd.at_string HR0.out x7_1 p326 q326
   cases e326
   replace hx326_0 := Own.up HB.out hx326_0
   replace p326 := eq_true p326
   replace q326 := eq_true q326
   go_wp2_with (first | ((with_reducible refine gate_callee (f := 39) rfl ?_); refine goesL_ (some 13) rfl rfl Tryd.func39 (by kernel_rfl) rfl #[.string (rdOf ByteArray.empty l0 x7_1)] rfl Own.ha ?_; (with_reducible refine (impl_IsValidName.calls k1 (rdOf ByteArray.empty l0 x7_1) true _ ?side1 A5.out).mono ?_); (case side1 => exact Own.gl HG.out); rintro e w13 ⟨rfl, hb⟩; refine ⟨_, rfl, ?_⟩; replace HB := Own.bs hb; (try clear hb); obtain ⟨i014, hi014, _, hsz14, _⟩ := info_parts info9; obtain ⟨hcut14, hA14, hC14⟩ := print_take_of (P := Tryd.prog) Value.string (⟨#[]⟩ : ByteArray) 22 9 .i64 Tryd.underlying22 hi014 hsz14 (some ad326) c0 l0 x7_1 (Own.dp) (Own.dp) HC0.out; have HR328 := Aside0.mk (Kd.C_of_reads (h1 := fun _ => rfl) (hA14 _ (Kd.reads_of_C HR0.out))); have HC328 := Aside0.mk hC14; clear hA14 hC14 hi014 hsz14) | (go_at_call 40; (first | ((with_reducible refine (slices_Contains_string_string.calls k1 _ _ (l0.take (x7_1 : Int).toNat) (rdOf ByteArray.empty l0 x7_1) false _ ?side1 ?side2 A9.out).mono ?_); (case side1 => exact Kd.C_below HR328.out Own.bl); (case side2 => exact HC328.out)) | (refine (Own.at_args ?argE (slices_Contains_string_string.calls k1 _ _ (l0.take (x7_1 : Int).toNat) (rdOf ByteArray.empty l0 x7_1) false _ (Kd.C_below HR328.out Own.bl) HC328.out A9.out)).mono ?_; (case argE => rw [show (l0.take (x7_1 : Int).toNat).length = (x7_1 : Int).toNat from by have a_ : 0 ≤ (x7_1 : Int) := of_decide_eq_true (by assumption); have b_ : x7_1 ≤ (l0.length : Int) := of_decide_eq_true (by assumption); rw [List.length_take]; omega]))); rintro e w' ⟨rfl, ⟨nd, rfl⟩⟩))
   go_roundg k1
   case measure => have := HK1.out; omega
   case rel => exact ⟨(wrap64 (x7_1 + 1)), Own.rs, H', ⟨by have := HK1.out; omega⟩, ⟨Own.bl⟩⟩

end Go.Proofs.YtdfbfcgjcfbmpaaDoor.QFnExactFactNames
