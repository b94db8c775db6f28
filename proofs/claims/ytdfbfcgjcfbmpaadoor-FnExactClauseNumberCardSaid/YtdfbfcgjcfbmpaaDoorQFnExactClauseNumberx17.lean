-- Written by a program of this session out of the translation; Lean checks it.
import Derived.Test.YtdfbfcgjcfbmpaaDoorQFnExactClauseNumberx0
import Derived.Test.YtdfbfcgjcfbmpaaDoorQFnExactClauseNumberx1
import Derived.Test.YtdfbfcgjcfbmpaaDoorQFnExactClauseNumberx2
import Derived.Test.YtdfbfcgjcfbmpaaDoorQFnExactClauseNumberx4
import Derived.Test.YtdfbfcgjcfbmpaaDoorQFnExactClauseNumberx11
import Derived.Test.YtdfbfcgjcfbmpaaDoorQFnExactClauseNumberx12
import Derived.Test.YtdfbfcgjcfbmpaaDoorQFnExactClauseNumberx16
namespace Go.Proofs.YtdfbfcgjcfbmpaaDoor.QFnExactClauseNumber
open Go.RowKit Go.Proofs.YtdfbfcgjcfbmpaaDoorW.PrintWords Go.Proofs.YtdfbfcgjcfbmpaaDoorW.PrintLast Go.Proofs.YtdfbfcgjcfbmpaaDoorW.PrintMore
attribute [local go_sem] Instr.field asAgg Own.str_leq Own.str_gtr Own.str_geq
attribute [local go_sem] max2_int min2_int max_two min_two max_three min_three max_four min_four   -- for this text's walks alone
set_option linter.unusedVariables false
set_option linter.unusedSimpArgs false

/-! ### impl_ClauseNumber: function 12 -/
def impl_ClauseNumber.f (k : Nat) (l0_0 : List ByteArray) (l0_1 : List (S63)) (a1 : ByteArray) : Option (Int × Bool) := (impl_clauseIndex.f k l0_0 l0_1 a1).bind fun t389 => ((impl_IsValidContract.f k l0_0 l0_1).bind fun t390 => (if t390 = true then (if t389 < 0 then (some (0, false)) else (some (t389, true))) else (some (0, false))))
theorem impl_ClauseNumber.mono : ∀ a0 a1 a2 k, LeO (impl_ClauseNumber.f k a0 a1 a2) (impl_ClauseNumber.f (k + 1) a0 a1 a2) := by
 intro a0 a1 a2 k
 unfold impl_ClauseNumber.f
 repeat' first
   | (with_reducible first | exact impl_IsValidContract.mono _ _ _ | exact impl_clauseIndex.mono _ _ _ _ | exact LeO.refl _ | exact LeO.none _ | refine LeO.ite ?_ ?_ | refine LeO.bind ?_ (fun _ => ?_))
set_option maxHeartbeats 8000000 in
set_option maxRecDepth 100000 in
theorem impl_ClauseNumber.calls (k : Nat) (A0_0 : Option Addr) (c0_0 : Nat) (l0_0 : List ByteArray) (A0_1 : Option Addr) (c0_1 : Nat) (l0_1 : List (S63)) (a1 : ByteArray) (r1 : Int) (r2 : Bool) (w : World) (hr0_0 : Kd.C Kd.string w A0_0 l0_0.length l0_0) (hc0_0 : l0_0.length ≤ c0_0) (hr0_1 : Kd.C k63 w A0_1 l0_1.length l0_1) (hc0_1 : l0_1.length ≤ c0_1) (hG : Own.Glob w) (h : impl_ClauseNumber.f k l0_0 l0_1 a1 = some (r1, r2)) :
  Calls Tryd.prog 12 #[.agg #[.slice A0_0 l0_0.length c0_0, .slice A0_1 l0_1.length c0_1], .string a1] w fun e w' => e = .returned (.tuple #[.int .i64 r1, .bool r2]) ∧ Below w.heap.size w w' := by
 have hu30 := Tryd.underlying30
 have HR0_0 := Aside0.mk hr0_0
 have HC0_0 := Aside0.mk hc0_0
 clear hr0_0 hc0_0
 have HR0_1 := Aside0.mk hr0_1
 have HC0_1 := Aside0.mk hc0_1
 clear hr0_1 hc0_1
 have HB := Aside0.mk (Below.refl w.heap.size w)
 have HG := Aside0.mk hG
 clear hG
 have H : ((impl_clauseIndex.f k l0_0 l0_1 a1).bind fun t389 => ((impl_IsValidContract.f k l0_0 l0_1).bind fun t390 => (if t390 = true then (if t389 < 0 then (some (0, false)) else (some (t389, true))) else (some (0, false))))) = some (r1, r2) := h
 clear h
 replace H := Own.bd H; obtain ⟨t389, A3, H⟩ := H
 replace H := Own.bd H; obtain ⟨t390, A4, H⟩ := H
 replace H := Own.ift H; obtain ⟨rfl, H⟩ | ⟨rfl, H⟩ := H
 ·
  simp only [Option.some.injEq, Prod.mk.injEq] at H
  obtain ⟨rfl, rfl⟩ := H
  go_enter Tryd.func12, Tryd.ntmps12
  go_wp2_with (first | ((with_reducible refine gate_dst (N := 2) rfl ?_); refine Own.be (N := 2) (cs := #[.slice A0_0 l0_0.length c0_0, .slice A0_1 l0_1.length c0_1]) (t := 30) ?_; intro gb388 hg w17 hbox hb; have BK388 := Aside0.mk hbox; have GW388 := (Own.gs hg : Aside0 (w.heap.size ≤ gb388)); have GE388 := GW388; replace HB := Own.bs hb; clear hb hbox hg; obtain ⟨z18_0, z18_1, y18_0, y18_1⟩ := Own.box2 BK388.out) | ((with_reducible refine gate_callee (f := 30) rfl ?_); refine goesL_ (some 9) rfl rfl Tryd.func30 (by kernel_rfl) rfl #[.agg #[.slice A0_0 l0_0.length c0_0, .slice A0_1 l0_1.length c0_1], .string a1] rfl Own.ha ?_; (with_reducible refine (impl_clauseIndex.calls k _ _ l0_0 _ _ l0_1 a1 t389 _ ?side1 ?side2 ?side3 ?side4 A3.out).mono ?_); (case side1 => exact Kd.C_below HR0_0.out Own.bl); (case side2 => exact HC0_0.out); (case side3 => exact Kd.C_below HR0_1.out Own.bl); (case side4 => exact HC0_1.out); rintro e w19 ⟨rfl, hb⟩; refine ⟨_, rfl, ?_⟩; replace BK388 := Own.bb BK388.out hb; replace HB := Own.bs hb; (try clear hb); obtain ⟨z20_0, z20_1, y20_0, y20_1⟩ := Own.box2 BK388.out) | ((with_reducible refine gate_callee (f := 9) rfl ?_); refine goesL_ (some 11) rfl rfl Tryd.func9 (by kernel_rfl) rfl #[.agg #[.slice A0_0 l0_0.length c0_0, .slice A0_1 l0_1.length c0_1]] rfl Own.ha ?_; (with_reducible refine (impl_IsValidContract.calls k _ _ l0_0 _ _ l0_1 false _ ?side1 ?side2 ?side3 ?side4 ?side5 A4.out).mono ?_); (case side1 => exact Kd.C_below HR0_0.out Own.bl); (case side2 => exact HC0_0.out); (case side3 => exact Kd.C_below HR0_1.out Own.bl); (case side4 => exact HC0_1.out); (case side5 => exact Own.gl HG.out); rintro e w21 ⟨rfl, hb⟩; refine ⟨_, rfl, ?_⟩; replace BK388 := Own.bb BK388.out hb; replace HB := Own.bs hb; (try clear hb)))
  go_ret2
  exact ⟨Own.rr, Own.bl⟩
 by_cases c6 : t389 < 0
 ·
  rw [if_pos c6] at H
  replace c6 := decide_eq_true c6
  simp only [Option.some.injEq, Prod.mk.injEq] at H
  obtain ⟨rfl, rfl⟩ := H
  go_enter Tryd.func12, Tryd.ntmps12
  go_wp2_with (first | ((with_reducible refine gate_dst (N := 2) rfl ?_); refine Own.be (N := 2) (cs := #[.slice A0_0 l0_0.length c0_0, .slice A0_1 l0_1.length c0_1]) (t := 30) ?_; intro gb388 hg w7 hbox hb; have BK388 := Aside0.mk hbox; have GW388 := (Own.gs hg : Aside0 (w.heap.size ≤ gb388)); have GE388 := GW388; replace HB := Own.bs hb; clear hb hbox hg; obtain ⟨z8_0, z8_1, y8_0, y8_1⟩ := Own.box2 BK388.out) | ((with_reducible refine gate_callee (f := 30) rfl ?_); refine goesL_ (some 9) rfl rfl Tryd.func30 (by kernel_rfl) rfl #[.agg #[.slice A0_0 l0_0.length c0_0, .slice A0_1 l0_1.length c0_1], .string a1] rfl Own.ha ?_; (with_reducible refine (impl_clauseIndex.calls k _ _ l0_0 _ _ l0_1 a1 t389 _ ?side1 ?side2 ?side3 ?side4 A3.out).mono ?_); (case side1 => exact Kd.C_below HR0_0.out Own.bl); (case side2 => exact HC0_0.out); (case side3 => exact Kd.C_below HR0_1.out Own.bl); (case side4 => exact HC0_1.out); rintro e w9 ⟨rfl, hb⟩; refine ⟨_, rfl, ?_⟩; replace BK388 := Own.bb BK388.out hb; replace HB := Own.bs hb; (try clear hb); obtain ⟨z10_0, z10_1, y10_0, y10_1⟩ := Own.box2 BK388.out) | ((with_reducible refine gate_callee (f := 9) rfl ?_); refine goesL_ (some 11) rfl rfl Tryd.func9 (by kernel_rfl) rfl #[.agg #[.slice A0_0 l0_0.length c0_0, .slice A0_1 l0_1.length c0_1]] rfl Own.ha ?_; (with_reducible refine (impl_IsValidContract.calls k _ _ l0_0 _ _ l0_1 true _ ?side1 ?side2 ?side3 ?side4 ?side5 A4.out).mono ?_); (case side1 => exact Kd.C_below HR0_0.out Own.bl); (case side2 => exact HC0_0.out); (case side3 => exact Kd.C_below HR0_1.out Own.bl); (case side4 => exact HC0_1.out); (case side5 => exact Own.gl HG.out); rintro e w11 ⟨rfl, hb⟩; refine ⟨_, rfl, ?_⟩; replace BK388 := Own.bb BK388.out hb; replace HB := Own.bs hb; (try clear hb)))
  go_ret2
  exact ⟨Own.rr, Own.bl⟩
 rw [if_neg c6] at H
 replace c6 := decide_eq_false c6
 simp only [Option.some.injEq, Prod.mk.injEq] at H
 obtain ⟨rfl, rfl⟩ := H
 go_enter Tryd.func12, Tryd.ntmps12
 go_wp2_with (first | ((with_reducible refine gate_dst (N := 2) rfl ?_); refine Own.be (N := 2) (cs := #[.slice A0_0 l0_0.length c0_0, .slice A0_1 l0_1.length c0_1]) (t := 30) ?_; intro gb388 hg w12 hbox hb; have BK388 := Aside0.mk hbox; have GW388 := (Own.gs hg : Aside0 (w.heap.size ≤ gb388)); have GE388 := GW388; replace HB := Own.bs hb; clear hb hbox hg; obtain ⟨z13_0, z13_1, y13_0, y13_1⟩ := Own.box2 BK388.out) | ((with_reducible refine gate_callee (f := 30) rfl ?_); refine goesL_ (some 9) rfl rfl Tryd.func30 (by kernel_rfl) rfl #[.agg #[.slice A0_0 l0_0.length c0_0, .slice A0_1 l0_1.length c0_1], .string a1] rfl Own.ha ?_; (with_reducible refine (impl_clauseIndex.calls k _ _ l0_0 _ _ l0_1 a1 t389 _ ?side1 ?side2 ?side3 ?side4 A3.out).mono ?_); (case side1 => exact Kd.C_below HR0_0.out Own.bl); (case side2 => exact HC0_0.out); (case side3 => exact Kd.C_below HR0_1.out Own.bl); (case side4 => exact HC0_1.out); rintro e w14 ⟨rfl, hb⟩; refine ⟨_, rfl, ?_⟩; replace BK388 := Own.bb BK388.out hb; replace HB := Own.bs hb; (try clear hb); obtain ⟨z15_0, z15_1, y15_0, y15_1⟩ := Own.box2 BK388.out) | ((with_reducible refine gate_callee (f := 9) rfl ?_); refine goesL_ (some 11) rfl rfl Tryd.func9 (by kernel_rfl) rfl #[.agg #[.slice A0_0 l0_0.length c0_0, .slice A0_1 l0_1.length c0_1]] rfl Own.ha ?_; (with_reducible refine (impl_IsValidContract.calls k _ _ l0_0 _ _ l0_1 true _ ?side1 ?side2 ?side3 ?side4 ?side5 A4.out).mono ?_); (case side1 => exact Kd.C_below HR0_0.out Own.bl); (case side2 => exact HC0_0.out); (case side3 => exact Kd.C_below HR0_1.out Own.bl); (case side4 => exact HC0_1.out); (case side5 => exact Own.gl HG.out); rintro e w16 ⟨rfl, hb⟩; refine ⟨_, rfl, ?_⟩; replace BK388 := Own.bb BK388.out hb; replace HB := Own.bs hb; (try clear hb)))
 go_ret2
 exact ⟨Own.rr, Own.bl⟩

/-! ### laws_FnExactClauseNumber: function 4 -/
def laws_FnExactClauseNumber.j0 : Nat → Bool → List ByteArray → List (S58) → List ByteArray → List (S63) → Option (Bool)
 | 0, _, _, _, _, _ => none
 | k + 1, x41, x392000, x392001, x408000, x408001 => if x41 = true then (some false) else ((laws_toContract.f k x392000 x392001).bind fun bt410 => ((laws_eqContract.f k x408000 x408001 bt410.1 bt410.2).bind fun t416 => (if t416 = true then (some true) else (some false))))
def laws_FnExactClauseNumber.f (k : Nat) (l0_0 : List ByteArray) (l0_1 : List (S58)) (a1 : ByteArray) : Option (Bool) := if (a1.size : Int) > 1048576 then (some true) else ((laws_szContract.f k l0_0 l0_1 1048576).bind fun t392 => (if t392 < 0 then (some true) else ((laws_toContract.f k l0_0 l0_1).bind fun bt393 => ((spec_ClauseNumber.f k bt393.1 bt393.2 a1).bind fun bt399 => ((laws_toContract.f k l0_0 l0_1).bind fun bt401 => ((impl_ClauseNumber.f k bt401.1 bt401.2 a1).bind fun bt408 => (if bt408.1 = bt399.1 then (laws_FnExactClauseNumber.j0 k (bt408.2 != bt399.2) l0_0 l0_1 bt401.1 bt401.2) else (laws_FnExactClauseNumber.j0 k true l0_0 l0_1 bt401.1 bt401.2))))))))
theorem laws_FnExactClauseNumber.mono_l : ∀ k, (∀ y0 y1 y2 y3 y4, LeO (laws_FnExactClauseNumber.j0 k y0 y1 y2 y3 y4) (laws_FnExactClauseNumber.j0 (k + 1) y0 y1 y2 y3 y4))
 | 0 => fun _ _ _ _ _ r h => by simp [laws_FnExactClauseNumber.j0] at h
 | k + 1 => by
  have ih0 := laws_FnExactClauseNumber.mono_l k
  ·
   intro y0 y1 y2 y3 y4
   unfold laws_FnExactClauseNumber.j0
   repeat' first
   | (with_reducible first | exact ih0 _ _ _ _ _ | exact impl_ClauseNumber.mono _ _ _ _ | exact laws_eqContract.mono _ _ _ _ _ | exact laws_szContract.mono _ _ _ _ | exact laws_toContract.mono _ _ _ | exact spec_ClauseNumber.mono _ _ _ _ | exact LeO.refl _ | exact LeO.none _ | refine LeO.ite ?_ ?_ | refine LeO.bind ?_ (fun _ => ?_))
theorem laws_FnExactClauseNumber.mono : ∀ a0 a1 a2 k, LeO (laws_FnExactClauseNumber.f k a0 a1 a2) (laws_FnExactClauseNumber.f (k + 1) a0 a1 a2) := by
 intro a0 a1 a2 k
 have ih0 := laws_FnExactClauseNumber.mono_l k
 unfold laws_FnExactClauseNumber.f
 repeat' first
   | (with_reducible first | exact ih0 _ _ _ _ _ | exact impl_ClauseNumber.mono _ _ _ _ | exact laws_eqContract.mono _ _ _ _ _ | exact laws_szContract.mono _ _ _ _ | exact laws_toContract.mono _ _ _ | exact spec_ClauseNumber.mono _ _ _ _ | exact LeO.refl _ | exact LeO.none _ | refine LeO.ite ?_ ?_ | refine LeO.bind ?_ (fun _ => ?_))
set_option maxHeartbeats 8000000 in
set_option maxRecDepth 100000 in
theorem laws_FnExactClauseNumber.calls (k : Nat) (A0_0 : Option Addr) (c0_0 : Nat) (l0_0 : List ByteArray) (A0_1 : Option Addr) (c0_1 : Nat) (l0_1 : List (S58)) (a1 : ByteArray) (r : Bool) (w : World) (hr0_0 : Kd.C Kd.string w A0_0 l0_0.length l0_0) (hc0_0 : l0_0.length ≤ c0_0) (hr0_1 : Kd.C k58 w A0_1 l0_1.length l0_1) (hc0_1 : l0_1.length ≤ c0_1) (hG : Own.Glob w) (h : laws_FnExactClauseNumber.f k l0_0 l0_1 a1 = some r) (hr_ : Aside0 (r = true)) :
  Calls Tryd.prog 4 #[.agg #[.slice A0_0 l0_0.length c0_0, .slice A0_1 l0_1.length c0_1], .string a1] w fun e w' => e = .returned (.bool r) ∧ Below w.heap.size w w' := by
 have hu25 := Tryd.underlying25
 have hu30 := Tryd.underlying30
 have HR0_0 := Aside0.mk hr0_0
 have HC0_0 := Aside0.mk hc0_0
 clear hr0_0 hc0_0
 have HR0_1 := Aside0.mk hr0_1
 have HC0_1 := Aside0.mk hc0_1
 clear hr0_1 hc0_1
 have HB := Aside0.mk (Below.refl w.heap.size w)
 have HG := Aside0.mk hG
 clear hG
 have H : (if (a1.size : Int) > 1048576 then (some true) else ((laws_szContract.f k l0_0 l0_1 1048576).bind fun t392 => (if t392 < 0 then (some true) else ((laws_toContract.f k l0_0 l0_1).bind fun bt393 => ((spec_ClauseNumber.f k bt393.1 bt393.2 a1).bind fun bt399 => ((laws_toContract.f k l0_0 l0_1).bind fun bt401 => ((impl_ClauseNumber.f k bt401.1 bt401.2 a1).bind fun bt408 => (if bt408.1 = bt399.1 then (laws_FnExactClauseNumber.j0 k (bt408.2 != bt399.2) l0_0 l0_1 bt401.1 bt401.2) else (laws_FnExactClauseNumber.j0 k true l0_0 l0_1 bt401.1 bt401.2))))))))) = some r := h
 clear h
 by_cases c3 : (a1.size : Int) > 1048576
 ·
  rw [if_pos c3] at H
  have c3b0 : decide (1048576 < (a1.size : Int)) = true := decide_eq_true c3
  have c3b1 : decide (1048576 < a1.size) = true := decide_eq_true (by omega)
  clear c3
  obtain rfl := Option.some.inj H
  go_enter Tryd.func4, Tryd.ntmps4
  go_wp2_with (first | ((with_reducible refine gate_dst (N := 2) rfl ?_); refine Own.be (N := 2) (cs := #[.slice A0_0 l0_0.length c0_0, .slice A0_1 l0_1.length c0_1]) (t := 25) ?_; intro gb391 hg w4 hbox hb; have BK391 := Aside0.mk hbox; have GW391 := (Own.gs hg : Aside0 (w.heap.size ≤ gb391)); have GE391 := GW391; replace HB := Own.bs hb; clear hb hbox hg))
  go_ret
  exact ⟨Own.rr, Own.bl⟩
 rw [if_neg c3] at H
 have c3b0 : decide (1048576 < (a1.size : Int)) = false := decide_eq_false c3
 have c3b1 : decide (1048576 < a1.size) = false := decide_eq_false (by omega)
 clear c3
 replace H := Own.bd H; obtain ⟨t392, A5, H⟩ := H
 by_cases c6 : t392 < 0
 ·
  rw [if_pos c6] at H
  replace c6 := decide_eq_true c6
  obtain rfl := Option.some.inj H
  go_enter Tryd.func4, Tryd.ntmps4
  go_wp2_with (first | ((with_reducible refine gate_dst (N := 2) rfl ?_); refine Own.be (N := 2) (cs := #[.slice A0_0 l0_0.length c0_0, .slice A0_1 l0_1.length c0_1]) (t := 25) ?_; intro gb391 hg w7 hbox hb; have BK391 := Aside0.mk hbox; have GW391 := (Own.gs hg : Aside0 (w.heap.size ≤ gb391)); have GE391 := GW391; replace HB := Own.bs hb; clear hb hbox hg; obtain ⟨z8_0, z8_1, y8_0, y8_1⟩ := Own.box2 BK391.out) | ((with_reducible refine gate_callee (f := 6) rfl ?_); refine goesL_ (some 16) rfl rfl Tryd.func6 (by kernel_rfl) rfl #[.agg #[.slice A0_0 l0_0.length c0_0, .slice A0_1 l0_1.length c0_1], .int .i64 1048576] rfl Own.ha ?_; (with_reducible refine (laws_szContract.calls k _ _ l0_0 _ _ l0_1 1048576 t392 _ ?side1 ?side2 ?side3 ?side4 A5.out).mono ?_); (case side1 => exact Kd.C_below HR0_0.out Own.bl); (case side2 => exact HC0_0.out); (case side3 => exact Kd.C_below HR0_1.out Own.bl); (case side4 => exact HC0_1.out); rintro e w9 ⟨rfl, hb⟩; refine ⟨_, rfl, ?_⟩; replace BK391 := Own.bb BK391.out hb; replace HB := Own.bs hb; (try clear hb)))
  go_ret
  exact ⟨Own.rr, Own.bl⟩
 rw [if_neg c6] at H
 replace c6 := decide_eq_false c6
 replace H := Option.bind_eq_some_iff.mp H
 obtain ⟨⟨t393, t396⟩, A100, H⟩ := H
 replace H : ((spec_ClauseNumber.f k t393 t396 a1).bind fun bt399 => ((laws_toContract.f k l0_0 l0_1).bind fun bt401 => ((impl_ClauseNumber.f k bt401.1 bt401.2 a1).bind fun bt408 => (if bt408.1 = bt399.1 then (laws_FnExactClauseNumber.j0 k (bt408.2 != bt399.2) l0_0 l0_1 bt401.1 bt401.2) else (laws_FnExactClauseNumber.j0 k true l0_0 l0_1 bt401.1 bt401.2))))) = some r := H
 have A10 := Aside0.mk A100
 clear A100
 replace H := Option.bind_eq_some_iff.mp H
 obtain ⟨⟨t399, t400⟩, A110, H⟩ := H
 replace H : ((laws_toContract.f k l0_0 l0_1).bind fun bt401 => ((impl_ClauseNumber.f k bt401.1 bt401.2 a1).bind fun bt408 => (if bt408.1 = t399 then (laws_FnExactClauseNumber.j0 k (bt408.2 != t400) l0_0 l0_1 bt401.1 bt401.2) else (laws_FnExactClauseNumber.j0 k true l0_0 l0_1 bt401.1 bt401.2)))) = some r := H
 have A11 := Aside0.mk A110
 clear A110
 replace H := Option.bind_eq_some_iff.mp H
 obtain ⟨⟨t401, t404⟩, A120, H⟩ := H
 replace H : ((impl_ClauseNumber.f k t401 t404 a1).bind fun bt408 => (if bt408.1 = t399 then (laws_FnExactClauseNumber.j0 k (bt408.2 != t400) l0_0 l0_1 t401 t404) else (laws_FnExactClauseNumber.j0 k true l0_0 l0_1 t401 t404))) = some r := H
 have A12 := Aside0.mk A120
 clear A120
 replace H := Option.bind_eq_some_iff.mp H
 obtain ⟨⟨t408, t409⟩, A130, H⟩ := H
 replace H : (if t408 = t399 then (laws_FnExactClauseNumber.j0 k (t409 != t400) l0_0 l0_1 t401 t404) else (laws_FnExactClauseNumber.j0 k true l0_0 l0_1 t401 t404)) = some r := H
 have A13 := Aside0.mk A130
 clear A130
 have HC14 := Aside0.mk H
 clear H
 go_enter Tryd.func4, Tryd.ntmps4
 go_upto_region 10 with (first | ((with_reducible refine gate_dst (N := 2) rfl ?_); refine Own.be (N := 2) (cs := #[.slice A0_0 l0_0.length c0_0, .slice A0_1 l0_1.length c0_1]) (t := 25) ?_; intro gb391 hg w15 hbox hb; have BK391 := Aside0.mk hbox; have GW391 := (Own.gs hg : Aside0 (w.heap.size ≤ gb391)); have GE391 := GW391; replace HB := Own.bs hb; clear hb hbox hg; obtain ⟨z16_0, z16_1, y16_0, y16_1⟩ := Own.box2 BK391.out) | ((with_reducible refine gate_callee (f := 6) rfl ?_); refine goesL_ (some 16) rfl rfl Tryd.func6 (by kernel_rfl) rfl #[.agg #[.slice A0_0 l0_0.length c0_0, .slice A0_1 l0_1.length c0_1], .int .i64 1048576] rfl Own.ha ?_; (with_reducible refine (laws_szContract.calls k _ _ l0_0 _ _ l0_1 1048576 t392 _ ?side1 ?side2 ?side3 ?side4 A5.out).mono ?_); (case side1 => exact Kd.C_below HR0_0.out Own.bl); (case side2 => exact HC0_0.out); (case side3 => exact Kd.C_below HR0_1.out Own.bl); (case side4 => exact HC0_1.out); rintro e w17 ⟨rfl, hb⟩; refine ⟨_, rfl, ?_⟩; replace BK391 := Own.bb BK391.out hb; replace HB := Own.bs hb; (try clear hb); (try clear hk); obtain ⟨z18_0, z18_1, y18_0, y18_1⟩ := Own.box2 BK391.out) | ((with_reducible refine gate_callee (f := 8) rfl ?_); refine goesL_ (some 21) rfl rfl Tryd.func8 (by kernel_rfl) rfl #[.agg #[.slice A0_0 l0_0.length c0_0, .slice A0_1 l0_1.length c0_1]] rfl Own.ha ?_; (with_reducible refine (laws_toContract.calls k _ _ l0_0 _ _ l0_1 t393 t396 _ ?side1 ?side2 ?side3 ?side4 A10.out).mono ?_); (case side1 => exact Kd.C_below HR0_0.out Own.bl); (case side2 => exact HC0_0.out); (case side3 => exact Kd.C_below HR0_1.out Own.bl); (case side4 => exact HC0_1.out); rintro e w19 ⟨v394, v397, rfl, ho0, ho1, hb⟩; refine ⟨_, rfl, ?_⟩; have HO395 := Aside0.mk (Kd.R_lower ho0 (below_size Own.bl)); have HO398 := Aside0.mk (Kd.R_lower ho1 (below_size Own.bl)); replace BK391 := Own.bb BK391.out hb; replace HB := Own.bs hb; (try clear hb); (try clear hk); (try clear ho0); (try clear ho1); obtain ⟨Ao20, co20, eo20⟩ := Kd.R_slice HO395.out; subst eo20; obtain ⟨Ao21, co21, eo21⟩ := Kd.R_slice HO398.out; subst eo21) | ((with_reducible refine gate_callee (f := 11) rfl ?_); refine goesL_ (some 23) rfl rfl Tryd.func11 (by kernel_rfl) rfl #[.agg #[.slice Ao20 t393.length co20, .slice Ao21 t396.length co21], .string a1] rfl Own.ha ?_; (with_reducible refine (spec_ClauseNumber.calls k _ _ t393 _ _ t396 a1 t399 t400 _ ?side1 ?side2 ?side3 ?side4 A11.out).mono ?_); (case side1 => repeat (first | exact (Kd.R_reads' HO395.out).2.2 | (with_reducible refine Kd.C_alloc ?_ _) | (with_reducible refine Kd.C_drewN ?_ _) | (with_reducible refine Kd.C_drew ?_))); (case side2 => exact (Kd.R_reads' HO395.out).2.1); (case side3 => repeat (first | exact (Kd.R_reads' HO398.out).2.2 | (with_reducible refine Kd.C_alloc ?_ _) | (with_reducible refine Kd.C_drewN ?_ _) | (with_reducible refine Kd.C_drew ?_))); (case side4 => exact (Kd.R_reads' HO398.out).2.1); rintro e w22 ⟨rfl, hb⟩; refine ⟨_, rfl, ?_⟩; replace HO395 := Aside0.mk (Kd.R_below (Own.rd HO395.out) hb); replace HO398 := Aside0.mk (Kd.R_below (Own.rd HO398.out) hb); replace BK391 := Own.bb BK391.out hb; replace HB := Own.bs hb; (try clear hb); (try clear hk); obtain ⟨z23_0, z23_1, y23_0, y23_1⟩ := Own.box2 BK391.out) | ((with_reducible refine gate_callee (f := 8) rfl ?_); refine goesL_ (some 27) rfl rfl Tryd.func8 (by kernel_rfl) rfl #[.agg #[.slice A0_0 l0_0.length c0_0, .slice A0_1 l0_1.length c0_1]] rfl Own.ha ?_; (with_reducible refine (laws_toContract.calls k _ _ l0_0 _ _ l0_1 t401 t404 _ ?side1 ?side2 ?side3 ?side4 A12.out).mono ?_); (case side1 => exact Kd.C_below HR0_0.out Own.bl); (case side2 => exact HC0_0.out); (case side3 => exact Kd.C_below HR0_1.out Own.bl); (case side4 => exact HC0_1.out); rintro e w24 ⟨v402, v405, rfl, ho0, ho1, hb⟩; refine ⟨_, rfl, ?_⟩; have HO403 := Aside0.mk (Kd.R_lower (Kd.R_new' ho0 (Kd.R_lt (Own.rd HO395.out))) (below_size Own.bl)); have HO406 := Aside0.mk (Kd.R_lower (Kd.R_new' ho1 (Kd.R_lt (Own.rd HO398.out))) (below_size Own.bl)); replace HO395 := Aside0.mk (Kd.R_elder' (Own.rd HO395.out) (Kd.R_base ho0) hb); replace HO398 := Aside0.mk (Kd.R_elder' (Own.rd HO398.out) (Kd.R_base ho1) hb); replace BK391 := Own.bb BK391.out hb; replace HB := Own.bs hb; (try clear hb); (try clear hk); (try clear ho0); (try clear ho1)) | ((with_reducible refine gate_dst (N := 8) rfl ?_); refine Own.be (N := 8) (cs := #[.slice none 0 0, .slice none 0 0]) (t := 30) ?_; intro gb407 hg w25 hbox hb; have BK407 := Aside0.mk hbox; have GW407 := (Own.gs hg : Aside0 (w.heap.size ≤ gb407)); have GE407 := GW407; have NB391_407 := Own.nl hg BK391.out; have NB407_391 := Aside0.mk NB391_407.out.symm; replace HO395 := Aside0.mk (Kd.R_below (Own.rd HO395.out) hb); replace HO398 := Aside0.mk (Kd.R_below (Own.rd HO398.out) hb); replace HO403 := Aside0.mk (Kd.R_below (Own.rd HO403.out) hb); replace HO406 := Aside0.mk (Kd.R_below (Own.rd HO406.out) hb); replace BK391 := Own.bb BK391.out hb; replace HB := Own.bs hb; clear hb hbox hg; obtain ⟨Ao26, co26, eo26⟩ := Kd.R_slice HO403.out; subst eo26; have hnb27 := NB407_391.out; have hnc27 := NB391_407.out; obtain ⟨z28_0, z28_1, y28_0, y28_1⟩ := Own.box2 BK407.out; obtain ⟨Ao29, co29, eo29⟩ := Kd.R_slice HO406.out; subst eo29) | ((with_reducible refine gate_callee (f := 12) rfl ?_); refine goesL_ (some 31) rfl rfl Tryd.func12 (by kernel_rfl) rfl #[.agg #[.slice Ao26 t401.length co26, .slice Ao29 t404.length co29], .string a1] rfl Own.ha ?_; (with_reducible refine (impl_ClauseNumber.calls k _ _ t401 _ _ t404 a1 t408 t409 _ ?side1 ?side2 ?side3 ?side4 ?side5 A13.out).mono ?_); (case side1 => refine (Kd.R_reads' (e := 9) (base := w.heap.size) (ok := fun k_ => (True ∧ some k_ ≠ (.slice Ao20 t393.length co20 : Value).ownBlock)) (n := t401.length) (c := co26) ?_).2.2; exact (by (with_reducible repeat (first | apply Kd.R_alloc | apply Kd.R_drewN | apply Kd.R_drew)); exact (Kd.R_mono (Kd.R_far (p := ⟨gb407, 1, none⟩) (Kd.R_far (p := ⟨gb407, 0, none⟩) (Kd.R_types HO403.out BK407.out (by decide)) (fun _ hk => hk.2) (.slice Ao26 t401.length co26)) (fun _ hk => hk.2) (.slice Ao29 t404.length co29)) (fun _ h_ => h_.1)))); (case side2 => exact (Kd.R_reads' HO403.out).2.1); (case side3 => refine (Kd.R_reads' (e := 63) (base := w.heap.size) (ok := fun k_ => (True ∧ some k_ ≠ (.slice Ao21 t396.length co21 : Value).ownBlock)) (n := t404.length) (c := co29) ?_).2.2; exact (by (with_reducible repeat (first | apply Kd.R_alloc | apply Kd.R_drewN | apply Kd.R_drew)); exact (Kd.R_mono (Kd.R_far (p := ⟨gb407, 1, none⟩) (Kd.R_far (p := ⟨gb407, 0, none⟩) (Kd.R_types HO406.out BK407.out (by decide)) (fun _ hk => hk.2) (.slice Ao26 t401.length co26)) (fun _ hk => hk.2) (.slice Ao29 t404.length co29)) (fun _ h_ => h_.1)))); (case side4 => exact (Kd.R_reads' HO406.out).2.1); (case side5 => exact Own.gl HG.out); rintro e w30 ⟨rfl, hb⟩; refine ⟨_, rfl, ?_⟩; replace HO395 := Aside0.mk (Kd.R_below (by (with_reducible repeat (first | apply Kd.R_alloc | apply Kd.R_drewN | apply Kd.R_drew)); exact (Kd.R_mono (Kd.R_far (p := ⟨gb407, 1, none⟩) (Kd.R_far (p := ⟨gb407, 0, none⟩) (Kd.R_types HO395.out BK407.out (by decide)) (fun _ hk => hk.2) (.slice Ao26 t401.length co26)) (fun _ hk => hk.2) (.slice Ao29 t404.length co29)) (fun _ h_ => h_.1))) hb); replace HO398 := Aside0.mk (Kd.R_below (by (with_reducible repeat (first | apply Kd.R_alloc | apply Kd.R_drewN | apply Kd.R_drew)); exact (Kd.R_mono (Kd.R_far (p := ⟨gb407, 1, none⟩) (Kd.R_far (p := ⟨gb407, 0, none⟩) (Kd.R_types HO398.out BK407.out (by decide)) (fun _ hk => hk.2) (.slice Ao26 t401.length co26)) (fun _ hk => hk.2) (.slice Ao29 t404.length co29)) (fun _ h_ => h_.1))) hb); replace HO403 := Aside0.mk (Kd.R_below (by (with_reducible repeat (first | apply Kd.R_alloc | apply Kd.R_drewN | apply Kd.R_drew)); exact (Kd.R_mono (Kd.R_far (p := ⟨gb407, 1, none⟩) (Kd.R_far (p := ⟨gb407, 0, none⟩) (Kd.R_types HO403.out BK407.out (by decide)) (fun _ hk => hk.2) (.slice Ao26 t401.length co26)) (fun _ hk => hk.2) (.slice Ao29 t404.length co29)) (fun _ h_ => h_.1))) hb); replace HO406 := Aside0.mk (Kd.R_below (by (with_reducible repeat (first | apply Kd.R_alloc | apply Kd.R_drewN | apply Kd.R_drew)); exact (Kd.R_mono (Kd.R_far (p := ⟨gb407, 1, none⟩) (Kd.R_far (p := ⟨gb407, 0, none⟩) (Kd.R_types HO406.out BK407.out (by decide)) (fun _ hk => hk.2) (.slice Ao26 t401.length co26)) (fun _ hk => hk.2) (.slice Ao29 t404.length co29)) (fun _ h_ => h_.1))) hb); replace BK391 := Own.bb BK391.out hb; replace BK407 := Aside0.mk (blk_below (g := gb407) (o := .cells #[.slice Ao26 t401.length co26, .slice Ao29 t404.length co29] 30 (0, 0)) (by (with_reducible repeat (first | refine blk_drewN ?_ _ | refine blk_drew ?_ | refine blk_alloc ?_ _)); with_reducible exact Own.put2 BK407.out) hb); replace HB := Own.bs hb; (try clear hb); (try clear hk)))
 (try simp only [Own.ps])
 go_cut [41] (fun v41 wc => ∃ (kq : Nat) (x41_13 : Bool), v41 = .bool x41_13 ∧ Aside0 (laws_FnExactClauseNumber.j0 kq x41_13 l0_0 l0_1 t401 t404 = some r) ∧ Aside0 (kq ≤ k) ∧ Aside0 (Kd.R Kd.string 9 wc w.heap.size (fun _ => True) (.slice Ao26 t401.length co26) t401) ∧ Aside0 (Kd.R k63 63 wc w.heap.size (fun _ => True) (.slice Ao29 t404.length co29) t404) ∧ Aside0 (wc.heap[gb391]? = some (.cells #[(.slice A0_0 l0_0.length c0_0), (.slice A0_1 l0_1.length c0_1)] 25 (0, 0))) ∧ Aside0 (wc.heap[gb407]? = some (.cells #[(.slice Ao26 t401.length co26), (.slice Ao29 t404.length co29)] 30 (0, 0))) ∧ Aside0 (Below w.heap.size w wc))
 case first =>
  have H := HC14.out
  clear HC14
  by_cases c31 : t408 = t399
  rotate_left
  ·
   rw [if_neg c31] at H
   have c31b0 : (t408 == t399) = false := beq_eq_false_iff_ne.mpr c31
   have c31b1 : (t408 != t399) = true := bne_iff_ne.mpr c31
   (first | rw [c31b0] | (simp only [i64_w, i32_w]; rw [c31b0]) | skip)
   have H' := Aside0.mk H
   clear H
   go_wp2
   go_meet
   case rel => exact ⟨_, (true), Own.rs, H', ⟨by first | omega | exact Nat.le_refl _⟩, ⟨by (with_reducible repeat (first | apply Kd.R_alloc | apply Kd.R_drewN | apply Kd.R_drew)); exact Kd.R_mono HO403.out (fun _ hk => trivial)⟩, ⟨by (with_reducible repeat (first | apply Kd.R_alloc | apply Kd.R_drewN | apply Kd.R_drew)); exact Kd.R_mono HO406.out (fun _ hk => trivial)⟩, ⟨Own.bk⟩, ⟨Own.bk⟩, ⟨Own.bl⟩⟩
  rw [if_pos c31] at H
  have c31b0 : (t408 == t399) = true := beq_iff_eq.mpr c31
  have c31b1 : (t408 != t399) = false := bne_eq_false_iff_eq.mpr c31
  clear c31
  (first | rw [c31b0] | (simp only [i64_w, i32_w]; rw [c31b0]) | skip)
  have H' := Aside0.mk H
  clear H
  go_wp2
  go_meet
  case rel => exact ⟨_, ((t409 != t400)), Own.rs, H', ⟨by first | omega | exact Nat.le_refl _⟩, ⟨by (with_reducible repeat (first | apply Kd.R_alloc | apply Kd.R_drewN | apply Kd.R_drew)); exact Kd.R_mono HO403.out (fun _ hk => trivial)⟩, ⟨by (with_reducible repeat (first | apply Kd.R_alloc | apply Kd.R_drewN | apply Kd.R_drew)); exact Kd.R_mono HO406.out (fun _ hk => trivial)⟩, ⟨Own.bk⟩, ⟨Own.bk⟩, ⟨Own.bl⟩⟩
 case rest =>
  clear HC14
  try clear c1; try clear c2; try clear p2; try clear c3; try clear c3b0; try clear c3b1; try clear c4; try clear c6; try clear c8; try clear c11; try clear c12; try clear c27; try clear c31; try clear c31b0; try clear c31b1; try clear z16_0 z16_1; try clear z18_0 z18_1; try clear z23_0 z23_1; try clear z28_0 z28_1; try clear z8_0 z8_1; try clear y16_0 y16_1; try clear y18_0 y18_1; try clear y23_0 y23_1; try clear y28_0 y28_1; try clear y8_0 y8_1
  obtain ⟨kq, x41_13, rfl, HA, HJ13, HO_408000, HO_408001, BK391, BK407, HB⟩ := hcut
  cases kq with
  | zero => exact absurd HA.out (by simp [laws_FnExactClauseNumber.j0])
  | succ kj13 =>
   have H := HA.out
   clear HA
   simp only [laws_FnExactClauseNumber.j0] at H
   replace H := Own.ifu H; obtain ⟨rfl, H⟩ | ⟨rfl, H⟩ := H
   ·
    exact absurd (Option.some.inj H) (by rw [hr_.out]; decide)
   replace H := Option.bind_eq_some_iff.mp H
   obtain ⟨⟨t410, t413⟩, A330, H⟩ := H
   replace H : ((laws_eqContract.f kj13 t401 t404 t410 t413).bind fun t416 => (if t416 = true then (some true) else (some false))) = some r := H
   have A33 := Aside0.mk A330
   clear A330
   replace H := Own.bd H; obtain ⟨t416, A34, H⟩ := H
   replace H := Own.ift H; obtain ⟨rfl, H⟩ | ⟨rfl, H⟩ := H
   ·
    exact absurd (Option.some.inj H) (by rw [hr_.out]; decide)
   obtain rfl := Option.some.inj H
   try go_wp2
   have n0_ := Aside0.mk (Kd.R_drew HO_408000.out)
   have n1_ := Aside0.mk (Kd.R_drew HO_408001.out)
   have n2_ := Aside0.mk (blk_drew BK391.out)
   have n3_ := Aside0.mk (blk_drew BK407.out)
   have n4_ := Aside0.mk (below_drew1 HB.out)
   clear HO_408000
   clear HO_408001
   clear BK391
   clear BK407
   clear HB
   have HO_408000 := n0_
   have HO_408001 := n1_
   have BK391 := n2_
   have BK407 := n3_
   have HB := n4_
   clear n0_ n1_ n2_ n3_ n4_
   refine start_ (n := 5) (S := fun w' => w'.cell? ⟨gb407, 0, none⟩ = some (.slice Ao26 t401.length co26) ∧ w'.cell? ⟨gb407, 1, none⟩ = some (.slice Ao29 t404.length co29) ∧ w'.cell? ⟨gb391, 0, none⟩ = some (.slice A0_0 l0_0.length c0_0) ∧ w'.cell? ⟨gb391, 1, none⟩ = some (.slice A0_1 l0_1.length c0_1)) (ds := []) #[false, false, false, false, false] (by kernel_rfl) rfl rfl ⟨(blk_cell BK407.out 0).trans rfl, (blk_cell BK407.out 1).trans rfl, (blk_cell BK391.out 0).trans rfl, (blk_cell BK391.out 1).trans rfl⟩ (fun hHeld => ?_)
   generalize wc.drew = w36 at HO_408000 HO_408001 BK391 BK407 HB hHeld ⊢
   refine take_ (i := 0) (N := some 42) (v := ?_) (a' := ?_) #[true, false, false, false, false] rfl rfl (by kernel_rfl) (fun _ _ _ h => h) (Or.inl ⟨by rfl, ?_⟩) hHeld ?_ ?_
   rotate_left
   ·
    rintro w' ⟨s0, s1, s2, s3⟩
    go_simp
    with_reducible rfl
   rotate_left
   ·
    simp only [Own.ps]
    rfl
   refine take_ (i := 1) (N := some 43) (v := ?_) (a' := ?_) #[true, true, false, false, false] rfl rfl (by kernel_rfl) (fun _ _ _ h => h) (Or.inl ⟨by rfl, ?_⟩) hHeld ?_ ?_
   rotate_left
   ·
    rintro w' ⟨s0, s1, s2, s3⟩
    go_simp
    with_reducible rfl
   rotate_left
   ·
    simp only [Own.ps]
    rfl
   refine one_ (i := 2) (N := some 44) #[true, true, true, false, false] rfl rfl (by kernel_rfl) (by decide) (fun K hK => ?_)
   refine goes_ Tryd.func8 (by kernel_rfl) rfl #[.agg #[.slice A0_0 l0_0.length c0_0, .slice A0_1 l0_1.length c0_1]] (by rfl) rfl rfl Own.ha ?_
   with_reducible refine (laws_toContract.calls kj13 _ _ l0_0 _ _ l0_1 t410 t413 _ ?side1 ?side2 ?side3 ?side4 A33.out).mono ?_
   (case side1 => exact Kd.C_below HR0_0.out Own.bl)
   (case side2 => exact HC0_0.out)
   (case side3 => exact Kd.C_below HR0_1.out Own.bl)
   (case side4 => exact HC0_1.out)
   rintro e w37 ⟨v411, v414, rfl, ho0, ho1, hb⟩
   refine ⟨_, rfl, ?_⟩
   have n0_ := Aside0.mk (Kd.R_elder' (Own.rd HO_408000.out) (Kd.R_base ho0) hb)
   have n1_ := Aside0.mk (Kd.R_elder' (Own.rd HO_408001.out) (Kd.R_base ho1) hb)
   have n2_ := Aside0.mk (Kd.R_lower (Kd.R_new' ho0 (Kd.R_lt (Own.rd HO_408000.out))) (below_size Own.bl))
   have n3_ := Aside0.mk (Kd.R_lower (Kd.R_new' ho1 (Kd.R_lt (Own.rd HO_408001.out))) (below_size Own.bl))
   have n4_ := Own.bb BK391.out hb
   have n5_ := Own.bb BK407.out hb
   have n6_ := Own.bs hb
   clear HO_408000
   clear HO_408001
   clear BK391
   clear BK407
   clear HB
   have HO_408000 := n0_
   have HO_408001 := n1_
   have HO412 := n2_
   have HO415 := n3_
   have BK391 := n4_
   have BK407 := n5_
   have HB := n6_
   clear n0_ n1_ n2_ n3_ n4_ n5_ n6_
   (try clear hb)
   (try clear hb2)
   (try clear hk)
   (try clear hi)
   (try clear ho0)
   (try clear ho1)
   obtain ⟨Ao38, co38, eo38⟩ := Kd.R_slice HO412.out
   (first | subst eo38 | (injection eo38 with f1_ f2_ f3_; have f4_ := f1_.symm; have f5_ := f3_.symm; clear f1_ f2_ f3_; subst f4_; subst f5_))
   obtain ⟨Ao39, co39, eo39⟩ := Kd.R_slice HO415.out
   (first | subst eo39 | (injection eo39 with f1_ f2_ f3_; have f4_ := f1_.symm; have f5_ := f3_.symm; clear f1_ f2_ f3_; subst f4_; subst f5_))
   refine hK.out _ _ ⟨(blk_cell BK407.out 0).trans rfl, (blk_cell BK407.out 1).trans rfl, (blk_cell BK391.out 0).trans rfl, (blk_cell BK391.out 1).trans rfl⟩ (fun hHeld => ?_)
   clear hK K
   refine norm_ (a' := ?_) ?_ ?_
   rotate_left
   ·
    show Act.put _ (some 44) _ = _
    simp only [Own.ps]
    rfl
   refine one_ (i := 3) (N := some 45) #[true, true, true, true, false] rfl rfl (by kernel_rfl) (by decide) (fun K hK => ?_)
   refine goes_ Tryd.func10 (by kernel_rfl) rfl #[.agg #[.slice Ao26 t401.length co26, .slice Ao29 t404.length co29], .agg #[.slice Ao38 t410.length co38, .slice Ao39 t413.length co39]] (by rfl) rfl rfl Own.ha ?_
   with_reducible refine (laws_eqContract.calls kj13 _ _ t401 _ _ t404 _ _ t410 _ _ t413 true _ ?side1 ?side2 ?side3 ?side4 ?side5 ?side6 ?side7 ?side8 A34.out).mono ?_
   (case side1 => repeat (first | exact (Kd.R_reads' HO_408000.out).2.2 | (with_reducible refine Kd.C_alloc ?_ _) | (with_reducible refine Kd.C_drewN ?_ _) | (with_reducible refine Kd.C_drew ?_)))
   (case side2 => exact (Kd.R_reads' HO_408000.out).2.1)
   (case side3 => repeat (first | exact (Kd.R_reads' HO_408001.out).2.2 | (with_reducible refine Kd.C_alloc ?_ _) | (with_reducible refine Kd.C_drewN ?_ _) | (with_reducible refine Kd.C_drew ?_)))
   (case side4 => exact (Kd.R_reads' HO_408001.out).2.1)
   (case side5 => repeat (first | exact (Kd.R_reads' HO412.out).2.2 | (with_reducible refine Kd.C_alloc ?_ _) | (with_reducible refine Kd.C_drewN ?_ _) | (with_reducible refine Kd.C_drew ?_)))
   (case side6 => exact (Kd.R_reads' HO412.out).2.1)
   (case side7 => repeat (first | exact (Kd.R_reads' HO415.out).2.2 | (with_reducible refine Kd.C_alloc ?_ _) | (with_reducible refine Kd.C_drewN ?_ _) | (with_reducible refine Kd.C_drew ?_)))
   (case side8 => exact (Kd.R_reads' HO415.out).2.1)
   rintro e w40 ⟨rfl, hb⟩
   refine ⟨_, rfl, ?_⟩
   have n0_ := Aside0.mk (Kd.R_below (Own.rd HO_408000.out) hb)
   have n1_ := Aside0.mk (Kd.R_below (Own.rd HO_408001.out) hb)
   have n2_ := Aside0.mk (Kd.R_below (Own.rd HO412.out) hb)
   have n3_ := Aside0.mk (Kd.R_below (Own.rd HO415.out) hb)
   have n4_ := Own.bb BK391.out hb
   have n5_ := Own.bb BK407.out hb
   have n6_ := Own.bs hb
   clear HO_408000
   clear HO_408001
   clear HO412
   clear HO415
   clear BK391
   clear BK407
   clear HB
   have HO_408000 := n0_
   have HO_408001 := n1_
   have HO412 := n2_
   have HO415 := n3_
   have BK391 := n4_
   have BK407 := n5_
   have HB := n6_
   clear n0_ n1_ n2_ n3_ n4_ n5_ n6_
   (try clear hb)
   (try clear hb2)
   (try clear hk)
   (try clear hi)
   refine hK.out _ _ ⟨(blk_cell BK407.out 0).trans rfl, (blk_cell BK407.out 1).trans rfl, (blk_cell BK391.out 0).trans rfl, (blk_cell BK391.out 1).trans rfl⟩ (fun hHeld => ?_)
   clear hK K
   refine norm_ (a' := ?_) ?_ ?_
   rotate_left
   ·
    show Act.put _ (some 45) _ = _
    simp only [Own.ps]
    rfl
   refine pure_ (i := 4) (N := some 46) (v := ?_) (a' := ?_) #[true, true, true, true, true] rfl rfl (by kernel_rfl) (fun _ _ _ h => h) (Or.inl ⟨by rfl, ?_⟩) ?_ ?_
   rotate_left
   ·
    intro w'
    go_simp
    with_reducible rfl
   rotate_left
   ·
    simp only [Own.ps]
    rfl
   refine done_ (by kernel_rfl) ?_
   try go_wp2
   go_ret
   exact ⟨Own.rr, Own.bl⟩

end Go.Proofs.YtdfbfcgjcfbmpaaDoor.QFnExactClauseNumber
