-- Written by a program of this session out of the translation; Lean checks it.
import Derived.Test.YtnpenfficbdlmaaDoorQFnExactConditionNamesx0
import Derived.Test.YtnpenfficbdlmaaDoorQFnExactConditionNamesx3
namespace Go.Proofs.YtnpenfficbdlmaaDoor.QFnExactConditionNames
open Go.RowKit Go.Proofs.YtnpenfficbdlmaaDoorW.PrintWords Go.Proofs.YtnpenfficbdlmaaDoorW.PrintLast Go.Proofs.YtnpenfficbdlmaaDoorW.PrintMore
attribute [local go_sem] Instr.field asAgg Own.str_leq Own.str_gtr Own.str_geq
attribute [local go_sem] max2_int min2_int max_two min_two max_three min_three max_four min_four   -- for this text's walks alone
set_option linter.unusedVariables false
set_option linter.unusedSimpArgs false

/-! ### spec_l5Size: function 32 -/
mutual
def spec_l5Size.l0 : Nat → Int → Int → Int → ByteArray → Int → List (S28) → Option (Int)
 | 0, _, _, _, _, _, _ => none
 | k + 1, x3, x4, x143000, x143001, x143002, x143003 => if x4 < (x143003.length : Int) then (if 0 ≤ x4 then ((spec_l5Size.f k ((rd_T28 x143003 x4).f0) ((rd_T28 x143003 x4).f1) ((rd_T28 x143003 x4).f2) ((rd_T28 x143003 x4).f3)).bind fun t144 => (spec_l5Size.l0 k (wrap64 (x3 + t144)) (wrap64 (x4 + 1)) x143000 x143001 x143002 x143003)) else (none)) else (some x3)
def spec_l5Size.f : Nat → Int → ByteArray → Int → List (S28) → Option (Int)
 | 0, _, _, _, _ => none
 | k + 1, a0_0, a0_1, a0_2, l0_3 => spec_l5Size.l0 k 1 0 a0_0 a0_1 a0_2 l0_3
end
theorem spec_l5Size.mono_l : ∀ k, (∀ y0 y1 y2 y3, LeO (spec_l5Size.f k y0 y1 y2 y3) (spec_l5Size.f (k + 1) y0 y1 y2 y3)) ∧ (∀ y0 y1 y2 y3 y4 y5, LeO (spec_l5Size.l0 k y0 y1 y2 y3 y4 y5) (spec_l5Size.l0 (k + 1) y0 y1 y2 y3 y4 y5))
 | 0 => ⟨fun _ _ _ _ r h => by simp [spec_l5Size.f] at h, fun _ _ _ _ _ _ r h => by simp [spec_l5Size.l0] at h⟩
 | k + 1 => by
  obtain ⟨ih0, ih1⟩ := spec_l5Size.mono_l k
  refine ⟨?_, ?_⟩
  ·
   intro y0 y1 y2 y3
   unfold spec_l5Size.f
   repeat' first
   | (with_reducible first | exact ih0 _ _ _ _ | exact ih1 _ _ _ _ _ _ | exact LeO.refl _ | exact LeO.none _ | refine LeO.ite ?_ ?_ | refine LeO.bind ?_ (fun _ => ?_))
  ·
   intro y0 y1 y2 y3 y4 y5
   unfold spec_l5Size.l0
   repeat' first
   | (with_reducible first | exact ih0 _ _ _ _ | exact ih1 _ _ _ _ _ _ | exact LeO.refl _ | exact LeO.none _ | refine LeO.ite ?_ ?_ | refine LeO.bind ?_ (fun _ => ?_))
theorem spec_l5Size.mono : ∀ a0 a1 a2 a3 k, LeO (spec_l5Size.f k a0 a1 a2 a3) (spec_l5Size.f (k + 1) a0 a1 a2 a3) := by
 intro a0 a1 a2 a3 k
 obtain ⟨ih0, ih1⟩ := spec_l5Size.mono_l k
 exact ih0 a0 a1 a2 a3
set_option maxHeartbeats 8000000 in
set_option maxRecDepth 100000 in
theorem spec_l5Size.calls (k : Nat) : ∀ (a0_0 : Int) (a0_1 : ByteArray) (a0_2 : Int) (A0_3 : Option Addr) (c0_3 : Nat) (l0_3 : List (S28)) (r : Int) (w : World) (hr0_3 : Kd.C k28 w A0_3 l0_3.length l0_3) (hc0_3 : l0_3.length ≤ c0_3) (h : spec_l5Size.f k a0_0 a0_1 a0_2 l0_3 = some r),
  Calls Tryd.prog 32 #[.agg #[.int .i64 a0_0, .string a0_1, .int .i64 a0_2, .slice A0_3 l0_3.length c0_3]] w fun e w' => e = .returned (.int .i64 r) ∧ Below w.heap.size w w' := by
 induction k using Nat.strongRecOn with
 | _ k ih =>
 intro a0_0 a0_1 a0_2 A0_3 c0_3 l0_3 r w hr0_3 hc0_3 h
 cases k with
 | zero => exact absurd h (by simp [spec_l5Size.f])
 | succ k =>
 simp only [spec_l5Size.f] at h
 have hu28 := Tryd.underlying28
 have HR0_3 := Aside0.mk hr0_3
 have HC0_3 := Aside0.mk hc0_3
 clear hr0_3 hc0_3
 have HB := Aside0.mk (Below.refl w.heap.size w)
 have H : (spec_l5Size.l0 k 1 0 a0_0 a0_1 a0_2 l0_3) = some r := h
 clear h
 have H' := Aside0.mk H
 clear H
 go_enter Tryd.func32, Tryd.ntmps32
 go_wp2_with (first | ((with_reducible refine gate_dst (N := 1) rfl ?_); refine Own.be (N := 1) (cs := #[.int .i64 a0_0, .string a0_1, .int .i64 a0_2, .slice A0_3 l0_3.length c0_3]) (t := 28) ?_; intro gb142 hg w2 hbox hb; have BK142 := Aside0.mk hbox; have GW142 := (Own.gs hg : Aside0 (w.heap.size ≤ gb142)); have GE142 := GW142; replace HB := Own.bs hb; clear hb hbox hg))
 go_loopg [3, 4] k (fun kq v3 v4 w' => ∃ (x3_1 : Int) (x4_1 : Int), v3 = .int .i64 x3_1 ∧ v4 = .int .i64 x4_1 ∧ Aside0 (spec_l5Size.l0 kq x3_1 x4_1 a0_0 a0_1 a0_2 l0_3 = some r) ∧ Aside0 (kq ≤ k) ∧ Aside0 (w'.heap[gb142]? = some (.cells #[.int .i64 a0_0, .string a0_1, .int .i64 a0_2, (.slice A0_3 l0_3.length c0_3)] 28 (0, 0))) ∧ Aside0 (Below w.heap.size w w'))
 case atStart => exact ⟨(1), (0), Own.rs, Own.rs, H', ⟨Nat.le_refl _⟩, ⟨Own.bk⟩, ⟨Own.bl⟩⟩
 case round =>
  clear H'
  try clear p2
  obtain ⟨x3_1, x4_1, rfl, rfl, HA, HK1, BK142, HB⟩ := hrel
  cases gk with
  | zero => exact absurd HA.out (by simp [spec_l5Size.l0])
  | succ k1 =>
   have H := HA.out
   clear HA
   simp only [spec_l5Size.l0] at H
   by_cases c3 : x4_1 < (l0_3.length : Int)
   rotate_left
   ·
    rw [if_neg c3] at H
    replace c3 := decide_eq_false c3
    obtain rfl := Option.some.inj H
    obtain ⟨z8_0, z8_1, z8_2, z8_3, y8_0, y8_1, y8_2, y8_3⟩ := Own.box4 BK142.out
    go_wp2
    go_ret
    exact ⟨Own.rr, Own.bl⟩
   rw [if_pos c3] at H
   replace c3 := decide_eq_true c3
   replace H := Own.ifd H; obtain ⟨c4, H⟩ := H
   replace H := Own.bd H; obtain ⟨t144, A5, H⟩ := H
   have H' := Aside0.mk H
   clear H
   obtain ⟨z6_0, z6_1, z6_2, z6_3, y6_0, y6_1, y6_2, y6_3⟩ := Own.box4 BK142.out
   have p143 : 0 ≤ (x4_1 : Int) := Own.dp
   have q143 : x4_1 < (l0_3.length : Int) := Own.dp
   obtain ⟨ad143, A143_3, c143_3, e143, hx143_0, hx143_1, hx143_2, hx143_3, hl143_3, hi143_3⟩ := at_T28 HR0_3.out x4_1 p143 q143
   cases e143
   replace hx143_0 := Own.up HB.out hx143_0
   replace hx143_1 := Own.up HB.out hx143_1
   replace hx143_2 := Own.up HB.out hx143_2
   replace hx143_3 := Own.up HB.out hx143_3
   have HR143_3 := Aside0.mk hi143_3
   have HC143_3 := Aside0.mk hl143_3
   clear hi143_3 hl143_3
   replace p143 := eq_true p143
   replace q143 := eq_true q143
   go_wp2_with (first | ((with_reducible refine gate_callee (f := 32) rfl ?_); refine goesL_ (some 18) rfl rfl Tryd.func32 (by kernel_rfl) rfl #[.agg #[.int .i64 ((rd_T28 l0_3 x4_1).f0), .string ((rd_T28 l0_3 x4_1).f1), .int .i64 ((rd_T28 l0_3 x4_1).f2), .slice A143_3 ((rd_T28 l0_3 x4_1).f3).length c143_3]] rfl Own.ha ?_; (with_reducible refine (ih k1 (by have := HK1.out; omega) ((rd_T28 l0_3 x4_1).f0) ((rd_T28 l0_3 x4_1).f1) ((rd_T28 l0_3 x4_1).f2) _ _ ((rd_T28 l0_3 x4_1).f3) t144 _ ?side1 ?side2 A5.out).mono ?_); (case side1 => exact Kd.C_below HR143_3.out Own.bl); (case side2 => exact HC143_3.out); rintro e w7 ⟨rfl, hb⟩; refine ⟨_, rfl, ?_⟩; replace BK142 := Own.bb BK142.out hb; replace HB := Own.bs hb; (try clear hb)))
   go_roundg k1
   case measure => have := HK1.out; omega
   case rel => exact ⟨(wrap64 (x3_1 + t144)), (wrap64 (x4_1 + 1)), Own.rs, Own.rs, H', ⟨by have := HK1.out; omega⟩, ⟨Own.bk⟩, ⟨Own.bl⟩⟩

/-! ### spec_l5Good: function 18 -/
def spec_l5Good.f (k : Nat) (a0_0 : Int) (a0_1 : ByteArray) (a0_2 : Int) (l0_3 : List (S28)) : Option (Bool) := (spec_l5Forms.f k a0_0 a0_1 a0_2 l0_3).bind fun t146 => (if t146 = true then ((spec_l5Size.f k a0_0 a0_1 a0_2 l0_3).bind fun t147 => (some (decide (t147 ≤ 15)))) else (some false))
theorem spec_l5Good.mono : ∀ a0 a1 a2 a3 k, LeO (spec_l5Good.f k a0 a1 a2 a3) (spec_l5Good.f (k + 1) a0 a1 a2 a3) := by
 intro a0 a1 a2 a3 k
 unfold spec_l5Good.f
 repeat' first
   | (with_reducible first | exact spec_l5Forms.mono _ _ _ _ _ | exact spec_l5Size.mono _ _ _ _ _ | exact LeO.refl _ | exact LeO.none _ | refine LeO.ite ?_ ?_ | refine LeO.bind ?_ (fun _ => ?_))
set_option maxHeartbeats 8000000 in
set_option maxRecDepth 100000 in
theorem spec_l5Good.calls (k : Nat) (a0_0 : Int) (a0_1 : ByteArray) (a0_2 : Int) (A0_3 : Option Addr) (c0_3 : Nat) (l0_3 : List (S28)) (r : Bool) (w : World) (hr0_3 : Kd.C k28 w A0_3 l0_3.length l0_3) (hc0_3 : l0_3.length ≤ c0_3) (h : spec_l5Good.f k a0_0 a0_1 a0_2 l0_3 = some r) :
  Calls Tryd.prog 18 #[.agg #[.int .i64 a0_0, .string a0_1, .int .i64 a0_2, .slice A0_3 l0_3.length c0_3]] w fun e w' => e = .returned (.bool r) ∧ Below w.heap.size w w' := by
 have hu28 := Tryd.underlying28
 have HR0_3 := Aside0.mk hr0_3
 have HC0_3 := Aside0.mk hc0_3
 clear hr0_3 hc0_3
 have HB := Aside0.mk (Below.refl w.heap.size w)
 have H : ((spec_l5Forms.f k a0_0 a0_1 a0_2 l0_3).bind fun t146 => (if t146 = true then ((spec_l5Size.f k a0_0 a0_1 a0_2 l0_3).bind fun t147 => (some (decide (t147 ≤ 15)))) else (some false))) = some r := h
 clear h
 replace H := Own.bd H; obtain ⟨t146, A2, H⟩ := H
 replace H := Own.ifu H; obtain ⟨rfl, H⟩ | ⟨rfl, H⟩ := H
 ·
  replace H := Own.bd H; obtain ⟨t147, A4, H⟩ := H
  obtain rfl := Option.some.inj H
  go_enter Tryd.func18, Tryd.ntmps18
  go_wp2_with (first | ((with_reducible refine gate_dst (N := 1) rfl ?_); refine Own.be (N := 1) (cs := #[.int .i64 a0_0, .string a0_1, .int .i64 a0_2, .slice A0_3 l0_3.length c0_3]) (t := 28) ?_; intro gb145 hg w5 hbox hb; have BK145 := Aside0.mk hbox; have GW145 := (Own.gs hg : Aside0 (w.heap.size ≤ gb145)); have GE145 := GW145; replace HB := Own.bs hb; clear hb hbox hg; obtain ⟨z6_0, z6_1, z6_2, z6_3, y6_0, y6_1, y6_2, y6_3⟩ := Own.box4 BK145.out) | ((with_reducible refine gate_callee (f := 31) rfl ?_); refine goesL_ (some 4) rfl rfl Tryd.func31 (by kernel_rfl) rfl #[.agg #[.int .i64 a0_0, .string a0_1, .int .i64 a0_2, .slice A0_3 l0_3.length c0_3]] rfl Own.ha ?_; (with_reducible refine (spec_l5Forms.calls k a0_0 a0_1 a0_2 _ _ l0_3 true _ ?side1 ?side2 A2.out).mono ?_); (case side1 => exact Kd.C_below HR0_3.out Own.bl); (case side2 => exact HC0_3.out); rintro e w7 ⟨rfl, hb⟩; refine ⟨_, rfl, ?_⟩; replace BK145 := Own.bb BK145.out hb; replace HB := Own.bs hb; (try clear hb); obtain ⟨z8_0, z8_1, z8_2, z8_3, y8_0, y8_1, y8_2, y8_3⟩ := Own.box4 BK145.out) | (go_at_call 32; (with_reducible refine (spec_l5Size.calls k a0_0 a0_1 a0_2 _ _ l0_3 t147 _ ?side1 ?side2 A4.out).mono ?_); (case side1 => exact Kd.C_below HR0_3.out Own.bl); (case side2 => exact HC0_3.out); rintro e w9 ⟨rfl, hb⟩; replace BK145 := Own.bb BK145.out hb; replace HB := Own.bs hb; (try clear hb)))
  go_ret
  exact ⟨Own.rr, Own.bl⟩
 obtain rfl := Option.some.inj H
 go_enter Tryd.func18, Tryd.ntmps18
 go_wp2_with (first | ((with_reducible refine gate_dst (N := 1) rfl ?_); refine Own.be (N := 1) (cs := #[.int .i64 a0_0, .string a0_1, .int .i64 a0_2, .slice A0_3 l0_3.length c0_3]) (t := 28) ?_; intro gb145 hg w10 hbox hb; have BK145 := Aside0.mk hbox; have GW145 := (Own.gs hg : Aside0 (w.heap.size ≤ gb145)); have GE145 := GW145; replace HB := Own.bs hb; clear hb hbox hg; obtain ⟨z11_0, z11_1, z11_2, z11_3, y11_0, y11_1, y11_2, y11_3⟩ := Own.box4 BK145.out) | ((with_reducible refine gate_callee (f := 31) rfl ?_); refine goesL_ (some 4) rfl rfl Tryd.func31 (by kernel_rfl) rfl #[.agg #[.int .i64 a0_0, .string a0_1, .int .i64 a0_2, .slice A0_3 l0_3.length c0_3]] rfl Own.ha ?_; (with_reducible refine (spec_l5Forms.calls k a0_0 a0_1 a0_2 _ _ l0_3 false _ ?side1 ?side2 A2.out).mono ?_); (case side1 => exact Kd.C_below HR0_3.out Own.bl); (case side2 => exact HC0_3.out); rintro e w12 ⟨rfl, hb⟩; refine ⟨_, rfl, ?_⟩; replace BK145 := Own.bb BK145.out hb; replace HB := Own.bs hb; (try clear hb)))
 go_ret
 exact ⟨Own.rr, Own.bl⟩

end Go.Proofs.YtnpenfficbdlmaaDoor.QFnExactConditionNames
