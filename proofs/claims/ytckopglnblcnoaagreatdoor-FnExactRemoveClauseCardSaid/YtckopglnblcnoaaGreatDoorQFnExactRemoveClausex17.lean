-- Written by a program of this session out of the translation; Lean checks it.
import Derived.Test.YtckopglnblcnoaaGreatDoorQFnExactRemoveClausex0
namespace Go.Proofs.YtckopglnblcnoaaGreatDoor.QFnExactRemoveClause
open Go.RowKit Go.Proofs.YtckopglnblcnoaaGreatDoorW.PrintWords Go.Proofs.YtckopglnblcnoaaGreatDoorW.PrintLast
attribute [local go_sem] Instr.field asAgg
set_option linter.unusedVariables false
set_option linter.unusedSimpArgs false
/-! ### laws_eqConditionS: function 70 -/
mutual
def laws_eqCondition.f : Nat → Int → ByteArray → Int → List (S49) → Int → ByteArray → Int → List (S49) → Option (Bool)
 | 0, _, _, _, _, _, _, _, _ => none
 | k + 1, a0_0, a0_1, a0_2, l0_3, a1_0, a1_1, a1_2, l1_3 => if a0_0 = a1_0 then (if a0_1.toList = a1_1.toList then (if a0_2 = a1_2 then ((laws_eqConditionS.f k l0_3 l1_3).bind fun t461 => (if t461 = true then (some true) else (some false))) else (some false)) else (some false)) else (some false)
def laws_eqConditionS.l0 : Nat → List (S49) → List (S49) → Int → Option (Bool)
 | 0, _, _, _ => none
 | k + 1, x0, x1, x5 => if x5 < (x0.length : Int) then (if 0 ≤ x5 then (if x5 < (x1.length : Int) then ((laws_eqCondition.f k ((rd_T49 x0 x5).f0) ((rd_T49 x0 x5).f1) ((rd_T49 x0 x5).f2) ((rd_T49 x0 x5).f3) ((rd_T49 x1 x5).f0) ((rd_T49 x1 x5).f1) ((rd_T49 x1 x5).f2) ((rd_T49 x1 x5).f3)).bind fun t464 => (if t464 = true then (laws_eqConditionS.l0 k x0 x1 (wrap64 (x5 + 1))) else (some false))) else (none)) else (none)) else (some true)
def laws_eqConditionS.f : Nat → List (S49) → List (S49) → Option (Bool)
 | 0, _, _ => none
 | k + 1, l0, l1 => if (l0.length : Int) = (l1.length : Int) then (laws_eqConditionS.l0 k l0 l1 0) else (some false)
end
set_option maxHeartbeats 8000000 in
set_option maxRecDepth 100000 in
theorem laws_eqCondition.callsI (k : Nat) (ih_59 : ∀ m_, m_ < k → ∀ (a0_0 : Int) (a0_1 : ByteArray) (a0_2 : Int) (A0_3 : Option Addr) (c0_3 : Nat) (l0_3 : List (S49)) (a1_0 : Int) (a1_1 : ByteArray) (a1_2 : Int) (A1_3 : Option Addr) (c1_3 : Nat) (l1_3 : List (S49)) (r : Bool) (w : World) (hr0_3 : Kd.C k49 w A0_3 l0_3.length l0_3) (hc0_3 : l0_3.length ≤ c0_3) (hr1_3 : Kd.C k49 w A1_3 l1_3.length l1_3) (hc1_3 : l1_3.length ≤ c1_3) (h : laws_eqCondition.f m_ a0_0 a0_1 a0_2 l0_3 a1_0 a1_1 a1_2 l1_3 = some r),
  Calls Tryz.prog 59 #[.agg #[.int .i64 a0_0, .string a0_1, .int .i64 a0_2, .slice A0_3 l0_3.length c0_3], .agg #[.int .i64 a1_0, .string a1_1, .int .i64 a1_2, .slice A1_3 l1_3.length c1_3]] w fun e w' => e = .returned (.bool r) ∧ Below w.heap.size w w') (ih_70 : ∀ m_, m_ < k → ∀ (A0 : Option Addr) (c0 : Nat) (l0 : List (S49)) (A1 : Option Addr) (c1 : Nat) (l1 : List (S49)) (r : Bool) (w : World) (hr0 : Kd.C k49 w A0 l0.length l0) (hc0 : l0.length ≤ c0) (hr1 : Kd.C k49 w A1 l1.length l1) (hc1 : l1.length ≤ c1) (h : laws_eqConditionS.f m_ l0 l1 = some r),
  Calls Tryz.prog 70 #[.slice A0 l0.length c0, .slice A1 l1.length c1] w fun e w' => e = .returned (.bool r) ∧ Below w.heap.size w w') : ∀ (a0_0 : Int) (a0_1 : ByteArray) (a0_2 : Int) (A0_3 : Option Addr) (c0_3 : Nat) (l0_3 : List (S49)) (a1_0 : Int) (a1_1 : ByteArray) (a1_2 : Int) (A1_3 : Option Addr) (c1_3 : Nat) (l1_3 : List (S49)) (r : Bool) (w : World) (hr0_3 : Kd.C k49 w A0_3 l0_3.length l0_3) (hc0_3 : l0_3.length ≤ c0_3) (hr1_3 : Kd.C k49 w A1_3 l1_3.length l1_3) (hc1_3 : l1_3.length ≤ c1_3) (h : laws_eqCondition.f k a0_0 a0_1 a0_2 l0_3 a1_0 a1_1 a1_2 l1_3 = some r),
  Calls Tryz.prog 59 #[.agg #[.int .i64 a0_0, .string a0_1, .int .i64 a0_2, .slice A0_3 l0_3.length c0_3], .agg #[.int .i64 a1_0, .string a1_1, .int .i64 a1_2, .slice A1_3 l1_3.length c1_3]] w fun e w' => e = .returned (.bool r) ∧ Below w.heap.size w w' := by
 intro a0_0 a0_1 a0_2 A0_3 c0_3 l0_3 a1_0 a1_1 a1_2 A1_3 c1_3 l1_3 r w hr0_3 hc0_3 hr1_3 hc1_3 h
 cases k with
 | zero => exact absurd h (by simp [laws_eqCondition.f])
 | succ k =>
 simp only [laws_eqCondition.f] at h
 have hu49 := Tryz.underlying49
 have HR0_3 := Aside0.mk hr0_3
 have HC0_3 := Aside0.mk hc0_3
 clear hr0_3 hc0_3
 have HR1_3 := Aside0.mk hr1_3
 have HC1_3 := Aside0.mk hc1_3
 clear hr1_3 hc1_3
 have HB := Aside0.mk (Below.refl w.heap.size w)
 have H : (if a0_0 = a1_0 then (if a0_1.toList = a1_1.toList then (if a0_2 = a1_2 then ((laws_eqConditionS.f k l0_3 l1_3).bind fun t461 => (if t461 = true then (some true) else (some false))) else (some false)) else (some false)) else (some false)) = some r := h
 clear h
 have H' := Aside0.mk H
 clear H
 go_enter Tryz.func59, Tryz.ntmps59
 go_upto_region 1 with (first | ((with_reducible refine gate_dst (N := 2) rfl ?_); refine Own.be (N := 2) (cs := #[.int .i64 a0_0, .string a0_1, .int .i64 a0_2, .slice A0_3 l0_3.length c0_3]) (t := 49) ?_; intro gb459 hg w8 hbox hb; have BK459 := Aside0.mk hbox; have GW459 := (Own.gs hg : Aside0 (w.heap.size ≤ gb459)); have GE459 := GW459; replace HB := Own.bs hb; clear hb hbox hg) | ((with_reducible refine gate_dst (N := 3) rfl ?_); refine Own.be (N := 3) (cs := #[.int .i64 a1_0, .string a1_1, .int .i64 a1_2, .slice A1_3 l1_3.length c1_3]) (t := 49) ?_; intro gb460 hg w9 hbox hb; have BK460 := Aside0.mk hbox; have GW460 := (Own.gs hg : Aside0 (w.heap.size ≤ gb460)); have GE460 := GW460; have NB459_460 := Own.nl hg BK459.out; have NB460_459 := Aside0.mk NB459_460.out.symm; replace BK459 := Own.bb BK459.out hb; replace HB := Own.bs hb; clear hb hbox hg; have hnb10 := NB459_460.out; have hnc10 := NB460_459.out; obtain ⟨z11_0, z11_1, z11_2, z11_3, y11_0, y11_1, y11_2, y11_3⟩ := Own.box4 BK459.out; obtain ⟨z12_0, z12_1, z12_2, z12_3, y12_0, y12_1, y12_2, y12_3⟩ := Own.box4 BK460.out))
 have H := H'.out
 clear H'
 by_cases c3 : a0_0 = a1_0
 rotate_left
 ·
  rw [if_neg c3] at H
  have c3b0 : (a0_0 == a1_0) = false := beq_eq_false_iff_ne.mpr c3
  have c3b1 : (a0_0 != a1_0) = true := bne_iff_ne.mpr c3
  obtain rfl := Option.some.inj H
  go_wp2
  go_ret
  exact ⟨Own.rr, Own.bl⟩
 rw [if_pos c3] at H
 have c3b0 : (a0_0 == a1_0) = true := beq_iff_eq.mpr c3
 have c3b1 : (a0_0 != a1_0) = false := bne_eq_false_iff_eq.mpr c3
 clear c3
 by_cases c4 : a0_1.toList = a1_1.toList
 rotate_left
 ·
  rw [if_neg c4] at H
  have c4b0 : (a0_1.toList == a1_1.toList) = false := beq_eq_false_iff_ne.mpr c4
  have c4b1 : (a0_1.toList != a1_1.toList) = true := bne_iff_ne.mpr c4
  obtain rfl := Option.some.inj H
  go_wp2
  go_ret
  exact ⟨Own.rr, Own.bl⟩
 rw [if_pos c4] at H
 have c4b0 : (a0_1.toList == a1_1.toList) = true := beq_iff_eq.mpr c4
 have c4b1 : (a0_1.toList != a1_1.toList) = false := bne_eq_false_iff_eq.mpr c4
 clear c4
 by_cases c5 : a0_2 = a1_2
 rotate_left
 ·
  rw [if_neg c5] at H
  have c5b0 : (a0_2 == a1_2) = false := beq_eq_false_iff_ne.mpr c5
  have c5b1 : (a0_2 != a1_2) = true := bne_iff_ne.mpr c5
  obtain rfl := Option.some.inj H
  go_wp2
  go_ret
  exact ⟨Own.rr, Own.bl⟩
 rw [if_pos c5] at H
 have c5b0 : (a0_2 == a1_2) = true := beq_iff_eq.mpr c5
 have c5b1 : (a0_2 != a1_2) = false := bne_eq_false_iff_eq.mpr c5
 clear c5
 replace H := Own.bd H; obtain ⟨t461, A6, H⟩ := H
 replace H := Own.ifu H; obtain ⟨rfl, H⟩ | ⟨rfl, H⟩ := H
 ·
  obtain rfl := Option.some.inj H
  go_wp2_with (first | ((with_reducible refine gate_callee (f := 70) rfl ?_); refine goesL_ (some 24) rfl rfl Tryz.func70 (by kernel_rfl) rfl #[.slice A0_3 l0_3.length c0_3, .slice A1_3 l1_3.length c1_3] rfl Own.ha ?_; (with_reducible refine (ih_70 k (by omega) _ _ l0_3 _ _ l1_3 true _ ?side1 ?side2 ?side3 ?side4 A6.out).mono ?_); (case side1 => exact Kd.C_below HR0_3.out Own.bl); (case side2 => exact HC0_3.out); (case side3 => exact Kd.C_below HR1_3.out Own.bl); (case side4 => exact HC1_3.out); rintro e w13 ⟨rfl, hb⟩; refine ⟨_, rfl, ?_⟩; replace BK459 := Own.bb BK459.out hb; replace BK460 := Own.bb BK460.out hb; replace HB := Own.bs hb; (try clear hb)))
  go_ret
  exact ⟨Own.rr, Own.bl⟩
 obtain rfl := Option.some.inj H
 go_wp2_with (first | ((with_reducible refine gate_callee (f := 70) rfl ?_); refine goesL_ (some 24) rfl rfl Tryz.func70 (by kernel_rfl) rfl #[.slice A0_3 l0_3.length c0_3, .slice A1_3 l1_3.length c1_3] rfl Own.ha ?_; (with_reducible refine (ih_70 k (by omega) _ _ l0_3 _ _ l1_3 false _ ?side1 ?side2 ?side3 ?side4 A6.out).mono ?_); (case side1 => exact Kd.C_below HR0_3.out Own.bl); (case side2 => exact HC0_3.out); (case side3 => exact Kd.C_below HR1_3.out Own.bl); (case side4 => exact HC1_3.out); rintro e w19 ⟨rfl, hb⟩; refine ⟨_, rfl, ?_⟩; replace BK459 := Own.bb BK459.out hb; replace BK460 := Own.bb BK460.out hb; replace HB := Own.bs hb; (try clear hb)))
 go_ret
 exact ⟨Own.rr, Own.bl⟩
def laws_eqConditionS.T6 : Bool × List (List Nat × List Nat) := (true, [([], []), ([], []), ([0, 1], [0, 1]), ([2], [2]), ([], []), ([], []), ([4, 5], [4, 5]), ([6], [6]), ([3, 7], [3, 7]), ([8], [8])])
def laws_eqConditionS.B6 : List Nat := [0, 0, 3, 7, 0, 0, 48, 112, 255, 511]
theorem laws_eqConditionS.tab6 : rtab .any (opsOf Tryz.f70 6) = laws_eqConditionS.T6 := by kernel_rfl
theorem laws_eqConditionS.bits6 : waitsOk laws_eqConditionS.T6.2 laws_eqConditionS.B6 = true := by kernel_rfl
set_option maxHeartbeats 8000000 in
set_option maxRecDepth 100000 in
theorem laws_eqConditionS.callsI (k : Nat) (ih_59 : ∀ m_, m_ < k → ∀ (a0_0 : Int) (a0_1 : ByteArray) (a0_2 : Int) (A0_3 : Option Addr) (c0_3 : Nat) (l0_3 : List (S49)) (a1_0 : Int) (a1_1 : ByteArray) (a1_2 : Int) (A1_3 : Option Addr) (c1_3 : Nat) (l1_3 : List (S49)) (r : Bool) (w : World) (hr0_3 : Kd.C k49 w A0_3 l0_3.length l0_3) (hc0_3 : l0_3.length ≤ c0_3) (hr1_3 : Kd.C k49 w A1_3 l1_3.length l1_3) (hc1_3 : l1_3.length ≤ c1_3) (h : laws_eqCondition.f m_ a0_0 a0_1 a0_2 l0_3 a1_0 a1_1 a1_2 l1_3 = some r),
  Calls Tryz.prog 59 #[.agg #[.int .i64 a0_0, .string a0_1, .int .i64 a0_2, .slice A0_3 l0_3.length c0_3], .agg #[.int .i64 a1_0, .string a1_1, .int .i64 a1_2, .slice A1_3 l1_3.length c1_3]] w fun e w' => e = .returned (.bool r) ∧ Below w.heap.size w w') (ih_70 : ∀ m_, m_ < k → ∀ (A0 : Option Addr) (c0 : Nat) (l0 : List (S49)) (A1 : Option Addr) (c1 : Nat) (l1 : List (S49)) (r : Bool) (w : World) (hr0 : Kd.C k49 w A0 l0.length l0) (hc0 : l0.length ≤ c0) (hr1 : Kd.C k49 w A1 l1.length l1) (hc1 : l1.length ≤ c1) (h : laws_eqConditionS.f m_ l0 l1 = some r),
  Calls Tryz.prog 70 #[.slice A0 l0.length c0, .slice A1 l1.length c1] w fun e w' => e = .returned (.bool r) ∧ Below w.heap.size w w') : ∀ (A0 : Option Addr) (c0 : Nat) (l0 : List (S49)) (A1 : Option Addr) (c1 : Nat) (l1 : List (S49)) (r : Bool) (w : World) (hr0 : Kd.C k49 w A0 l0.length l0) (hc0 : l0.length ≤ c0) (hr1 : Kd.C k49 w A1 l1.length l1) (hc1 : l1.length ≤ c1) (h : laws_eqConditionS.f k l0 l1 = some r),
  Calls Tryz.prog 70 #[.slice A0 l0.length c0, .slice A1 l1.length c1] w fun e w' => e = .returned (.bool r) ∧ Below w.heap.size w w' := by
 intro A0 c0 l0 A1 c1 l1 r w hr0 hc0 hr1 hc1 h
 cases k with
 | zero => exact absurd h (by simp [laws_eqConditionS.f])
 | succ k =>
 simp only [laws_eqConditionS.f] at h
 have hu49 := Tryz.underlying49
 have HR0 := Aside0.mk hr0
 have HC0 := Aside0.mk hc0
 clear hr0 hc0
 have HR1 := Aside0.mk hr1
 have HC1 := Aside0.mk hc1
 clear hr1 hc1
 have HB := Aside0.mk (Below.refl w.heap.size w)
 have H : (if (l0.length : Int) = (l1.length : Int) then (laws_eqConditionS.l0 k l0 l1 0) else (some false)) = some r := h
 clear h
 by_cases c3 : (l0.length : Int) = (l1.length : Int)
 rotate_left
 ·
  rw [if_neg c3] at H
  have c3b0 : ((l0.length : Int) == (l1.length : Int)) = false := beq_eq_false_iff_ne.mpr c3
  have c3b1 : ((l0.length : Int) != (l1.length : Int)) = true := bne_iff_ne.mpr c3
  have c3b2 : (l0.length == l1.length) = false := by first | simpa using c3 | (simp at c3 ⊢; omega)
  obtain rfl := Option.some.inj H
  go_enter Tryz.func70, Tryz.ntmps70
  go_wp2
  go_ret
  exact ⟨Own.rr, Own.bl⟩
 rw [if_pos c3] at H
 have c3b0 : ((l0.length : Int) == (l1.length : Int)) = true := beq_iff_eq.mpr c3
 have c3b1 : ((l0.length : Int) != (l1.length : Int)) = false := bne_eq_false_iff_eq.mpr c3
 have c3b2 : (l0.length == l1.length) = true := by first | simpa using c3 | (simp at c3 ⊢; omega)
 clear c3
 have H' := Aside0.mk H
 clear H
 go_enter Tryz.func70, Tryz.ntmps70
 go_wp2
 go_loopg [5] k (fun kq v5 w' => ∃ (x5_1 : Int), v5 = .int .i64 x5_1 ∧ Aside0 (laws_eqConditionS.l0 kq l0 l1 x5_1 = some r) ∧ Aside0 (kq ≤ k) ∧ Aside0 (Below w.heap.size w w'))
 case atStart => exact ⟨(0), Own.rs, H', ⟨Nat.le_refl _⟩, ⟨Own.bl⟩⟩
 case round =>
  clear H'; try clear c1; try clear c3; try clear c3b0; try clear c3b1; try clear c3b2
  obtain ⟨x5_1, rfl, HA, HK1, HB⟩ := hrel
  cases gk with
  | zero => exact absurd HA.out (by simp [laws_eqConditionS.l0])
  | succ k1 =>
   have H := HA.out; clear HA
   simp only [laws_eqConditionS.l0] at H
   by_cases c4 : x5_1 < (l0.length : Int)
   rotate_left
   ·
    rw [if_neg c4] at H; replace c4 := decide_eq_false c4; obtain rfl := Option.some.inj H
    go_wp2
    go_ret
    exact ⟨Own.rr, Own.bl⟩
   rw [if_pos c4] at H; replace c4 := decide_eq_true c4
   replace H := Own.ifd H; obtain ⟨c5, H⟩ := H
   replace H := Own.ifd H; obtain ⟨c6, H⟩ := H
   replace H := Own.bd H; obtain ⟨t464, A7, H⟩ := H
   replace H := Own.ift H; obtain ⟨rfl, H⟩ | ⟨rfl, H⟩ := H
   ·
    obtain rfl := Option.some.inj H
    try go_wp2
    have n0_ := Aside0.mk (below_drew1 HB.out)
    clear HB; have HB := n0_; clear n0_
    have p462 : 0 ≤ (x5_1 : Int) := Own.dp
    have q462 : x5_1 < (l0.length : Int) := Own.dp
    obtain ⟨ad462, A462_3, c462_3, e462, hx462_0, hx462_1, hx462_2, hx462_3, hl462_3, hi462_3⟩ := at_T49 HR0.out x5_1 p462 q462; have hw462_3 := hx462_3; have hw462_2 := hx462_2; have hw462_1 := hx462_1; have hw462_0 := hx462_0; cases e462; replace hx462_0 := Own.up HB.out hx462_0; replace hx462_1 := Own.up HB.out hx462_1; replace hx462_2 := Own.up HB.out hx462_2; replace hx462_3 := Own.up HB.out hx462_3; have HR462_3 := Aside0.mk hi462_3; have HC462_3 := Aside0.mk hl462_3; clear hi462_3 hl462_3; replace p462 := eq_true p462; replace q462 := eq_true q462
    have p463 : 0 ≤ (x5_1 : Int) := Own.dp
    have q463 : x5_1 < (l1.length : Int) := Own.dp
    obtain ⟨ad463, A463_3, c463_3, e463, hx463_0, hx463_1, hx463_2, hx463_3, hl463_3, hi463_3⟩ := at_T49 HR1.out x5_1 p463 q463; have hw463_3 := hx463_3; have hw463_2 := hx463_2; have hw463_1 := hx463_1; have hw463_0 := hx463_0; cases e463; replace hx463_0 := Own.up HB.out hx463_0; replace hx463_1 := Own.up HB.out hx463_1; replace hx463_2 := Own.up HB.out hx463_2; replace hx463_3 := Own.up HB.out hx463_3; have HR463_3 := Aside0.mk hi463_3; have HC463_3 := Aside0.mk hl463_3; clear hi463_3 hl463_3; replace p463 := eq_true p463; replace q463 := eq_true q463
    refine start_ (n := 10) (S := fun w' => w'.cell? (ad462.add ((x5_1).toNat * 4)) = some (.int .i64 ((rd_T49 l0 x5_1).f0)) ∧ w'.cell? ⟨(ad462.add ((x5_1).toNat * 4)).block, (ad462.add ((x5_1).toNat * 4)).off + 1, none⟩ = some (.string ((rd_T49 l0 x5_1).f1)) ∧ w'.cell? ⟨(ad462.add ((x5_1).toNat * 4)).block, (ad462.add ((x5_1).toNat * 4)).off + 2, none⟩ = some (.int .i64 ((rd_T49 l0 x5_1).f2)) ∧ w'.cell? ⟨(ad462.add ((x5_1).toNat * 4)).block, (ad462.add ((x5_1).toNat * 4)).off + 3, none⟩ = some (.slice A462_3 ((rd_T49 l0 x5_1).f3).length c462_3) ∧ w'.cell? (ad463.add ((x5_1).toNat * 4)) = some (.int .i64 ((rd_T49 l1 x5_1).f0)) ∧ w'.cell? ⟨(ad463.add ((x5_1).toNat * 4)).block, (ad463.add ((x5_1).toNat * 4)).off + 1, none⟩ = some (.string ((rd_T49 l1 x5_1).f1)) ∧ w'.cell? ⟨(ad463.add ((x5_1).toNat * 4)).block, (ad463.add ((x5_1).toNat * 4)).off + 2, none⟩ = some (.int .i64 ((rd_T49 l1 x5_1).f2)) ∧ w'.cell? ⟨(ad463.add ((x5_1).toNat * 4)).block, (ad463.add ((x5_1).toNat * 4)).off + 3, none⟩ = some (.slice A463_3 ((rd_T49 l1 x5_1).f3).length c463_3)) (ds := []) (Own.fl 10 0) (by kernel_rfl) rfl rfl ⟨(Own.up HB.out hw462_0), (Own.up HB.out hw462_1), (Own.up HB.out hw462_2), (Own.up HB.out hw462_3), (Own.up HB.out hw463_0), (Own.up HB.out hw463_1), (Own.up HB.out hw463_2), (Own.up HB.out hw463_3)⟩ (fun hHeld => ?_); refine with_tabW laws_eqConditionS.tab6 laws_eqConditionS.bits6 (fun HT_ HW_ => ?_)
    generalize wr.drew = w11 at HB HR462_3 HR463_3 hx462_0 hx462_1 hx462_2 hx462_3 hx463_0 hx463_1 hx463_2 hx463_3 hHeld ⊢
    refine pure_ (i := 0) (N := some 17) (v := ?_) (a' := ?_) (Own.fl 10 1) rfl rfl (any_of HT_.out (by kernel_rfl)) (fun _ _ _ h => h) (Or.inl ⟨by rfl, ?_⟩) ?_ ?_; rotate_left; intro w'; go_simp; with_reducible rfl; rotate_left; simp only [Own.ps]; rfl
    refine pure_ (i := 1) (N := some 18) (v := ?_) (a' := ?_) (Own.fl 10 3) rfl rfl (any_of HT_.out (by kernel_rfl)) (fun _ _ _ h => h) (Or.inl ⟨by rfl, ?_⟩) ?_ ?_; rotate_left; intro w'; go_simp; with_reducible rfl; rotate_left; simp only [Own.ps]; rfl
    refine pure_ (i := 2) (N := some 19) (v := ?_) (a' := ?_) (Own.fl 10 7) rfl rfl (any_of HT_.out (by kernel_rfl)) (fun _ _ _ h => h) (Or.inl ⟨by rfl, ?_⟩) ?_ ?_; rotate_left; intro w'; go_simp; with_reducible rfl; rotate_left; simp only [Own.ps]; rfl
    refine pure_ (i := 4) (N := some 21) (v := ?_) (a' := ?_) (Own.fl 10 23) rfl rfl (any_of HT_.out (by kernel_rfl)) (fun _ _ _ h => h) (Or.inl ⟨by rfl, ?_⟩) ?_ ?_; rotate_left; intro w'; go_simp; with_reducible rfl; rotate_left; simp only [Own.ps]; rfl
    refine pure_ (i := 5) (N := some 22) (v := ?_) (a' := ?_) (Own.fl 10 55) rfl rfl (any_of HT_.out (by kernel_rfl)) (fun _ _ _ h => h) (Or.inl ⟨by rfl, ?_⟩) ?_ ?_; rotate_left; intro w'; go_simp; with_reducible rfl; rotate_left; simp only [Own.ps]; rfl
    refine pure_ (i := 6) (N := some 23) (v := ?_) (a' := ?_) (Own.fl 10 119) rfl rfl (any_of HT_.out (by kernel_rfl)) (fun _ _ _ h => h) (Or.inl ⟨by rfl, ?_⟩) ?_ ?_; rotate_left; intro w'; go_simp; with_reducible rfl; rotate_left; simp only [Own.ps]; rfl
    refine take_ (i := 3) (N := some 20) (v := ?_) (a' := ?_) (Own.fl 10 127) rfl rfl (take_ofW HT_.out HW_.out (by kernel_rfl)) (fun _ _ _ h => h) (Or.inl ⟨by rfl, ?_⟩) hHeld ?_ ?_; rotate_left; rintro w' ⟨s0, s1, s2, s3, s4, s5, s6, s7⟩; go_simp; with_reducible rfl; rotate_left; simp only [Own.ps]; rfl
    refine take_ (i := 7) (N := some 24) (v := ?_) (a' := ?_) (Own.fl 10 255) rfl rfl (take_ofW HT_.out HW_.out (by kernel_rfl)) (fun _ _ _ h => h) (Or.inl ⟨by rfl, ?_⟩) hHeld ?_ ?_; rotate_left; rintro w' ⟨s0, s1, s2, s3, s4, s5, s6, s7⟩; go_simp; with_reducible rfl; rotate_left; simp only [Own.ps]; rfl
    refine one_ (i := 8) (N := some 25) (Own.fl 10 511) rfl rfl (one_of HT_.out (by kernel_rfl)) (by decide) (fun K hK => ?_)
    refine goes_ Tryz.func59 (by kernel_rfl) rfl #[.agg #[.int .i64 ((rd_T49 l0 x5_1).f0), .string ((rd_T49 l0 x5_1).f1), .int .i64 ((rd_T49 l0 x5_1).f2), .slice A462_3 ((rd_T49 l0 x5_1).f3).length c462_3], .agg #[.int .i64 ((rd_T49 l1 x5_1).f0), .string ((rd_T49 l1 x5_1).f1), .int .i64 ((rd_T49 l1 x5_1).f2), .slice A463_3 ((rd_T49 l1 x5_1).f3).length c463_3]] (by rfl) rfl rfl Own.ha ?_
    with_reducible refine (ih_59 k1 (by have := HK1.out; omega) ((rd_T49 l0 x5_1).f0) ((rd_T49 l0 x5_1).f1) ((rd_T49 l0 x5_1).f2) _ _ ((rd_T49 l0 x5_1).f3) ((rd_T49 l1 x5_1).f0) ((rd_T49 l1 x5_1).f1) ((rd_T49 l1 x5_1).f2) _ _ ((rd_T49 l1 x5_1).f3) false _ ?side1 ?side2 ?side3 ?side4 A7.out).mono ?_
    (case side1 => exact Kd.C_below HR462_3.out Own.bl)
    (case side2 => exact HC462_3.out)
    (case side3 => exact Kd.C_below HR463_3.out Own.bl)
    (case side4 => exact HC463_3.out)
    rintro e w12 ⟨rfl, hb⟩
    refine ⟨_, rfl, ?_⟩
    have n0_ := Own.bs hb; clear HB; have HB := n0_; clear n0_
    (try clear hb)
    (try clear hb2)
    (try clear hk)
    (try clear hi)
    refine hK.out _ _ ⟨(Own.up HB.out hw462_0), (Own.up HB.out hw462_1), (Own.up HB.out hw462_2), (Own.up HB.out hw462_3), (Own.up HB.out hw463_0), (Own.up HB.out hw463_1), (Own.up HB.out hw463_2), (Own.up HB.out hw463_3)⟩ (fun hHeld => ?_)
    clear hK K; refine norm_ (a' := ?_) ?_ ?_; rotate_left; show Act.put _ (some 25) _ = _; simp only [Own.ps]; rfl
    refine pure_ (i := 9) (N := some 26) (v := ?_) (a' := ?_) (Own.fl 10 1023) rfl rfl (any_of HT_.out (by kernel_rfl)) (fun _ _ _ h => h) (Or.inl ⟨by rfl, ?_⟩) ?_ ?_; rotate_left; intro w'; go_simp; with_reducible rfl; rotate_left; simp only [Own.ps]; rfl
    refine done_ (done_of HT_.out (by kernel_rfl)) ?_
    try go_wp2
    go_ret
    exact ⟨Own.rr, Own.bl⟩
   have H' := Aside0.mk H; clear H
   try go_wp2
   have n0_ := Aside0.mk (below_drew1 HB.out)
   clear HB; have HB := n0_; clear n0_
   have p462 : 0 ≤ (x5_1 : Int) := Own.dp
   have q462 : x5_1 < (l0.length : Int) := Own.dp
   obtain ⟨ad462, A462_3, c462_3, e462, hx462_0, hx462_1, hx462_2, hx462_3, hl462_3, hi462_3⟩ := at_T49 HR0.out x5_1 p462 q462; have hw462_3 := hx462_3; have hw462_2 := hx462_2; have hw462_1 := hx462_1; have hw462_0 := hx462_0; cases e462; replace hx462_0 := Own.up HB.out hx462_0; replace hx462_1 := Own.up HB.out hx462_1; replace hx462_2 := Own.up HB.out hx462_2; replace hx462_3 := Own.up HB.out hx462_3; have HR462_3 := Aside0.mk hi462_3; have HC462_3 := Aside0.mk hl462_3; clear hi462_3 hl462_3; replace p462 := eq_true p462; replace q462 := eq_true q462
   have p463 : 0 ≤ (x5_1 : Int) := Own.dp
   have q463 : x5_1 < (l1.length : Int) := Own.dp
   obtain ⟨ad463, A463_3, c463_3, e463, hx463_0, hx463_1, hx463_2, hx463_3, hl463_3, hi463_3⟩ := at_T49 HR1.out x5_1 p463 q463; have hw463_3 := hx463_3; have hw463_2 := hx463_2; have hw463_1 := hx463_1; have hw463_0 := hx463_0; cases e463; replace hx463_0 := Own.up HB.out hx463_0; replace hx463_1 := Own.up HB.out hx463_1; replace hx463_2 := Own.up HB.out hx463_2; replace hx463_3 := Own.up HB.out hx463_3; have HR463_3 := Aside0.mk hi463_3; have HC463_3 := Aside0.mk hl463_3; clear hi463_3 hl463_3; replace p463 := eq_true p463; replace q463 := eq_true q463
   refine start_ (n := 10) (S := fun w' => w'.cell? (ad462.add ((x5_1).toNat * 4)) = some (.int .i64 ((rd_T49 l0 x5_1).f0)) ∧ w'.cell? ⟨(ad462.add ((x5_1).toNat * 4)).block, (ad462.add ((x5_1).toNat * 4)).off + 1, none⟩ = some (.string ((rd_T49 l0 x5_1).f1)) ∧ w'.cell? ⟨(ad462.add ((x5_1).toNat * 4)).block, (ad462.add ((x5_1).toNat * 4)).off + 2, none⟩ = some (.int .i64 ((rd_T49 l0 x5_1).f2)) ∧ w'.cell? ⟨(ad462.add ((x5_1).toNat * 4)).block, (ad462.add ((x5_1).toNat * 4)).off + 3, none⟩ = some (.slice A462_3 ((rd_T49 l0 x5_1).f3).length c462_3) ∧ w'.cell? (ad463.add ((x5_1).toNat * 4)) = some (.int .i64 ((rd_T49 l1 x5_1).f0)) ∧ w'.cell? ⟨(ad463.add ((x5_1).toNat * 4)).block, (ad463.add ((x5_1).toNat * 4)).off + 1, none⟩ = some (.string ((rd_T49 l1 x5_1).f1)) ∧ w'.cell? ⟨(ad463.add ((x5_1).toNat * 4)).block, (ad463.add ((x5_1).toNat * 4)).off + 2, none⟩ = some (.int .i64 ((rd_T49 l1 x5_1).f2)) ∧ w'.cell? ⟨(ad463.add ((x5_1).toNat * 4)).block, (ad463.add ((x5_1).toNat * 4)).off + 3, none⟩ = some (.slice A463_3 ((rd_T49 l1 x5_1).f3).length c463_3)) (ds := []) (Own.fl 10 0) (by kernel_rfl) rfl rfl ⟨(Own.up HB.out hw462_0), (Own.up HB.out hw462_1), (Own.up HB.out hw462_2), (Own.up HB.out hw462_3), (Own.up HB.out hw463_0), (Own.up HB.out hw463_1), (Own.up HB.out hw463_2), (Own.up HB.out hw463_3)⟩ (fun hHeld => ?_); refine with_tabW laws_eqConditionS.tab6 laws_eqConditionS.bits6 (fun HT_ HW_ => ?_)
   generalize wr.drew = w9 at HB HR462_3 HR463_3 hx462_0 hx462_1 hx462_2 hx462_3 hx463_0 hx463_1 hx463_2 hx463_3 hHeld ⊢
   refine pure_ (i := 0) (N := some 17) (v := ?_) (a' := ?_) (Own.fl 10 1) rfl rfl (any_of HT_.out (by kernel_rfl)) (fun _ _ _ h => h) (Or.inl ⟨by rfl, ?_⟩) ?_ ?_; rotate_left; intro w'; go_simp; with_reducible rfl; rotate_left; simp only [Own.ps]; rfl
   refine pure_ (i := 1) (N := some 18) (v := ?_) (a' := ?_) (Own.fl 10 3) rfl rfl (any_of HT_.out (by kernel_rfl)) (fun _ _ _ h => h) (Or.inl ⟨by rfl, ?_⟩) ?_ ?_; rotate_left; intro w'; go_simp; with_reducible rfl; rotate_left; simp only [Own.ps]; rfl
   refine pure_ (i := 2) (N := some 19) (v := ?_) (a' := ?_) (Own.fl 10 7) rfl rfl (any_of HT_.out (by kernel_rfl)) (fun _ _ _ h => h) (Or.inl ⟨by rfl, ?_⟩) ?_ ?_; rotate_left; intro w'; go_simp; with_reducible rfl; rotate_left; simp only [Own.ps]; rfl
   refine pure_ (i := 4) (N := some 21) (v := ?_) (a' := ?_) (Own.fl 10 23) rfl rfl (any_of HT_.out (by kernel_rfl)) (fun _ _ _ h => h) (Or.inl ⟨by rfl, ?_⟩) ?_ ?_; rotate_left; intro w'; go_simp; with_reducible rfl; rotate_left; simp only [Own.ps]; rfl
   refine pure_ (i := 5) (N := some 22) (v := ?_) (a' := ?_) (Own.fl 10 55) rfl rfl (any_of HT_.out (by kernel_rfl)) (fun _ _ _ h => h) (Or.inl ⟨by rfl, ?_⟩) ?_ ?_; rotate_left; intro w'; go_simp; with_reducible rfl; rotate_left; simp only [Own.ps]; rfl
   refine pure_ (i := 6) (N := some 23) (v := ?_) (a' := ?_) (Own.fl 10 119) rfl rfl (any_of HT_.out (by kernel_rfl)) (fun _ _ _ h => h) (Or.inl ⟨by rfl, ?_⟩) ?_ ?_; rotate_left; intro w'; go_simp; with_reducible rfl; rotate_left; simp only [Own.ps]; rfl
   refine take_ (i := 3) (N := some 20) (v := ?_) (a' := ?_) (Own.fl 10 127) rfl rfl (take_ofW HT_.out HW_.out (by kernel_rfl)) (fun _ _ _ h => h) (Or.inl ⟨by rfl, ?_⟩) hHeld ?_ ?_; rotate_left; rintro w' ⟨s0, s1, s2, s3, s4, s5, s6, s7⟩; go_simp; with_reducible rfl; rotate_left; simp only [Own.ps]; rfl
   refine take_ (i := 7) (N := some 24) (v := ?_) (a' := ?_) (Own.fl 10 255) rfl rfl (take_ofW HT_.out HW_.out (by kernel_rfl)) (fun _ _ _ h => h) (Or.inl ⟨by rfl, ?_⟩) hHeld ?_ ?_; rotate_left; rintro w' ⟨s0, s1, s2, s3, s4, s5, s6, s7⟩; go_simp; with_reducible rfl; rotate_left; simp only [Own.ps]; rfl
   refine one_ (i := 8) (N := some 25) (Own.fl 10 511) rfl rfl (one_of HT_.out (by kernel_rfl)) (by decide) (fun K hK => ?_)
   refine goes_ Tryz.func59 (by kernel_rfl) rfl #[.agg #[.int .i64 ((rd_T49 l0 x5_1).f0), .string ((rd_T49 l0 x5_1).f1), .int .i64 ((rd_T49 l0 x5_1).f2), .slice A462_3 ((rd_T49 l0 x5_1).f3).length c462_3], .agg #[.int .i64 ((rd_T49 l1 x5_1).f0), .string ((rd_T49 l1 x5_1).f1), .int .i64 ((rd_T49 l1 x5_1).f2), .slice A463_3 ((rd_T49 l1 x5_1).f3).length c463_3]] (by rfl) rfl rfl Own.ha ?_
   with_reducible refine (ih_59 k1 (by have := HK1.out; omega) ((rd_T49 l0 x5_1).f0) ((rd_T49 l0 x5_1).f1) ((rd_T49 l0 x5_1).f2) _ _ ((rd_T49 l0 x5_1).f3) ((rd_T49 l1 x5_1).f0) ((rd_T49 l1 x5_1).f1) ((rd_T49 l1 x5_1).f2) _ _ ((rd_T49 l1 x5_1).f3) true _ ?side1 ?side2 ?side3 ?side4 A7.out).mono ?_
   (case side1 => exact Kd.C_below HR462_3.out Own.bl)
   (case side2 => exact HC462_3.out)
   (case side3 => exact Kd.C_below HR463_3.out Own.bl)
   (case side4 => exact HC463_3.out)
   rintro e w10 ⟨rfl, hb⟩
   refine ⟨_, rfl, ?_⟩
   have n0_ := Own.bs hb; clear HB; have HB := n0_; clear n0_
   (try clear hb)
   (try clear hb2)
   (try clear hk)
   (try clear hi)
   refine hK.out _ _ ⟨(Own.up HB.out hw462_0), (Own.up HB.out hw462_1), (Own.up HB.out hw462_2), (Own.up HB.out hw462_3), (Own.up HB.out hw463_0), (Own.up HB.out hw463_1), (Own.up HB.out hw463_2), (Own.up HB.out hw463_3)⟩ (fun hHeld => ?_)
   clear hK K; refine norm_ (a' := ?_) ?_ ?_; rotate_left; show Act.put _ (some 25) _ = _; simp only [Own.ps]; rfl
   refine pure_ (i := 9) (N := some 26) (v := ?_) (a' := ?_) (Own.fl 10 1023) rfl rfl (any_of HT_.out (by kernel_rfl)) (fun _ _ _ h => h) (Or.inl ⟨by rfl, ?_⟩) ?_ ?_; rotate_left; intro w'; go_simp; with_reducible rfl; rotate_left; simp only [Own.ps]; rfl
   refine done_ (done_of HT_.out (by kernel_rfl)) ?_
   try go_wp2
   go_roundg k1
   case measure => have := HK1.out; omega
   case rel => exact ⟨(wrap64 (x5_1 + 1)), Own.rs, H', ⟨by have := HK1.out; omega⟩, ⟨Own.bl⟩⟩
theorem laws_eqCondition.callsG (k : Nat) : (∀ (a0_0 : Int) (a0_1 : ByteArray) (a0_2 : Int) (A0_3 : Option Addr) (c0_3 : Nat) (l0_3 : List (S49)) (a1_0 : Int) (a1_1 : ByteArray) (a1_2 : Int) (A1_3 : Option Addr) (c1_3 : Nat) (l1_3 : List (S49)) (r : Bool) (w : World) (hr0_3 : Kd.C k49 w A0_3 l0_3.length l0_3) (hc0_3 : l0_3.length ≤ c0_3) (hr1_3 : Kd.C k49 w A1_3 l1_3.length l1_3) (hc1_3 : l1_3.length ≤ c1_3) (h : laws_eqCondition.f k a0_0 a0_1 a0_2 l0_3 a1_0 a1_1 a1_2 l1_3 = some r),
  Calls Tryz.prog 59 #[.agg #[.int .i64 a0_0, .string a0_1, .int .i64 a0_2, .slice A0_3 l0_3.length c0_3], .agg #[.int .i64 a1_0, .string a1_1, .int .i64 a1_2, .slice A1_3 l1_3.length c1_3]] w fun e w' => e = .returned (.bool r) ∧ Below w.heap.size w w') ∧
 (∀ (A0 : Option Addr) (c0 : Nat) (l0 : List (S49)) (A1 : Option Addr) (c1 : Nat) (l1 : List (S49)) (r : Bool) (w : World) (hr0 : Kd.C k49 w A0 l0.length l0) (hc0 : l0.length ≤ c0) (hr1 : Kd.C k49 w A1 l1.length l1) (hc1 : l1.length ≤ c1) (h : laws_eqConditionS.f k l0 l1 = some r),
  Calls Tryz.prog 70 #[.slice A0 l0.length c0, .slice A1 l1.length c1] w fun e w' => e = .returned (.bool r) ∧ Below w.heap.size w w') := by
 induction k using Nat.strongRecOn with
 | _ k ih => exact ⟨laws_eqCondition.callsI k (fun m_ hm_ => (ih m_ hm_).1) (fun m_ hm_ => (ih m_ hm_).2), laws_eqConditionS.callsI k (fun m_ hm_ => (ih m_ hm_).1) (fun m_ hm_ => (ih m_ hm_).2)⟩
theorem laws_eqCondition.calls (k : Nat) : (∀ (a0_0 : Int) (a0_1 : ByteArray) (a0_2 : Int) (A0_3 : Option Addr) (c0_3 : Nat) (l0_3 : List (S49)) (a1_0 : Int) (a1_1 : ByteArray) (a1_2 : Int) (A1_3 : Option Addr) (c1_3 : Nat) (l1_3 : List (S49)) (r : Bool) (w : World) (hr0_3 : Kd.C k49 w A0_3 l0_3.length l0_3) (hc0_3 : l0_3.length ≤ c0_3) (hr1_3 : Kd.C k49 w A1_3 l1_3.length l1_3) (hc1_3 : l1_3.length ≤ c1_3) (h : laws_eqCondition.f k a0_0 a0_1 a0_2 l0_3 a1_0 a1_1 a1_2 l1_3 = some r),
  Calls Tryz.prog 59 #[.agg #[.int .i64 a0_0, .string a0_1, .int .i64 a0_2, .slice A0_3 l0_3.length c0_3], .agg #[.int .i64 a1_0, .string a1_1, .int .i64 a1_2, .slice A1_3 l1_3.length c1_3]] w fun e w' => e = .returned (.bool r) ∧ Below w.heap.size w w') := (laws_eqCondition.callsG k).1
/-! ### laws_eqClause: function 42 -/
def laws_eqClause.f (k : Nat) (a0_0 : ByteArray) (a0_1 : Int) (a0_2 : Int) (a0_3 : ByteArray) (a0_4 : Int) (a0_5 : Int) (a0_6 : Int) (a0_7 : ByteArray) (a0_8 : Int) (l0_9 : List (S49)) (a0_10 : Int) (a0_11 : ByteArray) (a1_0 : ByteArray) (a1_1 : Int) (a1_2 : Int) (a1_3 : ByteArray) (a1_4 : Int) (a1_5 : Int) (a1_6 : Int) (a1_7 : ByteArray) (a1_8 : Int) (l1_9 : List (S49)) (a1_10 : Int) (a1_11 : ByteArray) : Option (Bool) := if a0_0.toList = a1_0.toList then (if a0_1 = a1_1 then (if a0_2 = a1_2 then (if a0_3.toList = a1_3.toList then (if a0_4 = a1_4 then (if a0_5 = a1_5 then ((laws_eqCondition.f k a0_6 a0_7 a0_8 l0_9 a1_6 a1_7 a1_8 l1_9).bind fun t467 => (if t467 = true then (if a0_10 = a1_10 then (if a0_11.toList = a1_11.toList then (some true) else (some false)) else (some false)) else (some false))) else (some false)) else (some false)) else (some false)) else (some false)) else (some false)) else (some false)
set_option maxHeartbeats 8000000 in
set_option maxRecDepth 100000 in
theorem laws_eqClause.calls (k : Nat) (a0_0 : ByteArray) (a0_1 : Int) (a0_2 : Int) (a0_3 : ByteArray) (a0_4 : Int) (a0_5 : Int) (a0_6 : Int) (a0_7 : ByteArray) (a0_8 : Int) (A0_9 : Option Addr) (c0_9 : Nat) (l0_9 : List (S49)) (a0_10 : Int) (a0_11 : ByteArray) (a1_0 : ByteArray) (a1_1 : Int) (a1_2 : Int) (a1_3 : ByteArray) (a1_4 : Int) (a1_5 : Int) (a1_6 : Int) (a1_7 : ByteArray) (a1_8 : Int) (A1_9 : Option Addr) (c1_9 : Nat) (l1_9 : List (S49)) (a1_10 : Int) (a1_11 : ByteArray) (r : Bool) (w : World) (hr0_9 : Kd.C k49 w A0_9 l0_9.length l0_9) (hc0_9 : l0_9.length ≤ c0_9) (hr1_9 : Kd.C k49 w A1_9 l1_9.length l1_9) (hc1_9 : l1_9.length ≤ c1_9) (h : laws_eqClause.f k a0_0 a0_1 a0_2 a0_3 a0_4 a0_5 a0_6 a0_7 a0_8 l0_9 a0_10 a0_11 a1_0 a1_1 a1_2 a1_3 a1_4 a1_5 a1_6 a1_7 a1_8 l1_9 a1_10 a1_11 = some r) :
  Calls Tryz.prog 42 #[.agg #[.string a0_0, .int .i64 a0_1, .int .i64 a0_2, .string a0_3, .int .i64 a0_4, .int .i64 a0_5, .int .i64 a0_6, .string a0_7, .int .i64 a0_8, .slice A0_9 l0_9.length c0_9, .int .i64 a0_10, .string a0_11], .agg #[.string a1_0, .int .i64 a1_1, .int .i64 a1_2, .string a1_3, .int .i64 a1_4, .int .i64 a1_5, .int .i64 a1_6, .string a1_7, .int .i64 a1_8, .slice A1_9 l1_9.length c1_9, .int .i64 a1_10, .string a1_11]] w fun e w' => e = .returned (.bool r) ∧ Below w.heap.size w w' := by
 have hu51 := Tryz.underlying51
 have hu49 := Tryz.underlying49
 have HR0_9 := Aside0.mk hr0_9
 have HC0_9 := Aside0.mk hc0_9
 clear hr0_9 hc0_9
 have HR1_9 := Aside0.mk hr1_9
 have HC1_9 := Aside0.mk hc1_9
 clear hr1_9 hc1_9
 have HB := Aside0.mk (Below.refl w.heap.size w)
 have H : (if a0_0.toList = a1_0.toList then (if a0_1 = a1_1 then (if a0_2 = a1_2 then (if a0_3.toList = a1_3.toList then (if a0_4 = a1_4 then (if a0_5 = a1_5 then ((laws_eqCondition.f k a0_6 a0_7 a0_8 l0_9 a1_6 a1_7 a1_8 l1_9).bind fun t467 => (if t467 = true then (if a0_10 = a1_10 then (if a0_11.toList = a1_11.toList then (some true) else (some false)) else (some false)) else (some false))) else (some false)) else (some false)) else (some false)) else (some false)) else (some false)) else (some false)) = some r := h
 clear h
 have H' := Aside0.mk H
 clear H
 go_enter Tryz.func42, Tryz.ntmps42
 go_upto_region 1 with (first | ((with_reducible refine gate_dst (N := 2) rfl ?_); refine Own.be (N := 2) (cs := #[.string a0_0, .int .i64 a0_1, .int .i64 a0_2, .string a0_3, .int .i64 a0_4, .int .i64 a0_5, .int .i64 a0_6, .string a0_7, .int .i64 a0_8, .slice A0_9 l0_9.length c0_9, .int .i64 a0_10, .string a0_11]) (t := 51) ?_; intro gb465 hg w37 hbox hb; have BK465 := Aside0.mk hbox; have GW465 := (Own.gs hg : Aside0 (w.heap.size ≤ gb465)); have GE465 := GW465; replace HB := Own.bs hb; clear hb hbox hg) | ((with_reducible refine gate_dst (N := 3) rfl ?_); refine Own.be (N := 3) (cs := #[.string a1_0, .int .i64 a1_1, .int .i64 a1_2, .string a1_3, .int .i64 a1_4, .int .i64 a1_5, .int .i64 a1_6, .string a1_7, .int .i64 a1_8, .slice A1_9 l1_9.length c1_9, .int .i64 a1_10, .string a1_11]) (t := 51) ?_; intro gb466 hg w38 hbox hb; have BK466 := Aside0.mk hbox; have GW466 := (Own.gs hg : Aside0 (w.heap.size ≤ gb466)); have GE466 := GW466; have NB465_466 := Own.nl hg BK465.out; have NB466_465 := Aside0.mk NB465_466.out.symm; replace BK465 := Own.bb BK465.out hb; replace HB := Own.bs hb; clear hb hbox hg; have hnb39 := NB465_466.out; have hnc39 := NB466_465.out; obtain ⟨z40_0, z40_1, z40_2, z40_3, z40_4, z40_5, z40_6, z40_7, z40_8, z40_9, z40_10, z40_11, y40_0, y40_1, y40_2, y40_3, y40_4, y40_5, y40_6, y40_7, y40_8, y40_9, y40_10, y40_11⟩ := Own.box12 BK465.out; obtain ⟨z41_0, z41_1, z41_2, z41_3, z41_4, z41_5, z41_6, z41_7, z41_8, z41_9, z41_10, z41_11, y41_0, y41_1, y41_2, y41_3, y41_4, y41_5, y41_6, y41_7, y41_8, y41_9, y41_10, y41_11⟩ := Own.box12 BK466.out))
 have H := H'.out
 clear H'
 by_cases c3 : a0_0.toList = a1_0.toList
 rotate_left
 ·
  rw [if_neg c3] at H
  have c3b0 : (a0_0.toList == a1_0.toList) = false := beq_eq_false_iff_ne.mpr c3
  have c3b1 : (a0_0.toList != a1_0.toList) = true := bne_iff_ne.mpr c3
  obtain rfl := Option.some.inj H
  go_wp2
  go_ret
  exact ⟨Own.rr, Own.bl⟩
 rw [if_pos c3] at H
 have c3b0 : (a0_0.toList == a1_0.toList) = true := beq_iff_eq.mpr c3
 have c3b1 : (a0_0.toList != a1_0.toList) = false := bne_eq_false_iff_eq.mpr c3
 clear c3
 by_cases c4 : a0_1 = a1_1
 rotate_left
 ·
  rw [if_neg c4] at H
  have c4b0 : (a0_1 == a1_1) = false := beq_eq_false_iff_ne.mpr c4
  have c4b1 : (a0_1 != a1_1) = true := bne_iff_ne.mpr c4
  obtain rfl := Option.some.inj H
  go_wp2
  go_ret
  exact ⟨Own.rr, Own.bl⟩
 rw [if_pos c4] at H
 have c4b0 : (a0_1 == a1_1) = true := beq_iff_eq.mpr c4
 have c4b1 : (a0_1 != a1_1) = false := bne_eq_false_iff_eq.mpr c4
 clear c4
 by_cases c5 : a0_2 = a1_2
 rotate_left
 ·
  rw [if_neg c5] at H
  have c5b0 : (a0_2 == a1_2) = false := beq_eq_false_iff_ne.mpr c5
  have c5b1 : (a0_2 != a1_2) = true := bne_iff_ne.mpr c5
  obtain rfl := Option.some.inj H
  go_wp2
  go_ret
  exact ⟨Own.rr, Own.bl⟩
 rw [if_pos c5] at H
 have c5b0 : (a0_2 == a1_2) = true := beq_iff_eq.mpr c5
 have c5b1 : (a0_2 != a1_2) = false := bne_eq_false_iff_eq.mpr c5
 clear c5
 by_cases c6 : a0_3.toList = a1_3.toList
 rotate_left
 ·
  rw [if_neg c6] at H
  have c6b0 : (a0_3.toList == a1_3.toList) = false := beq_eq_false_iff_ne.mpr c6
  have c6b1 : (a0_3.toList != a1_3.toList) = true := bne_iff_ne.mpr c6
  obtain rfl := Option.some.inj H
  go_wp2
  go_ret
  exact ⟨Own.rr, Own.bl⟩
 rw [if_pos c6] at H
 have c6b0 : (a0_3.toList == a1_3.toList) = true := beq_iff_eq.mpr c6
 have c6b1 : (a0_3.toList != a1_3.toList) = false := bne_eq_false_iff_eq.mpr c6
 clear c6
 by_cases c7 : a0_4 = a1_4
 rotate_left
 ·
  rw [if_neg c7] at H
  have c7b0 : (a0_4 == a1_4) = false := beq_eq_false_iff_ne.mpr c7
  have c7b1 : (a0_4 != a1_4) = true := bne_iff_ne.mpr c7
  obtain rfl := Option.some.inj H
  go_wp2
  go_ret
  exact ⟨Own.rr, Own.bl⟩
 rw [if_pos c7] at H
 have c7b0 : (a0_4 == a1_4) = true := beq_iff_eq.mpr c7
 have c7b1 : (a0_4 != a1_4) = false := bne_eq_false_iff_eq.mpr c7
 clear c7
 by_cases c8 : a0_5 = a1_5
 rotate_left
 ·
  rw [if_neg c8] at H
  have c8b0 : (a0_5 == a1_5) = false := beq_eq_false_iff_ne.mpr c8
  have c8b1 : (a0_5 != a1_5) = true := bne_iff_ne.mpr c8
  obtain rfl := Option.some.inj H
  go_wp2
  go_ret
  exact ⟨Own.rr, Own.bl⟩
 rw [if_pos c8] at H
 have c8b0 : (a0_5 == a1_5) = true := beq_iff_eq.mpr c8
 have c8b1 : (a0_5 != a1_5) = false := bne_eq_false_iff_eq.mpr c8
 clear c8
 replace H := Own.bd H; obtain ⟨t467, A9, H⟩ := H
 replace H := Own.ift H; obtain ⟨rfl, H⟩ | ⟨rfl, H⟩ := H
 ·
  obtain rfl := Option.some.inj H
  go_wp2_with (first | ((with_reducible refine gate_callee (f := 59) rfl ?_); refine goesL_ (some 39) rfl rfl Tryz.func59 (by kernel_rfl) rfl #[.agg #[.int .i64 a0_6, .string a0_7, .int .i64 a0_8, .slice A0_9 l0_9.length c0_9], .agg #[.int .i64 a1_6, .string a1_7, .int .i64 a1_8, .slice A1_9 l1_9.length c1_9]] rfl Own.ha ?_; (with_reducible refine (laws_eqCondition.calls k a0_6 a0_7 a0_8 _ _ l0_9 a1_6 a1_7 a1_8 _ _ l1_9 false _ ?side1 ?side2 ?side3 ?side4 A9.out).mono ?_); (case side1 => exact Kd.C_below HR0_9.out Own.bl); (case side2 => exact HC0_9.out); (case side3 => exact Kd.C_below HR1_9.out Own.bl); (case side4 => exact HC1_9.out); rintro e w42 ⟨rfl, hb⟩; refine ⟨_, rfl, ?_⟩; replace BK465 := Own.bb BK465.out hb; replace BK466 := Own.bb BK466.out hb; replace HB := Own.bs hb; (try clear hb)))
  go_ret
  exact ⟨Own.rr, Own.bl⟩
 by_cases c11 : a0_10 = a1_10
 rotate_left
 ·
  rw [if_neg c11] at H
  have c11b0 : (a0_10 == a1_10) = false := beq_eq_false_iff_ne.mpr c11
  have c11b1 : (a0_10 != a1_10) = true := bne_iff_ne.mpr c11
  obtain rfl := Option.some.inj H
  go_wp2_with (first | ((with_reducible refine gate_callee (f := 59) rfl ?_); refine goesL_ (some 39) rfl rfl Tryz.func59 (by kernel_rfl) rfl #[.agg #[.int .i64 a0_6, .string a0_7, .int .i64 a0_8, .slice A0_9 l0_9.length c0_9], .agg #[.int .i64 a1_6, .string a1_7, .int .i64 a1_8, .slice A1_9 l1_9.length c1_9]] rfl Own.ha ?_; (with_reducible refine (laws_eqCondition.calls k a0_6 a0_7 a0_8 _ _ l0_9 a1_6 a1_7 a1_8 _ _ l1_9 true _ ?side1 ?side2 ?side3 ?side4 A9.out).mono ?_); (case side1 => exact Kd.C_below HR0_9.out Own.bl); (case side2 => exact HC0_9.out); (case side3 => exact Kd.C_below HR1_9.out Own.bl); (case side4 => exact HC1_9.out); rintro e w34 ⟨rfl, hb⟩; refine ⟨_, rfl, ?_⟩; replace BK465 := Own.bb BK465.out hb; replace BK466 := Own.bb BK466.out hb; replace HB := Own.bs hb; (try clear hb); obtain ⟨z35_0, z35_1, z35_2, z35_3, z35_4, z35_5, z35_6, z35_7, z35_8, z35_9, z35_10, z35_11, y35_0, y35_1, y35_2, y35_3, y35_4, y35_5, y35_6, y35_7, y35_8, y35_9, y35_10, y35_11⟩ := Own.box12 BK465.out; obtain ⟨z36_0, z36_1, z36_2, z36_3, z36_4, z36_5, z36_6, z36_7, z36_8, z36_9, z36_10, z36_11, y36_0, y36_1, y36_2, y36_3, y36_4, y36_5, y36_6, y36_7, y36_8, y36_9, y36_10, y36_11⟩ := Own.box12 BK466.out))
  go_ret
  exact ⟨Own.rr, Own.bl⟩
 rw [if_pos c11] at H
 have c11b0 : (a0_10 == a1_10) = true := beq_iff_eq.mpr c11
 have c11b1 : (a0_10 != a1_10) = false := bne_eq_false_iff_eq.mpr c11
 clear c11
 by_cases c12 : a0_11.toList = a1_11.toList
 rotate_left
 ·
  rw [if_neg c12] at H
  have c12b0 : (a0_11.toList == a1_11.toList) = false := beq_eq_false_iff_ne.mpr c12
  have c12b1 : (a0_11.toList != a1_11.toList) = true := bne_iff_ne.mpr c12
  obtain rfl := Option.some.inj H
  go_wp2_with (first | ((with_reducible refine gate_callee (f := 59) rfl ?_); refine goesL_ (some 39) rfl rfl Tryz.func59 (by kernel_rfl) rfl #[.agg #[.int .i64 a0_6, .string a0_7, .int .i64 a0_8, .slice A0_9 l0_9.length c0_9], .agg #[.int .i64 a1_6, .string a1_7, .int .i64 a1_8, .slice A1_9 l1_9.length c1_9]] rfl Own.ha ?_; (with_reducible refine (laws_eqCondition.calls k a0_6 a0_7 a0_8 _ _ l0_9 a1_6 a1_7 a1_8 _ _ l1_9 true _ ?side1 ?side2 ?side3 ?side4 A9.out).mono ?_); (case side1 => exact Kd.C_below HR0_9.out Own.bl); (case side2 => exact HC0_9.out); (case side3 => exact Kd.C_below HR1_9.out Own.bl); (case side4 => exact HC1_9.out); rintro e w26 ⟨rfl, hb⟩; refine ⟨_, rfl, ?_⟩; replace BK465 := Own.bb BK465.out hb; replace BK466 := Own.bb BK466.out hb; replace HB := Own.bs hb; (try clear hb); obtain ⟨z27_0, z27_1, z27_2, z27_3, z27_4, z27_5, z27_6, z27_7, z27_8, z27_9, z27_10, z27_11, y27_0, y27_1, y27_2, y27_3, y27_4, y27_5, y27_6, y27_7, y27_8, y27_9, y27_10, y27_11⟩ := Own.box12 BK465.out; obtain ⟨z28_0, z28_1, z28_2, z28_3, z28_4, z28_5, z28_6, z28_7, z28_8, z28_9, z28_10, z28_11, y28_0, y28_1, y28_2, y28_3, y28_4, y28_5, y28_6, y28_7, y28_8, y28_9, y28_10, y28_11⟩ := Own.box12 BK466.out))
  go_ret
  exact ⟨Own.rr, Own.bl⟩
 rw [if_pos c12] at H
 have c12b0 : (a0_11.toList == a1_11.toList) = true := beq_iff_eq.mpr c12
 have c12b1 : (a0_11.toList != a1_11.toList) = false := bne_eq_false_iff_eq.mpr c12
 clear c12
 obtain rfl := Option.some.inj H
 go_wp2_with (first | ((with_reducible refine gate_callee (f := 59) rfl ?_); refine goesL_ (some 39) rfl rfl Tryz.func59 (by kernel_rfl) rfl #[.agg #[.int .i64 a0_6, .string a0_7, .int .i64 a0_8, .slice A0_9 l0_9.length c0_9], .agg #[.int .i64 a1_6, .string a1_7, .int .i64 a1_8, .slice A1_9 l1_9.length c1_9]] rfl Own.ha ?_; (with_reducible refine (laws_eqCondition.calls k a0_6 a0_7 a0_8 _ _ l0_9 a1_6 a1_7 a1_8 _ _ l1_9 true _ ?side1 ?side2 ?side3 ?side4 A9.out).mono ?_); (case side1 => exact Kd.C_below HR0_9.out Own.bl); (case side2 => exact HC0_9.out); (case side3 => exact Kd.C_below HR1_9.out Own.bl); (case side4 => exact HC1_9.out); rintro e w18 ⟨rfl, hb⟩; refine ⟨_, rfl, ?_⟩; replace BK465 := Own.bb BK465.out hb; replace BK466 := Own.bb BK466.out hb; replace HB := Own.bs hb; (try clear hb); obtain ⟨z19_0, z19_1, z19_2, z19_3, z19_4, z19_5, z19_6, z19_7, z19_8, z19_9, z19_10, z19_11, y19_0, y19_1, y19_2, y19_3, y19_4, y19_5, y19_6, y19_7, y19_8, y19_9, y19_10, y19_11⟩ := Own.box12 BK465.out; obtain ⟨z20_0, z20_1, z20_2, z20_3, z20_4, z20_5, z20_6, z20_7, z20_8, z20_9, z20_10, z20_11, y20_0, y20_1, y20_2, y20_3, y20_4, y20_5, y20_6, y20_7, y20_8, y20_9, y20_10, y20_11⟩ := Own.box12 BK466.out))
 go_ret
 exact ⟨Own.rr, Own.bl⟩
end Go.Proofs.YtckopglnblcnoaaGreatDoor.QFnExactRemoveClause
