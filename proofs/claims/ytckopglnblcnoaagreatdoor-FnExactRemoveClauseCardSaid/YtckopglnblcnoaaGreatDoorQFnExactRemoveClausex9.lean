-- Written by a program of this session out of the translation; Lean checks it.
import Derived.Test.YtckopglnblcnoaaGreatDoorQFnExactRemoveClausex7
import Derived.Test.YtckopglnblcnoaaGreatDoorQFnExactRemoveClausex8
namespace Go.Proofs.YtckopglnblcnoaaGreatDoor.QFnExactRemoveClause
open Go.RowKit Go.Proofs.YtckopglnblcnoaaGreatDoorW.PrintWords Go.Proofs.YtckopglnblcnoaaGreatDoorW.PrintLast
attribute [local go_sem] Instr.field asAgg
set_option linter.unusedVariables false
set_option linter.unusedSimpArgs false
/-! ### spec_RemoveClause: function 5 -/
def spec_RemoveClause.f (k : Nat) (l0_0 : List ByteArray) (l0_1 : List (S51)) (a1 : ByteArray) : Option (List ByteArray × (List (S51)) × Bool) := (spec_l6Find.f k l0_0 l0_1 a1).bind fun t271 => ((spec_l6Good.f k l0_0 l0_1).bind fun t272 => (if t272 = true then (if t271 < 0 then (some (([] : List ByteArray), ([] : List (S51)), false)) else (if (l0_1.length : Int) = 1 then (some (([] : List ByteArray), ([] : List (S51)), false)) else ((spec_l6Dependent.f k l0_0 l0_1 t271).bind fun t273 => (if t273 = true then (some (([] : List ByteArray), ([] : List (S51)), false)) else ((spec_l6Own.f k l0_0 l0_1).bind fun bt274 => ((some (([] : List (S51)) : List (S51))).bind fun y281 => (if 0 ≤ t271 then (if t271 ≤ (bt274.2.length : Int) then ((some (bt274.2.take (t271 : Int).toNat : List (S51))).bind fun y284 => (if y281.length + y284.length < 977343669134 then ((some (y281 ++ y284 : List (S51))).bind fun y289 => (if 0 ≤ (wrap64 (t271 + 1)) then (if (wrap64 (t271 + 1)) ≤ (bt274.2.length : Int) then ((some (bt274.2.drop ((wrap64 (t271 + 1)) : Int).toNat : List (S51))).bind fun y292 => (if y289.length + y292.length < 977343669134 then (some (bt274.1, (y289 ++ y292), true)) else (none))) else (none)) else (none))) else (none))) else (none)) else (none)))))))) else (some (([] : List ByteArray), ([] : List (S51)), false))))
def spec_RemoveClause.T5 : Bool × List (List Nat × List Nat) := (true, [([], []), ([], []), ([1], [1]), ([], []), ([2, 3], [2, 3]), ([0, 4], [0, 4]), ([], []), ([6], [6]), ([], []), ([8], [8]), ([7, 9], [7, 9]), ([5, 10, 5], [5, 10]), ([0, 1, 2, 3, 4, 5, 6, 7, 8, 9, 10, 11], []), ([12, 11, 11, 0, 1, 2, 3, 4, 5, 6, 7, 8, 9, 10, 11], [11, 12])])
def spec_RemoveClause.B5 : List Nat := [0, 0, 2, 0, 14, 31, 0, 64, 0, 256, 960, 2047, 4095, 8191]
theorem spec_RemoveClause.tab5 : rtab .any (opsOf Tryz.f5 5) = spec_RemoveClause.T5 := by kernel_rfl
theorem spec_RemoveClause.bits5 : waitsOk spec_RemoveClause.T5.2 spec_RemoveClause.B5 = true := by kernel_rfl
set_option maxHeartbeats 8000000 in
set_option maxRecDepth 100000 in
theorem spec_RemoveClause.calls (k : Nat) (A0_0 : Option Addr) (c0_0 : Nat) (l0_0 : List ByteArray) (A0_1 : Option Addr) (c0_1 : Nat) (l0_1 : List (S51)) (a1 : ByteArray) (r1 : List ByteArray) (r2 : List (S51)) (r3 : Bool) (w : World) (hr0_0 : Kd.C Kd.string w A0_0 l0_0.length l0_0) (hc0_0 : l0_0.length ≤ c0_0) (hr0_1 : Kd.C k51 w A0_1 l0_1.length l0_1) (hc0_1 : l0_1.length ≤ c0_1) (h : spec_RemoveClause.f k l0_0 l0_1 a1 = some (r1, r2, r3)) :
  Calls Tryz.prog 5 #[.agg #[.slice A0_0 l0_0.length c0_0, .slice A0_1 l0_1.length c0_1], .string a1] w fun e w' => ∃ v0_ v1_ : Value, e = .returned (.tuple #[.agg #[v0_, v1_], .bool r3]) ∧ Kd.R Kd.string 9 w' w.heap.size (fun k_ => (w.heap.size ≤ k_)) v0_ r1 ∧ Kd.N k51 51 w' w.heap.size (fun k_ => (w.heap.size ≤ k_) ∧ some k_ ≠ (v0_ : Value).ownBlock) v1_ r2 ∧ Below w.heap.size w w' := by
 have hu29 := Tryz.underlying29
 have HR0_0 := Aside0.mk hr0_0
 have HC0_0 := Aside0.mk hc0_0
 clear hr0_0 hc0_0
 have HR0_1 := Aside0.mk hr0_1
 have HC0_1 := Aside0.mk hc0_1
 clear hr0_1 hc0_1
 have HB := Aside0.mk (Below.refl w.heap.size w)
 have H : ((spec_l6Find.f k l0_0 l0_1 a1).bind fun t271 => ((spec_l6Good.f k l0_0 l0_1).bind fun t272 => (if t272 = true then (if t271 < 0 then (some (([] : List ByteArray), ([] : List (S51)), false)) else (if (l0_1.length : Int) = 1 then (some (([] : List ByteArray), ([] : List (S51)), false)) else ((spec_l6Dependent.f k l0_0 l0_1 t271).bind fun t273 => (if t273 = true then (some (([] : List ByteArray), ([] : List (S51)), false)) else ((spec_l6Own.f k l0_0 l0_1).bind fun bt274 => ((some (([] : List (S51)) : List (S51))).bind fun y281 => (if 0 ≤ t271 then (if t271 ≤ (bt274.2.length : Int) then ((some (bt274.2.take (t271 : Int).toNat : List (S51))).bind fun y284 => (if y281.length + y284.length < 977343669134 then ((some (y281 ++ y284 : List (S51))).bind fun y289 => (if 0 ≤ (wrap64 (t271 + 1)) then (if (wrap64 (t271 + 1)) ≤ (bt274.2.length : Int) then ((some (bt274.2.drop ((wrap64 (t271 + 1)) : Int).toNat : List (S51))).bind fun y292 => (if y289.length + y292.length < 977343669134 then (some (bt274.1, (y289 ++ y292), true)) else (none))) else (none)) else (none))) else (none))) else (none)) else (none)))))))) else (some (([] : List ByteArray), ([] : List (S51)), false))))) = some (r1, r2, r3) := h
 clear h
 replace H := Own.bd H; obtain ⟨t271, A3, H⟩ := H
 replace H := Own.bd H; obtain ⟨t272, A4, H⟩ := H
 replace H := Own.ift H; obtain ⟨rfl, H⟩ | ⟨rfl, H⟩ := H
 ·
  simp only [Option.some.injEq, Prod.mk.injEq] at H
  obtain ⟨rfl, rfl, rfl⟩ := H
  go_enter Tryz.func5, Tryz.ntmps5
  go_wp2_with (first | ((with_reducible refine gate_dst (N := 2) rfl ?_); (try (refine gate_guard (by rfl) ?_; dsimp only)); refine Own.be (N := 2) (cs := #[.slice A0_0 l0_0.length c0_0, .slice A0_1 l0_1.length c0_1]) (t := 29) ?_; intro gb269 hg w74 hbox hb; have BK269 := Aside0.mk hbox; have GW269 := (Own.gs hg : Aside0 (w.heap.size ≤ gb269)); have GE269 := GW269; replace HB := Own.bs hb; clear hb hbox hg) | ((with_reducible refine gate_dst (N := 4) rfl ?_); (try (refine gate_guard (by rfl) ?_; dsimp only)); refine Own.be (N := 4) (cs := #[.slice none 0 0, .slice none 0 0]) (t := 29) ?_; intro gb270 hg w75 hbox hb; have BK270 := Aside0.mk hbox; have GW270 := (Own.gs hg : Aside0 (w.heap.size ≤ gb270)); have GE270 := GW270; have NB269_270 := Own.nl hg BK269.out; have NB270_269 := Aside0.mk NB269_270.out.symm; replace BK269 := Own.bb BK269.out hb; replace HB := Own.bs hb; clear hb hbox hg; have hnb76 := NB269_270.out; have hnc76 := NB270_269.out; obtain ⟨z77_0, z77_1, y77_0, y77_1⟩ := Own.box2 BK269.out) | ((with_reducible refine gate_callee (f := 13) rfl ?_); refine goesL_ (some 10) rfl rfl Tryz.func13 (by kernel_rfl) rfl #[.agg #[.slice A0_0 l0_0.length c0_0, .slice A0_1 l0_1.length c0_1], .string a1] rfl Own.ha ?_; (with_reducible refine (spec_l6Find.calls k _ _ l0_0 _ _ l0_1 a1 t271 _ ?side1 ?side2 ?side3 ?side4 A3.out).mono ?_); (case side1 => exact Kd.C_below HR0_0.out Own.bl); (case side2 => exact HC0_0.out); (case side3 => exact Kd.C_below HR0_1.out Own.bl); (case side4 => exact HC0_1.out); rintro e w78 ⟨rfl, hb⟩; refine ⟨_, rfl, ?_⟩; replace BK269 := Own.bb BK269.out hb; replace BK270 := Own.bb BK270.out hb; replace HB := Own.bs hb; (try clear hb); obtain ⟨z79_0, z79_1, y79_0, y79_1⟩ := Own.box2 BK269.out) | ((with_reducible refine gate_callee (f := 14) rfl ?_); refine goesL_ (some 12) rfl rfl Tryz.func14 (by kernel_rfl) rfl #[.agg #[.slice A0_0 l0_0.length c0_0, .slice A0_1 l0_1.length c0_1]] rfl Own.ha ?_; (with_reducible refine (spec_l6Good.calls k _ _ l0_0 _ _ l0_1 false _ ?side1 ?side2 ?side3 ?side4 A4.out).mono ?_); (case side1 => exact Kd.C_below HR0_0.out Own.bl); (case side2 => exact HC0_0.out); (case side3 => exact Kd.C_below HR0_1.out Own.bl); (case side4 => exact HC0_1.out); rintro e w80 ⟨rfl, hb⟩; refine ⟨_, rfl, ?_⟩; replace BK269 := Own.bb BK269.out hb; replace BK270 := Own.bb BK270.out hb; replace HB := Own.bs hb; (try clear hb); obtain ⟨z81_0, z81_1, y81_0, y81_1⟩ := Own.box2 BK270.out))
  refine bodyPost_ret (results_ct rfl _ _ gb270 29 #[.slice none 0 0, .slice none 0 0] (0, 0) _ rfl (by (with_reducible repeat (first | refine blk_drewN ?_ _ | refine blk_drew ?_ | refine blk_alloc ?_ _)); with_reducible exact Own.put2 BK270.out) Tryz.underlying29 rfl (by kernel_rfl)) rfl ?_
  exact ⟨_, _, Own.rr, by first | exact Kd.R_nil _ _ _ _ _ | exact Kd.N_nil _ _ _ _ _ | exact Kd.V_nil _ _ _ _ _ | exact Kd.Q_nil _ _ _ _ _ | exact Kd.S_nil _ _ _ _ _, by first | exact Kd.R_nil _ _ _ _ _ | exact Kd.N_nil _ _ _ _ _ | exact Kd.V_nil _ _ _ _ _ | exact Kd.Q_nil _ _ _ _ _ | exact Kd.S_nil _ _ _ _ _, Own.bl⟩
 by_cases c6 : t271 < 0
 ·
  rw [if_pos c6] at H; replace c6 := decide_eq_true c6
  simp only [Option.some.injEq, Prod.mk.injEq] at H
  obtain ⟨rfl, rfl, rfl⟩ := H
  go_enter Tryz.func5, Tryz.ntmps5
  go_wp2_with (first | ((with_reducible refine gate_dst (N := 2) rfl ?_); (try (refine gate_guard (by rfl) ?_; dsimp only)); refine Own.be (N := 2) (cs := #[.slice A0_0 l0_0.length c0_0, .slice A0_1 l0_1.length c0_1]) (t := 29) ?_; intro gb269 hg w7 hbox hb; have BK269 := Aside0.mk hbox; have GW269 := (Own.gs hg : Aside0 (w.heap.size ≤ gb269)); have GE269 := GW269; replace HB := Own.bs hb; clear hb hbox hg) | ((with_reducible refine gate_dst (N := 4) rfl ?_); (try (refine gate_guard (by rfl) ?_; dsimp only)); refine Own.be (N := 4) (cs := #[.slice none 0 0, .slice none 0 0]) (t := 29) ?_; intro gb270 hg w8 hbox hb; have BK270 := Aside0.mk hbox; have GW270 := (Own.gs hg : Aside0 (w.heap.size ≤ gb270)); have GE270 := GW270; have NB269_270 := Own.nl hg BK269.out; have NB270_269 := Aside0.mk NB269_270.out.symm; replace BK269 := Own.bb BK269.out hb; replace HB := Own.bs hb; clear hb hbox hg; have hnb9 := NB269_270.out; have hnc9 := NB270_269.out; obtain ⟨z10_0, z10_1, y10_0, y10_1⟩ := Own.box2 BK269.out) | ((with_reducible refine gate_callee (f := 13) rfl ?_); refine goesL_ (some 10) rfl rfl Tryz.func13 (by kernel_rfl) rfl #[.agg #[.slice A0_0 l0_0.length c0_0, .slice A0_1 l0_1.length c0_1], .string a1] rfl Own.ha ?_; (with_reducible refine (spec_l6Find.calls k _ _ l0_0 _ _ l0_1 a1 t271 _ ?side1 ?side2 ?side3 ?side4 A3.out).mono ?_); (case side1 => exact Kd.C_below HR0_0.out Own.bl); (case side2 => exact HC0_0.out); (case side3 => exact Kd.C_below HR0_1.out Own.bl); (case side4 => exact HC0_1.out); rintro e w11 ⟨rfl, hb⟩; refine ⟨_, rfl, ?_⟩; replace BK269 := Own.bb BK269.out hb; replace BK270 := Own.bb BK270.out hb; replace HB := Own.bs hb; (try clear hb); obtain ⟨z12_0, z12_1, y12_0, y12_1⟩ := Own.box2 BK269.out) | ((with_reducible refine gate_callee (f := 14) rfl ?_); refine goesL_ (some 12) rfl rfl Tryz.func14 (by kernel_rfl) rfl #[.agg #[.slice A0_0 l0_0.length c0_0, .slice A0_1 l0_1.length c0_1]] rfl Own.ha ?_; (with_reducible refine (spec_l6Good.calls k _ _ l0_0 _ _ l0_1 true _ ?side1 ?side2 ?side3 ?side4 A4.out).mono ?_); (case side1 => exact Kd.C_below HR0_0.out Own.bl); (case side2 => exact HC0_0.out); (case side3 => exact Kd.C_below HR0_1.out Own.bl); (case side4 => exact HC0_1.out); rintro e w13 ⟨rfl, hb⟩; refine ⟨_, rfl, ?_⟩; replace BK269 := Own.bb BK269.out hb; replace BK270 := Own.bb BK270.out hb; replace HB := Own.bs hb; (try clear hb); obtain ⟨z14_0, z14_1, y14_0, y14_1⟩ := Own.box2 BK270.out))
  refine bodyPost_ret (results_ct rfl _ _ gb270 29 #[.slice none 0 0, .slice none 0 0] (0, 0) _ rfl (by (with_reducible repeat (first | refine blk_drewN ?_ _ | refine blk_drew ?_ | refine blk_alloc ?_ _)); with_reducible exact Own.put2 BK270.out) Tryz.underlying29 rfl (by kernel_rfl)) rfl ?_
  exact ⟨_, _, Own.rr, by first | exact Kd.R_nil _ _ _ _ _ | exact Kd.N_nil _ _ _ _ _ | exact Kd.V_nil _ _ _ _ _ | exact Kd.Q_nil _ _ _ _ _ | exact Kd.S_nil _ _ _ _ _, by first | exact Kd.R_nil _ _ _ _ _ | exact Kd.N_nil _ _ _ _ _ | exact Kd.V_nil _ _ _ _ _ | exact Kd.Q_nil _ _ _ _ _ | exact Kd.S_nil _ _ _ _ _, Own.bl⟩
 rw [if_neg c6] at H
 replace c6 := decide_eq_false c6
 by_cases c15 : (l0_1.length : Int) = 1
 ·
  rw [if_pos c15] at H
  have c15b0 : ((l0_1.length : Int) == 1) = true := beq_iff_eq.mpr c15
  have c15b1 : ((l0_1.length : Int) != 1) = false := bne_eq_false_iff_eq.mpr c15
  clear c15
  simp only [Option.some.injEq, Prod.mk.injEq] at H
  obtain ⟨rfl, rfl, rfl⟩ := H
  go_enter Tryz.func5, Tryz.ntmps5
  go_wp2_with (first | ((with_reducible refine gate_dst (N := 2) rfl ?_); (try (refine gate_guard (by rfl) ?_; dsimp only)); refine Own.be (N := 2) (cs := #[.slice A0_0 l0_0.length c0_0, .slice A0_1 l0_1.length c0_1]) (t := 29) ?_; intro gb269 hg w16 hbox hb; have BK269 := Aside0.mk hbox; have GW269 := (Own.gs hg : Aside0 (w.heap.size ≤ gb269)); have GE269 := GW269; replace HB := Own.bs hb; clear hb hbox hg) | ((with_reducible refine gate_dst (N := 4) rfl ?_); (try (refine gate_guard (by rfl) ?_; dsimp only)); refine Own.be (N := 4) (cs := #[.slice none 0 0, .slice none 0 0]) (t := 29) ?_; intro gb270 hg w17 hbox hb; have BK270 := Aside0.mk hbox; have GW270 := (Own.gs hg : Aside0 (w.heap.size ≤ gb270)); have GE270 := GW270; have NB269_270 := Own.nl hg BK269.out; have NB270_269 := Aside0.mk NB269_270.out.symm; replace BK269 := Own.bb BK269.out hb; replace HB := Own.bs hb; clear hb hbox hg; have hnb18 := NB269_270.out; have hnc18 := NB270_269.out; obtain ⟨z19_0, z19_1, y19_0, y19_1⟩ := Own.box2 BK269.out) | ((with_reducible refine gate_callee (f := 13) rfl ?_); refine goesL_ (some 10) rfl rfl Tryz.func13 (by kernel_rfl) rfl #[.agg #[.slice A0_0 l0_0.length c0_0, .slice A0_1 l0_1.length c0_1], .string a1] rfl Own.ha ?_; (with_reducible refine (spec_l6Find.calls k _ _ l0_0 _ _ l0_1 a1 t271 _ ?side1 ?side2 ?side3 ?side4 A3.out).mono ?_); (case side1 => exact Kd.C_below HR0_0.out Own.bl); (case side2 => exact HC0_0.out); (case side3 => exact Kd.C_below HR0_1.out Own.bl); (case side4 => exact HC0_1.out); rintro e w20 ⟨rfl, hb⟩; refine ⟨_, rfl, ?_⟩; replace BK269 := Own.bb BK269.out hb; replace BK270 := Own.bb BK270.out hb; replace HB := Own.bs hb; (try clear hb); obtain ⟨z21_0, z21_1, y21_0, y21_1⟩ := Own.box2 BK269.out) | ((with_reducible refine gate_callee (f := 14) rfl ?_); refine goesL_ (some 12) rfl rfl Tryz.func14 (by kernel_rfl) rfl #[.agg #[.slice A0_0 l0_0.length c0_0, .slice A0_1 l0_1.length c0_1]] rfl Own.ha ?_; (with_reducible refine (spec_l6Good.calls k _ _ l0_0 _ _ l0_1 true _ ?side1 ?side2 ?side3 ?side4 A4.out).mono ?_); (case side1 => exact Kd.C_below HR0_0.out Own.bl); (case side2 => exact HC0_0.out); (case side3 => exact Kd.C_below HR0_1.out Own.bl); (case side4 => exact HC0_1.out); rintro e w22 ⟨rfl, hb⟩; refine ⟨_, rfl, ?_⟩; replace BK269 := Own.bb BK269.out hb; replace BK270 := Own.bb BK270.out hb; replace HB := Own.bs hb; (try clear hb); obtain ⟨z23_0, z23_1, y23_0, y23_1⟩ := Own.box2 BK269.out; obtain ⟨z24_0, z24_1, y24_0, y24_1⟩ := Own.box2 BK270.out))
  refine bodyPost_ret (results_ct rfl _ _ gb270 29 #[.slice none 0 0, .slice none 0 0] (0, 0) _ rfl (by (with_reducible repeat (first | refine blk_drewN ?_ _ | refine blk_drew ?_ | refine blk_alloc ?_ _)); with_reducible exact Own.put2 BK270.out) Tryz.underlying29 rfl (by kernel_rfl)) rfl ?_
  exact ⟨_, _, Own.rr, by first | exact Kd.R_nil _ _ _ _ _ | exact Kd.N_nil _ _ _ _ _ | exact Kd.V_nil _ _ _ _ _ | exact Kd.Q_nil _ _ _ _ _ | exact Kd.S_nil _ _ _ _ _, by first | exact Kd.R_nil _ _ _ _ _ | exact Kd.N_nil _ _ _ _ _ | exact Kd.V_nil _ _ _ _ _ | exact Kd.Q_nil _ _ _ _ _ | exact Kd.S_nil _ _ _ _ _, Own.bl⟩
 rw [if_neg c15] at H
 have c15b0 : ((l0_1.length : Int) == 1) = false := beq_eq_false_iff_ne.mpr c15
 have c15b1 : ((l0_1.length : Int) != 1) = true := bne_iff_ne.mpr c15
 replace H := Own.bd H; obtain ⟨t273, A25, H⟩ := H
 replace H := Own.ifu H; obtain ⟨rfl, H⟩ | ⟨rfl, H⟩ := H
 ·
  simp only [Option.some.injEq, Prod.mk.injEq] at H
  obtain ⟨rfl, rfl, rfl⟩ := H
  go_enter Tryz.func5, Tryz.ntmps5
  go_wp2_with (first | ((with_reducible refine gate_dst (N := 2) rfl ?_); (try (refine gate_guard (by rfl) ?_; dsimp only)); refine Own.be (N := 2) (cs := #[.slice A0_0 l0_0.length c0_0, .slice A0_1 l0_1.length c0_1]) (t := 29) ?_; intro gb269 hg w27 hbox hb; have BK269 := Aside0.mk hbox; have GW269 := (Own.gs hg : Aside0 (w.heap.size ≤ gb269)); have GE269 := GW269; replace HB := Own.bs hb; clear hb hbox hg) | ((with_reducible refine gate_dst (N := 4) rfl ?_); (try (refine gate_guard (by rfl) ?_; dsimp only)); refine Own.be (N := 4) (cs := #[.slice none 0 0, .slice none 0 0]) (t := 29) ?_; intro gb270 hg w28 hbox hb; have BK270 := Aside0.mk hbox; have GW270 := (Own.gs hg : Aside0 (w.heap.size ≤ gb270)); have GE270 := GW270; have NB269_270 := Own.nl hg BK269.out; have NB270_269 := Aside0.mk NB269_270.out.symm; replace BK269 := Own.bb BK269.out hb; replace HB := Own.bs hb; clear hb hbox hg; have hnb29 := NB269_270.out; have hnc29 := NB270_269.out; obtain ⟨z30_0, z30_1, y30_0, y30_1⟩ := Own.box2 BK269.out) | ((with_reducible refine gate_callee (f := 13) rfl ?_); refine goesL_ (some 10) rfl rfl Tryz.func13 (by kernel_rfl) rfl #[.agg #[.slice A0_0 l0_0.length c0_0, .slice A0_1 l0_1.length c0_1], .string a1] rfl Own.ha ?_; (with_reducible refine (spec_l6Find.calls k _ _ l0_0 _ _ l0_1 a1 t271 _ ?side1 ?side2 ?side3 ?side4 A3.out).mono ?_); (case side1 => exact Kd.C_below HR0_0.out Own.bl); (case side2 => exact HC0_0.out); (case side3 => exact Kd.C_below HR0_1.out Own.bl); (case side4 => exact HC0_1.out); rintro e w31 ⟨rfl, hb⟩; refine ⟨_, rfl, ?_⟩; replace BK269 := Own.bb BK269.out hb; replace BK270 := Own.bb BK270.out hb; replace HB := Own.bs hb; (try clear hb); obtain ⟨z32_0, z32_1, y32_0, y32_1⟩ := Own.box2 BK269.out) | ((with_reducible refine gate_callee (f := 14) rfl ?_); refine goesL_ (some 12) rfl rfl Tryz.func14 (by kernel_rfl) rfl #[.agg #[.slice A0_0 l0_0.length c0_0, .slice A0_1 l0_1.length c0_1]] rfl Own.ha ?_; (with_reducible refine (spec_l6Good.calls k _ _ l0_0 _ _ l0_1 true _ ?side1 ?side2 ?side3 ?side4 A4.out).mono ?_); (case side1 => exact Kd.C_below HR0_0.out Own.bl); (case side2 => exact HC0_0.out); (case side3 => exact Kd.C_below HR0_1.out Own.bl); (case side4 => exact HC0_1.out); rintro e w33 ⟨rfl, hb⟩; refine ⟨_, rfl, ?_⟩; replace BK269 := Own.bb BK269.out hb; replace BK270 := Own.bb BK270.out hb; replace HB := Own.bs hb; (try clear hb); obtain ⟨z34_0, z34_1, y34_0, y34_1⟩ := Own.box2 BK269.out) | (go_at_call 15; (with_reducible refine (spec_l6Dependent.calls k _ _ l0_0 _ _ l0_1 t271 true _ ?side1 ?side2 ?side3 ?side4 A25.out).mono ?_); (case side1 => exact Kd.C_below HR0_0.out Own.bl); (case side2 => exact HC0_0.out); (case side3 => exact Kd.C_below HR0_1.out Own.bl); (case side4 => exact HC0_1.out); rintro e w35 ⟨rfl, hb⟩; replace BK269 := Own.bb BK269.out hb; replace BK270 := Own.bb BK270.out hb; replace HB := Own.bs hb; (try clear hb); obtain ⟨z36_0, z36_1, y36_0, y36_1⟩ := Own.box2 BK270.out))
  refine bodyPost_ret (results_ct rfl _ _ gb270 29 #[.slice none 0 0, .slice none 0 0] (0, 0) _ rfl (by (with_reducible repeat (first | refine blk_drewN ?_ _ | refine blk_drew ?_ | refine blk_alloc ?_ _)); with_reducible exact Own.put2 BK270.out) Tryz.underlying29 rfl (by kernel_rfl)) rfl ?_
  exact ⟨_, _, Own.rr, by first | exact Kd.R_nil _ _ _ _ _ | exact Kd.N_nil _ _ _ _ _ | exact Kd.V_nil _ _ _ _ _ | exact Kd.Q_nil _ _ _ _ _ | exact Kd.S_nil _ _ _ _ _, by first | exact Kd.R_nil _ _ _ _ _ | exact Kd.N_nil _ _ _ _ _ | exact Kd.V_nil _ _ _ _ _ | exact Kd.Q_nil _ _ _ _ _ | exact Kd.S_nil _ _ _ _ _, Own.bl⟩
 replace H := Option.bind_eq_some_iff.mp H
 obtain ⟨⟨t274, t277⟩, A370, H⟩ := H
 replace H : ((some (([] : List (S51)) : List (S51))).bind fun y281 => (if 0 ≤ t271 then (if t271 ≤ (t277.length : Int) then ((some (t277.take (t271 : Int).toNat : List (S51))).bind fun y284 => (if y281.length + y284.length < 977343669134 then ((some (y281 ++ y284 : List (S51))).bind fun y289 => (if 0 ≤ (wrap64 (t271 + 1)) then (if (wrap64 (t271 + 1)) ≤ (t277.length : Int) then ((some (t277.drop ((wrap64 (t271 + 1)) : Int).toNat : List (S51))).bind fun y292 => (if y289.length + y292.length < 977343669134 then (some (t274, (y289 ++ y292), true)) else (none))) else (none)) else (none))) else (none))) else (none)) else (none))) = some (r1, r2, r3) := H
 have A37 := Aside0.mk A370
 clear A370
 obtain ⟨y281, hy281⟩ : ∃ y_ : List (S51), y_ = (([] : List (S51))) := ⟨_, rfl⟩
 replace H : (if 0 ≤ t271 then (if t271 ≤ (t277.length : Int) then ((some (t277.take (t271 : Int).toNat : List (S51))).bind fun y284 => (if y281.length + y284.length < 977343669134 then ((some (y281 ++ y284 : List (S51))).bind fun y289 => (if 0 ≤ (wrap64 (t271 + 1)) then (if (wrap64 (t271 + 1)) ≤ (t277.length : Int) then ((some (t277.drop ((wrap64 (t271 + 1)) : Int).toNat : List (S51))).bind fun y292 => (if y289.length + y292.length < 977343669134 then (some (t274, (y289 ++ y292), true)) else (none))) else (none)) else (none))) else (none))) else (none)) else (none)) = some (r1, r2, r3) := by first | (rw [hy281]; with_reducible exact H) | (have H2_ := (Option.bind_some _ _).symm.trans H; rw [hy281]; with_reducible exact H2_) | (have H2_ := (Option.bind_some _ _).symm.trans H; with_reducible exact H2_) | with_reducible exact H | (rw [hy281]; exact H) | exact H
 have Ny281 := Aside0.mk hy281
 clear hy281
 replace H := Own.ifn H; obtain ⟨c38, H⟩ := H
 have c38b0 := eq_true c38
 have c38b1 : decide (0 ≤ t271) = true := decide_eq_true c38
 clear c38
 replace H := Own.ifn H; obtain ⟨c39, H⟩ := H
 have c39b0 := eq_true c39
 have c39b1 : decide (t271 ≤ (t277.length : Int)) = true := decide_eq_true c39
 clear c39
 obtain ⟨y284, hy284⟩ : ∃ y_ : List (S51), y_ = (t277.take (t271 : Int).toNat) := ⟨_, rfl⟩
 replace H : (if y281.length + y284.length < 977343669134 then ((some (y281 ++ y284 : List (S51))).bind fun y289 => (if 0 ≤ (wrap64 (t271 + 1)) then (if (wrap64 (t271 + 1)) ≤ (t277.length : Int) then ((some (t277.drop ((wrap64 (t271 + 1)) : Int).toNat : List (S51))).bind fun y292 => (if y289.length + y292.length < 977343669134 then (some (t274, (y289 ++ y292), true)) else (none))) else (none)) else (none))) else (none)) = some (r1, r2, r3) := by first | (rw [hy284]; with_reducible exact H) | (have H2_ := (Option.bind_some _ _).symm.trans H; rw [hy284]; with_reducible exact H2_) | (have H2_ := (Option.bind_some _ _).symm.trans H; with_reducible exact H2_) | with_reducible exact H | (rw [hy284]; exact H) | exact H
 have Ny284 := Aside0.mk hy284
 clear hy284
 replace H := Own.ifn H; obtain ⟨c40, H⟩ := H
 have LMc40 := Aside0.mk c40
 clear c40
 obtain ⟨y289, hy289⟩ : ∃ y_ : List (S51), y_ = (y281 ++ y284) := ⟨_, rfl⟩
 replace H : (if 0 ≤ (wrap64 (t271 + 1)) then (if (wrap64 (t271 + 1)) ≤ (t277.length : Int) then ((some (t277.drop ((wrap64 (t271 + 1)) : Int).toNat : List (S51))).bind fun y292 => (if y289.length + y292.length < 977343669134 then (some (t274, (y289 ++ y292), true)) else (none))) else (none)) else (none)) = some (r1, r2, r3) := by first | (rw [hy289]; with_reducible exact H) | (have H2_ := (Option.bind_some _ _).symm.trans H; rw [hy289]; with_reducible exact H2_) | (have H2_ := (Option.bind_some _ _).symm.trans H; with_reducible exact H2_) | with_reducible exact H | (rw [hy289]; exact H) | exact H
 have Ny289 := Aside0.mk hy289
 clear hy289
 obtain ⟨ji41, hji41⟩ : ∃ j_ : Int, (wrap64 (t271 + 1)) = j_ := ⟨_, rfl⟩
 replace H : (if 0 ≤ (ji41) then (if (ji41) ≤ (t277.length : Int) then ((some (t277.drop ((ji41) : Int).toNat : List (S51))).bind fun y292 => (if y289.length + y292.length < 977343669134 then (some (t274, (y289 ++ y292), true)) else (none))) else (none)) else (none)) = some (r1, r2, r3) := by first | (rw [hji41] at H; exact H) | (simp only [hji41] at H ⊢; exact H)
 (try rw [hji41] at A3)
 (try rw [hji41] at A4)
 (try rw [hji41] at A25)
 (try rw [hji41] at A37)
 have hji41w : (IntKind.i64.wrap (t271 + 1)) = ji41 := (i64_w _).trans hji41
 replace H := Own.ifn H; obtain ⟨c42, H⟩ := H
 have c42b0 := eq_true c42
 have c42b1 : decide (0 ≤ (ji41)) = true := decide_eq_true c42
 clear c42
 replace H := Own.ifn H; obtain ⟨c43, H⟩ := H
 have c43b0 := eq_true c43
 have c43b1 : decide ((ji41) ≤ (t277.length : Int)) = true := decide_eq_true c43
 clear c43
 obtain ⟨y292, hy292⟩ : ∃ y_ : List (S51), y_ = (t277.drop ((ji41) : Int).toNat) := ⟨_, rfl⟩
 replace H : (if y289.length + y292.length < 977343669134 then (some (t274, (y289 ++ y292), true)) else (none)) = some (r1, r2, r3) := by first | (rw [hy292]; with_reducible exact H) | (have H2_ := (Option.bind_some _ _).symm.trans H; rw [hy292]; with_reducible exact H2_) | (have H2_ := (Option.bind_some _ _).symm.trans H; with_reducible exact H2_) | with_reducible exact H | (rw [hy292]; exact H) | exact H
 have Ny292 := Aside0.mk hy292
 clear hy292
 replace H := Own.ifn H; obtain ⟨c44, H⟩ := H
 have LMc44 := Aside0.mk c44
 clear c44
 obtain ⟨y297, hy297⟩ : ∃ y_ : List (S51), y_ = (y289 ++ y292) := ⟨_, rfl⟩
 replace H : (some (t274, y297, true)) = some (r1, r2, r3) := by first | (rw [hy297]; with_reducible exact H) | (have H2_ := (Option.bind_some _ _).symm.trans H; rw [hy297]; with_reducible exact H2_) | (have H2_ := (Option.bind_some _ _).symm.trans H; with_reducible exact H2_) | with_reducible exact H | (rw [hy297]; exact H) | exact H
 have Ny297 := Aside0.mk hy297
 clear hy297
 simp only [Option.some.injEq, Prod.mk.injEq] at H
 obtain ⟨rfl, rfl, rfl⟩ := H
 go_enter Tryz.func5, Tryz.ntmps5
 try go_wp2_with (first | ((with_reducible refine gate_dst (N := 2) rfl ?_); (try (refine gate_guard (by rfl) ?_; dsimp only)); refine Own.be (N := 2) (cs := #[.slice A0_0 l0_0.length c0_0, .slice A0_1 l0_1.length c0_1]) (t := 29) ?_; intro gb269 hg w45 hbox hb; have BK269 := Aside0.mk hbox; have GW269 := (Own.gs hg : Aside0 (w.heap.size ≤ gb269)); have GE269 := GW269; replace HB := Own.bs hb; clear hb hbox hg) | ((with_reducible refine gate_dst (N := 4) rfl ?_); (try (refine gate_guard (by rfl) ?_; dsimp only)); refine Own.be (N := 4) (cs := #[.slice none 0 0, .slice none 0 0]) (t := 29) ?_; intro gb270 hg w46 hbox hb; have BK270 := Aside0.mk hbox; have GW270 := (Own.gs hg : Aside0 (w.heap.size ≤ gb270)); have GE270 := GW270; have NB269_270 := Own.nl hg BK269.out; have NB270_269 := Aside0.mk NB269_270.out.symm; replace BK269 := Own.bb BK269.out hb; replace HB := Own.bs hb; clear hb hbox hg; have hnb47 := NB269_270.out; have hnc47 := NB270_269.out; obtain ⟨z48_0, z48_1, y48_0, y48_1⟩ := Own.box2 BK269.out) | ((with_reducible refine gate_callee (f := 13) rfl ?_); refine goesL_ (some 10) rfl rfl Tryz.func13 (by kernel_rfl) rfl #[.agg #[.slice A0_0 l0_0.length c0_0, .slice A0_1 l0_1.length c0_1], .string a1] rfl Own.ha ?_; (with_reducible refine (spec_l6Find.calls k _ _ l0_0 _ _ l0_1 a1 t271 _ ?side1 ?side2 ?side3 ?side4 A3.out).mono ?_); (case side1 => exact Kd.C_below HR0_0.out Own.bl); (case side2 => exact HC0_0.out); (case side3 => exact Kd.C_below HR0_1.out Own.bl); (case side4 => exact HC0_1.out); rintro e w49 ⟨rfl, hb⟩; refine ⟨_, rfl, ?_⟩; replace BK269 := Own.bb BK269.out hb; replace BK270 := Own.bb BK270.out hb; replace HB := Own.bs hb; (try clear hb); obtain ⟨z50_0, z50_1, y50_0, y50_1⟩ := Own.box2 BK269.out) | ((with_reducible refine gate_callee (f := 14) rfl ?_); refine goesL_ (some 12) rfl rfl Tryz.func14 (by kernel_rfl) rfl #[.agg #[.slice A0_0 l0_0.length c0_0, .slice A0_1 l0_1.length c0_1]] rfl Own.ha ?_; (with_reducible refine (spec_l6Good.calls k _ _ l0_0 _ _ l0_1 true _ ?side1 ?side2 ?side3 ?side4 A4.out).mono ?_); (case side1 => exact Kd.C_below HR0_0.out Own.bl); (case side2 => exact HC0_0.out); (case side3 => exact Kd.C_below HR0_1.out Own.bl); (case side4 => exact HC0_1.out); rintro e w51 ⟨rfl, hb⟩; refine ⟨_, rfl, ?_⟩; replace BK269 := Own.bb BK269.out hb; replace BK270 := Own.bb BK270.out hb; replace HB := Own.bs hb; (try clear hb); obtain ⟨z52_0, z52_1, y52_0, y52_1⟩ := Own.box2 BK269.out) | (go_at_call 15; (with_reducible refine (spec_l6Dependent.calls k _ _ l0_0 _ _ l0_1 t271 false _ ?side1 ?side2 ?side3 ?side4 A25.out).mono ?_); (case side1 => exact Kd.C_below HR0_0.out Own.bl); (case side2 => exact HC0_0.out); (case side3 => exact Kd.C_below HR0_1.out Own.bl); (case side4 => exact HC0_1.out); rintro e w53 ⟨rfl, hb⟩; replace BK269 := Own.bb BK269.out hb; replace BK270 := Own.bb BK270.out hb; replace HB := Own.bs hb; (try clear hb); obtain ⟨z54_0, z54_1, y54_0, y54_1⟩ := Own.box2 BK269.out) | ((with_reducible refine gate_callee (f := 16) rfl ?_); refine goesL_ (some 31) rfl rfl Tryz.func16 (by kernel_rfl) rfl #[.agg #[.slice A0_0 l0_0.length c0_0, .slice A0_1 l0_1.length c0_1]] rfl Own.ha ?_; (with_reducible refine (spec_l6Own.calls k _ _ l0_0 _ _ l0_1 t274 t277 _ ?side1 ?side2 ?side3 ?side4 A37.out).mono ?_); (case side1 => exact Kd.C_below HR0_0.out Own.bl); (case side2 => exact HC0_0.out); (case side3 => exact Kd.C_below HR0_1.out Own.bl); (case side4 => exact HC0_1.out); rintro e w55 ⟨v275, v278, rfl, ho0, ho1, hb⟩; refine ⟨_, rfl, ?_⟩; have HO276 := Aside0.mk (Kd.R_lower (Kd.R_newM (M := fun k_ => (w.heap.size ≤ k_)) ho0 (below_size Own.bl) (fun k_ h_ => h_)) (below_size Own.bl)); have HO279 := Aside0.mk (Kd.N_lower (Kd.N_mono (ok' := fun k_ => (w.heap.size ≤ k_) ∧ some k_ ≠ (v275 : Value).ownBlock ∧ k_ ≠ gb269 ∧ k_ ≠ gb270) (Kd.R_N (Kd.R_bound (Kd.R_apart' ho1 (Kd.R_typed ho0) (by decide)))) (fun k_ hk_ => ⟨(Nat.le_trans (below_size Own.bl) hk_.2.1), hk_.1.2, (Kd.freshB (Own.bkf BK269.out) k_ hk_.2.1), (Kd.freshB (Own.bkf BK270.out) k_ hk_.2.1)⟩)) (below_size Own.bl)); replace BK269 := Own.bb BK269.out hb; replace BK270 := Own.bb BK270.out hb; replace HB := Own.bs hb; (try clear hb); (try clear ho0); (try clear ho1)) | ((with_reducible refine gate_dst (N := 7) rfl ?_); (try (refine gate_guard (by rfl) ?_; dsimp only)); refine Own.be (N := 7) (cs := #[.slice none 0 0, .slice none 0 0]) (t := 29) ?_; intro gb280 hg w56 hbox hb; have BK280 := Aside0.mk hbox; have GW280 := (Own.gs hg : Aside0 (w.heap.size ≤ gb280)); have GE280 := GW280; have NB269_280 := Own.nl hg BK269.out; have NB280_269 := Aside0.mk NB269_280.out.symm; have NB270_280 := Own.nl hg BK270.out; have NB280_270 := Aside0.mk NB270_280.out.symm; replace HO276 := Aside0.mk (Kd.R_below (Own.rd HO276.out) hb); replace HO279 := Aside0.mk (Kd.N_below (Kd.N_elderB (by (with_reducible repeat (first | apply Kd.N_alloc | apply Kd.N_drewN | apply Kd.N_drew)); exact HO279.out) gb280 (Nat.le_of_eq hg.symm)) hb); replace BK269 := Own.bb BK269.out hb; replace BK270 := Own.bb BK270.out hb; replace HB := Own.bs hb; clear hb hbox hg; obtain ⟨Ao57, co57, eo57⟩ := Kd.R_slice HO276.out; subst eo57; have hnb58 := NB280_269.out; have hnc58 := NB269_280.out; have hnb59 := NB280_270.out; have hnc59 := NB270_280.out; obtain ⟨z60_0, z60_1, y60_0, y60_1⟩ := Own.box2 BK280.out; obtain ⟨Ao61, co61, eo61⟩ := Kd.N_slice HO279.out; subst eo61))
 have n0_ : Aside0 (Kd.R Kd.string 9 ((w56.setCell ⟨gb280, 0, none⟩ (.slice Ao57 t274.length co57)).setCell ⟨gb280, 1, none⟩ (.slice Ao61 t277.length co61)) w.heap.size (fun k_ => (w.heap.size ≤ k_)) (.slice Ao57 t274.length co57) t274) := ⟨by (with_reducible repeat (first | apply Kd.R_alloc | apply Kd.R_drewN | apply Kd.R_drew)); exact Kd.R_mono (Kd.R_far (p := ⟨gb280, 1, none⟩) (Kd.R_far (p := ⟨gb280, 0, none⟩) (Kd.R_types HO276.out BK280.out (by decide)) (fun _ hk => hk.2) (.slice Ao57 t274.length co57)) (fun _ hk => hk.2) (.slice Ao61 t277.length co61)) (fun _ hk => hk.1.1)⟩
 have n1_ : Aside0 (Kd.N k51 51 ((w56.setCell ⟨gb280, 0, none⟩ (.slice Ao57 t274.length co57)).setCell ⟨gb280, 1, none⟩ (.slice Ao61 t277.length co61)) w.heap.size (fun k_ => (w.heap.size ≤ k_) ∧ some k_ ≠ (.slice Ao57 t274.length co57 : Value).ownBlock ∧ k_ ≠ gb269 ∧ k_ ≠ gb270 ∧ k_ ≠ gb280) (.slice Ao61 t277.length co61) t277) := ⟨by (with_reducible repeat (first | apply Kd.N_alloc | apply Kd.N_drewN | apply Kd.N_drew)); exact Kd.N_mono (Kd.N_far (p := ⟨gb280, 1, none⟩) (Kd.N_far (p := ⟨gb280, 0, none⟩) (Kd.N_mono HO279.out (fun k_ hk => (⟨hk, hk.2⟩ : _ ∧ k_ ≠ gb280))) (fun _ hk => hk.2) (.slice Ao57 t274.length co57)) (fun _ hk => hk.2) (.slice Ao61 t277.length co61)) (fun _ hk => ⟨hk.1.1.1, ⟨hk.1.1.2.1, ⟨hk.1.1.2.2.1, ⟨hk.1.1.2.2.2, hk.1.2⟩⟩⟩⟩)⟩
 have n2_ : Aside0 (((w56.setCell ⟨gb280, 0, none⟩ (.slice Ao57 t274.length co57)).setCell ⟨gb280, 1, none⟩ (.slice Ao61 t277.length co61)).heap[gb269]? = some (.cells #[.slice A0_0 l0_0.length c0_0, .slice A0_1 l0_1.length c0_1] 29 (0, 0))) := ⟨by (with_reducible repeat (first | refine blk_drewN ?_ _ | refine blk_drew ?_ | refine blk_alloc ?_ _)); refine blk_far ?_ NB269_280.out _; (with_reducible repeat (first | refine blk_drewN ?_ _ | refine blk_drew ?_ | refine blk_alloc ?_ _)); refine blk_far ?_ NB269_280.out _; (with_reducible repeat (first | refine blk_drewN ?_ _ | refine blk_drew ?_ | refine blk_alloc ?_ _)); exact BK269.out⟩
 have n3_ : Aside0 (((w56.setCell ⟨gb280, 0, none⟩ (.slice Ao57 t274.length co57)).setCell ⟨gb280, 1, none⟩ (.slice Ao61 t277.length co61)).heap[gb270]? = some (.cells #[.slice none 0 0, .slice none 0 0] 29 (0, 0))) := ⟨by (with_reducible repeat (first | refine blk_drewN ?_ _ | refine blk_drew ?_ | refine blk_alloc ?_ _)); refine blk_far ?_ NB270_280.out _; (with_reducible repeat (first | refine blk_drewN ?_ _ | refine blk_drew ?_ | refine blk_alloc ?_ _)); refine blk_far ?_ NB270_280.out _; (with_reducible repeat (first | refine blk_drewN ?_ _ | refine blk_drew ?_ | refine blk_alloc ?_ _)); exact BK270.out⟩
 have n4_ : Aside0 (((w56.setCell ⟨gb280, 0, none⟩ (.slice Ao57 t274.length co57)).setCell ⟨gb280, 1, none⟩ (.slice Ao61 t277.length co61)).heap[gb280]? = some (.cells #[.slice Ao57 t274.length co57, .slice Ao61 t277.length co61] 29 (0, 0))) := ⟨by (with_reducible repeat (first | refine blk_drewN ?_ _ | refine blk_drew ?_ | refine blk_alloc ?_ _)); exact Own.put2 BK280.out⟩
 have n5_ : Aside0 (Below w.heap.size w ((w56.setCell ⟨gb280, 0, none⟩ (.slice Ao57 t274.length co57)).setCell ⟨gb280, 1, none⟩ (.slice Ao61 t277.length co61))) := ⟨Own.bl⟩
 (try clear HO276)
 (try clear HO279)
 (try clear BK269)
 (try clear BK270)
 (try clear BK280)
 (try clear HB)
 generalize ((w56.setCell ⟨gb280, 0, none⟩ (.slice Ao57 t274.length co57)).setCell ⟨gb280, 1, none⟩ (.slice Ao61 t277.length co61)) = w62 at n0_ n1_ n2_ n3_ n4_ n5_ ⊢
 have HO276 := n0_
 have HO279 := n1_
 have BK269 := n2_
 have BK270 := n3_
 have BK280 := n4_
 have HB := n5_
 clear n0_ n1_ n2_ n3_ n4_ n5_
 have n0_ := Aside0.mk (Kd.R_drew HO276.out)
 have n1_ := Aside0.mk (Kd.N_drew HO279.out)
 have n2_ := Aside0.mk (blk_drew BK269.out)
 have n3_ := Aside0.mk (blk_drew BK270.out)
 have n4_ := Aside0.mk (blk_drew BK280.out)
 have n5_ := Aside0.mk (below_drew1 HB.out)
 clear HO276
 clear HO279
 clear BK269
 clear BK270
 clear BK280
 clear HB
 have HO276 := n0_
 have HO279 := n1_
 have BK269 := n2_
 have BK270 := n3_
 have BK280 := n4_
 have HB := n5_
 clear n0_ n1_ n2_ n3_ n4_ n5_
 have q64 : (t271 : Int) ≤ ((t277.length : Int) : Int) := Own.dp
 obtain ⟨i064, hi064, _, hsz64, _⟩ := info_parts info51
 have hroom64 : t277.length ≤ co61 := (Kd.N_reads' HO279.out).2.1
 have hC64 : Kd.F k51 _ _ Ao61 t277.length t277 := (Kd.V_at (base := w.heap.size) (Kd.N_V HO279.out)).2.2
 have hcut64 := cut_to (P := Tryz.prog) 27 51 .i64 Tryz.underlying27 hi064 Ao61 t277.length co61 t271 (Own.dp) q64 hroom64
 have hr64 := Kd.F_take (m := (t271 : Int).toNat) hC64 (by omega)
 have hy64 : y284.length = (t271 : Int).toNat := (by rw [Ny284.out, List.length_take]; omega)
 rw [← Ny284.out] at hr64
 rw [← hy64] at hcut64
 have HO288 := Aside0.mk (show Kd.V k51 51 _ w.heap.size _ (.slice Ao61 y284.length co61) y284 from Kd.V_mk (by omega) hr64)
 have HC288 := Aside0.mk (show y284.length ≤ co61 from by omega)
 clear hr64 hC64 hroom64 hi064 hsz64
 have KY64 := Aside0.mk hy64
 clear hy64
 replace q64 := eq_true q64
 have q65 : ((ji41) : Int) ≤ ((t277.length : Int) : Int) := Own.dp
 obtain ⟨i065, hi065, _, hsz65, _⟩ := info_parts info51
 have hroom65 : t277.length ≤ co61 := (Kd.N_reads' HO279.out).2.1
 have hC65 : Kd.F k51 _ _ Ao61 t277.length t277 := (Kd.V_at (base := w.heap.size) (Kd.N_V HO279.out)).2.2
 have q065 : (0 : Int) ≤ ((ji41) : Int) := Own.dp
 have hcut65 := cut_from (P := Tryz.prog) 27 51 .i64 Tryz.underlying27 hi065 12 hsz65 Ao61 t277.length co61 (ji41) q065 q65
 have hr65 := Kd.F_cut (m := ((ji41) : Int).toNat) (c := co61) hC65 (by omega) hroom65
 obtain ⟨A65, hA65⟩ : ∃ A1, A1 = (if co61 = ((ji41) : Int).toNat then Ao61 else (Ao61 : Option Addr).map (·.add (((ji41) : Int).toNat * 12))) := ⟨_, rfl⟩
 obtain ⟨c65, hc65⟩ : ∃ c1, c1 = co61 - ((ji41) : Int).toNat := ⟨_, rfl⟩
 have hy65 : y292.length = t277.length - ((ji41) : Int).toNat := (by rw [Ny292.out, List.length_drop] <;> omega)
 rw [show (t277).drop ((ji41) : Int).toNat = y292 from Ny292.out.symm] at hr65
 replace hr65 : Kd.F k51 _ _ A65 y292.length y292 := (by rw [hA65]; exact hr65)
 rw [← hy65, ← hA65, ← hc65] at hcut65
 have HO296 := Aside0.mk (show Kd.V k51 51 _ w.heap.size _ (.slice A65 y292.length c65) y292 from Kd.V_mk (by rw [hy65, hc65]; exact Nat.sub_le_sub_right hroom65 _) hr65)
 have HC296 := Aside0.mk (show y292.length ≤ c65 from by rw [hy65, hc65]; exact Nat.sub_le_sub_right hroom65 _)
 clear hr65 hC65 hroom65 hi065 hsz65 hc65
 have KY65 := Aside0.mk hy65
 have KA65 := Aside0.mk hA65
 clear hy65 hA65
 replace q65 := eq_true q65
 refine start_ (n := 14) (S := fun w' => w'.cell? ⟨gb280, 0, none⟩ = some (.slice Ao57 t274.length co57) ∧ w'.cell? ⟨gb280, 1, none⟩ = some (.slice Ao61 t277.length co61)) (ds := [13]) (Own.fl 14 0) (by kernel_rfl) rfl rfl ⟨(blk_cell BK280.out 0).trans rfl, (blk_cell BK280.out 1).trans rfl⟩ (fun hHeld => ?_); refine with_tabW spec_RemoveClause.tab5 spec_RemoveClause.bits5 (fun HT_ HW_ => ?_)
 generalize w62.drew = w63 at HO276 HO279 BK269 BK270 BK280 HB HO288 HO296 hHeld ⊢
 refine pure_ (i := 1) (N := some 33) (v := ?_) (a' := ?_) (Own.fl 14 2) rfl rfl (any_of HT_.out (by kernel_rfl)) (fun _ _ _ h => h) (Or.inl ⟨by rfl, ?_⟩) ?_ ?_; rotate_left; intro w'; go_simp; with_reducible rfl; rotate_left; simp only [Own.ps]; rfl
 refine pure_ (i := 3) (N := some 35) (v := ?_) (a' := ?_) (Own.fl 14 10) rfl rfl (any_of HT_.out (by kernel_rfl)) (fun _ _ _ h => h) (Or.inl ⟨by rfl, ?_⟩) ?_ ?_; rotate_left; intro w'; go_simp; with_reducible rfl; rotate_left; simp only [Own.ps]; rfl
 refine pure_ (i := 6) (N := some 38) (v := ?_) (a' := ?_) (Own.fl 14 74) rfl rfl (any_of HT_.out (by kernel_rfl)) (fun _ _ _ h => h) (Or.inl ⟨by rfl, ?_⟩) ?_ ?_; rotate_left; intro w'; go_simp; with_reducible rfl; rotate_left; simp only [Own.ps]; rfl
 refine pure_ (i := 8) (N := some 40) (v := ?_) (a' := ?_) (Own.fl 14 330) rfl rfl (any_of HT_.out (by kernel_rfl)) (fun _ _ _ h => h) (Or.inl ⟨by rfl, ?_⟩) ?_ ?_; rotate_left; intro w'; go_simp; with_reducible rfl; rotate_left; simp only [Own.ps]; rfl
 refine pure_ (i := 9) (N := some 41) (v := ?_) (a' := ?_) (Own.fl 14 842) rfl rfl (any_of HT_.out (by kernel_rfl)) (fun _ _ _ h => h) (Or.inl ⟨by rfl, ?_⟩) ?_ ?_; rotate_left; intro w'; go_simp; with_reducible rfl; rotate_left; simp only [Own.ps]; rfl
 refine take_ (i := 2) (N := some 34) (v := ?_) (a' := ?_) (Own.fl 14 846) rfl rfl (take_ofW HT_.out HW_.out (by kernel_rfl)) (fun _ _ _ h => h) (Or.inl ⟨by rfl, ?_⟩) hHeld ?_ ?_; rotate_left; rintro w' ⟨s0, s1⟩; go_simp; with_reducible rfl; rotate_left; simp only [Own.ps]; rfl
 refine pure_ (i := 4) (N := some 36) (v := ?_) (a' := ?_) (Own.fl 14 862) rfl rfl (any_of HT_.out (by kernel_rfl)) (fun _ _ _ h => h) (Or.inl ⟨by rfl, ?_⟩) ?_ ?_; rotate_left; intro w'; go_simp; with_reducible rfl; rotate_left; simp only [Own.ps]; rfl
 refine take_ (i := 7) (N := some 39) (v := ?_) (a' := ?_) (Own.fl 14 990) rfl rfl (take_ofW HT_.out HW_.out (by kernel_rfl)) (fun _ _ _ h => h) (Or.inl ⟨by rfl, ?_⟩) hHeld ?_ ?_; rotate_left; rintro w' ⟨s0, s1⟩; go_simp; with_reducible rfl; rotate_left; simp only [Own.ps]; rfl
 refine pure_ (i := 10) (N := some 42) (v := ?_) (a' := ?_) (Own.fl 14 2014) rfl rfl (any_of HT_.out (by kernel_rfl)) (fun _ _ _ h => h) (Or.inl ⟨by rfl, ?_⟩) ?_ ?_; rotate_left; intro w'; go_simp; with_reducible rfl; rotate_left; simp only [Own.ps]; rfl
 refine one_ (i := 0) (N := some 32) (Own.fl 14 2015) rfl rfl (one_of HT_.out (by kernel_rfl)) (by decide) (fun K hK => ?_)
 refine Kd.N_lit_step k51 _ 51 ?hg (N' := 32) ?hd (xs := ([] : List (S51))) (inner := []) (ok := (fun k_ => (w.heap.size ≤ k_) ∧ some k_ ≠ (.slice Ao57 t274.length co57 : Value).ownBlock ∧ some k_ ≠ (.slice Ao61 t277.length co61 : Value).ownBlock ∧ k_ ≠ gb269 ∧ k_ ≠ gb270 ∧ k_ ≠ gb280)) (okp := (fun k_ => (w.heap.size ≤ k_) ∧ some k_ ≠ (.slice Ao57 t274.length co57 : Value).ownBlock ∧ some k_ ≠ (.slice Ao61 t277.length co61 : Value).ownBlock ∧ k_ ≠ gb269 ∧ k_ ≠ gb270 ∧ k_ ≠ gb280)) ?hr ?hp (fun _ hk => hk) ((show ∀ k_, w63.heap.size ≤ k_ → (fun k_ => (w.heap.size ≤ k_) ∧ some k_ ≠ (.slice Ao57 t274.length co57 : Value).ownBlock ∧ some k_ ≠ (.slice Ao61 t277.length co61 : Value).ownBlock ∧ k_ ≠ gb269 ∧ k_ ≠ gb270 ∧ k_ ≠ gb280) k_ from fun k_ hk => ⟨(Nat.le_trans (below_size Own.bl) hk), Kd.fresh' (Kd.R_lt (Own.rd HO276.out)) k_ hk, Kd.fresh' (Kd.N_lt (by (with_reducible repeat (first | apply Kd.N_alloc | apply Kd.N_drewN | apply Kd.N_drew)); exact HO279.out)) k_ hk, Kd.freshB (Own.bkf BK269.out) k_ hk, Kd.freshB (Own.bkf BK270.out) k_ hk, Kd.freshB (Own.bkf BK280.out) k_ hk⟩) _ (Nat.le_refl _)) (Below.refl _ _) (Nat.le_refl _) (by simp) ?_; (case hd => rfl); (case hg => rfl); (case hr => first | (go_simp; done) | (go_simp; rfl)); (case hp => exact (Reps.none _ _))
 intro v282 w66 ho67 hb hg_ hnew_
 clear hg_ hnew_
 (first | rw [← Ny281.out] at ho67 | (simp only [Int.reduceToNat] at ho67; rw [← Ny281.out] at ho67))
 have n0_ := Aside0.mk (Kd.R_below (Own.rd HO276.out) hb)
 have n1_ := Aside0.mk (Kd.N_elder' (by (with_reducible repeat (first | apply Kd.N_alloc | apply Kd.N_drewN | apply Kd.N_drew)); exact HO279.out) (Kd.N_base ho67) hb)
 have n2_ := Aside0.mk (Kd.V_elder' (Own.vd HO288.out) (Kd.N_base ho67) hb)
 have n3_ := Aside0.mk (Kd.V_elder' (Own.vd HO296.out) (Kd.N_base ho67) hb)
 have n4_ := Aside0.mk (Kd.N_lower ho67 (below_size Own.bl))
 have n5_ := Own.bb BK269.out hb
 have n6_ := Own.bb BK270.out hb
 have n7_ := Own.bb BK280.out hb
 have n8_ := Own.bs hb
 clear HO276
 clear HO279
 clear HO288
 clear HO296
 clear BK269
 clear BK270
 clear BK280
 clear HB
 have HO276 := n0_
 have HO279 := n1_
 have HO288 := n2_
 have HO296 := n3_
 have HO283 := n4_
 have BK269 := n5_
 have BK270 := n6_
 have BK280 := n7_
 have HB := n8_
 clear n0_ n1_ n2_ n3_ n4_ n5_ n6_ n7_ n8_
 clear hb ho67
 refine hK.out _ _ ⟨(blk_cell BK280.out 0).trans rfl, (blk_cell BK280.out 1).trans rfl⟩ (fun hHeld => ?_)
 clear hK K; refine norm_ (a' := ?_) ?_ ?_; rotate_left; show Act.put _ (some 32) _ = _; simp only [Own.ps]; rfl
 refine one_ (i := 5) (N := some 37) (Own.fl 14 2047) rfl rfl (one_of HT_.out (by kernel_rfl)) (by decide) (fun K hK => ?_)
 refine Kd.N_append_rows_step k51 (w0 := w) w.heap.size (by rfl) (.tmp 32) (.tmp 36) 27 51 (.agg #[(.string ⟨#[]⟩), (.int .i64 0), (.int .i64 0), (.string ⟨#[]⟩), (.int .i64 0), (.int .i64 0), (.int .i64 0), (.string ⟨#[]⟩), (.int .i64 0), (.slice none 0 0), (.int .i64 0), (.string ⟨#[]⟩)]) 144 rfl Tryz.underlying27 info51 rfl (by decide) (by omega) v282 y281 y284 _ _ _ (fun k_ => (w.heap.size ≤ k_) ∧ some k_ ≠ (.slice Ao57 t274.length co57 : Value).ownBlock ∧ k_ ≠ gb269 ∧ k_ ≠ gb270 ∧ k_ ≠ gb280) (fun k_ => ((fun k_ => (w.heap.size ≤ k_) ∧ some k_ ≠ (.slice Ao57 t274.length co57 : Value).ownBlock ∧ k_ ≠ gb269 ∧ k_ ≠ gb270 ∧ k_ ≠ gb280)) k_ ∧ some k_ ≠ (v282 : Value).ownBlock) rfl rfl ?aO ?aR (fun _ hk => hk) ?aF ?aB ?aS ?aL ?_
 (case aR => exact (by skip; exact Kd.V_F (Kd.V_mono (ok' := (fun k_ => ((fun k_ => (w.heap.size ≤ k_) ∧ some k_ ≠ (.slice Ao57 t274.length co57 : Value).ownBlock ∧ k_ ≠ gb269 ∧ k_ ≠ gb270 ∧ k_ ≠ gb280)) k_ ∧ some k_ ≠ (v282 : Value).ownBlock)) (HO288.out) (fun k_ hk => ⟨⟨hk.1.1, ⟨hk.1.2.1, ⟨hk.1.2.2.1, ⟨hk.1.2.2.2.1, hk.1.2.2.2.2⟩⟩⟩⟩, hk.2⟩))))
 (case aB => exact Own.bl)
 (case aF => exact (fun k_ hk => ⟨(Nat.le_trans (below_size Own.bl) hk), Kd.fresh' (Kd.R_lt (Own.rd HO276.out)) k_ hk, Kd.freshB (Own.bkf BK269.out) k_ hk, Kd.freshB (Own.bkf BK270.out) k_ hk, Kd.freshB (Own.bkf BK280.out) k_ hk⟩))
 (case aO => exact (by (with_reducible repeat (first | apply Kd.N_alloc | apply Kd.N_drewN | apply Kd.N_drew)); exact Kd.N_mono HO283.out (fun _ hk => ⟨hk.1, ⟨hk.2.1, ⟨hk.2.2.2.1, ⟨hk.2.2.2.2.1, hk.2.2.2.2.2⟩⟩⟩⟩)))
 (case aS => exact (below_size Own.bl))
 (case aL => have := LMc40.out; omega)
 intro v290 w68 ho hb hg hat
 rw [← Ny289.out] at ho
 have n0_ := Aside0.mk (blk_grown (Own.bkf BK269.out) hg (Kd.N_ne HO283.out BK269.out (by decide)))
 have n1_ := Aside0.mk (blk_grown (Own.bkf BK270.out) hg (Kd.N_ne HO283.out BK270.out (by decide)))
 have n2_ := Aside0.mk (Kd.R_over' (Own.rd HO276.out) (Kd.N_typed (by (with_reducible repeat (first | apply Kd.N_alloc | apply Kd.N_drewN | apply Kd.N_drew)); exact HO283.out)) (by decide) hg)
 have n3_ := Aside0.mk (Kd.N_afterv (ok := (fun k_ => (w.heap.size ≤ k_) ∧ some k_ ≠ (.slice Ao57 t274.length co57 : Value).ownBlock ∧ k_ ≠ gb269 ∧ k_ ≠ gb270 ∧ k_ ≠ gb280)) (by (with_reducible repeat (first | apply Kd.N_alloc | apply Kd.N_drewN | apply Kd.N_drew)); exact HO279.out) hg hat)
 have n4_ := Aside0.mk (blk_grown (Own.bkf BK280.out) hg (Kd.N_ne HO283.out BK280.out (by decide)))
 have n5_ := Aside0.mk (Kd.V_afterv (ok := (fun k_ => (w.heap.size ≤ k_) ∧ some k_ ≠ (.slice Ao57 t274.length co57 : Value).ownBlock ∧ k_ ≠ gb269 ∧ k_ ≠ gb270 ∧ k_ ≠ gb280)) (Own.vd HO288.out) hg hat)
 have n6_ := Aside0.mk (Kd.V_afterv (ok := (fun k_ => (w.heap.size ≤ k_) ∧ some k_ ≠ (.slice Ao57 t274.length co57 : Value).ownBlock ∧ k_ ≠ gb269 ∧ k_ ≠ gb270 ∧ k_ ≠ gb280)) (Own.vd HO296.out) hg hat)
 have n7_ := Aside0.mk (hb)
 have n8_ := Aside0.mk (ho)
 clear BK269
 clear BK270
 clear HO276
 clear HO279
 clear BK280
 clear HO288
 clear HO296
 clear HB
 clear HO283
 have BK269 := n0_
 have BK270 := n1_
 have HO276 := n2_
 have HO279 := n3_
 have BK280 := n4_
 have HO288 := n5_
 have HO296 := n6_
 have HB := n7_
 have HO291 := n8_
 clear n0_ n1_ n2_ n3_ n4_ n5_ n6_ n7_ n8_
 clear ho hb hg hat
 refine hK.out _ _ ⟨(blk_cell BK280.out 0).trans rfl, (blk_cell BK280.out 1).trans rfl⟩ (fun hHeld => ?_)
 clear hK K; refine norm_ (a' := ?_) ?_ ?_; rotate_left; show Act.put _ (some 37) _ = _; simp only [Own.ps]; rfl
 refine one_ (i := 11) (N := some 43) (Own.fl 14 4095) rfl rfl (one_of HT_.out (by kernel_rfl)) (by decide) (fun K hK => ?_)
 refine Kd.N_append_rows_step k51 (w0 := w) w.heap.size (by rfl) (.tmp 37) (.tmp 42) 27 51 (.agg #[(.string ⟨#[]⟩), (.int .i64 0), (.int .i64 0), (.string ⟨#[]⟩), (.int .i64 0), (.int .i64 0), (.int .i64 0), (.string ⟨#[]⟩), (.int .i64 0), (.slice none 0 0), (.int .i64 0), (.string ⟨#[]⟩)]) 144 rfl Tryz.underlying27 info51 rfl (by decide) (by omega) v290 y289 y292 _ _ _ (fun k_ => (w.heap.size ≤ k_) ∧ some k_ ≠ (.slice Ao57 t274.length co57 : Value).ownBlock ∧ k_ ≠ gb269 ∧ k_ ≠ gb270 ∧ k_ ≠ gb280) (fun k_ => ((fun k_ => (w.heap.size ≤ k_) ∧ some k_ ≠ (.slice Ao57 t274.length co57 : Value).ownBlock ∧ k_ ≠ gb269 ∧ k_ ≠ gb270 ∧ k_ ≠ gb280)) k_ ∧ some k_ ≠ (v290 : Value).ownBlock) rfl rfl ?aO ?aR (fun _ hk => hk) ?aF ?aB ?aS ?aL ?_
 (case aR => exact (by skip; exact Kd.V_F (Kd.V_mono (ok' := (fun k_ => ((fun k_ => (w.heap.size ≤ k_) ∧ some k_ ≠ (.slice Ao57 t274.length co57 : Value).ownBlock ∧ k_ ≠ gb269 ∧ k_ ≠ gb270 ∧ k_ ≠ gb280)) k_ ∧ some k_ ≠ (v290 : Value).ownBlock)) (HO296.out) (fun k_ hk => ⟨⟨hk.1.1, ⟨hk.1.2.1, ⟨hk.1.2.2.1, ⟨hk.1.2.2.2.1, hk.1.2.2.2.2⟩⟩⟩⟩, hk.2⟩))))
 (case aB => exact Own.bl)
 (case aF => exact (fun k_ hk => ⟨(Nat.le_trans (below_size Own.bl) hk), Kd.fresh' (Kd.R_lt (Own.rd HO276.out)) k_ hk, Kd.freshB (Own.bkf BK269.out) k_ hk, Kd.freshB (Own.bkf BK270.out) k_ hk, Kd.freshB (Own.bkf BK280.out) k_ hk⟩))
 (case aO => exact (by (with_reducible repeat (first | apply Kd.N_alloc | apply Kd.N_drewN | apply Kd.N_drew)); exact HO291.out))
 (case aS => exact (below_size Own.bl))
 (case aL => have := LMc44.out; omega)
 intro v298 w69 ho hb hg hat
 rw [← Ny297.out] at ho
 have n0_ := Aside0.mk (blk_grown (Own.bkf BK269.out) hg (Kd.N_ne HO291.out BK269.out (by decide)))
 have n1_ := Aside0.mk (blk_grown (Own.bkf BK270.out) hg (Kd.N_ne HO291.out BK270.out (by decide)))
 have n2_ := Aside0.mk (Kd.R_over' (Own.rd HO276.out) (Kd.N_typed (by (with_reducible repeat (first | apply Kd.N_alloc | apply Kd.N_drewN | apply Kd.N_drew)); exact HO291.out)) (by decide) hg)
 have n3_ := Aside0.mk (Kd.N_afterv (ok := (fun k_ => (w.heap.size ≤ k_) ∧ some k_ ≠ (.slice Ao57 t274.length co57 : Value).ownBlock ∧ k_ ≠ gb269 ∧ k_ ≠ gb270 ∧ k_ ≠ gb280)) (by (with_reducible repeat (first | apply Kd.N_alloc | apply Kd.N_drewN | apply Kd.N_drew)); exact HO279.out) hg hat)
 have n4_ := Aside0.mk (blk_grown (Own.bkf BK280.out) hg (Kd.N_ne HO291.out BK280.out (by decide)))
 have n5_ := Aside0.mk (Kd.V_afterv (ok := (fun k_ => (w.heap.size ≤ k_) ∧ some k_ ≠ (.slice Ao57 t274.length co57 : Value).ownBlock ∧ k_ ≠ gb269 ∧ k_ ≠ gb270 ∧ k_ ≠ gb280)) (Own.vd HO288.out) hg hat)
 have n6_ := Aside0.mk (Kd.V_afterv (ok := (fun k_ => (w.heap.size ≤ k_) ∧ some k_ ≠ (.slice Ao57 t274.length co57 : Value).ownBlock ∧ k_ ≠ gb269 ∧ k_ ≠ gb270 ∧ k_ ≠ gb280)) (Own.vd HO296.out) hg hat)
 have n7_ := Aside0.mk (hb)
 have n8_ := Aside0.mk (ho)
 clear BK269
 clear BK270
 clear HO276
 clear HO279
 clear BK280
 clear HO288
 clear HO296
 clear HB
 clear HO291
 have BK269 := n0_
 have BK270 := n1_
 have HO276 := n2_
 have HO279 := n3_
 have BK280 := n4_
 have HO288 := n5_
 have HO296 := n6_
 have HB := n7_
 have HO299 := n8_
 clear n0_ n1_ n2_ n3_ n4_ n5_ n6_ n7_ n8_
 clear ho hb hg hat
 obtain ⟨Ao70, co70, eo70⟩ := Kd.N_slice HO299.out
 (first | subst eo70 | (injection eo70 with f1_ f2_ f3_; have f4_ := f1_.symm; have f5_ := f3_.symm; clear f1_ f2_ f3_; subst f4_; subst f5_))
 refine hK.out _ _ ⟨(blk_cell BK280.out 0).trans rfl, (blk_cell BK280.out 1).trans rfl⟩ (fun hHeld => ?_)
 clear hK K; refine norm_ (a' := ?_) ?_ ?_; rotate_left; show Act.put _ (some 43) _ = _; simp only [Own.ps]; rfl
 refine pure_ (i := 12) (N := some 44) (v := ?_) (a' := ?_) (Own.fl 14 8191) rfl rfl (any_of HT_.out (by kernel_rfl)) (fun _ _ _ h => h) (Or.inl ⟨by rfl, ?_⟩) ?_ ?_; rotate_left; intro w'; go_simp; with_reducible rfl; rotate_left; simp only [Own.ps]; rfl
 refine last_ (i := 13) (N := none) (Own.fl 14 16383) rfl rfl (one_of HT_.out (by kernel_rfl)) (by decide) (fun K hK => ?_)
 have hs71 : w69.cell? ⟨gb280, 1, none⟩ = some (.slice Ao61 t277.length co61) := (blk_cell BK280.out 1).trans rfl
 have hfs71 := blk_frozen BK280.out 1
 have hns71_0 := NB269_280.out
 have hns71_1 := NB270_280.out
 have hms71_0 := NB280_269.out
 have hms71_1 := NB280_270.out
 refine skip_ (w1 := ?_) (by rfl) rfl ?_ ?_
 rotate_left
 ·
  go_simp; rfl
 refine hK.out _ _ ?_
 clear hK K
 refine done_ (done_of HT_.out (by kernel_rfl)) ?_
 obtain ⟨z72_0, z72_1, y72_0, y72_1⟩ := Own.box2 BK280.out
 obtain ⟨z73_0, z73_1, y73_0, y73_1⟩ := Own.box2 BK270.out
 try go_wp2
 refine bodyPost_ret (results_ct rfl _ _ gb270 29 #[.slice Ao57 t274.length co57, .slice Ao70 y297.length co70] (0, 0) _ rfl (by (with_reducible repeat (first | refine blk_drewN ?_ _ | refine blk_drew ?_ | refine blk_alloc ?_ _)); apply Own.put2; (with_reducible repeat (first | refine blk_drewN ?_ _ | refine blk_drew ?_ | refine blk_alloc ?_ _)); refine blk_far ?_ NB270_280.out _; (with_reducible repeat (first | refine blk_drewN ?_ _ | refine blk_drew ?_ | refine blk_alloc ?_ _)); exact BK270.out) Tryz.underlying29 rfl (by kernel_rfl)) rfl ?_
 exact ⟨_, _, by first | rfl | (simp [errW_none, errW_some] <;> rfl) | (simp only [← hji41]; first | rfl | (simp [errW_none, errW_some] <;> rfl)) | (simp [*, errW_none, errW_some] <;> rfl), by (with_reducible repeat (first | apply Kd.R_alloc | apply Kd.R_drewN | apply Kd.R_drew)); exact Kd.R_mono (Kd.R_far (p := ⟨gb270, 1, none⟩) (Kd.R_far (p := ⟨gb270, 0, none⟩) (Kd.R_far (p := ⟨gb280, 1, none⟩) (Kd.R_types (Kd.R_types HO276.out BK280.out (by decide)) BK270.out (by decide)) (fun _ hk => hk.1.2) (.slice Ao70 y297.length co70)) (fun _ hk => hk.2) (.slice Ao57 t274.length co57)) (fun _ hk => hk.2) (.slice Ao70 y297.length co70)) (fun _ hk => hk.1.1), by (with_reducible repeat (first | apply Kd.N_alloc | apply Kd.N_drewN | apply Kd.N_drew)); exact Kd.N_mono (Kd.N_far (p := ⟨gb270, 1, none⟩) (Kd.N_far (p := ⟨gb270, 0, none⟩) (Kd.N_far (p := ⟨gb280, 1, none⟩) (Kd.N_mono (Kd.N_mono HO299.out (fun k_ hk => (⟨hk, hk.2.2.2.2⟩ : _ ∧ k_ ≠ gb280))) (fun k_ hk => (⟨hk, hk.1.2.2.2.1⟩ : _ ∧ k_ ≠ gb270))) (fun _ hk => hk.1.2) (.slice Ao70 y297.length co70)) (fun _ hk => hk.2) (.slice Ao57 t274.length co57)) (fun _ hk => hk.2) (.slice Ao70 y297.length co70)) (fun _ hk => ⟨hk.1.1.1, hk.1.1.2.1⟩), Own.bl⟩
/-! ### laws_toStringS: function 17 -/
def laws_toStringS.l0 : Nat → List ByteArray → List ByteArray → Int → Option (List ByteArray)
 | 0, _, _, _ => none
 | k + 1, x0, x3, x4 => if x4 < (x0.length : Int) then (if 0 ≤ x4 then (if x4 < (x3.length : Int) then (laws_toStringS.l0 k x0 (x3.set (x4 : Int).toNat (rdOf ByteArray.empty x0 x4)) (wrap64 (x4 + 1))) else (none)) else (none)) else (some x3)
def laws_toStringS.f (k : Nat) (l0 : List ByteArray) : Option (List ByteArray) := if 0 ≤ (l0.length : Int) then (if ((l0.length : Int) : Int).toNat ≤ 17592186044416 then (laws_toStringS.l0 k l0 (List.replicate ((l0.length : Int) : Int).toNat (⟨#[]⟩ : ByteArray)) 0) else (none)) else (none)
set_option maxHeartbeats 8000000 in
set_option maxRecDepth 100000 in
theorem laws_toStringS.calls (k : Nat) (A0 : Option Addr) (c0 : Nat) (l0 : List ByteArray) (r : List ByteArray) (w : World) (hr0 : Kd.C Kd.string w A0 l0.length l0) (hc0 : l0.length ≤ c0) (h : laws_toStringS.f k l0 = some r) :
  Calls Tryz.prog 17 #[.slice A0 l0.length c0] w fun e w' => ∃ v0_ : Value, e = .returned (v0_) ∧ Kd.R Kd.string 9 w' w.heap.size (fun _ => True) v0_ r ∧ Below w.heap.size w w' := by
 have HR0 := Aside0.mk hr0
 have HC0 := Aside0.mk hc0
 clear hr0 hc0
 have HB := Aside0.mk (Below.refl w.heap.size w)
 have H : (if 0 ≤ (l0.length : Int) then (if ((l0.length : Int) : Int).toNat ≤ 17592186044416 then (laws_toStringS.l0 k l0 (List.replicate ((l0.length : Int) : Int).toNat (⟨#[]⟩ : ByteArray)) 0) else (none)) else (none)) = some r := h
 clear h
 replace H := Own.ifn H; obtain ⟨c2, H⟩ := H
 have c2b0 := eq_true c2
 have c2b1 : decide (0 ≤ (l0.length : Int)) = true := decide_eq_true c2
 clear c2
 replace H := Own.ifn H; obtain ⟨c3, H⟩ := H
 have c3b0 := eq_true c3
 have c3b1 : decide (((l0.length : Int) : Int).toNat ≤ 17592186044416) = true := decide_eq_true c3
 clear c3
 obtain ⟨y300, hy300⟩ : ∃ y_ : List ByteArray, y_ = (List.replicate ((l0.length : Int) : Int).toNat (⟨#[]⟩ : ByteArray)) := ⟨_, rfl⟩
 replace H : (laws_toStringS.l0 k l0 y300 0) = some r := by first | (rw [hy300]; with_reducible exact H) | (have H2_ := (Option.bind_some _ _).symm.trans H; rw [hy300]; with_reducible exact H2_) | (have H2_ := (Option.bind_some _ _).symm.trans H; with_reducible exact H2_) | with_reducible exact H | (rw [hy300]; exact H) | exact H
 have Ny300 := Aside0.mk hy300
 clear hy300
 have H' := Aside0.mk H
 clear H
 go_enter Tryz.func17, Tryz.ntmps17
 go_wp2_with (first | ((with_reducible refine gate_dst (N := 7) rfl ?_); refine Kd.R_make Kd.string _ 9 rfl (N := 7) rfl 22 _ _ rfl (l0.length : Int) rfl rfl Tryz.underlying22 (.string ⟨#[]⟩) 16 info9 rfl (by decide) (by omega) (⟨#[]⟩ : ByteArray) (ok := fun _ => True) (okp := fun _ => True) rfl (fun _ hk => hk) trivial (Own.dp) (Nat.le_trans (Nat.mul_le_mul_right _ (Own.dp : (l0.length : Int).toNat ≤ 17592186044416)) (by omega)) (Below.refl _ _) (Nat.le_refl _) ?_; intro v301 w4 ho5 hb hg_ hnew_; clear hg_ hnew_; (first | rw [← Ny300.out] at ho5 | (simp only [Int.reduceToNat] at ho5; rw [← Ny300.out] at ho5)); have HO302 := Aside0.mk (Kd.R_lower ho5 (below_size Own.bl)); replace HB := Own.bs hb; clear hb ho5))
 go_loopg [4] k (fun kq v4 w' => ∃ (x3_1 : List ByteArray) (x4_1 : Int), v4 = .int .i64 x4_1 ∧ Aside0 (laws_toStringS.l0 kq l0 x3_1 x4_1 = some r) ∧ Aside0 (kq ≤ k) ∧ Aside0 (Kd.R Kd.string 9 w' w.heap.size (fun _ => True) v301 x3_1) ∧ Aside0 (Below w.heap.size w w'))
 case atStart => exact ⟨(y300), (0), Own.rs, H', ⟨Nat.le_refl _⟩, ⟨Own.rd HO302.out⟩, ⟨Own.bl⟩⟩
 case round =>
  clear H'; try clear c2; try clear c2b0; try clear c2b1; try clear c3; try clear c3b0; try clear c3b1
  obtain ⟨x3_1, x4_1, rfl, HA, HK1, HO_3, HB⟩ := hrel
  cases gk with
  | zero => exact absurd HA.out (by simp [laws_toStringS.l0])
  | succ k1 =>
   have H := HA.out; clear HA
   simp only [laws_toStringS.l0] at H
   by_cases c6 : x4_1 < (l0.length : Int)
   rotate_left
   ·
    rw [if_neg c6] at H; replace c6 := decide_eq_false c6; obtain rfl := Option.some.inj H
    go_wp2
    go_ret
    exact ⟨_, Own.rr, Own.rd HO_3.out, Own.bl⟩
   rw [if_pos c6] at H; replace c6 := decide_eq_true c6
   replace H := Own.ifd H; obtain ⟨c7, H⟩ := H
   replace H := Own.ifd H; obtain ⟨c8, H⟩ := H
   obtain ⟨y304, hy304⟩ : ∃ y_ : List ByteArray, y_ = (x3_1.set (x4_1 : Int).toNat (rdOf ByteArray.empty l0 x4_1)) := ⟨_, rfl⟩
   replace H : (laws_toStringS.l0 k1 l0 y304 (wrap64 (x4_1 + 1))) = some r := by first | (rw [hy304]; with_reducible exact H) | (have H2_ := (Option.bind_some _ _).symm.trans H; rw [hy304]; with_reducible exact H2_) | (have H2_ := (Option.bind_some _ _).symm.trans H; with_reducible exact H2_) | with_reducible exact H | (rw [hy304]; exact H) | exact H
   have Ny304 := Aside0.mk hy304; clear hy304; have H' := Aside0.mk H; clear H
   have p303 : 0 ≤ (x4_1 : Int) := Own.dp
   have q303 : x4_1 < (l0.length : Int) := Own.dp
   obtain ⟨ad303, e303, hx303_0⟩ := Kd.at_string HR0.out x4_1 p303 q303; cases e303; replace hx303_0 := Own.up HB.out hx303_0; replace p303 := eq_true p303; replace q303 := eq_true q303
   have p9 : 0 ≤ (x4_1 : Int) := Own.dp
   have q9 : (x4_1 : Int) < ((x3_1.length : Int) : Int) := Own.dp
   obtain ⟨go9, co9, eo9, gb9, gl9, cl9, HG9⟩ := Kd.R_form HO_3.out (by omega)
   (first | cases eo9 | (injection eo9 with ea_ en_ ec_; (first | subst ea_ | (injection ea_ with ea_; subst ea_)); subst ec_; clear en_))
   have GB9 := Aside0.mk gb9; have GG9 := Aside0.mk HG9; clear gb9 gl9 HG9
   obtain ⟨hx9_0, hf9_0⟩ := Kd.R_celln (⟨#[]⟩ : ByteArray) HO_3.out (x4_1 : Int) p9 q9
   replace p9 := eq_true p9; replace q9 := eq_true q9
   have HP10 := Kd.R_putg HO_3.out (x4_1 : Int) (rdOf ByteArray.empty l0 x4_1)
   go_wp2_with (first | ((with_reducible refine gate_store (t := 9) (p := 20) rfl ?_); refine store_event (t := 9) (p := 20) (v := ?vo_w11) (w1 := (wr.setCell ⟨go9, (x4_1 : Int).toNat, none⟩ (.string (rdOf ByteArray.empty l0 x4_1)))) ?hg ?ho ?hn ?hr ?_; (case ho => rfl); (case hg => rfl); (case hn => rfl); (case hr => first | (go_simp; done) | (go_simp; rfl)); intro w11 hw; have hg : wr.grownBy w11 (some go9) := (by rw [hw]; exact HP10.2); have hp_ : Kd.R Kd.string 9 w11 w.heap.size (fun _ => True) (.slice (some ⟨go9, 0, none⟩) x3_1.length co9) y304 := (by rw [hw, Ny304.out]; exact HP10.1); clear HP10; replace HO_3 := Aside0.mk hp_; replace HB := Aside0.mk ((by rw [hw]; exact below_set (HB.out) GB9.out : Below w.heap.size w w11)); clear hg hw hp_))
   go_roundg k1
   case measure => have := HK1.out; omega
   case rel => exact ⟨(y304), (wrap64 (x4_1 + 1)), Own.rs, H', ⟨by have := HK1.out; omega⟩, ⟨Own.rd HO_3.out⟩, ⟨Own.bl⟩⟩
/-! ### laws_toConditionS: function 64 -/
mutual
def laws_toCondition.f : Nat → Int → ByteArray → Int → List (S58) → Option (Int × ByteArray × Int × (List (S49)))
 | 0, _, _, _, _ => none
 | k + 1, a0_0, a0_1, a0_2, l0_3 => (laws_toConditionS.f k l0_3).bind fun t308 => (some (a0_0, a0_1, a0_2, t308))
def laws_toConditionS.l0 : Nat → List (S58) → List (S49) → Int → Option ((List (S49)))
 | 0, _, _, _ => none
 | k + 1, x0, x3, x4 => if x4 < (x0.length : Int) then (if 0 ≤ x4 then ((laws_toCondition.f k ((rd_T58 x0 x4).f0) ((rd_T58 x0 x4).f1) ((rd_T58 x0 x4).f2) ((rd_T58 x0 x4).f3)).bind fun bt315 => (if x4 < (x3.length : Int) then (laws_toConditionS.l0 k x0 (x3.set (x4 : Int).toNat (⟨bt315.1, bt315.2.1, bt315.2.2.1, bt315.2.2.2⟩ : S49)) (wrap64 (x4 + 1))) else (none))) else (none)) else (some x3)
def laws_toConditionS.f : Nat → List (S58) → Option ((List (S49)))
 | 0, _ => none
 | k + 1, l0 => if 0 ≤ (l0.length : Int) then (if ((l0.length : Int) : Int).toNat ≤ 5026338869833 then (laws_toConditionS.l0 k l0 (List.replicate ((l0.length : Int) : Int).toNat z49) 0) else (none)) else (none)
end
set_option maxHeartbeats 8000000 in
set_option maxRecDepth 100000 in
theorem laws_toCondition.callsI (k : Nat) (ih_52 : ∀ m_, m_ < k → ∀ (a0_0 : Int) (a0_1 : ByteArray) (a0_2 : Int) (A0_3 : Option Addr) (c0_3 : Nat) (l0_3 : List (S58)) (r1 : Int) (r2 : ByteArray) (r3 : Int) (r4 : List (S49)) (w : World) (hr0_3 : Kd.C k58 w A0_3 l0_3.length l0_3) (hc0_3 : l0_3.length ≤ c0_3) (h : laws_toCondition.f m_ a0_0 a0_1 a0_2 l0_3 = some (r1, r2, r3, r4)),
  Calls Tryz.prog 52 #[.agg #[.int .i64 a0_0, .string a0_1, .int .i64 a0_2, .slice A0_3 l0_3.length c0_3]] w fun e w' => ∃ v3_ : Value, e = .returned (.agg #[.int .i64 r1, .string r2, .int .i64 r3, v3_]) ∧ Kd.R k49 49 w' w.heap.size (fun _ => True) v3_ r4 ∧ Below w.heap.size w w') (ih_64 : ∀ m_, m_ < k → ∀ (A0 : Option Addr) (c0 : Nat) (l0 : List (S58)) (r : List (S49)) (w : World) (hr0 : Kd.C k58 w A0 l0.length l0) (hc0 : l0.length ≤ c0) (h : laws_toConditionS.f m_ l0 = some r),
  Calls Tryz.prog 64 #[.slice A0 l0.length c0] w fun e w' => ∃ v0_ : Value, e = .returned (v0_) ∧ Kd.R k49 49 w' w.heap.size (fun _ => True) v0_ r ∧ Below w.heap.size w w') : ∀ (a0_0 : Int) (a0_1 : ByteArray) (a0_2 : Int) (A0_3 : Option Addr) (c0_3 : Nat) (l0_3 : List (S58)) (r1 : Int) (r2 : ByteArray) (r3 : Int) (r4 : List (S49)) (w : World) (hr0_3 : Kd.C k58 w A0_3 l0_3.length l0_3) (hc0_3 : l0_3.length ≤ c0_3) (h : laws_toCondition.f k a0_0 a0_1 a0_2 l0_3 = some (r1, r2, r3, r4)),
  Calls Tryz.prog 52 #[.agg #[.int .i64 a0_0, .string a0_1, .int .i64 a0_2, .slice A0_3 l0_3.length c0_3]] w fun e w' => ∃ v3_ : Value, e = .returned (.agg #[.int .i64 r1, .string r2, .int .i64 r3, v3_]) ∧ Kd.R k49 49 w' w.heap.size (fun _ => True) v3_ r4 ∧ Below w.heap.size w w' := by
 intro a0_0 a0_1 a0_2 A0_3 c0_3 l0_3 r1 r2 r3 r4 w hr0_3 hc0_3 h
 cases k with
 | zero => exact absurd h (by simp [laws_toCondition.f])
 | succ k =>
 simp only [laws_toCondition.f] at h
 have hu58 := Tryz.underlying58
 have hu49 := Tryz.underlying49
 have HR0_3 := Aside0.mk hr0_3
 have HC0_3 := Aside0.mk hc0_3
 clear hr0_3 hc0_3
 have HB := Aside0.mk (Below.refl w.heap.size w)
 have H : ((laws_toConditionS.f k l0_3).bind fun t308 => (some (a0_0, a0_1, a0_2, t308))) = some (r1, r2, r3, r4) := h
 clear h
 replace H := Own.bd H; obtain ⟨t308, A2, H⟩ := H
 simp only [Option.some.injEq, Prod.mk.injEq] at H
 obtain ⟨rfl, rfl, rfl, rfl⟩ := H
 go_enter Tryz.func52, Tryz.ntmps52
 go_wp2_with (first | ((with_reducible refine gate_dst (N := 1) rfl ?_); refine Own.be (N := 1) (cs := #[.int .i64 a0_0, .string a0_1, .int .i64 a0_2, .slice A0_3 l0_3.length c0_3]) (t := 58) ?_; intro gb305 hg w3 hbox hb; have BK305 := Aside0.mk hbox; have GW305 := (Own.gs hg : Aside0 (w.heap.size ≤ gb305)); have GE305 := GW305; replace HB := Own.bs hb; clear hb hbox hg) | ((with_reducible refine gate_dst (N := 2) rfl ?_); refine Own.be (N := 2) (cs := #[.int .i64 0, .string (⟨#[]⟩ : ByteArray), .int .i64 0, .slice none 0 0]) (t := 49) ?_; intro gb306 hg w4 hbox hb; have BK306 := Aside0.mk hbox; have GW306 := (Own.gs hg : Aside0 (w.heap.size ≤ gb306)); have GE306 := GW306; have NB305_306 := Own.nl hg BK305.out; have NB306_305 := Aside0.mk NB305_306.out.symm; replace BK305 := Own.bb BK305.out hb; replace HB := Own.bs hb; clear hb hbox hg) | ((with_reducible refine gate_dst (N := 3) rfl ?_); refine Own.be (N := 3) (cs := #[.int .i64 0, .string (⟨#[]⟩ : ByteArray), .int .i64 0, .slice none 0 0]) (t := 49) ?_; intro gb307 hg w5 hbox hb; have BK307 := Aside0.mk hbox; have GW307 := (Own.gs hg : Aside0 (w.heap.size ≤ gb307)); have GE307 := GW307; have NB305_307 := Own.nl hg BK305.out; have NB307_305 := Aside0.mk NB305_307.out.symm; have NB306_307 := Own.nl hg BK306.out; have NB307_306 := Aside0.mk NB306_307.out.symm; replace BK305 := Own.bb BK305.out hb; replace BK306 := Own.bb BK306.out hb; replace HB := Own.bs hb; clear hb hbox hg; have hnb6 := NB305_306.out; have hnc6 := NB306_305.out; have hnb7 := NB305_307.out; have hnc7 := NB307_305.out; obtain ⟨z8_0, z8_1, z8_2, z8_3, y8_0, y8_1, y8_2, y8_3⟩ := Own.box4 BK305.out; have hnb9 := NB307_306.out; have hnc9 := NB306_307.out; obtain ⟨z10_0, z10_1, z10_2, z10_3, y10_0, y10_1, y10_2, y10_3⟩ := Own.box4 BK307.out) | ((with_reducible refine gate_callee (f := 64) rfl ?_); refine goesL_ (some 15) rfl rfl Tryz.func64 (by kernel_rfl) rfl #[.slice A0_3 l0_3.length c0_3] rfl Own.ha ?_; (with_reducible refine (ih_64 k (by omega) _ _ l0_3 t308 _ ?side1 ?side2 A2.out).mono ?_); (case side1 => exact Kd.C_below HR0_3.out Own.bl); (case side2 => exact HC0_3.out); rintro e w11 ⟨v309, rfl, ho0, hb⟩; refine ⟨_, rfl, ?_⟩; have HO310 := Aside0.mk (Kd.R_lower (Kd.R_newB (Kd.R_newB ho0 (Own.bkf BK306.out)) (g := gb307) (o := .cells #[.int .i64 a0_0, .string a0_1, .int .i64 a0_2, .slice none 0 0] 49 (0, 0)) (by (with_reducible repeat (first | refine blk_drewN ?_ _ | refine blk_drew ?_ | refine blk_alloc ?_ _)); refine blk_put (cs := #[.int .i64 a0_0, .string a0_1, .int .i64 0, .slice none 0 0]) ?_ 2 _ rfl; (with_reducible repeat (first | refine blk_drewN ?_ _ | refine blk_drew ?_ | refine blk_alloc ?_ _)); refine blk_put (cs := #[.int .i64 a0_0, .string (⟨#[]⟩ : ByteArray), .int .i64 0, .slice none 0 0]) ?_ 1 _ rfl; (with_reducible repeat (first | refine blk_drewN ?_ _ | refine blk_drew ?_ | refine blk_alloc ?_ _)); refine blk_put (cs := #[.int .i64 0, .string (⟨#[]⟩ : ByteArray), .int .i64 0, .slice none 0 0]) ?_ 0 _ rfl; (with_reducible repeat (first | refine blk_drewN ?_ _ | refine blk_drew ?_ | refine blk_alloc ?_ _)); exact BK307.out)) (below_size Own.bl)); replace BK305 := Own.bb BK305.out hb; replace BK306 := Own.bb BK306.out hb; replace BK307 := Aside0.mk (blk_below (g := gb307) (o := .cells #[.int .i64 a0_0, .string a0_1, .int .i64 a0_2, .slice none 0 0] 49 (0, 0)) (by (with_reducible repeat (first | refine blk_drewN ?_ _ | refine blk_drew ?_ | refine blk_alloc ?_ _)); refine blk_put (cs := #[.int .i64 a0_0, .string a0_1, .int .i64 0, .slice none 0 0]) ?_ 2 _ rfl; (with_reducible repeat (first | refine blk_drewN ?_ _ | refine blk_drew ?_ | refine blk_alloc ?_ _)); refine blk_put (cs := #[.int .i64 a0_0, .string (⟨#[]⟩ : ByteArray), .int .i64 0, .slice none 0 0]) ?_ 1 _ rfl; (with_reducible repeat (first | refine blk_drewN ?_ _ | refine blk_drew ?_ | refine blk_alloc ?_ _)); refine blk_put (cs := #[.int .i64 0, .string (⟨#[]⟩ : ByteArray), .int .i64 0, .slice none 0 0]) ?_ 0 _ rfl; (with_reducible repeat (first | refine blk_drewN ?_ _ | refine blk_drew ?_ | refine blk_alloc ?_ _)); exact BK307.out) hb); replace HB := Own.bs hb; (try clear hb); (try clear ho0); obtain ⟨Ao12, co12, eo12⟩ := Kd.R_slice HO310.out; subst eo12; obtain ⟨z13_0, z13_1, z13_2, z13_3, y13_0, y13_1, y13_2, y13_3⟩ := Own.box4 BK307.out; obtain ⟨z14_0, z14_1, z14_2, z14_3, y14_0, y14_1, y14_2, y14_3⟩ := Own.box4 BK306.out))
 refine bodyPost_ret (results_cell_row rfl _ _ gb306 49 #[.int .i64 a0_0, .string a0_1, .int .i64 a0_2, .slice Ao12 t308.length co12] (0, 0) _ rfl (by (with_reducible repeat (first | refine blk_drewN ?_ _ | refine blk_drew ?_ | refine blk_alloc ?_ _)); apply Own.put4; (with_reducible repeat (first | refine blk_drewN ?_ _ | refine blk_drew ?_ | refine blk_alloc ?_ _)); refine blk_far ?_ NB306_307.out _; (with_reducible repeat (first | refine blk_drewN ?_ _ | refine blk_drew ?_ | refine blk_alloc ?_ _)); exact BK306.out) Tryz.underlying49 rfl (by kernel_rfl)) rfl ?_
 exact ⟨_, Own.rr, by (with_reducible repeat (first | apply Kd.R_alloc | apply Kd.R_drewN | apply Kd.R_drew)); exact Kd.R_mono (Kd.R_far (p := ⟨gb306, 3, none⟩) (Kd.R_far (p := ⟨gb306, 2, none⟩) (Kd.R_far (p := ⟨gb306, 1, none⟩) (Kd.R_far (p := ⟨gb306, 0, none⟩) (Kd.R_far (p := ⟨gb307, 3, none⟩) (Kd.R_mono (Kd.R_mono HO310.out (fun k_ hk => (⟨hk, hk.2⟩ : _ ∧ k_ ≠ gb307))) (fun k_ hk => (⟨hk, hk.1.1.2⟩ : _ ∧ k_ ≠ gb306))) (fun _ hk => hk.1.2) (.slice Ao12 t308.length co12)) (fun _ hk => hk.2) (.int .i64 a0_0)) (fun _ hk => hk.2) (.string a0_1)) (fun _ hk => hk.2) (.int .i64 a0_2)) (fun _ hk => hk.2) (.slice Ao12 t308.length co12)) (fun _ hk => trivial), Own.bl⟩
set_option maxHeartbeats 8000000 in
set_option maxRecDepth 100000 in
theorem laws_toConditionS.callsI (k : Nat) (ih_52 : ∀ m_, m_ < k → ∀ (a0_0 : Int) (a0_1 : ByteArray) (a0_2 : Int) (A0_3 : Option Addr) (c0_3 : Nat) (l0_3 : List (S58)) (r1 : Int) (r2 : ByteArray) (r3 : Int) (r4 : List (S49)) (w : World) (hr0_3 : Kd.C k58 w A0_3 l0_3.length l0_3) (hc0_3 : l0_3.length ≤ c0_3) (h : laws_toCondition.f m_ a0_0 a0_1 a0_2 l0_3 = some (r1, r2, r3, r4)),
  Calls Tryz.prog 52 #[.agg #[.int .i64 a0_0, .string a0_1, .int .i64 a0_2, .slice A0_3 l0_3.length c0_3]] w fun e w' => ∃ v3_ : Value, e = .returned (.agg #[.int .i64 r1, .string r2, .int .i64 r3, v3_]) ∧ Kd.R k49 49 w' w.heap.size (fun _ => True) v3_ r4 ∧ Below w.heap.size w w') (ih_64 : ∀ m_, m_ < k → ∀ (A0 : Option Addr) (c0 : Nat) (l0 : List (S58)) (r : List (S49)) (w : World) (hr0 : Kd.C k58 w A0 l0.length l0) (hc0 : l0.length ≤ c0) (h : laws_toConditionS.f m_ l0 = some r),
  Calls Tryz.prog 64 #[.slice A0 l0.length c0] w fun e w' => ∃ v0_ : Value, e = .returned (v0_) ∧ Kd.R k49 49 w' w.heap.size (fun _ => True) v0_ r ∧ Below w.heap.size w w') : ∀ (A0 : Option Addr) (c0 : Nat) (l0 : List (S58)) (r : List (S49)) (w : World) (hr0 : Kd.C k58 w A0 l0.length l0) (hc0 : l0.length ≤ c0) (h : laws_toConditionS.f k l0 = some r),
  Calls Tryz.prog 64 #[.slice A0 l0.length c0] w fun e w' => ∃ v0_ : Value, e = .returned (v0_) ∧ Kd.R k49 49 w' w.heap.size (fun _ => True) v0_ r ∧ Below w.heap.size w w' := by
 intro A0 c0 l0 r w hr0 hc0 h
 cases k with
 | zero => exact absurd h (by simp [laws_toConditionS.f])
 | succ k =>
 simp only [laws_toConditionS.f] at h
 have hu58 := Tryz.underlying58
 have hu49 := Tryz.underlying49
 have HR0 := Aside0.mk hr0
 have HC0 := Aside0.mk hc0
 clear hr0 hc0
 have HB := Aside0.mk (Below.refl w.heap.size w)
 have H : (if 0 ≤ (l0.length : Int) then (if ((l0.length : Int) : Int).toNat ≤ 5026338869833 then (laws_toConditionS.l0 k l0 (List.replicate ((l0.length : Int) : Int).toNat z49) 0) else (none)) else (none)) = some r := h
 clear h
 replace H := Own.ifn H; obtain ⟨c2, H⟩ := H
 have c2b0 := eq_true c2
 have c2b1 : decide (0 ≤ (l0.length : Int)) = true := decide_eq_true c2
 clear c2
 replace H := Own.ifn H; obtain ⟨c3, H⟩ := H
 have c3b0 := eq_true c3
 have c3b1 : decide (((l0.length : Int) : Int).toNat ≤ 5026338869833) = true := decide_eq_true c3
 clear c3
 obtain ⟨y311, hy311⟩ : ∃ y_ : List (S49), y_ = (List.replicate ((l0.length : Int) : Int).toNat z49) := ⟨_, rfl⟩
 replace H : (laws_toConditionS.l0 k l0 y311 0) = some r := by first | (rw [hy311]; with_reducible exact H) | (have H2_ := (Option.bind_some _ _).symm.trans H; rw [hy311]; with_reducible exact H2_) | (have H2_ := (Option.bind_some _ _).symm.trans H; with_reducible exact H2_) | with_reducible exact H | (rw [hy311]; exact H) | exact H
 have Ny311 := Aside0.mk hy311
 clear hy311
 have H' := Aside0.mk H
 clear H
 go_enter Tryz.func64, Tryz.ntmps64
 go_wp2_with (first | ((with_reducible refine gate_dst (N := 7) rfl ?_); refine Kd.R_make k49 _ 49 rfl (N := 7) rfl 47 _ _ rfl (l0.length : Int) rfl rfl Tryz.underlying47 (.agg #[(.int .i64 0), (.string ⟨#[]⟩), (.int .i64 0), (.slice none 0 0)]) 56 info49 rfl (by decide) (by omega) z49 (ok := fun _ => True) (okp := fun _ => True) (k49_mkM _ _ _ z49 (Kd.R_nil _ _ _ _ _)) (fun _ hk => hk) trivial (Own.dp) (Nat.le_trans (Nat.mul_le_mul_right _ (Own.dp : (l0.length : Int).toNat ≤ 5026338869833)) (by omega)) (Below.refl _ _) (Nat.le_refl _) ?_; intro v312 w4 ho5 hb hg_ hnew_; clear hg_ hnew_; (first | rw [← Ny311.out] at ho5 | (simp only [Int.reduceToNat] at ho5; rw [← Ny311.out] at ho5)); have HO313 := Aside0.mk (Kd.R_lower ho5 (below_size Own.bl)); replace HB := Own.bs hb; clear hb ho5))
 go_loopg [4] k (fun kq v4 w' => ∃ (x3_1 : List (S49)) (x4_1 : Int), v4 = .int .i64 x4_1 ∧ Aside0 (laws_toConditionS.l0 kq l0 x3_1 x4_1 = some r) ∧ Aside0 (kq ≤ k) ∧ Aside0 (Kd.R k49 49 w' w.heap.size (fun _ => True) v312 x3_1) ∧ Aside0 (Below w.heap.size w w'))
 case atStart => exact ⟨(y311), (0), Own.rs, H', ⟨Nat.le_refl _⟩, ⟨Own.rd HO313.out⟩, ⟨Own.bl⟩⟩
 case round =>
  clear H'; try clear c2; try clear c2b0; try clear c2b1; try clear c3; try clear c3b0; try clear c3b1
  obtain ⟨x3_1, x4_1, rfl, HA, HK1, HO_3, HB⟩ := hrel
  cases gk with
  | zero => exact absurd HA.out (by simp [laws_toConditionS.l0])
  | succ k1 =>
   have H := HA.out; clear HA
   simp only [laws_toConditionS.l0] at H
   by_cases c6 : x4_1 < (l0.length : Int)
   rotate_left
   ·
    rw [if_neg c6] at H; replace c6 := decide_eq_false c6; obtain rfl := Option.some.inj H
    go_wp2
    go_ret
    exact ⟨_, Own.rr, Own.rd HO_3.out, Own.bl⟩
   rw [if_pos c6] at H; replace c6 := decide_eq_true c6
   replace H := Own.ifd H; obtain ⟨c7, H⟩ := H; replace H := Option.bind_eq_some_iff.mp H; obtain ⟨⟨t315, t316, t317, t318⟩, A80, H⟩ := H
   replace H : (if x4_1 < (x3_1.length : Int) then (laws_toConditionS.l0 k1 l0 (x3_1.set (x4_1 : Int).toNat (⟨t315, t316, t317, t318⟩ : S49)) (wrap64 (x4_1 + 1))) else (none)) = some r := H
   have A8 := Aside0.mk A80; clear A80
   replace H := Own.ifd H; obtain ⟨c9, H⟩ := H
   obtain ⟨y321, hy321⟩ : ∃ y_ : List (S49), y_ = (x3_1.set (x4_1 : Int).toNat (⟨t315, t316, t317, t318⟩ : S49)) := ⟨_, rfl⟩
   replace H : (laws_toConditionS.l0 k1 l0 y321 (wrap64 (x4_1 + 1))) = some r := by first | (rw [hy321]; with_reducible exact H) | (have H2_ := (Option.bind_some _ _).symm.trans H; rw [hy321]; with_reducible exact H2_) | (have H2_ := (Option.bind_some _ _).symm.trans H; with_reducible exact H2_) | with_reducible exact H | (rw [hy321]; exact H) | exact H
   have Ny321 := Aside0.mk hy321; clear hy321; have H' := Aside0.mk H; clear H
   have p314 : 0 ≤ (x4_1 : Int) := Own.dp
   have q314 : x4_1 < (l0.length : Int) := Own.dp
   obtain ⟨ad314, A314_3, c314_3, e314, hx314_0, hx314_1, hx314_2, hx314_3, hl314_3, hi314_3⟩ := at_T58 HR0.out x4_1 p314 q314; cases e314; replace hx314_0 := Own.up HB.out hx314_0; replace hx314_1 := Own.up HB.out hx314_1; replace hx314_2 := Own.up HB.out hx314_2; replace hx314_3 := Own.up HB.out hx314_3; have HR314_3 := Aside0.mk hi314_3; have HC314_3 := Aside0.mk hl314_3; clear hi314_3 hl314_3; replace p314 := eq_true p314; replace q314 := eq_true q314
   go_wp2_with (first | ((with_reducible refine gate_callee (f := 52) rfl ?_); refine goesL_ (some 20) rfl rfl Tryz.func52 (by kernel_rfl) rfl #[.agg #[.int .i64 ((rd_T58 l0 x4_1).f0), .string ((rd_T58 l0 x4_1).f1), .int .i64 ((rd_T58 l0 x4_1).f2), .slice A314_3 ((rd_T58 l0 x4_1).f3).length c314_3]] rfl Own.ha ?_; (with_reducible refine (ih_52 k1 (by have := HK1.out; omega) ((rd_T58 l0 x4_1).f0) ((rd_T58 l0 x4_1).f1) ((rd_T58 l0 x4_1).f2) _ _ ((rd_T58 l0 x4_1).f3) t315 t316 t317 t318 _ ?side1 ?side2 A8.out).mono ?_); (case side1 => exact Kd.C_below HR314_3.out Own.bl); (case side2 => exact HC314_3.out); rintro e w11 ⟨v319, rfl, ho0, hb⟩; refine ⟨_, rfl, ?_⟩; have HO320 := Aside0.mk (Kd.R_lower (Kd.R_new' ho0 (Kd.R_lt (Own.rd HO_3.out))) (below_size Own.bl)); replace HO_3 := Aside0.mk (Kd.R_elder' (Own.rd HO_3.out) (Kd.R_base ho0) hb); replace HB := Own.bs hb; (try clear hb); (try clear hk); (try clear ho0); have p10 : 0 ≤ (x4_1 : Int) := Own.dp; have q10 : (x4_1 : Int) < ((x3_1.length : Int) : Int) := Own.dp; obtain ⟨go10, co10, eo10, gb10, gl10, cl10, HG10⟩ := Kd.R_form HO_3.out (by omega); (first | cases eo10 | (injection eo10 with ea_ en_ ec_; (first | subst ea_ | (injection ea_ with ea_; subst ea_)); subst ec_; clear en_)); have GB10 := Aside0.mk gb10; have GG10 := Aside0.mk HG10; clear gb10 gl10 HG10; obtain ⟨ce10, hcl10, hM10, hcc10, hfr10⟩ := Kd.R_elem HO_3.out z49 (x4_1 : Int) p10 q10; obtain ⟨ve10_3, rfl, ge10_3⟩ := k49_openM hM10; have hx10_0 : w11.cell? ⟨go10, (x4_1 : Int).toNat * 4, none⟩ = some (.int .i64 ((rd_T49 x3_1 x4_1).f0)) := hcc10 0 _ rfl; have hx10_1 : w11.cell? ⟨go10, (x4_1 : Int).toNat * 4 + 1, none⟩ = some (.string ((rd_T49 x3_1 x4_1).f1)) := hcc10 1 _ rfl; have hx10_2 : w11.cell? ⟨go10, (x4_1 : Int).toNat * 4 + 2, none⟩ = some (.int .i64 ((rd_T49 x3_1 x4_1).f2)) := hcc10 2 _ rfl; have hx10_3 : w11.cell? ⟨go10, (x4_1 : Int).toNat * 4 + 3, none⟩ = some (ve10_3) := hcc10 3 _ rfl; have hf10_0 : w11.frozen? ⟨go10, (x4_1 : Int).toNat * 4, none⟩ = false := hfr10 0; have hf10_1 : w11.frozen? ⟨go10, (x4_1 : Int).toNat * 4 + 1, none⟩ = false := hfr10 1; have hf10_2 : w11.frozen? ⟨go10, (x4_1 : Int).toNat * 4 + 2, none⟩ = false := hfr10 2; have hf10_3 : w11.frozen? ⟨go10, (x4_1 : Int).toNat * 4 + 3, none⟩ = false := hfr10 3; clear hcl10 hcc10 hfr10 hM10; replace p10 := eq_true p10; replace q10 := eq_true q10; obtain ⟨Ao12, co12, eo12⟩ := Kd.R_slice HO320.out; subst eo12; have n_ := Aside0.mk (Kd.R_mono (ok' := (fun k_ => some k_ ≠ (.slice Ao12 t318.length co12 : Value).ownBlock)) HO_3.out (fun k_ hk => hk.2)); clear HO_3; have HO_3 := n_; clear n_; have HX13 := Aside0.mk (show Kd.R k49 49 w11 w.heap.size (fun _ => True) (.slice (some ⟨go10, 0, none⟩) x3_1.length co10) x3_1 from (by (with_reducible repeat (first | apply Kd.R_alloc | apply Kd.R_drewN | apply Kd.R_drew)); exact Kd.R_mono HO_3.out (fun _ hk => trivial))); obtain ⟨ce13, hcl13, hM13, hcc13, hfr13⟩ := Kd.R_elem HX13.out z49 (x4_1 : Int) (Own.dp) (by have h_ : (x4_1 : Int) < ((x3_1.length : Int) : Int) := Own.dp; first | exact h_ | (have e_ := (Kd.R_reads' HO_3.out).1; omega) | simpa using h_); obtain ⟨ve13_3, rfl, ge13_3⟩ := k49_openM hM13; have HP13 := Kd.R_seg HX13.out (x4_1 : Int) (Own.dp) (by have h_ : (x4_1 : Int) < ((x3_1.length : Int) : Int) := Own.dp; first | exact h_ | (have e_ := (Kd.R_reads' HO_3.out).1; omega) | simpa using h_) (seg := [.int .i64 t315, .string t316, .int .i64 t317, .slice Ao12 t318.length co12]) (j := 0) hcl13 hcc13 (show 4 ≤ 4 from by decide) (x' := (⟨t315, t316, t317, t318⟩ : S49)) (k49_mkM _ _ _ (⟨t315, t316, t317, t318⟩ : S49) (Kd.R_mono (HO320.out) (fun k_ hk => ⟨trivial, fun e_ => (hk.2) (by rw [e_]; rfl)⟩))) (fun _ hk => hk); have hx13_0 := hcc13 0 _ rfl; (try simp only [show (k49).sz = 4 from rfl, Nat.mul_one, Nat.add_zero] at hx13_0); have hf13_0 := hfr13 0; (try simp only [show (k49).sz = 4 from rfl, Nat.mul_one, Nat.add_zero] at hf13_0); have hx13_1 := hcc13 1 _ rfl; (try simp only [show (k49).sz = 4 from rfl, Nat.mul_one, Nat.add_zero] at hx13_1); have hf13_1 := hfr13 1; (try simp only [show (k49).sz = 4 from rfl, Nat.mul_one, Nat.add_zero] at hf13_1); have hx13_2 := hcc13 2 _ rfl; (try simp only [show (k49).sz = 4 from rfl, Nat.mul_one, Nat.add_zero] at hx13_2); have hf13_2 := hfr13 2; (try simp only [show (k49).sz = 4 from rfl, Nat.mul_one, Nat.add_zero] at hf13_2); have hx13_3 := hcc13 3 _ rfl; (try simp only [show (k49).sz = 4 from rfl, Nat.mul_one, Nat.add_zero] at hx13_3); have hf13_3 := hfr13 3; (try simp only [show (k49).sz = 4 from rfl, Nat.mul_one, Nat.add_zero] at hf13_3); clear hcl13 hcc13 hfr13 hM13) | ((with_reducible refine gate_store (t := 49) (p := 21) rfl ?_); refine store_event (t := 49) (p := 21) (v := ?vo_w14) (w1 := ((((w11.setCell ⟨go10, (x4_1 : Int).toNat * 4, none⟩ (.int .i64 t315)).setCell ⟨go10, (x4_1 : Int).toNat * 4 + 1, none⟩ (.string t316)).setCell ⟨go10, (x4_1 : Int).toNat * 4 + 2, none⟩ (.int .i64 t317)).setCell ⟨go10, (x4_1 : Int).toNat * 4 + 3, none⟩ (.slice Ao12 t318.length co12))) ?hg ?ho ?hn ?hr ?_; (case ho => rfl); (case hg => rfl); (case hn => rfl); (case hr => first | (go_simp; done) | (go_simp; rfl)); intro w14 hw; have hg : w11.grownBy w14 (some go10) := (by rw [hw]; exact HP13.2); have hp_ : Kd.R k49 49 w14 w.heap.size (fun _ => True) (.slice (some ⟨go10, 0, none⟩) x3_1.length co10) y321 := (by rw [hw, Ny321.out]; exact HP13.1); clear HP13; replace HO_3 := Aside0.mk hp_; replace HB := Aside0.mk ((by rw [hw]; exact below_set (below_set (below_set (below_set (HB.out) GB10.out) GB10.out) GB10.out) GB10.out : Below w.heap.size w w14)); clear HO320; clear hg hw hp_))
   go_roundg k1
   case measure => have := HK1.out; omega
   case rel => exact ⟨(y321), (wrap64 (x4_1 + 1)), Own.rs, H', ⟨by have := HK1.out; omega⟩, ⟨Own.rd HO_3.out⟩, ⟨Own.bl⟩⟩
theorem laws_toCondition.callsG (k : Nat) : (∀ (a0_0 : Int) (a0_1 : ByteArray) (a0_2 : Int) (A0_3 : Option Addr) (c0_3 : Nat) (l0_3 : List (S58)) (r1 : Int) (r2 : ByteArray) (r3 : Int) (r4 : List (S49)) (w : World) (hr0_3 : Kd.C k58 w A0_3 l0_3.length l0_3) (hc0_3 : l0_3.length ≤ c0_3) (h : laws_toCondition.f k a0_0 a0_1 a0_2 l0_3 = some (r1, r2, r3, r4)),
  Calls Tryz.prog 52 #[.agg #[.int .i64 a0_0, .string a0_1, .int .i64 a0_2, .slice A0_3 l0_3.length c0_3]] w fun e w' => ∃ v3_ : Value, e = .returned (.agg #[.int .i64 r1, .string r2, .int .i64 r3, v3_]) ∧ Kd.R k49 49 w' w.heap.size (fun _ => True) v3_ r4 ∧ Below w.heap.size w w') ∧
 (∀ (A0 : Option Addr) (c0 : Nat) (l0 : List (S58)) (r : List (S49)) (w : World) (hr0 : Kd.C k58 w A0 l0.length l0) (hc0 : l0.length ≤ c0) (h : laws_toConditionS.f k l0 = some r),
  Calls Tryz.prog 64 #[.slice A0 l0.length c0] w fun e w' => ∃ v0_ : Value, e = .returned (v0_) ∧ Kd.R k49 49 w' w.heap.size (fun _ => True) v0_ r ∧ Below w.heap.size w w') := by
 induction k using Nat.strongRecOn with
 | _ k ih => exact ⟨laws_toCondition.callsI k (fun m_ hm_ => (ih m_ hm_).1) (fun m_ hm_ => (ih m_ hm_).2), laws_toConditionS.callsI k (fun m_ hm_ => (ih m_ hm_).1) (fun m_ hm_ => (ih m_ hm_).2)⟩
theorem laws_toCondition.calls (k : Nat) : (∀ (a0_0 : Int) (a0_1 : ByteArray) (a0_2 : Int) (A0_3 : Option Addr) (c0_3 : Nat) (l0_3 : List (S58)) (r1 : Int) (r2 : ByteArray) (r3 : Int) (r4 : List (S49)) (w : World) (hr0_3 : Kd.C k58 w A0_3 l0_3.length l0_3) (hc0_3 : l0_3.length ≤ c0_3) (h : laws_toCondition.f k a0_0 a0_1 a0_2 l0_3 = some (r1, r2, r3, r4)),
  Calls Tryz.prog 52 #[.agg #[.int .i64 a0_0, .string a0_1, .int .i64 a0_2, .slice A0_3 l0_3.length c0_3]] w fun e w' => ∃ v3_ : Value, e = .returned (.agg #[.int .i64 r1, .string r2, .int .i64 r3, v3_]) ∧ Kd.R k49 49 w' w.heap.size (fun _ => True) v3_ r4 ∧ Below w.heap.size w w') := (laws_toCondition.callsG k).1
end Go.Proofs.YtckopglnblcnoaaGreatDoor.QFnExactRemoveClause
