-- The row of the law FnExactClausesOf out of its pure theorem and the walk.
import Derived.Test.YtdfbfcgjcfbmpaaGreatDoorRows
import Derived.Test.YtdfbfcgjcfbmpaaGreatDoorQFnExactClausesOfx90
import Derived.Test.YtdfbfcgjcfbmpaaGreatDoorPureFnExactClausesOf
import Derived.Test.YtdfbfcgjcfbmpaaGreatDoorOpenK
import Derived.Test.YtdfbfcgjcfbmpaaGreatDoorLaidM
import Derived.Test.YtdfbfcgjcfbmpaaGreatDoorCards
import Derived.Test.YtdfbfcgjcfbmpaaGreatDoorTie
import Derived.SevenTiedAt
import Derived.HandedShaped
import Derived.WalkKit
import Derived.ProofKit
import Derived.OpenShut
import Derived.ShutString
import Derived.ChangeOld
import Derived.Below
import Derived.SizedLaws
namespace Go.Proofs.YtdfbfcgjcfbmpaaGreatDoor.fnExactClausesOf
open Go.ChangeShapes Go.WideShapes Go.ChangeAt Go.RowKit Go.Proofs.YtdfbfcgjcfbmpaaGreatDoorW.PrintWords
open Go.ChangeMaps (open_string shut_string)
set_option linter.unusedVariables false
set_option linter.unusedSimpArgs false
open Go.Proofs.YtdfbfcgjcfbmpaaGreatDoor.QFnExactClausesOf
theorem op41 {H : Type} {enc : TypeId × Value → H} {W : World} (fuel : Nat) : OpenK.Op enc Tryz.prog W 41 (QFnExactClausesOf.k41.K W) Pure.ok41 fuel := by
  induction fuel using Nat.strongRecOn with
  | _ fuel ih =>
  intro cs y h
  obtain ⟨cl, n, hn, fs⟩ := OpenK.op_struct Tryz.underlying41 h
  have ce : Tryz.prog.cellsOf 41 = 4 := by kernel_rfl
  rw [ce] at cl
  obtain ⟨c0, c1, c2, c3, rfl⟩ := OpenK.list4 cl
  have ct3 : Tryz.prog.cellsOf 3 = 1 := by kernel_rfl
  have ct9 : Tryz.prog.cellsOf 9 = 1 := by kernel_rfl
  have ct39 : Tryz.prog.cellsOf 39 = 1 := by kernel_rfl
  obtain ⟨z0, hz0⟩ := fs _ (.head _)
  simp only [ct3, List.drop_succ_cons, List.drop_zero, List.take_succ_cons, List.take_zero] at hz0
  obtain ⟨a0, e0, w0⟩ := (OpenK.op_int Tryz.underlying3 n) _ _ hz0
  obtain rfl : c0 = .int .i64 a0 := by simpa using e0
  obtain ⟨z1, hz1⟩ := fs _ (.tail _ (.head _))
  simp only [ct9, List.drop_succ_cons, List.drop_zero, List.take_succ_cons, List.take_zero] at hz1
  obtain ⟨a1, e1, w1⟩ := (OpenK.op_string Tryz.underlying9 n) _ _ hz1
  obtain rfl : c1 = .string a1 := by simpa using e1
  obtain ⟨z2, hz2⟩ := fs _ (.tail _ (.tail _ (.head _)))
  simp only [ct3, List.drop_succ_cons, List.drop_zero, List.take_succ_cons, List.take_zero] at hz2
  obtain ⟨a2, e2, w2⟩ := (OpenK.op_int Tryz.underlying3 n) _ _ hz2
  obtain rfl : c2 = .int .i64 a2 := by simpa using e2
  obtain ⟨z3, hz3⟩ := fs _ (.tail _ (.tail _ (.tail _ (.head _))))
  simp only [ct39, List.drop_succ_cons, List.drop_zero, List.take_succ_cons, List.take_zero] at hz3
  obtain ⟨l3, ⟨A3, d3, e3, g3, r3⟩, m3, w3⟩ := (OpenK.op_slice (d := k41) Tryz.underlying39 (by kernel_rfl) (fun f_ hf_ => (ih f_ (by omega)))) _ _ hz3
  obtain rfl : c3 = .slice A3 l3.length d3 := by simpa using e3
  exact ⟨⟨a0, a1, a2, l3⟩, k41_mk _ _ g3 r3, .mk _ w0 w1 w2 m3 w3⟩
theorem op43 {H : Type} {enc : TypeId × Value → H} {W : World} (fuel : Nat) : OpenK.Op enc Tryz.prog W 43 (QFnExactClausesOf.k43.K W) Pure.ok43 fuel := by
  induction fuel using Nat.strongRecOn with
  | _ fuel ih =>
  intro cs y h
  obtain ⟨cl, n, hn, fs⟩ := OpenK.op_struct Tryz.underlying43 h
  have ce : Tryz.prog.cellsOf 43 = 12 := by kernel_rfl
  rw [ce] at cl
  obtain ⟨c0, c1, c2, c3, c4, c5, c6, c7, c8, c9, c10, c11, rfl⟩ := OpenK.list12 cl
  have ct3 : Tryz.prog.cellsOf 3 = 1 := by kernel_rfl
  have ct9 : Tryz.prog.cellsOf 9 = 1 := by kernel_rfl
  have ct41 : Tryz.prog.cellsOf 41 = 4 := by kernel_rfl
  obtain ⟨z0, hz0⟩ := fs _ (.head _)
  simp only [ct9, List.drop_succ_cons, List.drop_zero, List.take_succ_cons, List.take_zero] at hz0
  obtain ⟨a0, e0, w0⟩ := (OpenK.op_string Tryz.underlying9 n) _ _ hz0
  obtain rfl : c0 = .string a0 := by simpa using e0
  obtain ⟨z1, hz1⟩ := fs _ (.tail _ (.head _))
  simp only [ct3, List.drop_succ_cons, List.drop_zero, List.take_succ_cons, List.take_zero] at hz1
  obtain ⟨a1, e1, w1⟩ := (OpenK.op_int Tryz.underlying3 n) _ _ hz1
  obtain rfl : c1 = .int .i64 a1 := by simpa using e1
  obtain ⟨z2, hz2⟩ := fs _ (.tail _ (.tail _ (.head _)))
  simp only [ct3, List.drop_succ_cons, List.drop_zero, List.take_succ_cons, List.take_zero] at hz2
  obtain ⟨a2, e2, w2⟩ := (OpenK.op_int Tryz.underlying3 n) _ _ hz2
  obtain rfl : c2 = .int .i64 a2 := by simpa using e2
  obtain ⟨z3, hz3⟩ := fs _ (.tail _ (.tail _ (.tail _ (.head _))))
  simp only [ct9, List.drop_succ_cons, List.drop_zero, List.take_succ_cons, List.take_zero] at hz3
  obtain ⟨a3, e3, w3⟩ := (OpenK.op_string Tryz.underlying9 n) _ _ hz3
  obtain rfl : c3 = .string a3 := by simpa using e3
  obtain ⟨z4, hz4⟩ := fs _ (.tail _ (.tail _ (.tail _ (.tail _ (.head _)))))
  simp only [ct3, List.drop_succ_cons, List.drop_zero, List.take_succ_cons, List.take_zero] at hz4
  obtain ⟨a4, e4, w4⟩ := (OpenK.op_int Tryz.underlying3 n) _ _ hz4
  obtain rfl : c4 = .int .i64 a4 := by simpa using e4
  obtain ⟨z5, hz5⟩ := fs _ (.tail _ (.tail _ (.tail _ (.tail _ (.tail _ (.head _))))))
  simp only [ct3, List.drop_succ_cons, List.drop_zero, List.take_succ_cons, List.take_zero] at hz5
  obtain ⟨a5, e5, w5⟩ := (OpenK.op_int Tryz.underlying3 n) _ _ hz5
  obtain rfl : c5 = .int .i64 a5 := by simpa using e5
  obtain ⟨z6, hz6⟩ := fs _ (.tail _ (.tail _ (.tail _ (.tail _ (.tail _ (.tail _ (.head _)))))))
  simp only [ct41, List.drop_succ_cons, List.drop_zero, List.take_succ_cons, List.take_zero] at hz6
  obtain ⟨x6, hK6, hQ6⟩ := (op41 n) _ _ hz6
  obtain ⟨A6_3, d6_3, e6, l6_3, g6_3⟩ := k41_open hK6
  obtain ⟨rfl, rfl, rfl, rfl⟩ : c6 = .int .i64 x6.f0 ∧ c7 = .string x6.f1 ∧ c8 = .int .i64 x6.f2 ∧ c9 = .slice A6_3 x6.f3.length d6_3 := by simpa using e6
  obtain ⟨z7, hz7⟩ := fs _ (.tail _ (.tail _ (.tail _ (.tail _ (.tail _ (.tail _ (.tail _ (.head _))))))))
  simp only [ct3, List.drop_succ_cons, List.drop_zero, List.take_succ_cons, List.take_zero] at hz7
  obtain ⟨a7, e7, w7⟩ := (OpenK.op_int Tryz.underlying3 n) _ _ hz7
  obtain rfl : c10 = .int .i64 a7 := by simpa using e7
  obtain ⟨z8, hz8⟩ := fs _ (.tail _ (.tail _ (.tail _ (.tail _ (.tail _ (.tail _ (.tail _ (.tail _ (.head _)))))))))
  simp only [ct9, List.drop_succ_cons, List.drop_zero, List.take_succ_cons, List.take_zero] at hz8
  obtain ⟨a8, e8, w8⟩ := (OpenK.op_string Tryz.underlying9 n) _ _ hz8
  obtain rfl : c11 = .string a8 := by simpa using e8
  exact ⟨⟨a0, a1, a2, a3, a4, a5, x6, a7, a8⟩, k43_mk _ _ l6_3 g6_3, .mk _ w0 w1 w2 w3 w4 w5 hQ6 w7 w8⟩
theorem own : ownKnob Tryz.prog.godebug = none := by kernel_rfl
theorem laidOut : laidOutB Tryz.prog = true := by kernel_rfl
set_option maxRecDepth 100000 in
theorem lifted (os : Os) (started : os.Started) (H : Type) (enc : TypeId × Value → H) :
    ReturnsInHanded {} Tryz.checked os 6 .any (fun w args => (Rows.fnExactClausesOfSpec.pre enc Tryz.prog Tryz.f6 Rows.fnExactClausesOfRow.domain false w args ∧ laidMetH Tryz.prog Rows.fnExactClausesOfRow.laid w) ∧ sizedMet enc Tryz.prog Tryz.f6 (OpenSpec.ofChange Rows.fnExactClausesOfSpec) false w args) (Rows.fnExactClausesOfSpec.post enc Tryz.prog Tryz.f6 false true false false) := by
  refine LaidK.returns (C := Tryz.checked) (X := (fun w _ => laidMetH Tryz.prog Rows.fnExactClausesOfRow.laid w)) (fun _ _ _ hh h => h.of_heap hh) own started (by kernel_rfl) Tryz.func6
    (ChangeSpec.witness_shaped (enc := enc) (C := Tryz.checked) (os := os) (X := (fun w _ => laidMetH Tryz.prog Rows.fnExactClausesOfRow.laid w)) false (World.laidAll Tryz.prog os Rows.fnExactClausesOfRow.laid) #[.agg #[.slice none 0 0, .slice none 0 0], .int .i64 0, .int .i64 0] 8 (World.laidAll_os _ _ _)
      (World.shaped_of_ZipB (by kernel_rfl) (by kernel_rfl)) (by kernel_rfl) (by kernel_rfl) (by kernel_rfl)
      (by rw [MakeChecks.laidMetH_plain _ _ _ (by kernel_rfl)]; exact laidMet_laidAll _ (by kernel_rfl) (by kernel_rfl))) ?_
  intro W base args ds gs before hval0 hW hcnd hsz0 hL hSh _
  have hsz : (DataW.weightsEach Tryz.prog (Tryz.f6.params.toList ++ Rows.fnExactClausesOfSpec.plain.varTypes Tryz.prog) (ds ++ gs)).all (· ≤ reachBytes) = true := hsz0
  have hval : ∀ (j : Nat) t v, Tryz.f6.params[j]? = some t → args[j]? = some v → Value.okWide Tryz.prog W .any base t v := hval0
  have hW' := hW
  obtain ⟨p, q, hA0, hV, rfl, hfz, hnd⟩ := hW
  have hA : DataW.TrodAll enc Tryz.prog W 0 (fun _ => true) true Tryz.f6.params.toList args.toList ds p := hA0
  rw [Tryz.params6] at hA hval hsz
  obtain ⟨v0, vs0, d0, ds0, p0, q0, hargs, rfl, rfl, h0, rr0⟩ := trodAll_cons hA
  obtain ⟨v1, vs1, d1, ds1, p1, q1, rfl, rfl, rfl, h1, rr1⟩ := trodAll_cons rr0
  obtain ⟨v2, vs2, d2, ds2, p2, q2, rfl, rfl, rfl, h2, rr2⟩ := trodAll_cons rr1
  obtain ⟨rfl, rfl, rfl⟩ := trodAll_nil rr2
  obtain rfl : args = #[v0, v1, v2] := by cases args; simp_all
  obtain ⟨rfl, rfl⟩ := trodVars_none hV
  have k0 := h0
  have lt0 : ∀ x ∈ p0, x.block < W.heap.size := by obtain ⟨m, hm⟩ := k0; exact DataW.trod_lt m _ _ _ hm
  obtain ⟨cs0, rfl, sz0⟩ := okWide_struct Tryz.underlying25 (hval 0 25 v0 rfl rfl)
  obtain ⟨fuel0, hf0⟩ := h0
  simp only [Value.cells] at hf0
  obtain ⟨cl0, n0, _, fs0⟩ := OpenK.op_struct Tryz.underlying25 hf0
  have ce0 : Tryz.prog.cellsOf 25 = 2 := by kernel_rfl
  rw [ce0] at cl0
  obtain ⟨c0_0_, c0_1_, el0⟩ := OpenK.list2 cl0
  obtain rfl := OpenK.arr_eq el0
  rw [el0] at fs0
  have ct0_22 : Tryz.prog.cellsOf 22 = 1 := by kernel_rfl
  have ct0_23 : Tryz.prog.cellsOf 23 = 1 := by kernel_rfl
  obtain ⟨z0_0, hz0_0⟩ := fs0 _ (.head _)
  simp only [ct0_22, List.drop_succ_cons, List.drop_zero, List.take_succ_cons, List.take_zero] at hz0_0
  obtain ⟨z0_1, hz0_1⟩ := fs0 _ (.tail _ (.head _))
  simp only [ct0_23, List.drop_succ_cons, List.drop_zero, List.take_succ_cons, List.take_zero] at hz0_1
  obtain ⟨l0_0, ⟨A0_0, c0_0, e0_0, g0_0, r0_0⟩, m0_0, w0_0⟩ := OpenK.op_slice (d := Kd.string) Tryz.underlying22 (by kernel_rfl) (fun f_ _ => OpenK.op_string Tryz.underlying9 f_) _ _ hz0_0
  obtain rfl : c0_0_ = .slice A0_0 l0_0.length c0_0 := by simpa using e0_0
  obtain ⟨l0_1, ⟨A0_1, c0_1, e0_1, g0_1, r0_1⟩, m0_1, w0_1⟩ := (OpenK.op_slice (d := k43) Tryz.underlying23 (by kernel_rfl) (fun f_ hf_ => (op43 f_))) _ _ hz0_1
  obtain rfl : c0_1_ = .slice A0_1 l0_1.length c0_1 := by simpa using e0_1
  obtain ⟨a1, rfl, rfl, rfl, w1⟩ := open_int Tryz.underlying3 (hval 1 3 v1 rfl rfl) h1
  obtain ⟨a2, rfl, rfl, rfl, w2⟩ := open_int Tryz.underlying3 (hval 2 3 v2 rfl rfl) h2
  clear hA0 hval0 hsz0 hsz
  obtain ⟨k, h⟩ := Pure.FnExactClausesOf l0_0 l0_1 a1 a2 m0_0 w0_0 m0_1 w0_1 w1 w2
  refine (QFnExactClausesOf.laws_FnExactClausesOf.calls k _ _ l0_0 _ _ l0_1 a1 a2 true W r0_0 g0_0 r0_1 g0_1 (LaidK.glob2 hL hSh) h ⟨rfl⟩).mono ?_
  rintro e W' ⟨rfl, hd⟩
  have bel : Below W.heap.size W W' := hd
  exact ⟨_, rfl, _, _, _, [], _, [], hW', trodAll_mk1 (shut_bool Tryz.underlying4 _), (trodAll_cons_mk (Below.trod laidOut (by kernel_rfl) (of_decide_eq_true (by kernel_rfl)) k0 bel lt0) (trodAll_cons_mk (shut_int Tryz.underlying3 w1) (trodAll_cons_mk (shut_int Tryz.underlying3 w2) trodAll_mk0))), rfl, bel.frame _, fun h => by cases h⟩
theorem over : Rows.fnExactClausesOfRow.holds Tryz.pinned (OpenSpec.ofChange Rows.fnExactClausesOfSpec) :=
  OpenClaim.holds_of_wide 6 Tryz.f6 rfl rfl rfl rfl rfl rfl rfl ⟨rfl, rfl, rfl, rfl, rfl⟩ rfl rfl rfl rfl rfl (by kernel_rfl) Tryz.func6 (by kernel_rfl)
    (of_decide_eq_true (by kernel_rfl)) (by unfold Func.isWrapper; first | (rw [if_pos (by decide +kernel)]; kernel_rfl) | (rw [if_neg (by decide +kernel)]; exact ⟨rfl, rfl⟩))
    (fun os started H enc _ => lifted os started H enc)
theorem proved : Rows.FnExactClausesOfCardSaid :=
  Claim7.holds_tied_plain_at .later [] [.data, .pinned] true (true, "38504c47f1a6c7feb2538bccfcbede6f925c125b6cc52d83a45761f4cf52405e") false over (fun _ h => by cases h) (by kernel_rfl) (fun _ h => by cases h) fnExactClausesOf_row_tie rfl ⟨rfl, rfl⟩ (by kernel_rfl) rfl
    (fun f fn hf hfn => by
      obtain rfl : f = 6 := Option.some.inj ((show Tryz.prog.funcNamed "loop.example/g00902/laws.FnExactClausesOf" = some 6 by kernel_rfl).symm.trans hf) |>.symm
      obtain rfl : fn = Tryz.f6 := (Option.some.inj (Tryz.func6.symm.trans hfn)).symm
      exact ⟨by kernel_rfl, fun j t ht => by
        rw [Tryz.params6] at ht
        have hm : t ∈ [3, 25] := by have := Array.mem_of_getElem? ht; simp at this; first | (simp; omega) | (rcases this with h_ | h_ | h_ | h_ <;> simp [h_]) | (rcases this with h_ | h_ | h_ <;> simp [h_]) | (rcases this with h_ | h_ <;> simp [h_]) | simp [this]
        have hall : ([3, 25].all fun u => !Tryz.prog.wantsStandIn u) = true := by kernel_rfl
        exact (show Tryz.prog.wantsStandIn t = false by simpa using List.all_eq_true.1 hall t hm)⟩)
    (by kernel_rfl)
#print axioms proved
end Go.Proofs.YtdfbfcgjcfbmpaaGreatDoor.fnExactClausesOf
namespace Go.Proofs.YtdfbfcgjcfbmpaaGreatDoor
/-- The row, under a short name, for the claim. -/
theorem fnExactClausesOf_holds : Rows.FnExactClausesOfCardSaid := fnExactClausesOf.proved
end Go.Proofs.YtdfbfcgjcfbmpaaGreatDoor
