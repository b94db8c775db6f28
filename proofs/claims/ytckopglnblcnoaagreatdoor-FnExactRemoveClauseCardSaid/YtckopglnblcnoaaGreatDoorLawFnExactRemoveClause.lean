-- The row of the law FnExactRemoveClause out of its pure theorem and the walk.
import Derived.Test.YtckopglnblcnoaaGreatDoorPureFnExactRemoveClause
import Derived.Test.YtckopglnblcnoaaGreatDoorOpenK
import Derived.Test.YtckopglnblcnoaaGreatDoorLaidM
import Derived.Test.YtckopglnblcnoaaGreatDoorCards
import Derived.Test.YtckopglnblcnoaaGreatDoorTie
import Derived.SevenTiedAt
import Derived.OpenShut
import Derived.ShutString
import Derived.ChangeOld
import Derived.SizedLaws
namespace Go.Proofs.YtckopglnblcnoaaGreatDoor.fnExactRemoveClause
open Go.ChangeShapes Go.WideShapes Go.ChangeAt Go.RowKit Go.Proofs.YtckopglnblcnoaaGreatDoorW.PrintWords
open Go.ChangeMaps (open_string shut_string)
set_option linter.unusedVariables false
set_option linter.unusedSimpArgs false
open Go.Proofs.YtckopglnblcnoaaGreatDoor.QFnExactRemoveClause
theorem op58 {H : Type} {enc : TypeId × Value → H} {W : World} (fuel : Nat) : OpenK.Op enc Tryz.prog W 58 (QFnExactRemoveClause.k58.K W) Pure.ok58 fuel := by
  induction fuel using Nat.strongRecOn with
  | _ fuel ih =>
  intro cs y h
  obtain ⟨cl, n, hn, fs⟩ := OpenK.op_struct Tryz.underlying58 h
  have ce : Tryz.prog.cellsOf 58 = 4 := by kernel_rfl
  rw [ce] at cl
  obtain ⟨c0, c1, c2, c3, rfl⟩ := OpenK.list4 cl
  have ct3 : Tryz.prog.cellsOf 3 = 1 := by kernel_rfl
  have ct9 : Tryz.prog.cellsOf 9 = 1 := by kernel_rfl
  have ct56 : Tryz.prog.cellsOf 56 = 1 := by kernel_rfl
  obtain ⟨z0, hz0⟩ := fs _ (.head _)
  simp only [ct3, List.drop_succ_cons, List.drop_zero, List.take_succ_cons, List.take_zero] at hz0
  obtain ⟨a0, e0, w0⟩ := (OpenK.op_int Tryz.underlying3 n) _ _ hz0
  obtain rfl : c0 = .int .i64 a0 := by simpa using e0
  obtain ⟨z1, hz1⟩ := fs _ (.tail _ (.head _))
  simp only [ct9, List.drop_succ_cons, List.drop_zero, List.take_succ_cons, List.take_zero] at hz1
  obtain ⟨a1, e1, w1⟩ := (OpenK.op_string Tryz.underlying9 n) _ _ hz1
  obtain rfl : c1 = .string a1 := by simpa using e1
  obtain ⟨z2, hz2⟩ := fs _ (.tail _ (.tail _ (.head _)))
  simp only [ct3, List.drop_succ_cons, List.drop_zero, List.take_succ_cons, List.take_zero] at hz2
  obtain ⟨a2, e2, w2⟩ := (OpenK.op_int Tryz.underlying3 n) _ _ hz2
  obtain rfl : c2 = .int .i64 a2 := by simpa using e2
  obtain ⟨z3, hz3⟩ := fs _ (.tail _ (.tail _ (.tail _ (.head _))))
  simp only [ct56, List.drop_succ_cons, List.drop_zero, List.take_succ_cons, List.take_zero] at hz3
  obtain ⟨l3, ⟨A3, d3, e3, g3, r3⟩, m3, w3⟩ := (OpenK.op_slice (d := k58) Tryz.underlying56 (by kernel_rfl) (fun f_ hf_ => (ih f_ (by omega)))) _ _ hz3
  obtain rfl : c3 = .slice A3 l3.length d3 := by simpa using e3
  exact ⟨⟨a0, a1, a2, l3⟩, k58_mk _ _ g3 r3, .mk _ w0 w1 w2 m3 w3⟩
theorem op60 {H : Type} {enc : TypeId × Value → H} {W : World} (fuel : Nat) : OpenK.Op enc Tryz.prog W 60 (QFnExactRemoveClause.k60.K W) Pure.ok60 fuel := by
  induction fuel using Nat.strongRecOn with
  | _ fuel ih =>
  intro cs y h
  obtain ⟨cl, n, hn, fs⟩ := OpenK.op_struct Tryz.underlying60 h
  have ce : Tryz.prog.cellsOf 60 = 12 := by kernel_rfl
  rw [ce] at cl
  obtain ⟨c0, c1, c2, c3, c4, c5, c6, c7, c8, c9, c10, c11, rfl⟩ := OpenK.list12 cl
  have ct3 : Tryz.prog.cellsOf 3 = 1 := by kernel_rfl
  have ct9 : Tryz.prog.cellsOf 9 = 1 := by kernel_rfl
  have ct58 : Tryz.prog.cellsOf 58 = 4 := by kernel_rfl
  obtain ⟨z0, hz0⟩ := fs _ (.head _)
  simp only [ct9, List.drop_succ_cons, List.drop_zero, List.take_succ_cons, List.take_zero] at hz0
  obtain ⟨a0, e0, w0⟩ := (OpenK.op_string Tryz.underlying9 n) _ _ hz0
  obtain rfl : c0 = .string a0 := by simpa using e0
  obtain ⟨z1, hz1⟩ := fs _ (.tail _ (.head _))
  simp only [ct3, List.drop_succ_cons, List.drop_zero, List.take_succ_cons, List.take_zero] at hz1
  obtain ⟨a1, e1, w1⟩ := (OpenK.op_int Tryz.underlying3 n) _ _ hz1
  obtain rfl : c1 = .int .i64 a1 := by simpa using e1
  obtain ⟨z2, hz2⟩ := fs _ (.tail _ (.tail _ (.head _)))
  simp only [ct3, List.drop_succ_cons, List.drop_zero, List.take_succ_cons, List.take_zero] at hz2
  obtain ⟨a2, e2, w2⟩ := (OpenK.op_int Tryz.underlying3 n) _ _ hz2
  obtain rfl : c2 = .int .i64 a2 := by simpa using e2
  obtain ⟨z3, hz3⟩ := fs _ (.tail _ (.tail _ (.tail _ (.head _))))
  simp only [ct9, List.drop_succ_cons, List.drop_zero, List.take_succ_cons, List.take_zero] at hz3
  obtain ⟨a3, e3, w3⟩ := (OpenK.op_string Tryz.underlying9 n) _ _ hz3
  obtain rfl : c3 = .string a3 := by simpa using e3
  obtain ⟨z4, hz4⟩ := fs _ (.tail _ (.tail _ (.tail _ (.tail _ (.head _)))))
  simp only [ct3, List.drop_succ_cons, List.drop_zero, List.take_succ_cons, List.take_zero] at hz4
  obtain ⟨a4, e4, w4⟩ := (OpenK.op_int Tryz.underlying3 n) _ _ hz4
  obtain rfl : c4 = .int .i64 a4 := by simpa using e4
  obtain ⟨z5, hz5⟩ := fs _ (.tail _ (.tail _ (.tail _ (.tail _ (.tail _ (.head _))))))
  simp only [ct3, List.drop_succ_cons, List.drop_zero, List.take_succ_cons, List.take_zero] at hz5
  obtain ⟨a5, e5, w5⟩ := (OpenK.op_int Tryz.underlying3 n) _ _ hz5
  obtain rfl : c5 = .int .i64 a5 := by simpa using e5
  obtain ⟨z6, hz6⟩ := fs _ (.tail _ (.tail _ (.tail _ (.tail _ (.tail _ (.tail _ (.head _)))))))
  simp only [ct58, List.drop_succ_cons, List.drop_zero, List.take_succ_cons, List.take_zero] at hz6
  obtain ⟨x6, hK6, hQ6⟩ := (op58 n) _ _ hz6
  obtain ⟨A6_3, d6_3, e6, l6_3, g6_3⟩ := k58_open hK6
  obtain ⟨rfl, rfl, rfl, rfl⟩ : c6 = .int .i64 x6.f0 ∧ c7 = .string x6.f1 ∧ c8 = .int .i64 x6.f2 ∧ c9 = .slice A6_3 x6.f3.length d6_3 := by simpa using e6
  obtain ⟨z7, hz7⟩ := fs _ (.tail _ (.tail _ (.tail _ (.tail _ (.tail _ (.tail _ (.tail _ (.head _))))))))
  simp only [ct3, List.drop_succ_cons, List.drop_zero, List.take_succ_cons, List.take_zero] at hz7
  obtain ⟨a7, e7, w7⟩ := (OpenK.op_int Tryz.underlying3 n) _ _ hz7
  obtain rfl : c10 = .int .i64 a7 := by simpa using e7
  obtain ⟨z8, hz8⟩ := fs _ (.tail _ (.tail _ (.tail _ (.tail _ (.tail _ (.tail _ (.tail _ (.tail _ (.head _)))))))))
  simp only [ct9, List.drop_succ_cons, List.drop_zero, List.take_succ_cons, List.take_zero] at hz8
  obtain ⟨a8, e8, w8⟩ := (OpenK.op_string Tryz.underlying9 n) _ _ hz8
  obtain rfl : c11 = .string a8 := by simpa using e8
  exact ⟨⟨a0, a1, a2, a3, a4, a5, x6, a7, a8⟩, k60_mk _ _ l6_3 g6_3, .mk _ w0 w1 w2 w3 w4 w5 hQ6 w7 w8⟩
theorem own : ownKnob Tryz.prog.godebug = none := by kernel_rfl
theorem laidOut : laidOutB Tryz.prog = true := by kernel_rfl
set_option maxRecDepth 100000 in
theorem lifted (os : Os) (started : os.Started) (H : Type) (enc : TypeId × Value → H) :
    ReturnsInHanded {} Tryz.checked os 3 .any (fun w args => (Rows.fnExactRemoveClauseSpec.pre enc Tryz.prog Tryz.f3 Rows.fnExactRemoveClauseRow.domain false w args ∧ laidMetH Tryz.prog Rows.fnExactRemoveClauseRow.laid w) ∧ sizedMet enc Tryz.prog Tryz.f3 (OpenSpec.ofChange Rows.fnExactRemoveClauseSpec) false w args) (Rows.fnExactRemoveClauseSpec.post enc Tryz.prog Tryz.f3 false true false false) := by
  refine LaidK.returns (C := Tryz.checked) (X := (fun w _ => laidMetH Tryz.prog Rows.fnExactRemoveClauseRow.laid w)) (fun _ _ _ hh h => h.of_heap hh) own started (by kernel_rfl) Tryz.func3
    (ChangeSpec.witness_shaped (enc := enc) (C := Tryz.checked) (os := os) (X := (fun w _ => laidMetH Tryz.prog Rows.fnExactRemoveClauseRow.laid w)) false (World.laidAll Tryz.prog os Rows.fnExactRemoveClauseRow.laid) #[.agg #[.slice none 0 0, .slice none 0 0], .string ByteArray.empty] 8 (World.laidAll_os _ _ _)
      (World.shaped_of_ZipB (by kernel_rfl) (by kernel_rfl)) (by kernel_rfl) (by kernel_rfl) (by kernel_rfl)
      (by rw [MakeChecks.laidMetH_plain _ _ _ (by kernel_rfl)]; exact laidMet_laidAll _ (by kernel_rfl) (by kernel_rfl))) ?_
  intro W base args ds gs before hval0 hW hcnd hsz0 hL hSh _
  have hsz : (DataW.weightsEach Tryz.prog (Tryz.f3.params.toList ++ Rows.fnExactRemoveClauseSpec.plain.varTypes Tryz.prog) (ds ++ gs)).all (· ≤ reachBytes) = true := hsz0
  have hval : ∀ (j : Nat) t v, Tryz.f3.params[j]? = some t → args[j]? = some v → Value.okWide Tryz.prog W .any base t v := hval0
  have hW' := hW
  obtain ⟨p, q, hA0, hV, rfl, hfz, hnd⟩ := hW
  have hA : DataW.TrodAll enc Tryz.prog W 0 (fun _ => true) true Tryz.f3.params.toList args.toList ds p := hA0
  rw [Tryz.params3] at hA hval hsz
  obtain ⟨v0, vs0, d0, ds0, p0, q0, hargs, rfl, rfl, h0, rr0⟩ := trodAll_cons hA
  obtain ⟨v1, vs1, d1, ds1, p1, q1, rfl, rfl, rfl, h1, rr1⟩ := trodAll_cons rr0
  obtain ⟨rfl, rfl, rfl⟩ := trodAll_nil rr1
  obtain rfl : args = #[v0, v1] := by cases args; simp_all
  obtain ⟨rfl, rfl⟩ := trodVars_none hV
  have k0 := h0
  have lt0 : ∀ x ∈ p0, x.block < W.heap.size := by obtain ⟨m, hm⟩ := k0; exact DataW.trod_lt m _ _ _ hm
  obtain ⟨cs0, rfl, sz0⟩ := okWide_struct Tryz.underlying25 (hval 0 25 v0 rfl rfl)
  obtain ⟨fuel0, hf0⟩ := h0
  simp only [Value.cells] at hf0
  obtain ⟨cl0, n0, _, fs0⟩ := OpenK.op_struct Tryz.underlying25 hf0
  have ce0 : Tryz.prog.cellsOf 25 = 2 := by kernel_rfl
  rw [ce0] at cl0
  obtain ⟨c0_0_, c0_1_, el0⟩ := OpenK.list2 cl0
  obtain rfl := OpenK.arr_eq el0
  rw [el0] at fs0
  have ct0_22 : Tryz.prog.cellsOf 22 = 1 := by kernel_rfl
  have ct0_23 : Tryz.prog.cellsOf 23 = 1 := by kernel_rfl
  obtain ⟨z0_0, hz0_0⟩ := fs0 _ (.head _)
  simp only [ct0_22, List.drop_succ_cons, List.drop_zero, List.take_succ_cons, List.take_zero] at hz0_0
  obtain ⟨z0_1, hz0_1⟩ := fs0 _ (.tail _ (.head _))
  simp only [ct0_23, List.drop_succ_cons, List.drop_zero, List.take_succ_cons, List.take_zero] at hz0_1
  obtain ⟨l0_0, ⟨A0_0, c0_0, e0_0, g0_0, r0_0⟩, m0_0, w0_0⟩ := OpenK.op_slice (d := Kd.string) Tryz.underlying22 (by kernel_rfl) (fun f_ _ => OpenK.op_string Tryz.underlying9 f_) _ _ hz0_0
  obtain rfl : c0_0_ = .slice A0_0 l0_0.length c0_0 := by simpa using e0_0
  obtain ⟨l0_1, ⟨A0_1, c0_1, e0_1, g0_1, r0_1⟩, m0_1, w0_1⟩ := (OpenK.op_slice (d := k60) Tryz.underlying23 (by kernel_rfl) (fun f_ hf_ => (op60 f_))) _ _ hz0_1
  obtain rfl : c0_1_ = .slice A0_1 l0_1.length c0_1 := by simpa using e0_1
  obtain ⟨a1, rfl, rfl, rfl, y1⟩ := open_string Tryz.underlying9 (hval 1 9 v1 rfl rfl) h1
  clear hA0 hval0 hsz0 hsz
  obtain ⟨k, h⟩ := Pure.FnExactRemoveClause l0_0 l0_1 a1 m0_0 w0_0 m0_1 w0_1 y1
  refine (QFnExactRemoveClause.laws_FnExactRemoveClause.calls k _ _ l0_0 _ _ l0_1 a1 true W r0_0 g0_0 r0_1 g0_1 (LaidK.glob2 hL hSh) h ⟨rfl⟩).mono ?_
  rintro e W' ⟨rfl, hd⟩
  have bel : Below W.heap.size W W' := hd
  exact ⟨_, rfl, _, _, _, [], _, [], hW', trodAll_mk1 (shut_bool Tryz.underlying4 _), (trodAll_cons_mk (Below.trod laidOut (by kernel_rfl) (of_decide_eq_true (by kernel_rfl)) k0 bel lt0) (trodAll_cons_mk (shut_string Tryz.underlying9 y1) trodAll_mk0)), rfl, bel.frame _, fun h => by cases h⟩
theorem over : Rows.fnExactRemoveClauseRow.holds Tryz.pinned (OpenSpec.ofChange Rows.fnExactRemoveClauseSpec) :=
  OpenClaim.holds_of_wide 3 Tryz.f3 rfl rfl rfl rfl rfl rfl rfl ⟨rfl, rfl, rfl, rfl, rfl⟩ rfl rfl rfl rfl rfl (by kernel_rfl) Tryz.func3 (by kernel_rfl)
    (of_decide_eq_true (by kernel_rfl)) (by unfold Func.isWrapper; first | (rw [if_pos (by decide +kernel)]; kernel_rfl) | (rw [if_neg (by decide +kernel)]; exact ⟨rfl, rfl⟩))
    (fun os started H enc _ => lifted os started H enc)
theorem proved : Rows.FnExactRemoveClauseCardSaid :=
  Claim7.holds_tied_plain_at .later [] [.data, .pinned] true (true, "d1e4a6975b922e4aa066953b2a4f17c57ad4629f84280693db739bd184863c05") false over (fun _ h => by cases h) (by kernel_rfl) (fun _ h => by cases h) fnExactRemoveClause_row_tie rfl ⟨rfl, rfl⟩ (by kernel_rfl) rfl
    (fun f fn hf hfn => by
      obtain rfl : f = 3 := Option.some.inj ((show Tryz.prog.funcNamed "loop.example/g00902/laws.FnExactRemoveClause" = some 3 by kernel_rfl).symm.trans hf) |>.symm
      obtain rfl : fn = Tryz.f3 := (Option.some.inj (Tryz.func3.symm.trans hfn)).symm
      exact ⟨by kernel_rfl, fun j t ht => by
        rw [Tryz.params3] at ht
        have hm : t ∈ [9, 25] := by have := Array.mem_of_getElem? ht; simp at this; first | (simp; omega) | (rcases this with h_ | h_ | h_ | h_ <;> simp [h_]) | (rcases this with h_ | h_ | h_ <;> simp [h_]) | (rcases this with h_ | h_ <;> simp [h_]) | simp [this]
        have hall : ([9, 25].all fun u => !Tryz.prog.wantsStandIn u) = true := by kernel_rfl
        exact (show Tryz.prog.wantsStandIn t = false by simpa using List.all_eq_true.1 hall t hm)⟩)
    (by kernel_rfl)
#print axioms proved
end Go.Proofs.YtckopglnblcnoaaGreatDoor.fnExactRemoveClause
namespace Go.Proofs.YtckopglnblcnoaaGreatDoor
/-- The row, under a short name, for the claim. -/
theorem fnExactRemoveClause_holds : Rows.FnExactRemoveClauseCardSaid := fnExactRemoveClause.proved
end Go.Proofs.YtckopglnblcnoaaGreatDoor
