-- The row of the law FnExactSimplifyCondition out of its pure theorem and the walk.
import Derived.Test.YtnpenfficbdlmaaDoorRows
import Derived.Test.YtnpenfficbdlmaaDoorQFnExactSimplifyConditionx90
import Derived.Test.YtnpenfficbdlmaaDoorPureFnExactSimplifyCondition
import Derived.Test.YtnpenfficbdlmaaDoorOpenK
import Derived.Test.YtnpenfficbdlmaaDoorLaidM
import Derived.Test.YtnpenfficbdlmaaDoorCards
import Derived.Test.YtnpenfficbdlmaaDoorTie
import Derived.SevenTiedAt
import Derived.HandedShaped
import Derived.WalkKit
import Derived.ProofKit
import Derived.OpenShut
import Derived.ShutString
import Derived.ChangeOld
import Derived.Below
import Derived.SizedLaws
namespace Go.Proofs.YtnpenfficbdlmaaDoor.fnExactSimplifyCondition
open Go.ChangeShapes Go.WideShapes Go.ChangeAt Go.RowKit Go.Proofs.YtnpenfficbdlmaaDoorW.PrintWords
open Go.ChangeMaps (open_string shut_string)
set_option linter.unusedVariables false
set_option linter.unusedSimpArgs false
open Go.Proofs.YtnpenfficbdlmaaDoor.QFnExactSimplifyCondition
theorem op24 {H : Type} {enc : TypeId × Value → H} {W : World} (fuel : Nat) : OpenK.Op enc Tryd.prog W 24 (QFnExactSimplifyCondition.k24.K W) Pure.ok24 fuel := by
  induction fuel using Nat.strongRecOn with
  | _ fuel ih =>
  intro cs y h
  obtain ⟨cl, n, hn, fs⟩ := OpenK.op_struct Tryd.underlying24 h
  have ce : Tryd.prog.cellsOf 24 = 4 := by kernel_rfl
  rw [ce] at cl
  obtain ⟨c0, c1, c2, c3, rfl⟩ := OpenK.list4 cl
  have ct3 : Tryd.prog.cellsOf 3 = 1 := by kernel_rfl
  have ct9 : Tryd.prog.cellsOf 9 = 1 := by kernel_rfl
  have ct22 : Tryd.prog.cellsOf 22 = 1 := by kernel_rfl
  obtain ⟨z0, hz0⟩ := fs _ (.head _)
  simp only [ct3, List.drop_succ_cons, List.drop_zero, List.take_succ_cons, List.take_zero] at hz0
  obtain ⟨a0, e0, w0⟩ := (OpenK.op_int Tryd.underlying3 n) _ _ hz0
  obtain rfl : c0 = .int .i64 a0 := by simpa using e0
  obtain ⟨z1, hz1⟩ := fs _ (.tail _ (.head _))
  simp only [ct9, List.drop_succ_cons, List.drop_zero, List.take_succ_cons, List.take_zero] at hz1
  obtain ⟨a1, e1, w1⟩ := (OpenK.op_string Tryd.underlying9 n) _ _ hz1
  obtain rfl : c1 = .string a1 := by simpa using e1
  obtain ⟨z2, hz2⟩ := fs _ (.tail _ (.tail _ (.head _)))
  simp only [ct3, List.drop_succ_cons, List.drop_zero, List.take_succ_cons, List.take_zero] at hz2
  obtain ⟨a2, e2, w2⟩ := (OpenK.op_int Tryd.underlying3 n) _ _ hz2
  obtain rfl : c2 = .int .i64 a2 := by simpa using e2
  obtain ⟨z3, hz3⟩ := fs _ (.tail _ (.tail _ (.tail _ (.head _))))
  simp only [ct22, List.drop_succ_cons, List.drop_zero, List.take_succ_cons, List.take_zero] at hz3
  obtain ⟨l3, ⟨A3, d3, e3, g3, r3⟩, m3, w3⟩ := (OpenK.op_slice (d := k24) Tryd.underlying22 (by kernel_rfl) (fun f_ hf_ => (ih f_ (by omega)))) _ _ hz3
  obtain rfl : c3 = .slice A3 l3.length d3 := by simpa using e3
  exact ⟨⟨a0, a1, a2, l3⟩, k24_mk _ _ g3 r3, .mk _ w0 w1 w2 m3 w3⟩
theorem own : ownKnob Tryd.prog.godebug = none := by kernel_rfl
theorem laidOut : laidOutB Tryd.prog = true := by kernel_rfl
set_option maxRecDepth 100000 in
theorem lifted (os : Os) (started : os.Started) (H : Type) (enc : TypeId × Value → H) :
    ReturnsInHanded {} Tryd.checked os 3 .any (fun w args => (Rows.fnExactSimplifyConditionSpec.pre enc Tryd.prog Tryd.f3 Rows.fnExactSimplifyConditionRow.domain false w args ∧ laidMetH Tryd.prog Rows.fnExactSimplifyConditionRow.laid w) ∧ sizedMet enc Tryd.prog Tryd.f3 (OpenSpec.ofChange Rows.fnExactSimplifyConditionSpec) false w args) (Rows.fnExactSimplifyConditionSpec.post enc Tryd.prog Tryd.f3 false true false false) := by
  refine LaidK.returns (C := Tryd.checked) (X := (fun w _ => laidMetH Tryd.prog Rows.fnExactSimplifyConditionRow.laid w)) (fun _ _ _ hh h => h.of_heap hh) own started (by kernel_rfl) Tryd.func3
    (ChangeSpec.witness_shaped (enc := enc) (C := Tryd.checked) (os := os) (X := (fun w _ => laidMetH Tryd.prog Rows.fnExactSimplifyConditionRow.laid w)) false (World.laidAll Tryd.prog os Rows.fnExactSimplifyConditionRow.laid) #[.agg #[.int .i64 0, .string ByteArray.empty, .int .i64 0, .slice none 0 0]] 8 (World.laidAll_os _ _ _)
      (World.shaped_of_ZipB (by kernel_rfl) (by kernel_rfl)) (by kernel_rfl) (by kernel_rfl) (by kernel_rfl)
      (by rw [MakeChecks.laidMetH_plain _ _ _ (by kernel_rfl)]; exact laidMet_laidAll _ (by kernel_rfl) (by kernel_rfl))) ?_
  intro W base args ds gs before hval0 hW hcnd hsz0 hL hSh _
  have hsz : (DataW.weightsEach Tryd.prog (Tryd.f3.params.toList ++ Rows.fnExactSimplifyConditionSpec.plain.varTypes Tryd.prog) (ds ++ gs)).all (· ≤ reachBytes) = true := hsz0
  have hval : ∀ (j : Nat) t v, Tryd.f3.params[j]? = some t → args[j]? = some v → Value.okWide Tryd.prog W .any base t v := hval0
  have hW' := hW
  obtain ⟨p, q, hA0, hV, rfl, hfz, hnd⟩ := hW
  have hA : DataW.TrodAll enc Tryd.prog W 0 (fun _ => true) true Tryd.f3.params.toList args.toList ds p := hA0
  rw [Tryd.params3] at hA hval hsz
  obtain ⟨v0, vs0, d0, ds0, p0, q0, hargs, rfl, rfl, h0, rr0⟩ := trodAll_cons hA
  obtain ⟨rfl, rfl, rfl⟩ := trodAll_nil rr0
  obtain rfl : args = #[v0] := by cases args; simp_all
  obtain ⟨rfl, rfl⟩ := trodVars_none hV
  have k0 := h0
  have lt0 : ∀ x ∈ p0, x.block < W.heap.size := by obtain ⟨m, hm⟩ := k0; exact DataW.trod_lt m _ _ _ hm
  obtain ⟨cs0, rfl, sz0⟩ := okWide_struct Tryd.underlying24 (hval 0 24 v0 rfl rfl)
  obtain ⟨fuel0, hf0⟩ := h0
  simp only [Value.cells] at hf0
  obtain ⟨x0, hK0, hQ0⟩ := op24 _ _ _ hf0
  obtain ⟨A0_3, d0_3, ec0, lc0_3, gc0_3⟩ := k24_open hK0
  obtain rfl := OpenK.arr_eq ec0
  clear hA0 hval0 hsz0 hsz
  obtain ⟨k, h⟩ := Pure.FnExactSimplifyCondition x0 hQ0
  refine (QFnExactSimplifyCondition.laws_FnExactSimplifyCondition.calls k x0.f0 x0.f1 x0.f2 _ _ x0.f3 true W gc0_3 lc0_3 (LaidK.glob2 hL hSh) h ⟨rfl⟩).mono ?_
  rintro e W' ⟨rfl, hd⟩
  have bel : Below W.heap.size W W' := hd
  exact ⟨_, rfl, _, _, _, [], _, [], hW', trodAll_mk1 (shut_bool Tryd.underlying4 _), (trodAll_cons_mk (Below.trod laidOut (by kernel_rfl) (of_decide_eq_true (by kernel_rfl)) k0 bel lt0) trodAll_mk0), rfl, bel.frame _, fun h => by cases h⟩
theorem over : Rows.fnExactSimplifyConditionRow.holds Tryd.pinned (OpenSpec.ofChange Rows.fnExactSimplifyConditionSpec) :=
  OpenClaim.holds_of_wide 3 Tryd.f3 rfl rfl rfl rfl rfl rfl rfl ⟨rfl, rfl, rfl, rfl, rfl⟩ rfl rfl rfl rfl rfl (by kernel_rfl) Tryd.func3 (by kernel_rfl)
    (of_decide_eq_true (by kernel_rfl)) (by unfold Func.isWrapper; first | (rw [if_pos (by decide +kernel)]; kernel_rfl) | (rw [if_neg (by decide +kernel)]; exact ⟨rfl, rfl⟩))
    (fun os started H enc _ => lifted os started H enc)
theorem proved : Rows.FnExactSimplifyConditionCardSaid :=
  Claim7.holds_tied_plain_at .later [] [.data, .pinned] true (true, "edc4429933441116ff67e0f52993da5c6b28b6ed3169a0aa177e35c06fc14e1f") false over (fun _ h => by cases h) (by kernel_rfl) (fun _ h => by cases h) fnExactSimplifyCondition_row_tie rfl ⟨rfl, rfl⟩ (by kernel_rfl) rfl
    (fun f fn hf hfn => by
      obtain rfl : f = 3 := Option.some.inj ((show Tryd.prog.funcNamed "loop.example/g00902/laws.FnExactSimplifyCondition" = some 3 by kernel_rfl).symm.trans hf) |>.symm
      obtain rfl : fn = Tryd.f3 := (Option.some.inj (Tryd.func3.symm.trans hfn)).symm
      exact ⟨by kernel_rfl, fun j t ht => by
        rw [Tryd.params3] at ht
        have hm : t ∈ [24] := by have := Array.mem_of_getElem? ht; simp at this; first | (simp; omega) | (rcases this with h_ | h_ | h_ | h_ <;> simp [h_]) | (rcases this with h_ | h_ | h_ <;> simp [h_]) | (rcases this with h_ | h_ <;> simp [h_]) | simp [this]
        have hall : ([24].all fun u => !Tryd.prog.wantsStandIn u) = true := by kernel_rfl
        exact (show Tryd.prog.wantsStandIn t = false by simpa using List.all_eq_true.1 hall t hm)⟩)
    (by kernel_rfl)
#print axioms proved
end Go.Proofs.YtnpenfficbdlmaaDoor.fnExactSimplifyCondition
namespace Go.Proofs.YtnpenfficbdlmaaDoor
/-- The row, under a short name, for the claim. -/
theorem fnExactSimplifyCondition_holds : Rows.FnExactSimplifyConditionCardSaid := fnExactSimplifyCondition.proved
end Go.Proofs.YtnpenfficbdlmaaDoor
