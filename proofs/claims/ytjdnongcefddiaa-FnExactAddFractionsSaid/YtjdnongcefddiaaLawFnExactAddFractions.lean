-- The row of the law FnExactAddFractions out of its pure theorem and the walk.
import Derived.Test.YtjdnongcefddiaaRows
import Derived.Test.YtjdnongcefddiaaQFnExactAddFractionsx3
import Derived.Test.YtjdnongcefddiaaPureFnExactAddFractions
import Derived.Test.YtjdnongcefddiaaOpenK
import Derived.WalkKit
import Derived.ProofKit
import Derived.OpenShut
import Derived.ShutString
import Derived.ChangeOld
import Derived.Below
import Derived.SizedLaws
namespace Go.Proofs.Ytjdnongcefddiaa.fnExactAddFractions
open Go.ChangeShapes Go.WideShapes Go.ChangeAt Go.RowKit Go.Proofs.YtjdnongcefddiaaW.PrintWords
open Go.ChangeMaps (open_string shut_string)
set_option linter.unusedVariables false
set_option linter.unusedSimpArgs false
theorem own : ownKnob Try.prog.godebug = none := by kernel_rfl
theorem laidOut : laidOutB Try.prog = true := by kernel_rfl
set_option maxRecDepth 100000 in
theorem lifted (os : Os) (started : os.Started) (H : Type) (enc : TypeId × Value → H) :
    ReturnsInHanded {} Try.checked os 6 .any (Rows.fnExactAddFractionsSpec.pre6 enc Try.prog Try.f6 Rows.fnExactAddFractionsRow.domain false) (Rows.fnExactAddFractionsSpec.post enc Try.prog Try.f6 false true false false) := by
  refine returnsInHanded_of_change_sized (C := Try.checked) own started (by kernel_rfl) Try.func6
    (ChangeSpec.witness6 (enc := enc) (C := Try.checked) false ⟨#[], #[.agg #[.int .i64 0, .int .i64 0], .agg #[.int .i64 0, .int .i64 0]], []⟩ 8 (by kernel_rfl) (by kernel_rfl) (by kernel_rfl) (by kernel_rfl)) ?_
  intro W base args ds gs before hval0 hW hcnd hsz0 _
  have hsz : (DataW.weightsEach Try.prog (Try.f6.params.toList ++ Rows.fnExactAddFractionsSpec.plain.varTypes Try.prog) (ds ++ gs)).all (· ≤ reachBytes) = true := hsz0
  have hval : ∀ (j : Nat) t v, Try.f6.params[j]? = some t → args[j]? = some v → Value.okWide Try.prog W .any base t v := hval0
  have hW' := hW
  obtain ⟨p, q, hA0, hV, rfl, hfz, hnd⟩ := hW
  have hA : DataW.TrodAll enc Try.prog W 0 (fun _ => true) true Try.f6.params.toList args.toList ds p := hA0
  rw [Try.params6] at hA hval hsz
  obtain ⟨v0, vs0, d0, ds0, p0, q0, hargs, rfl, rfl, h0, r0⟩ := trodAll_cons hA
  obtain ⟨v1, vs1, d1, ds1, p1, q1, rfl, rfl, rfl, h1, r1⟩ := trodAll_cons r0
  obtain ⟨rfl, rfl, rfl⟩ := trodAll_nil r1
  obtain rfl : args = #[v0, v1] := by cases args; simp_all
  obtain ⟨rfl, rfl⟩ := trodVars_none hV
  have k0 := h0
  have lt0 : ∀ x ∈ p0, x.block < W.heap.size := by obtain ⟨m, hm⟩ := k0; exact DataW.trod_lt m _ _ _ hm
  obtain ⟨cs0, rfl, sz0⟩ := okWide_struct Try.underlying34 (hval 0 34 v0 rfl rfl)
  obtain ⟨fuel0, hf0⟩ := h0
  simp only [Value.cells] at hf0
  obtain ⟨cl0, n0, _, fs0⟩ := OpenK.op_struct Try.underlying34 hf0
  have ce0 : Try.prog.cellsOf 34 = 2 := by kernel_rfl
  rw [ce0] at cl0
  obtain ⟨c0_0_, c0_1_, el0⟩ := OpenK.list2 cl0
  obtain rfl := OpenK.arr_eq el0
  rw [el0] at fs0
  have ct0_3 : Try.prog.cellsOf 3 = 1 := by kernel_rfl
  obtain ⟨z0_0, hz0_0⟩ := fs0 _ (.head _)
  simp only [ct0_3, List.drop_succ_cons, List.drop_zero, List.take_succ_cons, List.take_zero] at hz0_0
  obtain ⟨z0_1, hz0_1⟩ := fs0 _ (.tail _ (.head _))
  simp only [ct0_3, List.drop_succ_cons, List.drop_zero, List.take_succ_cons, List.take_zero] at hz0_1
  obtain ⟨a0_0, e0_0, w0_0⟩ := OpenK.op_int Try.underlying3 n0 _ _ hz0_0
  obtain rfl : c0_0_ = .int .i64 a0_0 := by simpa using e0_0
  obtain ⟨a0_1, e0_1, w0_1⟩ := OpenK.op_int Try.underlying3 n0 _ _ hz0_1
  obtain rfl : c0_1_ = .int .i64 a0_1 := by simpa using e0_1
  have k1 := h1
  have lt1 : ∀ x ∈ p1, x.block < W.heap.size := by obtain ⟨m, hm⟩ := k1; exact DataW.trod_lt m _ _ _ hm
  obtain ⟨cs1, rfl, sz1⟩ := okWide_struct Try.underlying34 (hval 1 34 v1 rfl rfl)
  obtain ⟨fuel1, hf1⟩ := h1
  simp only [Value.cells] at hf1
  obtain ⟨cl1, n1, _, fs1⟩ := OpenK.op_struct Try.underlying34 hf1
  have ce1 : Try.prog.cellsOf 34 = 2 := by kernel_rfl
  rw [ce1] at cl1
  obtain ⟨c1_0_, c1_1_, el1⟩ := OpenK.list2 cl1
  obtain rfl := OpenK.arr_eq el1
  rw [el1] at fs1
  have ct1_3 : Try.prog.cellsOf 3 = 1 := by kernel_rfl
  obtain ⟨z1_0, hz1_0⟩ := fs1 _ (.head _)
  simp only [ct1_3, List.drop_succ_cons, List.drop_zero, List.take_succ_cons, List.take_zero] at hz1_0
  obtain ⟨z1_1, hz1_1⟩ := fs1 _ (.tail _ (.head _))
  simp only [ct1_3, List.drop_succ_cons, List.drop_zero, List.take_succ_cons, List.take_zero] at hz1_1
  obtain ⟨a1_0, e1_0, w1_0⟩ := OpenK.op_int Try.underlying3 n1 _ _ hz1_0
  obtain rfl : c1_0_ = .int .i64 a1_0 := by simpa using e1_0
  obtain ⟨a1_1, e1_1, w1_1⟩ := OpenK.op_int Try.underlying3 n1 _ _ hz1_1
  obtain rfl : c1_1_ = .int .i64 a1_1 := by simpa using e1_1
  clear hA0 hval0 hsz0 hsz
  obtain ⟨k, h⟩ := Pure.FnExactAddFractions a0_0 a0_1 a1_0 a1_1 w0_0 w0_1 w1_0 w1_1
  refine (QFnExactAddFractions.laws_FnExactAddFractions.calls k a0_0 a0_1 a1_0 a1_1 true W  h ⟨rfl⟩).mono ?_
  rintro e W' ⟨rfl, hd⟩
  have bel : Below W.heap.size W W' := hd
  exact ⟨_, rfl, _, _, _, [], _, [], hW', trodAll_mk1 (shut_bool Try.underlying4 _), (trodAll_cons_mk (Below.trod laidOut (by kernel_rfl) (of_decide_eq_true (by kernel_rfl)) k0 bel lt0) (trodAll_cons_mk (Below.trod laidOut (by kernel_rfl) (of_decide_eq_true (by kernel_rfl)) k1 bel lt1) trodAll_mk0)), rfl, bel.frame _, fun h => by cases h⟩
theorem over : Rows.fnExactAddFractionsRow.holds Try.pinned (OpenSpec.ofChange Rows.fnExactAddFractionsSpec) :=
  OpenClaim.holds_of_wide 6 Try.f6 rfl rfl rfl rfl rfl rfl rfl ⟨rfl, rfl, rfl, rfl, rfl⟩ rfl rfl rfl rfl rfl (by kernel_rfl) Try.func6 (by kernel_rfl)
    (of_decide_eq_true (by kernel_rfl)) (by unfold Func.isWrapper; first | (rw [if_pos (by decide +kernel)]; kernel_rfl) | (rw [if_neg (by decide +kernel)]; exact ⟨rfl, rfl⟩))
    (fun os started H enc _ => lifted os started H enc)
theorem proved : Rows.FnExactAddFractionsSaid := over
#print axioms proved
end Go.Proofs.Ytjdnongcefddiaa.fnExactAddFractions
namespace Go.Proofs.Ytjdnongcefddiaa
/-- The row, under a short name, for the claim. -/
theorem fnExactAddFractions_holds : Rows.FnExactAddFractionsSaid := fnExactAddFractions.proved
end Go.Proofs.Ytjdnongcefddiaa
