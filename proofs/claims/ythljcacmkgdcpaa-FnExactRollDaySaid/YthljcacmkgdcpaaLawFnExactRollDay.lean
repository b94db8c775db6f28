-- The row of the law FnExactRollDay out of its pure theorem and the walk.
import Derived.Test.YthljcacmkgdcpaaRows
import Derived.Test.YthljcacmkgdcpaaQFnExactRollDayx8
import Derived.Test.YthljcacmkgdcpaaPureFnExactRollDay
import Derived.Test.YthljcacmkgdcpaaOpenK
import Derived.WalkKit
import Derived.ProofKit
import Derived.OpenShut
import Derived.ShutString
import Derived.ChangeOld
import Derived.Below
import Derived.SizedLaws
namespace Go.Proofs.Ythljcacmkgdcpaa.fnExactRollDay
open Go.ChangeShapes Go.WideShapes Go.ChangeAt Go.RowKit Go.Proofs.YthljcacmkgdcpaaW.PrintWords
open Go.ChangeMaps (open_string shut_string)
set_option linter.unusedVariables false
set_option linter.unusedSimpArgs false
theorem own : ownKnob Try.prog.godebug = none := by kernel_rfl
theorem laidOut : laidOutB Try.prog = true := by kernel_rfl
set_option maxRecDepth 100000 in
theorem lifted (os : Os) (started : os.Started) (H : Type) (enc : TypeId × Value → H) :
    ReturnsInHanded {} Try.checked os 8 .any (Rows.fnExactRollDaySpec.pre6 enc Try.prog Try.f8 Rows.fnExactRollDayRow.domain false) (Rows.fnExactRollDaySpec.post enc Try.prog Try.f8 false true false false) := by
  refine returnsInHanded_of_change_sized (C := Try.checked) own started (by kernel_rfl) Try.func8
    (ChangeSpec.witness6 (enc := enc) (C := Try.checked) false ⟨#[], #[.agg #[.slice none 0 0, .slice none 0 0], .int .i64 0, .int .i64 0], []⟩ 8 (by kernel_rfl) (by kernel_rfl) (by kernel_rfl) (by kernel_rfl)) ?_
  intro W base args ds gs before hval0 hW hcnd hsz0 _
  have hsz : (DataW.weightsEach Try.prog (Try.f8.params.toList ++ Rows.fnExactRollDaySpec.plain.varTypes Try.prog) (ds ++ gs)).all (· ≤ reachBytes) = true := hsz0
  have hval : ∀ (j : Nat) t v, Try.f8.params[j]? = some t → args[j]? = some v → Value.okWide Try.prog W .any base t v := hval0
  have hW' := hW
  obtain ⟨p, q, hA0, hV, rfl, hfz, hnd⟩ := hW
  have hA : DataW.TrodAll enc Try.prog W 0 (fun _ => true) true Try.f8.params.toList args.toList ds p := hA0
  rw [Try.params8] at hA hval hsz
  obtain ⟨v0, vs0, d0, ds0, p0, q0, hargs, rfl, rfl, h0, r0⟩ := trodAll_cons hA
  obtain ⟨v1, vs1, d1, ds1, p1, q1, rfl, rfl, rfl, h1, r1⟩ := trodAll_cons r0
  obtain ⟨v2, vs2, d2, ds2, p2, q2, rfl, rfl, rfl, h2, r2⟩ := trodAll_cons r1
  obtain ⟨rfl, rfl, rfl⟩ := trodAll_nil r2
  obtain rfl : args = #[v0, v1, v2] := by cases args; simp_all
  obtain ⟨rfl, rfl⟩ := trodVars_none hV
  have k0 := h0
  have lt0 : ∀ x ∈ p0, x.block < W.heap.size := by obtain ⟨m, hm⟩ := k0; exact DataW.trod_lt m _ _ _ hm
  obtain ⟨cs0, rfl, sz0⟩ := okWide_struct Try.underlying24 (hval 0 24 v0 rfl rfl)
  obtain ⟨fuel0, hf0⟩ := h0
  simp only [Value.cells] at hf0
  obtain ⟨cl0, n0, _, fs0⟩ := OpenK.op_struct Try.underlying24 hf0
  have ce0 : Try.prog.cellsOf 24 = 2 := by kernel_rfl
  rw [ce0] at cl0
  obtain ⟨c0_0_, c0_1_, el0⟩ := OpenK.list2 cl0
  obtain rfl := OpenK.arr_eq el0
  rw [el0] at fs0
  have ct0_22 : Try.prog.cellsOf 22 = 1 := by kernel_rfl
  obtain ⟨z0_0, hz0_0⟩ := fs0 _ (.head _)
  simp only [ct0_22, List.drop_succ_cons, List.drop_zero, List.take_succ_cons, List.take_zero] at hz0_0
  obtain ⟨z0_1, hz0_1⟩ := fs0 _ (.tail _ (.head _))
  simp only [ct0_22, List.drop_succ_cons, List.drop_zero, List.take_succ_cons, List.take_zero] at hz0_1
  obtain ⟨l0_0, ⟨A0_0, c0_0, e0_0, g0_0, r0_0⟩, m0_0, w0_0⟩ := OpenK.op_slice (d := Kd.int .i64) Try.underlying22 (by kernel_rfl) (fun f_ _ => OpenK.op_int Try.underlying3 f_) _ _ hz0_0
  obtain rfl : c0_0_ = .slice A0_0 l0_0.length c0_0 := by simpa using e0_0
  obtain ⟨l0_1, ⟨A0_1, c0_1, e0_1, g0_1, r0_1⟩, m0_1, w0_1⟩ := OpenK.op_slice (d := Kd.int .i64) Try.underlying22 (by kernel_rfl) (fun f_ _ => OpenK.op_int Try.underlying3 f_) _ _ hz0_1
  obtain rfl : c0_1_ = .slice A0_1 l0_1.length c0_1 := by simpa using e0_1
  obtain ⟨a1, rfl, rfl, rfl, w1⟩ := open_int Try.underlying3 (hval 1 3 v1 rfl rfl) h1
  obtain ⟨a2, rfl, rfl, rfl, w2⟩ := open_int Try.underlying3 (hval 2 3 v2 rfl rfl) h2
  clear hA0 hval0 hsz0 hsz
  obtain ⟨k, h⟩ := Pure.FnExactRollDay l0_0 l0_1 a1 a2 m0_0 w0_0 m0_1 w0_1 w1 w2
  refine (QFnExactRollDay.laws_FnExactRollDay.calls k _ _ l0_0 _ _ l0_1 a1 a2 true W r0_0 g0_0 r0_1 g0_1 h ⟨rfl⟩).mono ?_
  rintro e W' ⟨rfl, hd⟩
  have bel : Below W.heap.size W W' := hd
  exact ⟨_, rfl, _, _, _, [], _, [], hW', trodAll_mk1 (shut_bool Try.underlying4 _), (trodAll_cons_mk (Below.trod laidOut (by kernel_rfl) (of_decide_eq_true (by kernel_rfl)) k0 bel lt0) (trodAll_cons_mk (shut_int Try.underlying3 w1) (trodAll_cons_mk (shut_int Try.underlying3 w2) trodAll_mk0))), rfl, bel.frame _, fun h => by cases h⟩
theorem over : Rows.fnExactRollDayRow.holds Try.pinned (OpenSpec.ofChange Rows.fnExactRollDaySpec) :=
  OpenClaim.holds_of_wide 8 Try.f8 rfl rfl rfl rfl rfl rfl rfl ⟨rfl, rfl, rfl, rfl, rfl⟩ rfl rfl rfl rfl rfl (by kernel_rfl) Try.func8 (by kernel_rfl)
    (of_decide_eq_true (by kernel_rfl)) (by unfold Func.isWrapper; first | (rw [if_pos (by decide +kernel)]; kernel_rfl) | (rw [if_neg (by decide +kernel)]; exact ⟨rfl, rfl⟩))
    (fun os started H enc _ => lifted os started H enc)
theorem proved : Rows.FnExactRollDaySaid := over
#print axioms proved
end Go.Proofs.Ythljcacmkgdcpaa.fnExactRollDay
namespace Go.Proofs.Ythljcacmkgdcpaa
/-- The row, under a short name, for the claim. -/
theorem fnExactRollDay_holds : Rows.FnExactRollDaySaid := fnExactRollDay.proved
end Go.Proofs.Ythljcacmkgdcpaa
