-- The row of the law FnExactJoinCalendars out of its pure theorem and the walk.
import Derived.Test.YtaallhcmhennkaaRows
import Derived.Test.YtaallhcmhennkaaQFnExactJoinCalendarsx90
import Derived.Test.YtaallhcmhennkaaPureFnExactJoinCalendars
import Derived.Test.YtaallhcmhennkaaOpenK
import Derived.WalkKit
import Derived.ProofKit
import Derived.OpenShut
import Derived.ShutString
import Derived.ChangeOld
import Derived.Below
import Derived.SizedLaws
namespace Go.Proofs.Ytaallhcmhennkaa.fnExactJoinCalendars
open Go.ChangeShapes Go.WideShapes Go.ChangeAt Go.RowKit Go.Proofs.YtaallhcmhennkaaW.PrintWords
open Go.ChangeMaps (open_string shut_string)
set_option linter.unusedVariables false
set_option linter.unusedSimpArgs false
theorem own : ownKnob Try.prog.godebug = none := by kernel_rfl
theorem laidOut : laidOutB Try.prog = true := by kernel_rfl
set_option maxRecDepth 100000 in
theorem lifted (os : Os) (started : os.Started) (H : Type) (enc : TypeId × Value → H) :
    ReturnsInHanded {} Try.checked os 4 .any (Rows.fnExactJoinCalendarsSpec.pre6 enc Try.prog Try.f4 Rows.fnExactJoinCalendarsRow.domain false) (Rows.fnExactJoinCalendarsSpec.post enc Try.prog Try.f4 false true false false) := by
  refine returnsInHanded_of_change_sized (C := Try.checked) own started (by kernel_rfl) Try.func4
    (ChangeSpec.witness6 (enc := enc) (C := Try.checked) false ⟨#[], #[.agg #[.slice none 0 0, .slice none 0 0], .agg #[.slice none 0 0, .slice none 0 0]], []⟩ 8 (by kernel_rfl) (by kernel_rfl) (by kernel_rfl) (by kernel_rfl)) ?_
  intro W base args ds gs before hval0 hW hcnd hsz0 _
  have hsz : (DataW.weightsEach Try.prog (Try.f4.params.toList ++ Rows.fnExactJoinCalendarsSpec.plain.varTypes Try.prog) (ds ++ gs)).all (· ≤ reachBytes) = true := hsz0
  have hval : ∀ (j : Nat) t v, Try.f4.params[j]? = some t → args[j]? = some v → Value.okWide Try.prog W .any base t v := hval0
  have hW' := hW
  obtain ⟨p, q, hA0, hV, rfl, hfz, hnd⟩ := hW
  have hA : DataW.TrodAll enc Try.prog W 0 (fun _ => true) true Try.f4.params.toList args.toList ds p := hA0
  rw [Try.params4] at hA hval hsz
  obtain ⟨v0, vs0, d0, ds0, p0, q0, hargs, rfl, rfl, h0, rr0⟩ := trodAll_cons hA
  obtain ⟨v1, vs1, d1, ds1, p1, q1, rfl, rfl, rfl, h1, rr1⟩ := trodAll_cons rr0
  obtain ⟨rfl, rfl, rfl⟩ := trodAll_nil rr1
  obtain rfl : args = #[v0, v1] := by cases args; simp_all
  obtain ⟨rfl, rfl⟩ := trodVars_none hV
  have k0 := h0
  have lt0 : ∀ x ∈ p0, x.block < W.heap.size := by obtain ⟨m, hm⟩ := k0; exact DataW.trod_lt m _ _ _ hm
  obtain ⟨cs0, rfl, sz0⟩ := okWide_struct Try.underlying33 (hval 0 33 v0 rfl rfl)
  obtain ⟨fuel0, hf0⟩ := h0
  simp only [Value.cells] at hf0
  obtain ⟨cl0, n0, _, fs0⟩ := OpenK.op_struct Try.underlying33 hf0
  have ce0 : Try.prog.cellsOf 33 = 2 := by kernel_rfl
  rw [ce0] at cl0
  obtain ⟨c0_0_, c0_1_, el0⟩ := OpenK.list2 cl0
  obtain rfl := OpenK.arr_eq el0
  rw [el0] at fs0
  have ct0_24 : Try.prog.cellsOf 24 = 1 := by kernel_rfl
  obtain ⟨z0_0, hz0_0⟩ := fs0 _ (.head _)
  simp only [ct0_24, List.drop_succ_cons, List.drop_zero, List.take_succ_cons, List.take_zero] at hz0_0
  obtain ⟨z0_1, hz0_1⟩ := fs0 _ (.tail _ (.head _))
  simp only [ct0_24, List.drop_succ_cons, List.drop_zero, List.take_succ_cons, List.take_zero] at hz0_1
  obtain ⟨l0_0, ⟨A0_0, c0_0, e0_0, g0_0, r0_0⟩, m0_0, w0_0⟩ := OpenK.op_slice (d := Kd.int .i64) Try.underlying24 (by kernel_rfl) (fun f_ _ => OpenK.op_int Try.underlying3 f_) _ _ hz0_0
  obtain rfl : c0_0_ = .slice A0_0 l0_0.length c0_0 := by simpa using e0_0
  obtain ⟨l0_1, ⟨A0_1, c0_1, e0_1, g0_1, r0_1⟩, m0_1, w0_1⟩ := OpenK.op_slice (d := Kd.int .i64) Try.underlying24 (by kernel_rfl) (fun f_ _ => OpenK.op_int Try.underlying3 f_) _ _ hz0_1
  obtain rfl : c0_1_ = .slice A0_1 l0_1.length c0_1 := by simpa using e0_1
  have k1 := h1
  have lt1 : ∀ x ∈ p1, x.block < W.heap.size := by obtain ⟨m, hm⟩ := k1; exact DataW.trod_lt m _ _ _ hm
  obtain ⟨cs1, rfl, sz1⟩ := okWide_struct Try.underlying33 (hval 1 33 v1 rfl rfl)
  obtain ⟨fuel1, hf1⟩ := h1
  simp only [Value.cells] at hf1
  obtain ⟨cl1, n1, _, fs1⟩ := OpenK.op_struct Try.underlying33 hf1
  have ce1 : Try.prog.cellsOf 33 = 2 := by kernel_rfl
  rw [ce1] at cl1
  obtain ⟨c1_0_, c1_1_, el1⟩ := OpenK.list2 cl1
  obtain rfl := OpenK.arr_eq el1
  rw [el1] at fs1
  have ct1_24 : Try.prog.cellsOf 24 = 1 := by kernel_rfl
  obtain ⟨z1_0, hz1_0⟩ := fs1 _ (.head _)
  simp only [ct1_24, List.drop_succ_cons, List.drop_zero, List.take_succ_cons, List.take_zero] at hz1_0
  obtain ⟨z1_1, hz1_1⟩ := fs1 _ (.tail _ (.head _))
  simp only [ct1_24, List.drop_succ_cons, List.drop_zero, List.take_succ_cons, List.take_zero] at hz1_1
  obtain ⟨l1_0, ⟨A1_0, c1_0, e1_0, g1_0, r1_0⟩, m1_0, w1_0⟩ := OpenK.op_slice (d := Kd.int .i64) Try.underlying24 (by kernel_rfl) (fun f_ _ => OpenK.op_int Try.underlying3 f_) _ _ hz1_0
  obtain rfl : c1_0_ = .slice A1_0 l1_0.length c1_0 := by simpa using e1_0
  obtain ⟨l1_1, ⟨A1_1, c1_1, e1_1, g1_1, r1_1⟩, m1_1, w1_1⟩ := OpenK.op_slice (d := Kd.int .i64) Try.underlying24 (by kernel_rfl) (fun f_ _ => OpenK.op_int Try.underlying3 f_) _ _ hz1_1
  obtain rfl : c1_1_ = .slice A1_1 l1_1.length c1_1 := by simpa using e1_1
  clear hA0 hval0 hsz0 hsz
  obtain ⟨k, h⟩ := Pure.FnExactJoinCalendars l0_0 l0_1 l1_0 l1_1 m0_0 w0_0 m0_1 w0_1 m1_0 w1_0 m1_1 w1_1
  refine (QFnExactJoinCalendars.laws_FnExactJoinCalendars.calls k _ _ l0_0 _ _ l0_1 _ _ l1_0 _ _ l1_1 true W r0_0 g0_0 r0_1 g0_1 r1_0 g1_0 r1_1 g1_1 h ⟨rfl⟩).mono ?_
  rintro e W' ⟨rfl, hd⟩
  have bel : Below W.heap.size W W' := hd
  exact ⟨_, rfl, _, _, _, [], _, [], hW', trodAll_mk1 (shut_bool Try.underlying4 _), (trodAll_cons_mk (Below.trod laidOut (by kernel_rfl) (of_decide_eq_true (by kernel_rfl)) k0 bel lt0) (trodAll_cons_mk (Below.trod laidOut (by kernel_rfl) (of_decide_eq_true (by kernel_rfl)) k1 bel lt1) trodAll_mk0)), rfl, bel.frame _, fun h => by cases h⟩
theorem over : Rows.fnExactJoinCalendarsRow.holds Try.pinned (OpenSpec.ofChange Rows.fnExactJoinCalendarsSpec) :=
  OpenClaim.holds_of_wide 4 Try.f4 rfl rfl rfl rfl rfl rfl rfl ⟨rfl, rfl, rfl, rfl, rfl⟩ rfl rfl rfl rfl rfl (by kernel_rfl) Try.func4 (by kernel_rfl)
    (of_decide_eq_true (by kernel_rfl)) (by unfold Func.isWrapper; first | (rw [if_pos (by decide +kernel)]; kernel_rfl) | (rw [if_neg (by decide +kernel)]; exact ⟨rfl, rfl⟩))
    (fun os started H enc _ => lifted os started H enc)
theorem proved : Rows.FnExactJoinCalendarsSaid := over
#print axioms proved
end Go.Proofs.Ytaallhcmhennkaa.fnExactJoinCalendars
namespace Go.Proofs.Ytaallhcmhennkaa
/-- The row, under a short name, for the claim. -/
theorem fnExactJoinCalendars_holds : Rows.FnExactJoinCalendarsSaid := fnExactJoinCalendars.proved
end Go.Proofs.Ytaallhcmhennkaa
