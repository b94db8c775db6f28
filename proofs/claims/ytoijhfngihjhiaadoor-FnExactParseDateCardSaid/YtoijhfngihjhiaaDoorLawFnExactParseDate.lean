-- The row of the law FnExactParseDate out of its pure theorem and the walk.
import Derived.Test.YtoijhfngihjhiaaDoorRows
import Derived.Test.YtoijhfngihjhiaaDoorQFnExactParseDatex4
import Derived.Test.YtoijhfngihjhiaaDoorPureFnExactParseDate
import Derived.Test.YtoijhfngihjhiaaDoorOpenK
import Derived.Test.YtoijhfngihjhiaaDoorLaidS
import Derived.Test.YtoijhfngihjhiaaDoorCards
import Derived.Test.YtoijhfngihjhiaaDoorTie
import Derived.SevenTiedAt
import Derived.HandedShaped
import Derived.WalkKit
import Derived.ProofKit
import Derived.OpenShut
import Derived.ShutString
import Derived.ChangeOld
import Derived.Below
import Derived.SizedLaws
namespace Go.Proofs.YtoijhfngihjhiaaDoor.fnExactParseDate
open Go.ChangeShapes Go.WideShapes Go.ChangeAt Go.RowKit Go.Proofs.YtoijhfngihjhiaaDoorW.PrintWords
open Go.ChangeMaps (open_string shut_string)
set_option linter.unusedVariables false
set_option linter.unusedSimpArgs false
theorem own : ownKnob Tryd.prog.godebug = none := by kernel_rfl
theorem laidOut : laidOutB Tryd.prog = true := by kernel_rfl
set_option maxRecDepth 100000 in
theorem lifted (os : Os) (started : os.Started) (H : Type) (enc : TypeId × Value → H) :
    ReturnsInHanded {} Tryd.checked os 4 .any (fun w args => (Rows.fnExactParseDateSpec.pre enc Tryd.prog Tryd.f4 Rows.fnExactParseDateRow.domain false w args ∧ laidMetH Tryd.prog Rows.fnExactParseDateRow.laid w) ∧ sizedMet enc Tryd.prog Tryd.f4 (OpenSpec.ofChange Rows.fnExactParseDateSpec) false w args) (Rows.fnExactParseDateSpec.post enc Tryd.prog Tryd.f4 false true false false) := by
  refine LaidK.returns (C := Tryd.checked) (X := (fun w _ => laidMetH Tryd.prog Rows.fnExactParseDateRow.laid w)) (fun _ _ _ hh h => h.of_heap hh) own started (by kernel_rfl) Tryd.func4
    (ChangeSpec.witness_shaped (enc := enc) (C := Tryd.checked) (os := os) (X := (fun w _ => laidMetH Tryd.prog Rows.fnExactParseDateRow.laid w)) false (World.laidAll Tryd.prog os Rows.fnExactParseDateRow.laid) #[.string ByteArray.empty] 8 (World.laidAll_os _ _ _)
      (World.shaped_of_ZipB (by kernel_rfl) (by kernel_rfl)) (by kernel_rfl) (by kernel_rfl) (by kernel_rfl)
      (by rw [MakeChecks.laidMetH_plain _ _ _ (by kernel_rfl)]; exact laidMet_laidAll _ (by kernel_rfl) (by kernel_rfl))) ?_
  intro W base args ds gs before hval0 hW hcnd hsz0 hL hSh _
  have hsz : (DataW.weightsEach Tryd.prog (Tryd.f4.params.toList ++ Rows.fnExactParseDateSpec.plain.varTypes Tryd.prog) (ds ++ gs)).all (· ≤ reachBytes) = true := hsz0
  have hval : ∀ (j : Nat) t v, Tryd.f4.params[j]? = some t → args[j]? = some v → Value.okWide Tryd.prog W .any base t v := hval0
  have hW' := hW
  obtain ⟨p, q, hA0, hV, rfl, hfz, hnd⟩ := hW
  have hA : DataW.TrodAll enc Tryd.prog W 0 (fun _ => true) true Tryd.f4.params.toList args.toList ds p := hA0
  rw [Tryd.params4] at hA hval hsz
  obtain ⟨v0, vs0, d0, ds0, p0, q0, hargs, rfl, rfl, h0, rr0⟩ := trodAll_cons hA
  obtain ⟨rfl, rfl, rfl⟩ := trodAll_nil rr0
  obtain rfl : args = #[v0] := by cases args; simp_all
  obtain ⟨rfl, rfl⟩ := trodVars_none hV
  obtain ⟨a0, rfl, rfl, rfl, y0⟩ := open_string Tryd.underlying9 (hval 0 9 v0 rfl rfl) h0
  clear hA0 hval0 hsz0 hsz
  obtain ⟨k, h⟩ := Pure.FnExactParseDate a0 y0
  refine (QFnExactParseDate.laws_FnExactParseDate.calls k a0 true W  (LaidK.globE5 hL hSh) h ⟨rfl⟩).mono ?_
  rintro e W' ⟨rfl, hd⟩
  have bel : Below W.heap.size W W' := hd
  exact ⟨_, rfl, _, _, _, [], _, [], hW', trodAll_mk1 (shut_bool Tryd.underlying4 _), (trodAll_cons_mk (shut_string Tryd.underlying9 y0) trodAll_mk0), rfl, bel.frame _, fun h => by cases h⟩
theorem over : Rows.fnExactParseDateRow.holds Tryd.pinned (OpenSpec.ofChange Rows.fnExactParseDateSpec) :=
  OpenClaim.holds_of_wide 4 Tryd.f4 rfl rfl rfl rfl rfl rfl rfl ⟨rfl, rfl, rfl, rfl, rfl⟩ rfl rfl rfl rfl rfl (by kernel_rfl) Tryd.func4 (by kernel_rfl)
    (of_decide_eq_true (by kernel_rfl)) (by unfold Func.isWrapper; first | (rw [if_pos (by decide +kernel)]; kernel_rfl) | (rw [if_neg (by decide +kernel)]; exact ⟨rfl, rfl⟩))
    (fun os started H enc _ => lifted os started H enc)
theorem proved : Rows.FnExactParseDateCardSaid :=
  Claim7.holds_tied_plain_at .later [] [.data, .data, .data, .sentinel, .sentinel] true (true, "d9a68727d9afb95b08b0c74d217ba3dfde4104bd498884ac031db0029bb87206") true over (fun _ h => by cases h) (by kernel_rfl) (fun _ h => by cases h) fnExactParseDate_row_tie rfl ⟨rfl, rfl⟩ (by kernel_rfl) rfl
    (fun f fn hf hfn => by
      obtain rfl : f = 4 := Option.some.inj ((show Tryd.prog.funcNamed "loop.example/g00902/laws.FnExactParseDate" = some 4 by kernel_rfl).symm.trans hf) |>.symm
      obtain rfl : fn = Tryd.f4 := (Option.some.inj (Tryd.func4.symm.trans hfn)).symm
      exact ⟨by kernel_rfl, fun j t ht => by
        rw [Tryd.params4] at ht
        have hm : t ∈ [9] := by have := Array.mem_of_getElem? ht; simp at this; first | (simp; omega) | (rcases this with h_ | h_ | h_ | h_ <;> simp [h_]) | (rcases this with h_ | h_ | h_ <;> simp [h_]) | (rcases this with h_ | h_ <;> simp [h_]) | simp [this]
        have hall : ([9].all fun u => !Tryd.prog.wantsStandIn u) = true := by kernel_rfl
        exact (show Tryd.prog.wantsStandIn t = false by simpa using List.all_eq_true.1 hall t hm)⟩)
    (by kernel_rfl)
#print axioms proved
end Go.Proofs.YtoijhfngihjhiaaDoor.fnExactParseDate
namespace Go.Proofs.YtoijhfngihjhiaaDoor
/-- The row, under a short name, for the claim. -/
theorem fnExactParseDate_holds : Rows.FnExactParseDateCardSaid := fnExactParseDate.proved
end Go.Proofs.YtoijhfngihjhiaaDoor
