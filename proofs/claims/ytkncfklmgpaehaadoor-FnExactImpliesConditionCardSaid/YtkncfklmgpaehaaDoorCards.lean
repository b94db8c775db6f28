/-
  DERIVED. GIVEN WITH THE SEED: THE CARDS: each row of YtkncfklmgpaehaaDoorRows.lean that lists a variable, with what it lists TIED to the program's text (the seventh form; the later family's looks); each row that meets fmt, with fmt's text TOLD by the authors' own Lean function (tested against real Go, not proved from fmt's source: count such statements apart). THE CARD IS WHAT COUNTS. Prove the row's statement (the work); the ties are given (YtkncfklmgpaehaaDoorTie.lean); close each card by the builder's one call (the guide's Derived/Test/ToyasCard.lean, 'card_holds'). Laid BY PROGRAM, IN A SANDBOX (cutbox-door.mjs). By AI agents, Wed Nov 11 2026. No macro, syntax, notation, axiom, sorry.
-/
import Derived.Test.YtkncfklmgpaehaaDoorRows
import GoSem.ClaimSeven
namespace Go.Proofs.YtkncfklmgpaehaaDoor
namespace Rows

/-- THE TIED CARD OF 'laws.FnExactIsValidCondition'. -/
def fnExactIsValidConditionCard : Claim7 := { stood := { row := fnExactIsValidConditionRow, standIns := [], harness := (true, "e96a7ca167dca24e5d7d59d32720b595a42e84f065d4ecd9cb99c35da3040372"), looks := false }, kinds := [], alts := [], laidByText := true, laidKinds := [.data, .pinned], laidTests := true, laidLooks := .later }
def FnExactIsValidConditionCardSaid : Prop := Claim7.holds Tryd.pinned (.plain (OpenSpec.ofChange fnExactIsValidConditionSpec)) fnExactIsValidConditionCard

/-- THE TIED CARD OF 'laws.FnExactNextChange'. -/
def fnExactNextChangeCard : Claim7 := { stood := { row := fnExactNextChangeRow, standIns := [], harness := (true, "e96a7ca167dca24e5d7d59d32720b595a42e84f065d4ecd9cb99c35da3040372"), looks := false }, kinds := [], alts := [], laidByText := true, laidKinds := [.data, .pinned], laidTests := true, laidLooks := .later }
def FnExactNextChangeCardSaid : Prop := Claim7.holds Tryd.pinned (.plain (OpenSpec.ofChange fnExactNextChangeSpec)) fnExactNextChangeCard

/-- THE TIED CARD OF 'laws.FnExactEvaluateCondition'. -/
def fnExactEvaluateConditionCard : Claim7 := { stood := { row := fnExactEvaluateConditionRow, standIns := [], harness := (true, "e96a7ca167dca24e5d7d59d32720b595a42e84f065d4ecd9cb99c35da3040372"), looks := false }, kinds := [], alts := [], laidByText := true, laidKinds := [.data, .pinned], laidTests := true, laidLooks := .later }
def FnExactEvaluateConditionCardSaid : Prop := Claim7.holds Tryd.pinned (.plain (OpenSpec.ofChange fnExactEvaluateConditionSpec)) fnExactEvaluateConditionCard

/-- THE TIED CARD OF 'laws.FnExactSimplifyCondition'. -/
def fnExactSimplifyConditionCard : Claim7 := { stood := { row := fnExactSimplifyConditionRow, standIns := [], harness := (true, "e96a7ca167dca24e5d7d59d32720b595a42e84f065d4ecd9cb99c35da3040372"), looks := false }, kinds := [], alts := [], laidByText := true, laidKinds := [.data, .pinned], laidTests := true, laidLooks := .later }
def FnExactSimplifyConditionCardSaid : Prop := Claim7.holds Tryd.pinned (.plain (OpenSpec.ofChange fnExactSimplifyConditionSpec)) fnExactSimplifyConditionCard

/-- THE TIED CARD OF 'laws.FnExactFormatCondition'. -/
def fnExactFormatConditionCard : Claim7 := { stood := { row := fnExactFormatConditionRow, standIns := [], harness := (true, "e96a7ca167dca24e5d7d59d32720b595a42e84f065d4ecd9cb99c35da3040372"), looks := false }, kinds := [], alts := [], laidByText := true, laidKinds := [.data, .data, .data, .data, .pinned], laidTests := true, laidLooks := .later }
def FnExactFormatConditionCardSaid : Prop := Claim7.holds Tryd.pinned (.plain (OpenSpec.ofChange fnExactFormatConditionSpec)) fnExactFormatConditionCard

/-- THE TIED CARD OF 'laws.FnExactConditionNames'. -/
def fnExactConditionNamesCard : Claim7 := { stood := { row := fnExactConditionNamesRow, standIns := [], harness := (true, "e96a7ca167dca24e5d7d59d32720b595a42e84f065d4ecd9cb99c35da3040372"), looks := false }, kinds := [], alts := [], laidByText := true, laidKinds := [.data, .pinned], laidTests := true, laidLooks := .later }
def FnExactConditionNamesCardSaid : Prop := Claim7.holds Tryd.pinned (.plain (OpenSpec.ofChange fnExactConditionNamesSpec)) fnExactConditionNamesCard

/-- THE TIED CARD OF 'laws.FnExactImpliesCondition'. -/
def fnExactImpliesConditionCard : Claim7 := { stood := { row := fnExactImpliesConditionRow, standIns := [], harness := (true, "e96a7ca167dca24e5d7d59d32720b595a42e84f065d4ecd9cb99c35da3040372"), looks := false }, kinds := [], alts := [], laidByText := true, laidKinds := [.data, .pinned], laidTests := true, laidLooks := .later }
def FnExactImpliesConditionCardSaid : Prop := Claim7.holds Tryd.pinned (.plain (OpenSpec.ofChange fnExactImpliesConditionSpec)) fnExactImpliesConditionCard

/-- THE SECOND FORM's CARD OF 'laws.FnExactIsValidCondition'. -/
def fnExactIsValidConditionUptoCard : Claim7 := { stood := { row := fnExactIsValidConditionUptoRow, standIns := [], harness := (true, "e96a7ca167dca24e5d7d59d32720b595a42e84f065d4ecd9cb99c35da3040372"), looks := false }, kinds := [], alts := [], laidByText := true, laidKinds := [.data, .pinned], laidTests := true, laidLooks := .later }
def FnExactIsValidConditionUptoCardSaid : Prop := Claim7.holds Tryd.pinned (.plain (OpenSpec.upto fnExactIsValidConditionSpec)) fnExactIsValidConditionUptoCard

/-- THE SECOND FORM's CARD OF 'laws.FnExactNextChange'. -/
def fnExactNextChangeUptoCard : Claim7 := { stood := { row := fnExactNextChangeUptoRow, standIns := [], harness := (true, "e96a7ca167dca24e5d7d59d32720b595a42e84f065d4ecd9cb99c35da3040372"), looks := false }, kinds := [], alts := [], laidByText := true, laidKinds := [.data, .pinned], laidTests := true, laidLooks := .later }
def FnExactNextChangeUptoCardSaid : Prop := Claim7.holds Tryd.pinned (.plain (OpenSpec.upto fnExactNextChangeSpec)) fnExactNextChangeUptoCard

/-- THE SECOND FORM's CARD OF 'laws.FnExactEvaluateCondition'. -/
def fnExactEvaluateConditionUptoCard : Claim7 := { stood := { row := fnExactEvaluateConditionUptoRow, standIns := [], harness := (true, "e96a7ca167dca24e5d7d59d32720b595a42e84f065d4ecd9cb99c35da3040372"), looks := false }, kinds := [], alts := [], laidByText := true, laidKinds := [.data, .pinned], laidTests := true, laidLooks := .later }
def FnExactEvaluateConditionUptoCardSaid : Prop := Claim7.holds Tryd.pinned (.plain (OpenSpec.upto fnExactEvaluateConditionSpec)) fnExactEvaluateConditionUptoCard

/-- THE SECOND FORM's CARD OF 'laws.FnExactSimplifyCondition'. -/
def fnExactSimplifyConditionUptoCard : Claim7 := { stood := { row := fnExactSimplifyConditionUptoRow, standIns := [], harness := (true, "e96a7ca167dca24e5d7d59d32720b595a42e84f065d4ecd9cb99c35da3040372"), looks := false }, kinds := [], alts := [], laidByText := true, laidKinds := [.data, .pinned], laidTests := true, laidLooks := .later }
def FnExactSimplifyConditionUptoCardSaid : Prop := Claim7.holds Tryd.pinned (.plain (OpenSpec.upto fnExactSimplifyConditionSpec)) fnExactSimplifyConditionUptoCard

/-- THE SECOND FORM's CARD OF 'laws.FnExactFormatCondition'. -/
def fnExactFormatConditionUptoCard : Claim7 := { stood := { row := fnExactFormatConditionUptoRow, standIns := [], harness := (true, "e96a7ca167dca24e5d7d59d32720b595a42e84f065d4ecd9cb99c35da3040372"), looks := false }, kinds := [], alts := [], laidByText := true, laidKinds := [.data, .data, .data, .data, .pinned], laidTests := true, laidLooks := .later }
def FnExactFormatConditionUptoCardSaid : Prop := Claim7.holds Tryd.pinned (.plain (OpenSpec.upto fnExactFormatConditionSpec)) fnExactFormatConditionUptoCard

/-- THE SECOND FORM's CARD OF 'laws.FnExactConditionNames'. -/
def fnExactConditionNamesUptoCard : Claim7 := { stood := { row := fnExactConditionNamesUptoRow, standIns := [], harness := (true, "e96a7ca167dca24e5d7d59d32720b595a42e84f065d4ecd9cb99c35da3040372"), looks := false }, kinds := [], alts := [], laidByText := true, laidKinds := [.data, .pinned], laidTests := true, laidLooks := .later }
def FnExactConditionNamesUptoCardSaid : Prop := Claim7.holds Tryd.pinned (.plain (OpenSpec.upto fnExactConditionNamesSpec)) fnExactConditionNamesUptoCard

/-- THE SECOND FORM's CARD OF 'laws.FnExactImpliesCondition'. -/
def fnExactImpliesConditionUptoCard : Claim7 := { stood := { row := fnExactImpliesConditionUptoRow, standIns := [], harness := (true, "e96a7ca167dca24e5d7d59d32720b595a42e84f065d4ecd9cb99c35da3040372"), looks := false }, kinds := [], alts := [], laidByText := true, laidKinds := [.data, .pinned], laidTests := true, laidLooks := .later }
def FnExactImpliesConditionUptoCardSaid : Prop := Claim7.holds Tryd.pinned (.plain (OpenSpec.upto fnExactImpliesConditionSpec)) fnExactImpliesConditionUptoCard
end Rows
end Go.Proofs.YtkncfklmgpaehaaDoor
