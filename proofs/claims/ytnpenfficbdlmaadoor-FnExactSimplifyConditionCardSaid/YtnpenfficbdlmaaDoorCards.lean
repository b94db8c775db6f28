/-
  DERIVED. GIVEN WITH THE SEED: THE CARDS: each row of YtnpenfficbdlmaaDoorRows.lean that lists a variable, with what it lists TIED to the program's text (the seventh form; the later family's looks); each row that meets fmt, with fmt's text TOLD by the authors' own Lean function (tested against real Go, not proved from fmt's source: count such statements apart). THE CARD IS WHAT COUNTS. Prove the row's statement (the work); the ties are given (YtnpenfficbdlmaaDoorTie.lean); close each card by the builder's one call (the guide's Derived/Test/ToyasCard.lean, 'card_holds'). Laid BY PROGRAM, IN A SANDBOX (cutbox-door.mjs). By AI agents, Wed Nov 11 2026. No macro, syntax, notation, axiom, sorry.
-/
import Derived.Test.YtnpenfficbdlmaaDoorRows
import GoSem.ClaimSeven
namespace Go.Proofs.YtnpenfficbdlmaaDoor
namespace Rows

/-- THE TIED CARD OF 'laws.FnExactSimplifyCondition'. -/
def fnExactSimplifyConditionCard : Claim7 := { stood := { row := fnExactSimplifyConditionRow, standIns := [], harness := (true, "edc4429933441116ff67e0f52993da5c6b28b6ed3169a0aa177e35c06fc14e1f"), looks := false }, kinds := [], alts := [], laidByText := true, laidKinds := [.data, .pinned], laidTests := true, laidLooks := .later }
def FnExactSimplifyConditionCardSaid : Prop := Claim7.holds Tryd.pinned (.plain (OpenSpec.ofChange fnExactSimplifyConditionSpec)) fnExactSimplifyConditionCard

/-- THE TIED CARD OF 'laws.FnExactConditionNames'. -/
def fnExactConditionNamesCard : Claim7 := { stood := { row := fnExactConditionNamesRow, standIns := [], harness := (true, "edc4429933441116ff67e0f52993da5c6b28b6ed3169a0aa177e35c06fc14e1f"), looks := false }, kinds := [], alts := [], laidByText := true, laidKinds := [.data, .pinned], laidTests := true, laidLooks := .later }
def FnExactConditionNamesCardSaid : Prop := Claim7.holds Tryd.pinned (.plain (OpenSpec.ofChange fnExactConditionNamesSpec)) fnExactConditionNamesCard

/-- THE SECOND FORM's CARD OF 'laws.FnExactSimplifyCondition'. -/
def fnExactSimplifyConditionUptoCard : Claim7 := { stood := { row := fnExactSimplifyConditionUptoRow, standIns := [], harness := (true, "edc4429933441116ff67e0f52993da5c6b28b6ed3169a0aa177e35c06fc14e1f"), looks := false }, kinds := [], alts := [], laidByText := true, laidKinds := [.data, .pinned], laidTests := true, laidLooks := .later }
def FnExactSimplifyConditionUptoCardSaid : Prop := Claim7.holds Tryd.pinned (.plain (OpenSpec.upto fnExactSimplifyConditionSpec)) fnExactSimplifyConditionUptoCard

/-- THE SECOND FORM's CARD OF 'laws.FnExactConditionNames'. -/
def fnExactConditionNamesUptoCard : Claim7 := { stood := { row := fnExactConditionNamesUptoRow, standIns := [], harness := (true, "edc4429933441116ff67e0f52993da5c6b28b6ed3169a0aa177e35c06fc14e1f"), looks := false }, kinds := [], alts := [], laidByText := true, laidKinds := [.data, .pinned], laidTests := true, laidLooks := .later }
def FnExactConditionNamesUptoCardSaid : Prop := Claim7.holds Tryd.pinned (.plain (OpenSpec.upto fnExactConditionNamesSpec)) fnExactConditionNamesUptoCard
end Rows
end Go.Proofs.YtnpenfficbdlmaaDoor
