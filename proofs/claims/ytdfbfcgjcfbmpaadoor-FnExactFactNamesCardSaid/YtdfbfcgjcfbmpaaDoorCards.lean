/-
  DERIVED. GIVEN WITH THE SEED: THE CARDS: each row of YtdfbfcgjcfbmpaaDoorRows.lean that lists a variable, with what it lists TIED to the program's text (the seventh form; the later family's looks); each row that meets fmt, with fmt's text TOLD by the authors' own Lean function (tested against real Go, not proved from fmt's source: count such statements apart). THE CARD IS WHAT COUNTS. Prove the row's statement (the work); the ties are given (YtdfbfcgjcfbmpaaDoorTie.lean); close each card by the builder's one call (the guide's Derived/Test/ToyasCard.lean, 'card_holds'). Laid BY PROGRAM, IN A SANDBOX (cutbox-door.mjs). By AI agents, Wed Nov 11 2026. No macro, syntax, notation, axiom, sorry.
-/
import Derived.Test.YtdfbfcgjcfbmpaaDoorRows
import GoSem.ClaimSeven
namespace Go.Proofs.YtdfbfcgjcfbmpaaDoor
namespace Rows

/-- THE TIED CARD OF 'laws.FnExactIsValidContract'. -/
def fnExactIsValidContractCard : Claim7 := { stood := { row := fnExactIsValidContractRow, standIns := [], harness := (true, "21ef674f05cb6426fba191d4d4e2f880495a8021d3e90e3466cc7b990c73bf34"), looks := false }, kinds := [], alts := [], laidByText := true, laidKinds := [.data, .pinned], laidTests := true, laidLooks := .later }
def FnExactIsValidContractCardSaid : Prop := Claim7.holds Tryd.pinned (.plain (OpenSpec.ofChange fnExactIsValidContractSpec)) fnExactIsValidContractCard

/-- THE TIED CARD OF 'laws.FnExactClauseNumber'. -/
def fnExactClauseNumberCard : Claim7 := { stood := { row := fnExactClauseNumberRow, standIns := [], harness := (true, "21ef674f05cb6426fba191d4d4e2f880495a8021d3e90e3466cc7b990c73bf34"), looks := false }, kinds := [], alts := [], laidByText := true, laidKinds := [.data, .pinned], laidTests := true, laidLooks := .later }
def FnExactClauseNumberCardSaid : Prop := Claim7.holds Tryd.pinned (.plain (OpenSpec.ofChange fnExactClauseNumberSpec)) fnExactClauseNumberCard

/-- THE TIED CARD OF 'laws.FnExactFactNames'. -/
def fnExactFactNamesCard : Claim7 := { stood := { row := fnExactFactNamesRow, standIns := [], harness := (true, "21ef674f05cb6426fba191d4d4e2f880495a8021d3e90e3466cc7b990c73bf34"), looks := false }, kinds := [], alts := [], laidByText := true, laidKinds := [.data, .pinned], laidTests := true, laidLooks := .later }
def FnExactFactNamesCardSaid : Prop := Claim7.holds Tryd.pinned (.plain (OpenSpec.ofChange fnExactFactNamesSpec)) fnExactFactNamesCard

/-- THE SECOND FORM's CARD OF 'laws.FnExactIsValidContract'. -/
def fnExactIsValidContractUptoCard : Claim7 := { stood := { row := fnExactIsValidContractUptoRow, standIns := [], harness := (true, "21ef674f05cb6426fba191d4d4e2f880495a8021d3e90e3466cc7b990c73bf34"), looks := false }, kinds := [], alts := [], laidByText := true, laidKinds := [.data, .pinned], laidTests := true, laidLooks := .later }
def FnExactIsValidContractUptoCardSaid : Prop := Claim7.holds Tryd.pinned (.plain (OpenSpec.upto fnExactIsValidContractSpec)) fnExactIsValidContractUptoCard

/-- THE SECOND FORM's CARD OF 'laws.FnExactClauseNumber'. -/
def fnExactClauseNumberUptoCard : Claim7 := { stood := { row := fnExactClauseNumberUptoRow, standIns := [], harness := (true, "21ef674f05cb6426fba191d4d4e2f880495a8021d3e90e3466cc7b990c73bf34"), looks := false }, kinds := [], alts := [], laidByText := true, laidKinds := [.data, .pinned], laidTests := true, laidLooks := .later }
def FnExactClauseNumberUptoCardSaid : Prop := Claim7.holds Tryd.pinned (.plain (OpenSpec.upto fnExactClauseNumberSpec)) fnExactClauseNumberUptoCard

/-- THE SECOND FORM's CARD OF 'laws.FnExactFactNames'. -/
def fnExactFactNamesUptoCard : Claim7 := { stood := { row := fnExactFactNamesUptoRow, standIns := [], harness := (true, "21ef674f05cb6426fba191d4d4e2f880495a8021d3e90e3466cc7b990c73bf34"), looks := false }, kinds := [], alts := [], laidByText := true, laidKinds := [.data, .pinned], laidTests := true, laidLooks := .later }
def FnExactFactNamesUptoCardSaid : Prop := Claim7.holds Tryd.pinned (.plain (OpenSpec.upto fnExactFactNamesSpec)) fnExactFactNamesUptoCard
end Rows
end Go.Proofs.YtdfbfcgjcfbmpaaDoor
