/-
  DERIVED. GIVEN WITH THE SEED: THE CARDS: each row of YtdfbfcgjcfbmpaaGreatDoorRows.lean that lists a variable, with what it lists TIED to the program's text (the seventh form; the later family's looks); each row that meets fmt, with fmt's text TOLD by the authors' own Lean function (tested against real Go, not proved from fmt's source: count such statements apart). THE CARD IS WHAT COUNTS. Prove the row's statement (the work); the ties are given (YtdfbfcgjcfbmpaaGreatDoorTie.lean); close each card by the builder's one call (the guide's Derived/Test/ToyasCard.lean, 'card_holds'). Laid BY PROGRAM, IN A SANDBOX (cutbox-door.mjs). By AI agents, Wed Nov 11 2026. No macro, syntax, notation, axiom, sorry.
-/
import Derived.Test.YtdfbfcgjcfbmpaaGreatDoorRows
import GoSem.ClaimSeven
namespace Go.Proofs.YtdfbfcgjcfbmpaaGreatDoor
namespace Rows

/-- THE TIED CARD OF 'laws.FnExactDependentClauses'. -/
def fnExactDependentClausesCard : Claim7 := { stood := { row := fnExactDependentClausesRow, standIns := [], harness := (true, "38504c47f1a6c7feb2538bccfcbede6f925c125b6cc52d83a45761f4cf52405e"), looks := false }, kinds := [], alts := [], laidByText := true, laidKinds := [.data, .pinned], laidTests := true, laidLooks := .later }
def FnExactDependentClausesCardSaid : Prop := Claim7.holds Tryz.pinned (.plain (OpenSpec.ofChange fnExactDependentClausesSpec)) fnExactDependentClausesCard

/-- THE TIED CARD OF 'laws.FnExactAddClause'. -/
def fnExactAddClauseCard : Claim7 := { stood := { row := fnExactAddClauseRow, standIns := [], harness := (true, "38504c47f1a6c7feb2538bccfcbede6f925c125b6cc52d83a45761f4cf52405e"), looks := false }, kinds := [], alts := [], laidByText := true, laidKinds := [.data, .pinned], laidTests := true, laidLooks := .later }
def FnExactAddClauseCardSaid : Prop := Claim7.holds Tryz.pinned (.plain (OpenSpec.ofChange fnExactAddClauseSpec)) fnExactAddClauseCard

/-- THE TIED CARD OF 'laws.FnExactRemoveClause'. -/
def fnExactRemoveClauseCard : Claim7 := { stood := { row := fnExactRemoveClauseRow, standIns := [], harness := (true, "38504c47f1a6c7feb2538bccfcbede6f925c125b6cc52d83a45761f4cf52405e"), looks := false }, kinds := [], alts := [], laidByText := true, laidKinds := [.data, .pinned], laidTests := true, laidLooks := .later }
def FnExactRemoveClauseCardSaid : Prop := Claim7.holds Tryz.pinned (.plain (OpenSpec.ofChange fnExactRemoveClauseSpec)) fnExactRemoveClauseCard

/-- THE TIED CARD OF 'laws.FnExactClausesOf'. -/
def fnExactClausesOfCard : Claim7 := { stood := { row := fnExactClausesOfRow, standIns := [], harness := (true, "38504c47f1a6c7feb2538bccfcbede6f925c125b6cc52d83a45761f4cf52405e"), looks := false }, kinds := [], alts := [], laidByText := true, laidKinds := [.data, .pinned], laidTests := true, laidLooks := .later }
def FnExactClausesOfCardSaid : Prop := Claim7.holds Tryz.pinned (.plain (OpenSpec.ofChange fnExactClausesOfSpec)) fnExactClausesOfCard

/-- THE TIED CARD OF 'laws.FnExactRepairChain'. -/
def fnExactRepairChainCard : Claim7 := { stood := { row := fnExactRepairChainRow, standIns := [], harness := (true, "38504c47f1a6c7feb2538bccfcbede6f925c125b6cc52d83a45761f4cf52405e"), looks := false }, kinds := [], alts := [], laidByText := true, laidKinds := [.data, .pinned], laidTests := true, laidLooks := .later }
def FnExactRepairChainCardSaid : Prop := Claim7.holds Tryz.pinned (.plain (OpenSpec.ofChange fnExactRepairChainSpec)) fnExactRepairChainCard

/-- THE SECOND FORM's CARD OF 'laws.FnExactDependentClauses'. -/
def fnExactDependentClausesUptoCard : Claim7 := { stood := { row := fnExactDependentClausesUptoRow, standIns := [], harness := (true, "38504c47f1a6c7feb2538bccfcbede6f925c125b6cc52d83a45761f4cf52405e"), looks := false }, kinds := [], alts := [], laidByText := true, laidKinds := [.data, .pinned], laidTests := true, laidLooks := .later }
def FnExactDependentClausesUptoCardSaid : Prop := Claim7.holds Tryz.pinned (.plain (OpenSpec.upto fnExactDependentClausesSpec)) fnExactDependentClausesUptoCard

/-- THE SECOND FORM's CARD OF 'laws.FnExactAddClause'. -/
def fnExactAddClauseUptoCard : Claim7 := { stood := { row := fnExactAddClauseUptoRow, standIns := [], harness := (true, "38504c47f1a6c7feb2538bccfcbede6f925c125b6cc52d83a45761f4cf52405e"), looks := false }, kinds := [], alts := [], laidByText := true, laidKinds := [.data, .pinned], laidTests := true, laidLooks := .later }
def FnExactAddClauseUptoCardSaid : Prop := Claim7.holds Tryz.pinned (.plain (OpenSpec.upto fnExactAddClauseSpec)) fnExactAddClauseUptoCard

/-- THE SECOND FORM's CARD OF 'laws.FnExactRemoveClause'. -/
def fnExactRemoveClauseUptoCard : Claim7 := { stood := { row := fnExactRemoveClauseUptoRow, standIns := [], harness := (true, "38504c47f1a6c7feb2538bccfcbede6f925c125b6cc52d83a45761f4cf52405e"), looks := false }, kinds := [], alts := [], laidByText := true, laidKinds := [.data, .pinned], laidTests := true, laidLooks := .later }
def FnExactRemoveClauseUptoCardSaid : Prop := Claim7.holds Tryz.pinned (.plain (OpenSpec.upto fnExactRemoveClauseSpec)) fnExactRemoveClauseUptoCard

/-- THE SECOND FORM's CARD OF 'laws.FnExactClausesOf'. -/
def fnExactClausesOfUptoCard : Claim7 := { stood := { row := fnExactClausesOfUptoRow, standIns := [], harness := (true, "38504c47f1a6c7feb2538bccfcbede6f925c125b6cc52d83a45761f4cf52405e"), looks := false }, kinds := [], alts := [], laidByText := true, laidKinds := [.data, .pinned], laidTests := true, laidLooks := .later }
def FnExactClausesOfUptoCardSaid : Prop := Claim7.holds Tryz.pinned (.plain (OpenSpec.upto fnExactClausesOfSpec)) fnExactClausesOfUptoCard

/-- THE SECOND FORM's CARD OF 'laws.FnExactRepairChain'. -/
def fnExactRepairChainUptoCard : Claim7 := { stood := { row := fnExactRepairChainUptoRow, standIns := [], harness := (true, "38504c47f1a6c7feb2538bccfcbede6f925c125b6cc52d83a45761f4cf52405e"), looks := false }, kinds := [], alts := [], laidByText := true, laidKinds := [.data, .pinned], laidTests := true, laidLooks := .later }
def FnExactRepairChainUptoCardSaid : Prop := Claim7.holds Tryz.pinned (.plain (OpenSpec.upto fnExactRepairChainSpec)) fnExactRepairChainUptoCard
end Rows
end Go.Proofs.YtdfbfcgjcfbmpaaGreatDoor
