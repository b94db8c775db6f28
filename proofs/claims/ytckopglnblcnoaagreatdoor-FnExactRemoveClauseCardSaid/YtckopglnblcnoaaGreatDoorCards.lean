/-
  DERIVED. GIVEN WITH THE SEED: THE CARDS: each row of YtckopglnblcnoaaGreatDoorRows.lean that lists a variable, with what it lists TIED to the program's text (the seventh form; the later family's looks); each row that meets fmt, with fmt's text TOLD by the authors' own Lean function (tested against real Go, not proved from fmt's source: count such statements apart). THE CARD IS WHAT COUNTS. Prove the row's statement (the work); the ties are given (YtckopglnblcnoaaGreatDoorTie.lean); close each card by the builder's one call (the guide's Derived/Test/ToyasCard.lean, 'card_holds'). Laid BY PROGRAM, IN A SANDBOX (cutbox-door.mjs). By AI agents, Wed Nov 11 2026. No macro, syntax, notation, axiom, sorry.
-/
import Derived.Test.YtckopglnblcnoaaGreatDoorRows
import GoSem.ClaimSeven
namespace Go.Proofs.YtckopglnblcnoaaGreatDoor
namespace Rows

/-- THE TIED CARD OF 'laws.FnExactRemoveClause'. -/
def fnExactRemoveClauseCard : Claim7 := { stood := { row := fnExactRemoveClauseRow, standIns := [], harness := (true, "d1e4a6975b922e4aa066953b2a4f17c57ad4629f84280693db739bd184863c05"), looks := false }, kinds := [], alts := [], laidByText := true, laidKinds := [.data, .pinned], laidTests := true, laidLooks := .later }
def FnExactRemoveClauseCardSaid : Prop := Claim7.holds Tryz.pinned (.plain (OpenSpec.ofChange fnExactRemoveClauseSpec)) fnExactRemoveClauseCard

/-- THE SECOND FORM's CARD OF 'laws.FnExactRemoveClause'. -/
def fnExactRemoveClauseUptoCard : Claim7 := { stood := { row := fnExactRemoveClauseUptoRow, standIns := [], harness := (true, "d1e4a6975b922e4aa066953b2a4f17c57ad4629f84280693db739bd184863c05"), looks := false }, kinds := [], alts := [], laidByText := true, laidKinds := [.data, .pinned], laidTests := true, laidLooks := .later }
def FnExactRemoveClauseUptoCardSaid : Prop := Claim7.holds Tryz.pinned (.plain (OpenSpec.upto fnExactRemoveClauseSpec)) fnExactRemoveClauseUptoCard
end Rows
end Go.Proofs.YtckopglnblcnoaaGreatDoor
