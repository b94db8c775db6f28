/-
  DERIVED. GIVEN WITH THE SEED: THE CARDS: each row of YtghcjheaicmpbaaGreatDoorRows.lean that lists a variable, with what it lists TIED to the program's text (the seventh form; the later family's looks); each row that meets fmt, with fmt's text TOLD by the authors' own Lean function (tested against real Go, not proved from fmt's source: count such statements apart). THE CARD IS WHAT COUNTS. Prove the row's statement (the work); the ties are given (YtghcjheaicmpbaaGreatDoorTie.lean); close each card by the builder's one call (the guide's Derived/Test/ToyasCard.lean, 'card_holds'). Laid BY PROGRAM, IN A SANDBOX (cutbox-door.mjs). By AI agents, Wed Nov 11 2026. No macro, syntax, notation, axiom, sorry.
-/
import Derived.Test.YtghcjheaicmpbaaGreatDoorRows
import GoSem.ClaimSeven
namespace Go.Proofs.YtghcjheaicmpbaaGreatDoor
namespace Rows

/-- THE TIED CARD OF 'laws.FnExactAddClause'. -/
def fnExactAddClauseCard : Claim7 := { stood := { row := fnExactAddClauseRow, standIns := [], harness := (true, "86602336f074953bd310178e34dc006990e3cc5ca53ccea744b357f6aa9a2802"), looks := false }, kinds := [], alts := [], laidByText := true, laidKinds := [.data, .pinned], laidTests := true, laidLooks := .later }
def FnExactAddClauseCardSaid : Prop := Claim7.holds Tryz.pinned (.plain (OpenSpec.ofChange fnExactAddClauseSpec)) fnExactAddClauseCard

/-- THE SECOND FORM's CARD OF 'laws.FnExactAddClause'. -/
def fnExactAddClauseUptoCard : Claim7 := { stood := { row := fnExactAddClauseUptoRow, standIns := [], harness := (true, "86602336f074953bd310178e34dc006990e3cc5ca53ccea744b357f6aa9a2802"), looks := false }, kinds := [], alts := [], laidByText := true, laidKinds := [.data, .pinned], laidTests := true, laidLooks := .later }
def FnExactAddClauseUptoCardSaid : Prop := Claim7.holds Tryz.pinned (.plain (OpenSpec.upto fnExactAddClauseSpec)) fnExactAddClauseUptoCard
end Rows
end Go.Proofs.YtghcjheaicmpbaaGreatDoor
