/-
  DERIVED. GIVEN WITH THE SEED: THE CARDS: each row of YtoijhfngihjhiaaDoorRows.lean that lists a variable, with what it lists TIED to the program's text (the seventh form; the later family's looks); each row that meets fmt, with fmt's text TOLD by the authors' own Lean function (tested against real Go, not proved from fmt's source: count such statements apart). THE CARD IS WHAT COUNTS. Prove the row's statement (the work); the ties are given (YtoijhfngihjhiaaDoorTie.lean); close each card by the builder's one call (the guide's Derived/Test/ToyasCard.lean, 'card_holds'). Laid BY PROGRAM, IN A SANDBOX (cutbox-door.mjs). By AI agents, Wed Nov 11 2026. No macro, syntax, notation, axiom, sorry.
-/
import Derived.Test.YtoijhfngihjhiaaDoorRows
import GoSem.ClaimSeven
namespace Go.Proofs.YtoijhfngihjhiaaDoor
namespace Rows

/-- THE TIED CARD OF 'laws.FnExactParseInt'. -/
def fnExactParseIntCard : Claim7 := { stood := { row := fnExactParseIntRow, standIns := [], harness := (true, "d9a68727d9afb95b08b0c74d217ba3dfde4104bd498884ac031db0029bb87206"), looks := true }, kinds := [], alts := [], laidByText := true, laidKinds := [.data, .data, .data, .sentinel, .sentinel], laidTests := true, laidLooks := .later }
def FnExactParseIntCardSaid : Prop := Claim7.holds Tryd.pinned (.plain (OpenSpec.ofChange fnExactParseIntSpec)) fnExactParseIntCard

/-- THE TIED CARD OF 'laws.FnExactParseDate'. -/
def fnExactParseDateCard : Claim7 := { stood := { row := fnExactParseDateRow, standIns := [], harness := (true, "d9a68727d9afb95b08b0c74d217ba3dfde4104bd498884ac031db0029bb87206"), looks := true }, kinds := [], alts := [], laidByText := true, laidKinds := [.data, .data, .data, .sentinel, .sentinel], laidTests := true, laidLooks := .later }
def FnExactParseDateCardSaid : Prop := Claim7.holds Tryd.pinned (.plain (OpenSpec.ofChange fnExactParseDateSpec)) fnExactParseDateCard

/-- THE TIED CARD OF 'laws.FnExactParseAmount'. -/
def fnExactParseAmountCard : Claim7 := { stood := { row := fnExactParseAmountRow, standIns := [], harness := (true, "d9a68727d9afb95b08b0c74d217ba3dfde4104bd498884ac031db0029bb87206"), looks := true }, kinds := [], alts := [], laidByText := true, laidKinds := [.data, .data, .data, .data, .sentinel, .sentinel, .pinned], laidTests := true, laidLooks := .later }
def FnExactParseAmountCardSaid : Prop := Claim7.holds Tryd.pinned (.plain (OpenSpec.ofChange fnExactParseAmountSpec)) fnExactParseAmountCard

/-- THE SECOND FORM's CARD OF 'laws.FnExactParseInt'. -/
def fnExactParseIntUptoCard : Claim7 := { stood := { row := fnExactParseIntUptoRow, standIns := [], harness := (true, "d9a68727d9afb95b08b0c74d217ba3dfde4104bd498884ac031db0029bb87206"), looks := true }, kinds := [], alts := [], laidByText := true, laidKinds := [.data, .data, .data, .sentinel, .sentinel], laidTests := true, laidLooks := .later }
def FnExactParseIntUptoCardSaid : Prop := Claim7.holds Tryd.pinned (.plain (OpenSpec.upto fnExactParseIntSpec)) fnExactParseIntUptoCard

/-- THE SECOND FORM's CARD OF 'laws.FnExactParseDate'. -/
def fnExactParseDateUptoCard : Claim7 := { stood := { row := fnExactParseDateUptoRow, standIns := [], harness := (true, "d9a68727d9afb95b08b0c74d217ba3dfde4104bd498884ac031db0029bb87206"), looks := true }, kinds := [], alts := [], laidByText := true, laidKinds := [.data, .data, .data, .sentinel, .sentinel], laidTests := true, laidLooks := .later }
def FnExactParseDateUptoCardSaid : Prop := Claim7.holds Tryd.pinned (.plain (OpenSpec.upto fnExactParseDateSpec)) fnExactParseDateUptoCard

/-- THE SECOND FORM's CARD OF 'laws.FnExactParseAmount'. -/
def fnExactParseAmountUptoCard : Claim7 := { stood := { row := fnExactParseAmountUptoRow, standIns := [], harness := (true, "d9a68727d9afb95b08b0c74d217ba3dfde4104bd498884ac031db0029bb87206"), looks := true }, kinds := [], alts := [], laidByText := true, laidKinds := [.data, .data, .data, .data, .sentinel, .sentinel, .pinned], laidTests := true, laidLooks := .later }
def FnExactParseAmountUptoCardSaid : Prop := Claim7.holds Tryd.pinned (.plain (OpenSpec.upto fnExactParseAmountSpec)) fnExactParseAmountUptoCard
end Rows
end Go.Proofs.YtoijhfngihjhiaaDoor
