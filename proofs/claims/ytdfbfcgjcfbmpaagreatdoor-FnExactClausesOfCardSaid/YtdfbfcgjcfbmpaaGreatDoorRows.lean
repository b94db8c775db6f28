/-
  NARROWER THAN 'FOR EVERY INPUT', by the rows' own cells (each row's printed sentence says how): FnExactDependentClauses: loops, laid · FnExactAddClause: loops, laid · FnExactRemoveClause: loops, laid · FnExactClausesOf: loops, laid · FnExactRepairChain: loops, laid.
  DERIVED. THE GIVEN ROWS OF THIS SEAT. 5 by the template 'for every input the law returns true; each argument reads behind the call as it read before'; 0 by the template 'total and deterministic' (their statements: YtdfbfcgjcfbmpaaGreatDoorTotals.lean).
  GIVEN WITH THE SEED: the statements are not yours to turn. If you find one false, say at which input.
  Laid BY PROGRAM, IN A SANDBOX (cutbox-rows.mjs): the forced cells as the released guide's own fill.sh prints them over the translation 8e8f8fb618f7caf7… (all of the seat's roots in one cut). By AI agents, Wed Nov 11 2026. No macro, syntax, notation, axiom, sorry.
-/
import Derived.Test.YtdfbfcgjcfbmpaaGreatDoorChecked
import GoSem.PinnedTables
import GoSem.Claim
import GoSem.ClaimJoined
import GoSem.ClaimMapViews
import Derived.JoinedTies
import Derived.KernelRfl
namespace Go.Proofs.YtdfbfcgjcfbmpaaGreatDoor
/- THE CELL 'sum', in the pinned program and in every row, IS THE sha256 OF THE DUMP (.gsa) THAT YtdfbfcgjcfbmpaaGreatDoorProg.lean LOADS. Nothing in Lean hashes anything: it is a label: what it is worth is what the hold of that sum in a sandbox is worth. -/
noncomputable def Tryz.pinned : Pinned := { name := "ytdfbfcgjcfbmpaagreatdoor", sum := "8e8f8fb618f7caf7bb8259344113c6feccca043b7791248a99ad5551b75e5154", checked := Tryz.checked }
namespace Rows
def none {H : Type} : Left H := { results := [], args := [] }

/- WHAT THE LISTED PACKAGE-LEVEL VARIABLES READ AS WHEN THE CALL BEGINS. Each datum BY PROGRAM (the guide's laid-datum.mjs) off the statement by which the dump's own 'gosem.cut.vars' lays the variable. In a bare row this is a premise. The card (YtdfbfcgjcfbmpaaGreatDoorCards.lean) ties it to the program's text. -/
def laid_unicode_utf8_acceptRanges {H : Type} : DataW H := .agg [.agg [.lit (.int .u8 128), .lit (.int .u8 191)], .agg [.lit (.int .u8 160), .lit (.int .u8 191)], .agg [.lit (.int .u8 128), .lit (.int .u8 159)], .agg [.lit (.int .u8 144), .lit (.int .u8 191)], .agg [.lit (.int .u8 128), .lit (.int .u8 143)], .agg [.lit (.int .u8 0), .lit (.int .u8 0)], .agg [.lit (.int .u8 0), .lit (.int .u8 0)], .agg [.lit (.int .u8 0), .lit (.int .u8 0)], .agg [.lit (.int .u8 0), .lit (.int .u8 0)], .agg [.lit (.int .u8 0), .lit (.int .u8 0)], .agg [.lit (.int .u8 0), .lit (.int .u8 0)], .agg [.lit (.int .u8 0), .lit (.int .u8 0)], .agg [.lit (.int .u8 0), .lit (.int .u8 0)], .agg [.lit (.int .u8 0), .lit (.int .u8 0)], .agg [.lit (.int .u8 0), .lit (.int .u8 0)], .agg [.lit (.int .u8 0), .lit (.int .u8 0)]]
/-- One of Go's own tables, pinned by name: the form's constant. -/
def laid_unicode_utf8_first : DataW Unit := Go.Pinned.utf8First

/-- 'laws.FnExactDependentClauses': WHATEVER THE INPUT: true; the input reads as it did. -/
def fnExactDependentClausesSpec : ChangeSpec := { name := "fnExactDependentClauses", fn := fun _ => fun
  | [d] => { results := [.lit (.bool true)], args := [d] }
  | _ => none }
def fnExactDependentClausesRow : OpenClaim := { program := "ytdfbfcgjcfbmpaagreatdoor", sum := "8e8f8fb618f7caf7bb8259344113c6feccca043b7791248a99ad5551b75e5154", func := "loop.example/g00902/laws.FnExactDependentClauses", spec := "fnExactDependentClauses", inPlace := ["internal/bytealg.CountString", "internal/bytealg.IndexByteString", "internal/bytealg.IndexString"], unfollowed := true, recurses := true, named := ["unicode/utf8.first", "unicode/utf8.acceptRanges", "internal/bytealg.MaxLen"], loops := true, apart := false, laid := [("unicode/utf8.acceptRanges", laid_unicode_utf8_acceptRanges), ("unicode/utf8.first", laid_unicode_utf8_first)] }
def FnExactDependentClausesSaid : Prop := fnExactDependentClausesRow.holds Tryz.pinned (OpenSpec.ofChange fnExactDependentClausesSpec)

/-- ITS FALSE NEIGHBOUR: 'it returns false'. Refute it at one input. -/
def fnExactDependentClausesWrong : ChangeSpec := { name := "fnExactDependentClauses", fn := fun _ => fun
  | [d] => { results := [.lit (.bool false)], args := [d] }
  | _ => none }
def FnExactDependentClausesWrongFalsely : Prop := fnExactDependentClausesRow.holds Tryz.pinned (OpenSpec.ofChange fnExactDependentClausesWrong)

/-- 'laws.FnExactAddClause': WHATEVER THE INPUT: true; the input reads as it did. -/
def fnExactAddClauseSpec : ChangeSpec := { name := "fnExactAddClause", fn := fun _ => fun
  | [d1, d2] => { results := [.lit (.bool true)], args := [d1, d2] }
  | _ => none }
def fnExactAddClauseRow : OpenClaim := { program := "ytdfbfcgjcfbmpaagreatdoor", sum := "8e8f8fb618f7caf7bb8259344113c6feccca043b7791248a99ad5551b75e5154", func := "loop.example/g00902/laws.FnExactAddClause", spec := "fnExactAddClause", inPlace := ["internal/bytealg.CountString", "internal/bytealg.IndexByteString", "internal/bytealg.IndexString"], unfollowed := true, recurses := true, named := ["unicode/utf8.first", "unicode/utf8.acceptRanges", "internal/bytealg.MaxLen"], loops := true, apart := false, laid := [("unicode/utf8.acceptRanges", laid_unicode_utf8_acceptRanges), ("unicode/utf8.first", laid_unicode_utf8_first)] }
def FnExactAddClauseSaid : Prop := fnExactAddClauseRow.holds Tryz.pinned (OpenSpec.ofChange fnExactAddClauseSpec)

/-- ITS FALSE NEIGHBOUR: 'it returns false'. Refute it at one input. -/
def fnExactAddClauseWrong : ChangeSpec := { name := "fnExactAddClause", fn := fun _ => fun
  | [d1, d2] => { results := [.lit (.bool false)], args := [d1, d2] }
  | _ => none }
def FnExactAddClauseWrongFalsely : Prop := fnExactAddClauseRow.holds Tryz.pinned (OpenSpec.ofChange fnExactAddClauseWrong)

/-- 'laws.FnExactRemoveClause': WHATEVER THE INPUT: true; the input reads as it did. -/
def fnExactRemoveClauseSpec : ChangeSpec := { name := "fnExactRemoveClause", fn := fun _ => fun
  | [d1, d2] => { results := [.lit (.bool true)], args := [d1, d2] }
  | _ => none }
def fnExactRemoveClauseRow : OpenClaim := { program := "ytdfbfcgjcfbmpaagreatdoor", sum := "8e8f8fb618f7caf7bb8259344113c6feccca043b7791248a99ad5551b75e5154", func := "loop.example/g00902/laws.FnExactRemoveClause", spec := "fnExactRemoveClause", inPlace := ["internal/bytealg.CountString", "internal/bytealg.IndexByteString", "internal/bytealg.IndexString"], unfollowed := true, recurses := true, named := ["unicode/utf8.first", "unicode/utf8.acceptRanges", "internal/bytealg.MaxLen"], loops := true, apart := false, laid := [("unicode/utf8.acceptRanges", laid_unicode_utf8_acceptRanges), ("unicode/utf8.first", laid_unicode_utf8_first)] }
def FnExactRemoveClauseSaid : Prop := fnExactRemoveClauseRow.holds Tryz.pinned (OpenSpec.ofChange fnExactRemoveClauseSpec)

/-- ITS FALSE NEIGHBOUR: 'it returns false'. Refute it at one input. -/
def fnExactRemoveClauseWrong : ChangeSpec := { name := "fnExactRemoveClause", fn := fun _ => fun
  | [d1, d2] => { results := [.lit (.bool false)], args := [d1, d2] }
  | _ => none }
def FnExactRemoveClauseWrongFalsely : Prop := fnExactRemoveClauseRow.holds Tryz.pinned (OpenSpec.ofChange fnExactRemoveClauseWrong)

/-- 'laws.FnExactClausesOf': WHATEVER THE INPUT: true; the input reads as it did. -/
def fnExactClausesOfSpec : ChangeSpec := { name := "fnExactClausesOf", fn := fun _ => fun
  | [d1, d2, d3] => { results := [.lit (.bool true)], args := [d1, d2, d3] }
  | _ => none }
def fnExactClausesOfRow : OpenClaim := { program := "ytdfbfcgjcfbmpaagreatdoor", sum := "8e8f8fb618f7caf7bb8259344113c6feccca043b7791248a99ad5551b75e5154", func := "loop.example/g00902/laws.FnExactClausesOf", spec := "fnExactClausesOf", inPlace := ["internal/bytealg.CountString", "internal/bytealg.IndexByteString", "internal/bytealg.IndexString"], unfollowed := true, recurses := true, named := ["unicode/utf8.first", "unicode/utf8.acceptRanges", "internal/bytealg.MaxLen"], loops := true, apart := false, laid := [("unicode/utf8.acceptRanges", laid_unicode_utf8_acceptRanges), ("unicode/utf8.first", laid_unicode_utf8_first)] }
def FnExactClausesOfSaid : Prop := fnExactClausesOfRow.holds Tryz.pinned (OpenSpec.ofChange fnExactClausesOfSpec)

/-- ITS FALSE NEIGHBOUR: 'it returns false'. Refute it at one input. -/
def fnExactClausesOfWrong : ChangeSpec := { name := "fnExactClausesOf", fn := fun _ => fun
  | [d1, d2, d3] => { results := [.lit (.bool false)], args := [d1, d2, d3] }
  | _ => none }
def FnExactClausesOfWrongFalsely : Prop := fnExactClausesOfRow.holds Tryz.pinned (OpenSpec.ofChange fnExactClausesOfWrong)

/-- 'laws.FnExactRepairChain': WHATEVER THE INPUT: true; the input reads as it did. -/
def fnExactRepairChainSpec : ChangeSpec := { name := "fnExactRepairChain", fn := fun _ => fun
  | [d1, d2] => { results := [.lit (.bool true)], args := [d1, d2] }
  | _ => none }
def fnExactRepairChainRow : OpenClaim := { program := "ytdfbfcgjcfbmpaagreatdoor", sum := "8e8f8fb618f7caf7bb8259344113c6feccca043b7791248a99ad5551b75e5154", func := "loop.example/g00902/laws.FnExactRepairChain", spec := "fnExactRepairChain", inPlace := ["internal/bytealg.CountString", "internal/bytealg.IndexByteString", "internal/bytealg.IndexString"], unfollowed := true, recurses := true, named := ["unicode/utf8.first", "unicode/utf8.acceptRanges", "internal/bytealg.MaxLen"], loops := true, apart := false, laid := [("unicode/utf8.acceptRanges", laid_unicode_utf8_acceptRanges), ("unicode/utf8.first", laid_unicode_utf8_first)] }
def FnExactRepairChainSaid : Prop := fnExactRepairChainRow.holds Tryz.pinned (OpenSpec.ofChange fnExactRepairChainSpec)

/-- ITS FALSE NEIGHBOUR: 'it returns false'. Refute it at one input. -/
def fnExactRepairChainWrong : ChangeSpec := { name := "fnExactRepairChain", fn := fun _ => fun
  | [d1, d2] => { results := [.lit (.bool false)], args := [d1, d2] }
  | _ => none }
def FnExactRepairChainWrongFalsely : Prop := fnExactRepairChainRow.holds Tryz.pinned (OpenSpec.ofChange fnExactRepairChainWrong)

/- THE SECOND FORM. 'bulk': how many values and letters a reading holds, each counted each time it is reached (what is shared counts as often as it is met; a slice's spare places count too). A statement '..UptoSaid' is the law's where the arguments, and the package variables that the reading takes, are together of bulk at most 1048576: NARROWER than '..Said'. Prove '..Said' where nothing that the law and all that it calls make is longer than what came in: it says more and counts as full. Else prove '..UptoSaid'. A law counts once. -/
mutual
def uptoBulk {H : Type} : DataW H → Nat
  | .lit (.string bytes) => bytes.length + 1
  | .lit _ => 1
  | .nil => 1
  | .ptr d => uptoBulk d + 1
  | .slice elems spare => uptoBulkAll elems + uptoBulkAll spare + 1
  | .agg parts => uptoBulkAll parts + 1
  | .iface _ d => uptoBulk d + 1
  | .map entries => uptoBulkEntries entries + 1
  | .held _ => 1
def uptoBulkAll {H : Type} : List (DataW H) → Nat
  | [] => 0
  | d :: r => uptoBulk d + uptoBulkAll r
def uptoBulkEntries {H : Type} : List (Lit × DataW H) → Nat
  | [] => 0
  | x :: r => uptoBulkEntry x + uptoBulkEntries r
def uptoBulkEntry {H : Type} : Lit × DataW H → Nat
  | (.string bytes, d) => bytes.length + uptoBulk d + 1
  | (_, d) => uptoBulk d + 1
 end
def uptoSmall : (H : Type) → List (DataW H) → Bool := fun _ ds => decide (uptoBulkAll ds ≤ 1048576)
def OpenSpec.upto (s : _root_.Go.ChangeSpec) : _root_.Go.OpenSpec := { _root_.Go.OpenSpec.ofChange s with cond := some uptoSmall }

/-- 'laws.FnExactDependentClauses', WHERE WHAT IT READS IS OF BULK AT MOST 1048576: true; the input reads as it did. -/
def fnExactDependentClausesUptoRow : OpenClaim := { program := "ytdfbfcgjcfbmpaagreatdoor", sum := "8e8f8fb618f7caf7bb8259344113c6feccca043b7791248a99ad5551b75e5154", func := "loop.example/g00902/laws.FnExactDependentClauses", spec := "fnExactDependentClauses", inPlace := ["internal/bytealg.CountString", "internal/bytealg.IndexByteString", "internal/bytealg.IndexString"], unfollowed := true, recurses := true, named := ["unicode/utf8.first", "unicode/utf8.acceptRanges", "internal/bytealg.MaxLen"], loops := true, apart := false, laid := [("unicode/utf8.acceptRanges", laid_unicode_utf8_acceptRanges), ("unicode/utf8.first", laid_unicode_utf8_first)], narrowed := true }
def FnExactDependentClausesUptoSaid : Prop := fnExactDependentClausesUptoRow.holds Tryz.pinned (OpenSpec.upto fnExactDependentClausesSpec)

/-- 'laws.FnExactAddClause', WHERE WHAT IT READS IS OF BULK AT MOST 1048576: true; the input reads as it did. -/
def fnExactAddClauseUptoRow : OpenClaim := { program := "ytdfbfcgjcfbmpaagreatdoor", sum := "8e8f8fb618f7caf7bb8259344113c6feccca043b7791248a99ad5551b75e5154", func := "loop.example/g00902/laws.FnExactAddClause", spec := "fnExactAddClause", inPlace := ["internal/bytealg.CountString", "internal/bytealg.IndexByteString", "internal/bytealg.IndexString"], unfollowed := true, recurses := true, named := ["unicode/utf8.first", "unicode/utf8.acceptRanges", "internal/bytealg.MaxLen"], loops := true, apart := false, laid := [("unicode/utf8.acceptRanges", laid_unicode_utf8_acceptRanges), ("unicode/utf8.first", laid_unicode_utf8_first)], narrowed := true }
def FnExactAddClauseUptoSaid : Prop := fnExactAddClauseUptoRow.holds Tryz.pinned (OpenSpec.upto fnExactAddClauseSpec)

/-- 'laws.FnExactRemoveClause', WHERE WHAT IT READS IS OF BULK AT MOST 1048576: true; the input reads as it did. -/
def fnExactRemoveClauseUptoRow : OpenClaim := { program := "ytdfbfcgjcfbmpaagreatdoor", sum := "8e8f8fb618f7caf7bb8259344113c6feccca043b7791248a99ad5551b75e5154", func := "loop.example/g00902/laws.FnExactRemoveClause", spec := "fnExactRemoveClause", inPlace := ["internal/bytealg.CountString", "internal/bytealg.IndexByteString", "internal/bytealg.IndexString"], unfollowed := true, recurses := true, named := ["unicode/utf8.first", "unicode/utf8.acceptRanges", "internal/bytealg.MaxLen"], loops := true, apart := false, laid := [("unicode/utf8.acceptRanges", laid_unicode_utf8_acceptRanges), ("unicode/utf8.first", laid_unicode_utf8_first)], narrowed := true }
def FnExactRemoveClauseUptoSaid : Prop := fnExactRemoveClauseUptoRow.holds Tryz.pinned (OpenSpec.upto fnExactRemoveClauseSpec)

/-- 'laws.FnExactClausesOf', WHERE WHAT IT READS IS OF BULK AT MOST 1048576: true; the input reads as it did. -/
def fnExactClausesOfUptoRow : OpenClaim := { program := "ytdfbfcgjcfbmpaagreatdoor", sum := "8e8f8fb618f7caf7bb8259344113c6feccca043b7791248a99ad5551b75e5154", func := "loop.example/g00902/laws.FnExactClausesOf", spec := "fnExactClausesOf", inPlace := ["internal/bytealg.CountString", "internal/bytealg.IndexByteString", "internal/bytealg.IndexString"], unfollowed := true, recurses := true, named := ["unicode/utf8.first", "unicode/utf8.acceptRanges", "internal/bytealg.MaxLen"], loops := true, apart := false, laid := [("unicode/utf8.acceptRanges", laid_unicode_utf8_acceptRanges), ("unicode/utf8.first", laid_unicode_utf8_first)], narrowed := true }
def FnExactClausesOfUptoSaid : Prop := fnExactClausesOfUptoRow.holds Tryz.pinned (OpenSpec.upto fnExactClausesOfSpec)

/-- 'laws.FnExactRepairChain', WHERE WHAT IT READS IS OF BULK AT MOST 1048576: true; the input reads as it did. -/
def fnExactRepairChainUptoRow : OpenClaim := { program := "ytdfbfcgjcfbmpaagreatdoor", sum := "8e8f8fb618f7caf7bb8259344113c6feccca043b7791248a99ad5551b75e5154", func := "loop.example/g00902/laws.FnExactRepairChain", spec := "fnExactRepairChain", inPlace := ["internal/bytealg.CountString", "internal/bytealg.IndexByteString", "internal/bytealg.IndexString"], unfollowed := true, recurses := true, named := ["unicode/utf8.first", "unicode/utf8.acceptRanges", "internal/bytealg.MaxLen"], loops := true, apart := false, laid := [("unicode/utf8.acceptRanges", laid_unicode_utf8_acceptRanges), ("unicode/utf8.first", laid_unicode_utf8_first)], narrowed := true }
def FnExactRepairChainUptoSaid : Prop := fnExactRepairChainUptoRow.holds Tryz.pinned (OpenSpec.upto fnExactRepairChainSpec)

end Rows
end Go.Proofs.YtdfbfcgjcfbmpaaGreatDoor
