/-
  NARROWER THAN 'FOR EVERY INPUT', by the rows' own cells (each row's printed sentence says how): FnExactIsValidContract: loops, laid · FnExactClauseNumber: loops, laid · FnExactFactNames: loops, laid.
  DERIVED. THE GIVEN ROWS OF THIS SEAT. 3 by the template 'for every input the law returns true; each argument reads behind the call as it read before'; 0 by the template 'total and deterministic' (their statements: YtdfbfcgjcfbmpaaDoorTotals.lean).
  GIVEN WITH THE SEED: the statements are not yours to turn. If you find one false, say at which input.
  Laid BY PROGRAM, IN A SANDBOX (cutbox-rows.mjs): the forced cells as the released guide's own fill.sh prints them over the translation e86dbb59f0b42732… (all of the seat's roots in one cut). By AI agents, Wed Nov 11 2026. No macro, syntax, notation, axiom, sorry.
-/
import Derived.Test.YtdfbfcgjcfbmpaaDoorChecked
import GoSem.PinnedTables
import GoSem.Claim
import GoSem.ClaimJoined
import GoSem.ClaimMapViews
import Derived.JoinedTies
import Derived.KernelRfl
namespace Go.Proofs.YtdfbfcgjcfbmpaaDoor
/- THE CELL 'sum', in the pinned program and in every row, IS THE sha256 OF THE DUMP (.gsa) THAT YtdfbfcgjcfbmpaaDoorProg.lean LOADS. Nothing in Lean hashes anything: it is a label: what it is worth is what the hold of that sum in a sandbox is worth. -/
noncomputable def Tryd.pinned : Pinned := { name := "ytdfbfcgjcfbmpaadoor", sum := "e86dbb59f0b427320d9afa6b7676a93b33585bb158b75e68261efe355ded2d45", checked := Tryd.checked }
namespace Rows
def none {H : Type} : Left H := { results := [], args := [] }

/- WHAT THE LISTED PACKAGE-LEVEL VARIABLES READ AS WHEN THE CALL BEGINS. Each datum BY PROGRAM (the guide's laid-datum.mjs) off the statement by which the dump's own 'gosem.cut.vars' lays the variable. In a bare row this is a premise. The card (YtdfbfcgjcfbmpaaDoorCards.lean) ties it to the program's text. -/
def laid_unicode_utf8_acceptRanges {H : Type} : DataW H := .agg [.agg [.lit (.int .u8 128), .lit (.int .u8 191)], .agg [.lit (.int .u8 160), .lit (.int .u8 191)], .agg [.lit (.int .u8 128), .lit (.int .u8 159)], .agg [.lit (.int .u8 144), .lit (.int .u8 191)], .agg [.lit (.int .u8 128), .lit (.int .u8 143)], .agg [.lit (.int .u8 0), .lit (.int .u8 0)], .agg [.lit (.int .u8 0), .lit (.int .u8 0)], .agg [.lit (.int .u8 0), .lit (.int .u8 0)], .agg [.lit (.int .u8 0), .lit (.int .u8 0)], .agg [.lit (.int .u8 0), .lit (.int .u8 0)], .agg [.lit (.int .u8 0), .lit (.int .u8 0)], .agg [.lit (.int .u8 0), .lit (.int .u8 0)], .agg [.lit (.int .u8 0), .lit (.int .u8 0)], .agg [.lit (.int .u8 0), .lit (.int .u8 0)], .agg [.lit (.int .u8 0), .lit (.int .u8 0)], .agg [.lit (.int .u8 0), .lit (.int .u8 0)]]
/-- One of Go's own tables, pinned by name: the form's constant. -/
def laid_unicode_utf8_first : DataW Unit := Go.Pinned.utf8First

/-- 'laws.FnExactIsValidContract': WHATEVER THE INPUT: true; the input reads as it did. -/
def fnExactIsValidContractSpec : ChangeSpec := { name := "fnExactIsValidContract", fn := fun _ => fun
  | [d] => { results := [.lit (.bool true)], args := [d] }
  | _ => none }
def fnExactIsValidContractRow : OpenClaim := { program := "ytdfbfcgjcfbmpaadoor", sum := "e86dbb59f0b427320d9afa6b7676a93b33585bb158b75e68261efe355ded2d45", func := "loop.example/g00902/laws.FnExactIsValidContract", spec := "fnExactIsValidContract", inPlace := ["internal/bytealg.CountString", "internal/bytealg.IndexByteString", "internal/bytealg.IndexString"], unfollowed := true, recurses := true, named := ["unicode/utf8.first", "unicode/utf8.acceptRanges", "internal/bytealg.MaxLen"], loops := true, apart := false, laid := [("unicode/utf8.acceptRanges", laid_unicode_utf8_acceptRanges), ("unicode/utf8.first", laid_unicode_utf8_first)] }
def FnExactIsValidContractSaid : Prop := fnExactIsValidContractRow.holds Tryd.pinned (OpenSpec.ofChange fnExactIsValidContractSpec)

/-- ITS FALSE NEIGHBOUR: 'it returns false'. Refute it at one input. -/
def fnExactIsValidContractWrong : ChangeSpec := { name := "fnExactIsValidContract", fn := fun _ => fun
  | [d] => { results := [.lit (.bool false)], args := [d] }
  | _ => none }
def FnExactIsValidContractWrongFalsely : Prop := fnExactIsValidContractRow.holds Tryd.pinned (OpenSpec.ofChange fnExactIsValidContractWrong)

/-- 'laws.FnExactClauseNumber': WHATEVER THE INPUT: true; the input reads as it did. -/
def fnExactClauseNumberSpec : ChangeSpec := { name := "fnExactClauseNumber", fn := fun _ => fun
  | [d1, d2] => { results := [.lit (.bool true)], args := [d1, d2] }
  | _ => none }
def fnExactClauseNumberRow : OpenClaim := { program := "ytdfbfcgjcfbmpaadoor", sum := "e86dbb59f0b427320d9afa6b7676a93b33585bb158b75e68261efe355ded2d45", func := "loop.example/g00902/laws.FnExactClauseNumber", spec := "fnExactClauseNumber", inPlace := ["internal/bytealg.CountString", "internal/bytealg.IndexByteString", "internal/bytealg.IndexString"], unfollowed := true, recurses := true, named := ["unicode/utf8.first", "unicode/utf8.acceptRanges", "internal/bytealg.MaxLen"], loops := true, apart := false, laid := [("unicode/utf8.acceptRanges", laid_unicode_utf8_acceptRanges), ("unicode/utf8.first", laid_unicode_utf8_first)] }
def FnExactClauseNumberSaid : Prop := fnExactClauseNumberRow.holds Tryd.pinned (OpenSpec.ofChange fnExactClauseNumberSpec)

/-- ITS FALSE NEIGHBOUR: 'it returns false'. Refute it at one input. -/
def fnExactClauseNumberWrong : ChangeSpec := { name := "fnExactClauseNumber", fn := fun _ => fun
  | [d1, d2] => { results := [.lit (.bool false)], args := [d1, d2] }
  | _ => none }
def FnExactClauseNumberWrongFalsely : Prop := fnExactClauseNumberRow.holds Tryd.pinned (OpenSpec.ofChange fnExactClauseNumberWrong)

/-- 'laws.FnExactFactNames': WHATEVER THE INPUT: true; the input reads as it did. -/
def fnExactFactNamesSpec : ChangeSpec := { name := "fnExactFactNames", fn := fun _ => fun
  | [d] => { results := [.lit (.bool true)], args := [d] }
  | _ => none }
def fnExactFactNamesRow : OpenClaim := { program := "ytdfbfcgjcfbmpaadoor", sum := "e86dbb59f0b427320d9afa6b7676a93b33585bb158b75e68261efe355ded2d45", func := "loop.example/g00902/laws.FnExactFactNames", spec := "fnExactFactNames", inPlace := ["internal/bytealg.CountString", "internal/bytealg.IndexByteString", "internal/bytealg.IndexString"], unfollowed := true, recurses := true, named := ["unicode/utf8.first", "unicode/utf8.acceptRanges", "internal/bytealg.MaxLen"], loops := true, apart := false, laid := [("unicode/utf8.acceptRanges", laid_unicode_utf8_acceptRanges), ("unicode/utf8.first", laid_unicode_utf8_first)] }
def FnExactFactNamesSaid : Prop := fnExactFactNamesRow.holds Tryd.pinned (OpenSpec.ofChange fnExactFactNamesSpec)

/-- ITS FALSE NEIGHBOUR: 'it returns false'. Refute it at one input. -/
def fnExactFactNamesWrong : ChangeSpec := { name := "fnExactFactNames", fn := fun _ => fun
  | [d] => { results := [.lit (.bool false)], args := [d] }
  | _ => none }
def FnExactFactNamesWrongFalsely : Prop := fnExactFactNamesRow.holds Tryd.pinned (OpenSpec.ofChange fnExactFactNamesWrong)

/- THE SECOND FORM. 'bulk': how many values and letters a reading holds, each counted each time it is reached (what is shared counts as often as it is met; a slice's spare places count too). A statement '..UptoSaid' is the law's where the arguments, and the package variables that the reading takes, are together of bulk at most 1048576: NARROWER than '..Said'. Prove '..Said' where nothing that the law and all that it calls make is longer than what came in: it says more and counts as full. Else prove '..UptoSaid'. A law counts once. -/
mutual
def uptoBulk {H : Type} : DataW H → Nat
  | .lit (.string bytes) => bytes.length + 1
  | .lit _ => 1
  | .nil => 1
  | .ptr d => uptoBulk d + 1
  | .slice elems spare => uptoBulkAll elems + uptoBulkAll spare + 1
  | .agg parts => uptoBulkAll parts + 1
  | .iface _ d => uptoBulk d + 1
  | .map entries => uptoBulkEntries entries + 1
  | .held _ => 1
def uptoBulkAll {H : Type} : List (DataW H) → Nat
  | [] => 0
  | d :: r => uptoBulk d + uptoBulkAll r
def uptoBulkEntries {H : Type} : List (Lit × DataW H) → Nat
  | [] => 0
  | x :: r => uptoBulkEntry x + uptoBulkEntries r
def uptoBulkEntry {H : Type} : Lit × DataW H → Nat
  | (.string bytes, d) => bytes.length + uptoBulk d + 1
  | (_, d) => uptoBulk d + 1
 end
def uptoSmall : (H : Type) → List (DataW H) → Bool := fun _ ds => decide (uptoBulkAll ds ≤ 1048576)
def OpenSpec.upto (s : _root_.Go.ChangeSpec) : _root_.Go.OpenSpec := { _root_.Go.OpenSpec.ofChange s with cond := some uptoSmall }

/-- 'laws.FnExactIsValidContract', WHERE WHAT IT READS IS OF BULK AT MOST 1048576: true; the input reads as it did. -/
def fnExactIsValidContractUptoRow : OpenClaim := { program := "ytdfbfcgjcfbmpaadoor", sum := "e86dbb59f0b427320d9afa6b7676a93b33585bb158b75e68261efe355ded2d45", func := "loop.example/g00902/laws.FnExactIsValidContract", spec := "fnExactIsValidContract", inPlace := ["internal/bytealg.CountString", "internal/bytealg.IndexByteString", "internal/bytealg.IndexString"], unfollowed := true, recurses := true, named := ["unicode/utf8.first", "unicode/utf8.acceptRanges", "internal/bytealg.MaxLen"], loops := true, apart := false, laid := [("unicode/utf8.acceptRanges", laid_unicode_utf8_acceptRanges), ("unicode/utf8.first", laid_unicode_utf8_first)], narrowed := true }
def FnExactIsValidContractUptoSaid : Prop := fnExactIsValidContractUptoRow.holds Tryd.pinned (OpenSpec.upto fnExactIsValidContractSpec)

/-- 'laws.FnExactClauseNumber', WHERE WHAT IT READS IS OF BULK AT MOST 1048576: true; the input reads as it did. -/
def fnExactClauseNumberUptoRow : OpenClaim := { program := "ytdfbfcgjcfbmpaadoor", sum := "e86dbb59f0b427320d9afa6b7676a93b33585bb158b75e68261efe355ded2d45", func := "loop.example/g00902/laws.FnExactClauseNumber", spec := "fnExactClauseNumber", inPlace := ["internal/bytealg.CountString", "internal/bytealg.IndexByteString", "internal/bytealg.IndexString"], unfollowed := true, recurses := true, named := ["unicode/utf8.first", "unicode/utf8.acceptRanges", "internal/bytealg.MaxLen"], loops := true, apart := false, laid := [("unicode/utf8.acceptRanges", laid_unicode_utf8_acceptRanges), ("unicode/utf8.first", laid_unicode_utf8_first)], narrowed := true }
def FnExactClauseNumberUptoSaid : Prop := fnExactClauseNumberUptoRow.holds Tryd.pinned (OpenSpec.upto fnExactClauseNumberSpec)

/-- 'laws.FnExactFactNames', WHERE WHAT IT READS IS OF BULK AT MOST 1048576: true; the input reads as it did. -/
def fnExactFactNamesUptoRow : OpenClaim := { program := "ytdfbfcgjcfbmpaadoor", sum := "e86dbb59f0b427320d9afa6b7676a93b33585bb158b75e68261efe355ded2d45", func := "loop.example/g00902/laws.FnExactFactNames", spec := "fnExactFactNames", inPlace := ["internal/bytealg.CountString", "internal/bytealg.IndexByteString", "internal/bytealg.IndexString"], unfollowed := true, recurses := true, named := ["unicode/utf8.first", "unicode/utf8.acceptRanges", "internal/bytealg.MaxLen"], loops := true, apart := false, laid := [("unicode/utf8.acceptRanges", laid_unicode_utf8_acceptRanges), ("unicode/utf8.first", laid_unicode_utf8_first)], narrowed := true }
def FnExactFactNamesUptoSaid : Prop := fnExactFactNamesUptoRow.holds Tryd.pinned (OpenSpec.upto fnExactFactNamesSpec)

end Rows
end Go.Proofs.YtdfbfcgjcfbmpaaDoor
