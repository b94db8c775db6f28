/-
  No cell of these rows narrows 'for every input' (looked for: loops, veiled, ifaces, maps, wideKeys, modest, calm, conditions, laid).
  DERIVED. THE GIVEN ROWS OF THIS SEAT. 12 by the template 'for every input the law returns true; each argument reads behind the call as it read before'; 0 by the template 'total and deterministic' (their statements: YtgpphkghgdcamaaTotals.lean).
  GIVEN WITH THE SEED: the statements are not yours to turn. If you find one false, say at which input.
  Laid BY PROGRAM, IN A SANDBOX (cutbox-rows.mjs): the forced cells as the released guide's own fill.sh prints them over the translation 3a24a5893467ea92… (all of the seat's roots in one cut). By AI agents, Wed Nov 11 2026. No macro, syntax, notation, axiom, sorry.
-/
import Derived.Test.YtgpphkghgdcamaaChecked
import GoSem.Claim
import GoSem.ClaimJoined
import GoSem.ClaimMapViews
import Derived.JoinedTies
import Derived.KernelRfl
namespace Go.Proofs.Ytgpphkghgdcamaa
/- THE CELL 'sum', in the pinned program and in every row, IS THE sha256 OF THE DUMP (.gsa) THAT YtgpphkghgdcamaaProg.lean LOADS. Nothing in Lean hashes anything: it is a label: what it is worth is what the hold of that sum in a sandbox is worth. -/
noncomputable def Try.pinned : Pinned := { name := "ytgpphkghgdcamaa", sum := "3a24a5893467ea925e54ac1070acc0d4efa5a1f41515bef62cb89553e018e11a", checked := Try.checked }
namespace Rows
def none {H : Type} : Left H := { results := [], args := [] }

/-- 'laws.FnExactConstants': WHATEVER THE INPUT: true; the input reads as it did. -/
def fnExactConstantsSpec : ChangeSpec := { name := "fnExactConstants", fn := fun _ => fun
  | [] => { results := [.lit (.bool true)], args := [] }
  | _ => none }
def fnExactConstantsRow : OpenClaim := { program := "ytgpphkghgdcamaa", sum := "3a24a5893467ea925e54ac1070acc0d4efa5a1f41515bef62cb89553e018e11a", func := "loop.example/g00902/laws.FnExactConstants", spec := "fnExactConstants", apart := false }
def FnExactConstantsSaid : Prop := fnExactConstantsRow.holds Try.pinned (OpenSpec.ofChange fnExactConstantsSpec)

/-- ITS FALSE NEIGHBOUR: 'it returns false'. Refute it at one input. -/
def fnExactConstantsWrong : ChangeSpec := { name := "fnExactConstants", fn := fun _ => fun
  | [] => { results := [.lit (.bool false)], args := [] }
  | _ => none }
def FnExactConstantsWrongFalsely : Prop := fnExactConstantsRow.holds Try.pinned (OpenSpec.ofChange fnExactConstantsWrong)

/-- 'laws.FnExactLessString': WHATEVER THE INPUT: true; the input reads as it did. -/
def fnExactLessStringSpec : ChangeSpec := { name := "fnExactLessString", fn := fun _ => fun
  | [d1, d2] => { results := [.lit (.bool true)], args := [d1, d2] }
  | _ => none }
def fnExactLessStringRow : OpenClaim := { program := "ytgpphkghgdcamaa", sum := "3a24a5893467ea925e54ac1070acc0d4efa5a1f41515bef62cb89553e018e11a", func := "loop.example/g00902/laws.FnExactLessString", spec := "fnExactLessString", apart := false }
def FnExactLessStringSaid : Prop := fnExactLessStringRow.holds Try.pinned (OpenSpec.ofChange fnExactLessStringSpec)

/-- ITS FALSE NEIGHBOUR: 'it returns false'. Refute it at one input. -/
def fnExactLessStringWrong : ChangeSpec := { name := "fnExactLessString", fn := fun _ => fun
  | [d1, d2] => { results := [.lit (.bool false)], args := [d1, d2] }
  | _ => none }
def FnExactLessStringWrongFalsely : Prop := fnExactLessStringRow.holds Try.pinned (OpenSpec.ofChange fnExactLessStringWrong)

/-- 'laws.FnExactWeekday': WHATEVER THE INPUT: true; the input reads as it did. -/
def fnExactWeekdaySpec : ChangeSpec := { name := "fnExactWeekday", fn := fun _ => fun
  | [d] => { results := [.lit (.bool true)], args := [d] }
  | _ => none }
def fnExactWeekdayRow : OpenClaim := { program := "ytgpphkghgdcamaa", sum := "3a24a5893467ea925e54ac1070acc0d4efa5a1f41515bef62cb89553e018e11a", func := "loop.example/g00902/laws.FnExactWeekday", spec := "fnExactWeekday", apart := false }
def FnExactWeekdaySaid : Prop := fnExactWeekdayRow.holds Try.pinned (OpenSpec.ofChange fnExactWeekdaySpec)

/-- ITS FALSE NEIGHBOUR: 'it returns false'. Refute it at one input. -/
def fnExactWeekdayWrong : ChangeSpec := { name := "fnExactWeekday", fn := fun _ => fun
  | [d] => { results := [.lit (.bool false)], args := [d] }
  | _ => none }
def FnExactWeekdayWrongFalsely : Prop := fnExactWeekdayRow.holds Try.pinned (OpenSpec.ofChange fnExactWeekdayWrong)

/-- 'laws.FnExactChecksum': WHATEVER THE INPUT: true; the input reads as it did. -/
def fnExactChecksumSpec : ChangeSpec := { name := "fnExactChecksum", fn := fun _ => fun
  | [d] => { results := [.lit (.bool true)], args := [d] }
  | _ => none }
def fnExactChecksumRow : OpenClaim := { program := "ytgpphkghgdcamaa", sum := "3a24a5893467ea925e54ac1070acc0d4efa5a1f41515bef62cb89553e018e11a", func := "loop.example/g00902/laws.FnExactChecksum", spec := "fnExactChecksum", apart := false }
def FnExactChecksumSaid : Prop := fnExactChecksumRow.holds Try.pinned (OpenSpec.ofChange fnExactChecksumSpec)

/-- ITS FALSE NEIGHBOUR: 'it returns false'. Refute it at one input. -/
def fnExactChecksumWrong : ChangeSpec := { name := "fnExactChecksum", fn := fun _ => fun
  | [d] => { results := [.lit (.bool false)], args := [d] }
  | _ => none }
def FnExactChecksumWrongFalsely : Prop := fnExactChecksumRow.holds Try.pinned (OpenSpec.ofChange fnExactChecksumWrong)

/-- 'laws.FnExactDaysInMonth': WHATEVER THE INPUT: true; the input reads as it did. -/
def fnExactDaysInMonthSpec : ChangeSpec := { name := "fnExactDaysInMonth", fn := fun _ => fun
  | [d1, d2] => { results := [.lit (.bool true)], args := [d1, d2] }
  | _ => none }
def fnExactDaysInMonthRow : OpenClaim := { program := "ytgpphkghgdcamaa", sum := "3a24a5893467ea925e54ac1070acc0d4efa5a1f41515bef62cb89553e018e11a", func := "loop.example/g00902/laws.FnExactDaysInMonth", spec := "fnExactDaysInMonth", apart := false }
def FnExactDaysInMonthSaid : Prop := fnExactDaysInMonthRow.holds Try.pinned (OpenSpec.ofChange fnExactDaysInMonthSpec)

/-- ITS FALSE NEIGHBOUR: 'it returns false'. Refute it at one input. -/
def fnExactDaysInMonthWrong : ChangeSpec := { name := "fnExactDaysInMonth", fn := fun _ => fun
  | [d1, d2] => { results := [.lit (.bool false)], args := [d1, d2] }
  | _ => none }
def FnExactDaysInMonthWrongFalsely : Prop := fnExactDaysInMonthRow.holds Try.pinned (OpenSpec.ofChange fnExactDaysInMonthWrong)

/-- 'laws.FnExactIsValidDate': WHATEVER THE INPUT: true; the input reads as it did. -/
def fnExactIsValidDateSpec : ChangeSpec := { name := "fnExactIsValidDate", fn := fun _ => fun
  | [d] => { results := [.lit (.bool true)], args := [d] }
  | _ => none }
def fnExactIsValidDateRow : OpenClaim := { program := "ytgpphkghgdcamaa", sum := "3a24a5893467ea925e54ac1070acc0d4efa5a1f41515bef62cb89553e018e11a", func := "loop.example/g00902/laws.FnExactIsValidDate", spec := "fnExactIsValidDate", apart := false }
def FnExactIsValidDateSaid : Prop := fnExactIsValidDateRow.holds Try.pinned (OpenSpec.ofChange fnExactIsValidDateSpec)

/-- ITS FALSE NEIGHBOUR: 'it returns false'. Refute it at one input. -/
def fnExactIsValidDateWrong : ChangeSpec := { name := "fnExactIsValidDate", fn := fun _ => fun
  | [d] => { results := [.lit (.bool false)], args := [d] }
  | _ => none }
def FnExactIsValidDateWrongFalsely : Prop := fnExactIsValidDateRow.holds Try.pinned (OpenSpec.ofChange fnExactIsValidDateWrong)

/-- 'laws.FnExactDayOf': WHATEVER THE INPUT: true; the input reads as it did. -/
def fnExactDayOfSpec : ChangeSpec := { name := "fnExactDayOf", fn := fun _ => fun
  | [d] => { results := [.lit (.bool true)], args := [d] }
  | _ => none }
def fnExactDayOfRow : OpenClaim := { program := "ytgpphkghgdcamaa", sum := "3a24a5893467ea925e54ac1070acc0d4efa5a1f41515bef62cb89553e018e11a", func := "loop.example/g00902/laws.FnExactDayOf", spec := "fnExactDayOf", apart := false }
def FnExactDayOfSaid : Prop := fnExactDayOfRow.holds Try.pinned (OpenSpec.ofChange fnExactDayOfSpec)

/-- ITS FALSE NEIGHBOUR: 'it returns false'. Refute it at one input. -/
def fnExactDayOfWrong : ChangeSpec := { name := "fnExactDayOf", fn := fun _ => fun
  | [d] => { results := [.lit (.bool false)], args := [d] }
  | _ => none }
def FnExactDayOfWrongFalsely : Prop := fnExactDayOfRow.holds Try.pinned (OpenSpec.ofChange fnExactDayOfWrong)

/-- 'laws.FnExactIsMonthEnd': WHATEVER THE INPUT: true; the input reads as it did. -/
def fnExactIsMonthEndSpec : ChangeSpec := { name := "fnExactIsMonthEnd", fn := fun _ => fun
  | [d] => { results := [.lit (.bool true)], args := [d] }
  | _ => none }
def fnExactIsMonthEndRow : OpenClaim := { program := "ytgpphkghgdcamaa", sum := "3a24a5893467ea925e54ac1070acc0d4efa5a1f41515bef62cb89553e018e11a", func := "loop.example/g00902/laws.FnExactIsMonthEnd", spec := "fnExactIsMonthEnd", apart := false }
def FnExactIsMonthEndSaid : Prop := fnExactIsMonthEndRow.holds Try.pinned (OpenSpec.ofChange fnExactIsMonthEndSpec)

/-- ITS FALSE NEIGHBOUR: 'it returns false'. Refute it at one input. -/
def fnExactIsMonthEndWrong : ChangeSpec := { name := "fnExactIsMonthEnd", fn := fun _ => fun
  | [d] => { results := [.lit (.bool false)], args := [d] }
  | _ => none }
def FnExactIsMonthEndWrongFalsely : Prop := fnExactIsMonthEndRow.holds Try.pinned (OpenSpec.ofChange fnExactIsMonthEndWrong)

/-- 'laws.FnExactDateOf': WHATEVER THE INPUT: true; the input reads as it did. -/
def fnExactDateOfSpec : ChangeSpec := { name := "fnExactDateOf", fn := fun _ => fun
  | [d] => { results := [.lit (.bool true)], args := [d] }
  | _ => none }
def fnExactDateOfRow : OpenClaim := { program := "ytgpphkghgdcamaa", sum := "3a24a5893467ea925e54ac1070acc0d4efa5a1f41515bef62cb89553e018e11a", func := "loop.example/g00902/laws.FnExactDateOf", spec := "fnExactDateOf", apart := false }
def FnExactDateOfSaid : Prop := fnExactDateOfRow.holds Try.pinned (OpenSpec.ofChange fnExactDateOfSpec)

/-- ITS FALSE NEIGHBOUR: 'it returns false'. Refute it at one input. -/
def fnExactDateOfWrong : ChangeSpec := { name := "fnExactDateOf", fn := fun _ => fun
  | [d] => { results := [.lit (.bool false)], args := [d] }
  | _ => none }
def FnExactDateOfWrongFalsely : Prop := fnExactDateOfRow.holds Try.pinned (OpenSpec.ofChange fnExactDateOfWrong)

/-- 'laws.FnExactNthWeekday': WHATEVER THE INPUT: true; the input reads as it did. -/
def fnExactNthWeekdaySpec : ChangeSpec := { name := "fnExactNthWeekday", fn := fun _ => fun
  | [d1, d2, d3, d4] => { results := [.lit (.bool true)], args := [d1, d2, d3, d4] }
  | _ => none }
def fnExactNthWeekdayRow : OpenClaim := { program := "ytgpphkghgdcamaa", sum := "3a24a5893467ea925e54ac1070acc0d4efa5a1f41515bef62cb89553e018e11a", func := "loop.example/g00902/laws.FnExactNthWeekday", spec := "fnExactNthWeekday", apart := false }
def FnExactNthWeekdaySaid : Prop := fnExactNthWeekdayRow.holds Try.pinned (OpenSpec.ofChange fnExactNthWeekdaySpec)

/-- ITS FALSE NEIGHBOUR: 'it returns false'. Refute it at one input. -/
def fnExactNthWeekdayWrong : ChangeSpec := { name := "fnExactNthWeekday", fn := fun _ => fun
  | [d1, d2, d3, d4] => { results := [.lit (.bool false)], args := [d1, d2, d3, d4] }
  | _ => none }
def FnExactNthWeekdayWrongFalsely : Prop := fnExactNthWeekdayRow.holds Try.pinned (OpenSpec.ofChange fnExactNthWeekdayWrong)

/-- 'laws.FnExactAddMonths': WHATEVER THE INPUT: true; the input reads as it did. -/
def fnExactAddMonthsSpec : ChangeSpec := { name := "fnExactAddMonths", fn := fun _ => fun
  | [d1, d2] => { results := [.lit (.bool true)], args := [d1, d2] }
  | _ => none }
def fnExactAddMonthsRow : OpenClaim := { program := "ytgpphkghgdcamaa", sum := "3a24a5893467ea925e54ac1070acc0d4efa5a1f41515bef62cb89553e018e11a", func := "loop.example/g00902/laws.FnExactAddMonths", spec := "fnExactAddMonths", apart := false }
def FnExactAddMonthsSaid : Prop := fnExactAddMonthsRow.holds Try.pinned (OpenSpec.ofChange fnExactAddMonthsSpec)

/-- ITS FALSE NEIGHBOUR: 'it returns false'. Refute it at one input. -/
def fnExactAddMonthsWrong : ChangeSpec := { name := "fnExactAddMonths", fn := fun _ => fun
  | [d1, d2] => { results := [.lit (.bool false)], args := [d1, d2] }
  | _ => none }
def FnExactAddMonthsWrongFalsely : Prop := fnExactAddMonthsRow.holds Try.pinned (OpenSpec.ofChange fnExactAddMonthsWrong)

/-- 'laws.FnMonths': WHATEVER THE INPUT: true; the input reads as it did. -/
def fnMonthsSpec : ChangeSpec := { name := "fnMonths", fn := fun _ => fun
  | [d] => { results := [.lit (.bool true)], args := [d] }
  | _ => none }
def fnMonthsRow : OpenClaim := { program := "ytgpphkghgdcamaa", sum := "3a24a5893467ea925e54ac1070acc0d4efa5a1f41515bef62cb89553e018e11a", func := "loop.example/g00902/laws.FnMonths", spec := "fnMonths", apart := false }
def FnMonthsSaid : Prop := fnMonthsRow.holds Try.pinned (OpenSpec.ofChange fnMonthsSpec)

/-- ITS FALSE NEIGHBOUR: 'it returns false'. Refute it at one input. -/
def fnMonthsWrong : ChangeSpec := { name := "fnMonths", fn := fun _ => fun
  | [d] => { results := [.lit (.bool false)], args := [d] }
  | _ => none }
def FnMonthsWrongFalsely : Prop := fnMonthsRow.holds Try.pinned (OpenSpec.ofChange fnMonthsWrong)

/- THE SECOND FORM. 'bulk': how many values and letters a reading holds, each counted each time it is reached (what is shared counts as often as it is met; a slice's spare places count too). A statement '..UptoSaid' is the law's where the arguments, and the package variables that the reading takes, are together of bulk at most 1048576: NARROWER than '..Said'. Prove '..Said' where nothing that the law and all that it calls make is longer than what came in: it says more and counts as full. Else prove '..UptoSaid'. A law counts once. -/
mutual
def uptoBulk {H : Type} : DataW H → Nat
  | .lit (.string bytes) => bytes.length + 1
  | .lit _ => 1
  | .nil => 1
  | .ptr d => uptoBulk d + 1
  | .slice elems spare => uptoBulkAll elems + uptoBulkAll spare + 1
  | .agg parts => uptoBulkAll parts + 1
  | .iface _ d => uptoBulk d + 1
  | .map entries => uptoBulkEntries entries + 1
  | .held _ => 1
def uptoBulkAll {H : Type} : List (DataW H) → Nat
  | [] => 0
  | d :: r => uptoBulk d + uptoBulkAll r
def uptoBulkEntries {H : Type} : List (Lit × DataW H) → Nat
  | [] => 0
  | x :: r => uptoBulkEntry x + uptoBulkEntries r
def uptoBulkEntry {H : Type} : Lit × DataW H → Nat
  | (.string bytes, d) => bytes.length + uptoBulk d + 1
  | (_, d) => uptoBulk d + 1
 end
def uptoSmall : (H : Type) → List (DataW H) → Bool := fun _ ds => decide (uptoBulkAll ds ≤ 1048576)
def OpenSpec.upto (s : _root_.Go.ChangeSpec) : _root_.Go.OpenSpec := { _root_.Go.OpenSpec.ofChange s with cond := some uptoSmall }

/-- 'laws.FnExactConstants', WHERE WHAT IT READS IS OF BULK AT MOST 1048576: true; the input reads as it did. -/
def fnExactConstantsUptoRow : OpenClaim := { program := "ytgpphkghgdcamaa", sum := "3a24a5893467ea925e54ac1070acc0d4efa5a1f41515bef62cb89553e018e11a", func := "loop.example/g00902/laws.FnExactConstants", spec := "fnExactConstants", apart := false, narrowed := true }
def FnExactConstantsUptoSaid : Prop := fnExactConstantsUptoRow.holds Try.pinned (OpenSpec.upto fnExactConstantsSpec)

/-- 'laws.FnExactLessString', WHERE WHAT IT READS IS OF BULK AT MOST 1048576: true; the input reads as it did. -/
def fnExactLessStringUptoRow : OpenClaim := { program := "ytgpphkghgdcamaa", sum := "3a24a5893467ea925e54ac1070acc0d4efa5a1f41515bef62cb89553e018e11a", func := "loop.example/g00902/laws.FnExactLessString", spec := "fnExactLessString", apart := false, narrowed := true }
def FnExactLessStringUptoSaid : Prop := fnExactLessStringUptoRow.holds Try.pinned (OpenSpec.upto fnExactLessStringSpec)

/-- 'laws.FnExactWeekday', WHERE WHAT IT READS IS OF BULK AT MOST 1048576: true; the input reads as it did. -/
def fnExactWeekdayUptoRow : OpenClaim := { program := "ytgpphkghgdcamaa", sum := "3a24a5893467ea925e54ac1070acc0d4efa5a1f41515bef62cb89553e018e11a", func := "loop.example/g00902/laws.FnExactWeekday", spec := "fnExactWeekday", apart := false, narrowed := true }
def FnExactWeekdayUptoSaid : Prop := fnExactWeekdayUptoRow.holds Try.pinned (OpenSpec.upto fnExactWeekdaySpec)

/-- 'laws.FnExactChecksum', WHERE WHAT IT READS IS OF BULK AT MOST 1048576: true; the input reads as it did. -/
def fnExactChecksumUptoRow : OpenClaim := { program := "ytgpphkghgdcamaa", sum := "3a24a5893467ea925e54ac1070acc0d4efa5a1f41515bef62cb89553e018e11a", func := "loop.example/g00902/laws.FnExactChecksum", spec := "fnExactChecksum", apart := false, narrowed := true }
def FnExactChecksumUptoSaid : Prop := fnExactChecksumUptoRow.holds Try.pinned (OpenSpec.upto fnExactChecksumSpec)

/-- 'laws.FnExactDaysInMonth', WHERE WHAT IT READS IS OF BULK AT MOST 1048576: true; the input reads as it did. -/
def fnExactDaysInMonthUptoRow : OpenClaim := { program := "ytgpphkghgdcamaa", sum := "3a24a5893467ea925e54ac1070acc0d4efa5a1f41515bef62cb89553e018e11a", func := "loop.example/g00902/laws.FnExactDaysInMonth", spec := "fnExactDaysInMonth", apart := false, narrowed := true }
def FnExactDaysInMonthUptoSaid : Prop := fnExactDaysInMonthUptoRow.holds Try.pinned (OpenSpec.upto fnExactDaysInMonthSpec)

/-- 'laws.FnExactIsValidDate', WHERE WHAT IT READS IS OF BULK AT MOST 1048576: true; the input reads as it did. -/
def fnExactIsValidDateUptoRow : OpenClaim := { program := "ytgpphkghgdcamaa", sum := "3a24a5893467ea925e54ac1070acc0d4efa5a1f41515bef62cb89553e018e11a", func := "loop.example/g00902/laws.FnExactIsValidDate", spec := "fnExactIsValidDate", apart := false, narrowed := true }
def FnExactIsValidDateUptoSaid : Prop := fnExactIsValidDateUptoRow.holds Try.pinned (OpenSpec.upto fnExactIsValidDateSpec)

/-- 'laws.FnExactDayOf', WHERE WHAT IT READS IS OF BULK AT MOST 1048576: true; the input reads as it did. -/
def fnExactDayOfUptoRow : OpenClaim := { program := "ytgpphkghgdcamaa", sum := "3a24a5893467ea925e54ac1070acc0d4efa5a1f41515bef62cb89553e018e11a", func := "loop.example/g00902/laws.FnExactDayOf", spec := "fnExactDayOf", apart := false, narrowed := true }
def FnExactDayOfUptoSaid : Prop := fnExactDayOfUptoRow.holds Try.pinned (OpenSpec.upto fnExactDayOfSpec)

/-- 'laws.FnExactIsMonthEnd', WHERE WHAT IT READS IS OF BULK AT MOST 1048576: true; the input reads as it did. -/
def fnExactIsMonthEndUptoRow : OpenClaim := { program := "ytgpphkghgdcamaa", sum := "3a24a5893467ea925e54ac1070acc0d4efa5a1f41515bef62cb89553e018e11a", func := "loop.example/g00902/laws.FnExactIsMonthEnd", spec := "fnExactIsMonthEnd", apart := false, narrowed := true }
def FnExactIsMonthEndUptoSaid : Prop := fnExactIsMonthEndUptoRow.holds Try.pinned (OpenSpec.upto fnExactIsMonthEndSpec)

/-- 'laws.FnExactDateOf', WHERE WHAT IT READS IS OF BULK AT MOST 1048576: true; the input reads as it did. -/
def fnExactDateOfUptoRow : OpenClaim := { program := "ytgpphkghgdcamaa", sum := "3a24a5893467ea925e54ac1070acc0d4efa5a1f41515bef62cb89553e018e11a", func := "loop.example/g00902/laws.FnExactDateOf", spec := "fnExactDateOf", apart := false, narrowed := true }
def FnExactDateOfUptoSaid : Prop := fnExactDateOfUptoRow.holds Try.pinned (OpenSpec.upto fnExactDateOfSpec)

/-- 'laws.FnExactNthWeekday', WHERE WHAT IT READS IS OF BULK AT MOST 1048576: true; the input reads as it did. -/
def fnExactNthWeekdayUptoRow : OpenClaim := { program := "ytgpphkghgdcamaa", sum := "3a24a5893467ea925e54ac1070acc0d4efa5a1f41515bef62cb89553e018e11a", func := "loop.example/g00902/laws.FnExactNthWeekday", spec := "fnExactNthWeekday", apart := false, narrowed := true }
def FnExactNthWeekdayUptoSaid : Prop := fnExactNthWeekdayUptoRow.holds Try.pinned (OpenSpec.upto fnExactNthWeekdaySpec)

/-- 'laws.FnExactAddMonths', WHERE WHAT IT READS IS OF BULK AT MOST 1048576: true; the input reads as it did. -/
def fnExactAddMonthsUptoRow : OpenClaim := { program := "ytgpphkghgdcamaa", sum := "3a24a5893467ea925e54ac1070acc0d4efa5a1f41515bef62cb89553e018e11a", func := "loop.example/g00902/laws.FnExactAddMonths", spec := "fnExactAddMonths", apart := false, narrowed := true }
def FnExactAddMonthsUptoSaid : Prop := fnExactAddMonthsUptoRow.holds Try.pinned (OpenSpec.upto fnExactAddMonthsSpec)

/-- 'laws.FnMonths', WHERE WHAT IT READS IS OF BULK AT MOST 1048576: true; the input reads as it did. -/
def fnMonthsUptoRow : OpenClaim := { program := "ytgpphkghgdcamaa", sum := "3a24a5893467ea925e54ac1070acc0d4efa5a1f41515bef62cb89553e018e11a", func := "loop.example/g00902/laws.FnMonths", spec := "fnMonths", apart := false, narrowed := true }
def FnMonthsUptoSaid : Prop := fnMonthsUptoRow.holds Try.pinned (OpenSpec.upto fnMonthsSpec)

end Rows
end Go.Proofs.Ytgpphkghgdcamaa
