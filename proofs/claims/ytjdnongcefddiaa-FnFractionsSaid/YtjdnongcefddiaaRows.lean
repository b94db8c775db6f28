/-
  No cell of these rows narrows 'for every input' (looked for: loops, veiled, ifaces, maps, wideKeys, modest, calm, conditions, laid).
  DERIVED. THE GIVEN ROWS OF THIS SEAT. 10 by the template 'for every input the law returns true; each argument reads behind the call as it read before'; 0 by the template 'total and deterministic' (their statements: YtjdnongcefddiaaTotals.lean).
  GIVEN WITH THE SEED: the statements are not yours to turn. If you find one false, say at which input.
  Laid BY PROGRAM, IN A SANDBOX (cutbox-rows.mjs): the forced cells as the released guide's own fill.sh prints them over the translation 49ea5f409da724e3… (all of the seat's roots in one cut). By AI agents, Wed Nov 11 2026. No macro, syntax, notation, axiom, sorry.
-/
import Derived.Test.YtjdnongcefddiaaChecked
import GoSem.Claim
import GoSem.ClaimJoined
import GoSem.ClaimMapViews
import Derived.JoinedTies
import Derived.KernelRfl
namespace Go.Proofs.Ytjdnongcefddiaa
/- THE CELL 'sum', in the pinned program and in every row, IS THE sha256 OF THE DUMP (.gsa) THAT YtjdnongcefddiaaProg.lean LOADS. Nothing in Lean hashes anything: it is a label: what it is worth is what the hold of that sum in a sandbox is worth. -/
noncomputable def Try.pinned : Pinned := { name := "ytjdnongcefddiaa", sum := "49ea5f409da724e30d051f58107db157710f0d95802a9f1249eb440e39001b96", checked := Try.checked }
namespace Rows
def none {H : Type} : Left H := { results := [], args := [] }

/-- 'laws.FnExactAddAmounts': WHATEVER THE INPUT: true; the input reads as it did. -/
def fnExactAddAmountsSpec : ChangeSpec := { name := "fnExactAddAmounts", fn := fun _ => fun
  | [d] => { results := [.lit (.bool true)], args := [d] }
  | _ => none }
def fnExactAddAmountsRow : OpenClaim := { program := "ytjdnongcefddiaa", sum := "49ea5f409da724e30d051f58107db157710f0d95802a9f1249eb440e39001b96", func := "loop.example/g00902/laws.FnExactAddAmounts", spec := "fnExactAddAmounts", unfollowed := true, recurses := true, apart := false }
def FnExactAddAmountsSaid : Prop := fnExactAddAmountsRow.holds Try.pinned (OpenSpec.ofChange fnExactAddAmountsSpec)

/-- ITS FALSE NEIGHBOUR: 'it returns false'. Refute it at one input. -/
def fnExactAddAmountsWrong : ChangeSpec := { name := "fnExactAddAmounts", fn := fun _ => fun
  | [d] => { results := [.lit (.bool false)], args := [d] }
  | _ => none }
def FnExactAddAmountsWrongFalsely : Prop := fnExactAddAmountsRow.holds Try.pinned (OpenSpec.ofChange fnExactAddAmountsWrong)

/-- 'laws.FnExactMakeFraction': WHATEVER THE INPUT: true; the input reads as it did. -/
def fnExactMakeFractionSpec : ChangeSpec := { name := "fnExactMakeFraction", fn := fun _ => fun
  | [d1, d2] => { results := [.lit (.bool true)], args := [d1, d2] }
  | _ => none }
def fnExactMakeFractionRow : OpenClaim := { program := "ytjdnongcefddiaa", sum := "49ea5f409da724e30d051f58107db157710f0d95802a9f1249eb440e39001b96", func := "loop.example/g00902/laws.FnExactMakeFraction", spec := "fnExactMakeFraction", apart := false }
def FnExactMakeFractionSaid : Prop := fnExactMakeFractionRow.holds Try.pinned (OpenSpec.ofChange fnExactMakeFractionSpec)

/-- ITS FALSE NEIGHBOUR: 'it returns false'. Refute it at one input. -/
def fnExactMakeFractionWrong : ChangeSpec := { name := "fnExactMakeFraction", fn := fun _ => fun
  | [d1, d2] => { results := [.lit (.bool false)], args := [d1, d2] }
  | _ => none }
def FnExactMakeFractionWrongFalsely : Prop := fnExactMakeFractionRow.holds Try.pinned (OpenSpec.ofChange fnExactMakeFractionWrong)

/-- 'laws.FnExactCompareFractions': WHATEVER THE INPUT: true; the input reads as it did. -/
def fnExactCompareFractionsSpec : ChangeSpec := { name := "fnExactCompareFractions", fn := fun _ => fun
  | [d1, d2] => { results := [.lit (.bool true)], args := [d1, d2] }
  | _ => none }
def fnExactCompareFractionsRow : OpenClaim := { program := "ytjdnongcefddiaa", sum := "49ea5f409da724e30d051f58107db157710f0d95802a9f1249eb440e39001b96", func := "loop.example/g00902/laws.FnExactCompareFractions", spec := "fnExactCompareFractions", apart := false }
def FnExactCompareFractionsSaid : Prop := fnExactCompareFractionsRow.holds Try.pinned (OpenSpec.ofChange fnExactCompareFractionsSpec)

/-- ITS FALSE NEIGHBOUR: 'it returns false'. Refute it at one input. -/
def fnExactCompareFractionsWrong : ChangeSpec := { name := "fnExactCompareFractions", fn := fun _ => fun
  | [d1, d2] => { results := [.lit (.bool false)], args := [d1, d2] }
  | _ => none }
def FnExactCompareFractionsWrongFalsely : Prop := fnExactCompareFractionsRow.holds Try.pinned (OpenSpec.ofChange fnExactCompareFractionsWrong)

/-- 'laws.FnExactAddFractions': WHATEVER THE INPUT: true; the input reads as it did. -/
def fnExactAddFractionsSpec : ChangeSpec := { name := "fnExactAddFractions", fn := fun _ => fun
  | [d1, d2] => { results := [.lit (.bool true)], args := [d1, d2] }
  | _ => none }
def fnExactAddFractionsRow : OpenClaim := { program := "ytjdnongcefddiaa", sum := "49ea5f409da724e30d051f58107db157710f0d95802a9f1249eb440e39001b96", func := "loop.example/g00902/laws.FnExactAddFractions", spec := "fnExactAddFractions", apart := false }
def FnExactAddFractionsSaid : Prop := fnExactAddFractionsRow.holds Try.pinned (OpenSpec.ofChange fnExactAddFractionsSpec)

/-- ITS FALSE NEIGHBOUR: 'it returns false'. Refute it at one input. -/
def fnExactAddFractionsWrong : ChangeSpec := { name := "fnExactAddFractions", fn := fun _ => fun
  | [d1, d2] => { results := [.lit (.bool false)], args := [d1, d2] }
  | _ => none }
def FnExactAddFractionsWrongFalsely : Prop := fnExactAddFractionsRow.holds Try.pinned (OpenSpec.ofChange fnExactAddFractionsWrong)

/-- 'laws.FnExactMultiplyFractions': WHATEVER THE INPUT: true; the input reads as it did. -/
def fnExactMultiplyFractionsSpec : ChangeSpec := { name := "fnExactMultiplyFractions", fn := fun _ => fun
  | [d1, d2] => { results := [.lit (.bool true)], args := [d1, d2] }
  | _ => none }
def fnExactMultiplyFractionsRow : OpenClaim := { program := "ytjdnongcefddiaa", sum := "49ea5f409da724e30d051f58107db157710f0d95802a9f1249eb440e39001b96", func := "loop.example/g00902/laws.FnExactMultiplyFractions", spec := "fnExactMultiplyFractions", apart := false }
def FnExactMultiplyFractionsSaid : Prop := fnExactMultiplyFractionsRow.holds Try.pinned (OpenSpec.ofChange fnExactMultiplyFractionsSpec)

/-- ITS FALSE NEIGHBOUR: 'it returns false'. Refute it at one input. -/
def fnExactMultiplyFractionsWrong : ChangeSpec := { name := "fnExactMultiplyFractions", fn := fun _ => fun
  | [d1, d2] => { results := [.lit (.bool false)], args := [d1, d2] }
  | _ => none }
def FnExactMultiplyFractionsWrongFalsely : Prop := fnExactMultiplyFractionsRow.holds Try.pinned (OpenSpec.ofChange fnExactMultiplyFractionsWrong)

/-- 'laws.FnExactScaleAmount': WHATEVER THE INPUT: true; the input reads as it did. -/
def fnExactScaleAmountSpec : ChangeSpec := { name := "fnExactScaleAmount", fn := fun _ => fun
  | [d1, d2, d3] => { results := [.lit (.bool true)], args := [d1, d2, d3] }
  | _ => none }
def fnExactScaleAmountRow : OpenClaim := { program := "ytjdnongcefddiaa", sum := "49ea5f409da724e30d051f58107db157710f0d95802a9f1249eb440e39001b96", func := "loop.example/g00902/laws.FnExactScaleAmount", spec := "fnExactScaleAmount", apart := false }
def FnExactScaleAmountSaid : Prop := fnExactScaleAmountRow.holds Try.pinned (OpenSpec.ofChange fnExactScaleAmountSpec)

/-- ITS FALSE NEIGHBOUR: 'it returns false'. Refute it at one input. -/
def fnExactScaleAmountWrong : ChangeSpec := { name := "fnExactScaleAmount", fn := fun _ => fun
  | [d1, d2, d3] => { results := [.lit (.bool false)], args := [d1, d2, d3] }
  | _ => none }
def FnExactScaleAmountWrongFalsely : Prop := fnExactScaleAmountRow.holds Try.pinned (OpenSpec.ofChange fnExactScaleAmountWrong)

/-- 'laws.FnFractions': WHATEVER THE INPUT: true; the input reads as it did. -/
def fnFractionsSpec : ChangeSpec := { name := "fnFractions", fn := fun _ => fun
  | [d] => { results := [.lit (.bool true)], args := [d] }
  | _ => none }
def fnFractionsRow : OpenClaim := { program := "ytjdnongcefddiaa", sum := "49ea5f409da724e30d051f58107db157710f0d95802a9f1249eb440e39001b96", func := "loop.example/g00902/laws.FnFractions", spec := "fnFractions", apart := false }
def FnFractionsSaid : Prop := fnFractionsRow.holds Try.pinned (OpenSpec.ofChange fnFractionsSpec)

/-- ITS FALSE NEIGHBOUR: 'it returns false'. Refute it at one input. -/
def fnFractionsWrong : ChangeSpec := { name := "fnFractions", fn := fun _ => fun
  | [d] => { results := [.lit (.bool false)], args := [d] }
  | _ => none }
def FnFractionsWrongFalsely : Prop := fnFractionsRow.holds Try.pinned (OpenSpec.ofChange fnFractionsWrong)

/-- 'laws.FnExactDayCount': WHATEVER THE INPUT: true; the input reads as it did. -/
def fnExactDayCountSpec : ChangeSpec := { name := "fnExactDayCount", fn := fun _ => fun
  | [d1, d2, d3] => { results := [.lit (.bool true)], args := [d1, d2, d3] }
  | _ => none }
def fnExactDayCountRow : OpenClaim := { program := "ytjdnongcefddiaa", sum := "49ea5f409da724e30d051f58107db157710f0d95802a9f1249eb440e39001b96", func := "loop.example/g00902/laws.FnExactDayCount", spec := "fnExactDayCount", apart := false }
def FnExactDayCountSaid : Prop := fnExactDayCountRow.holds Try.pinned (OpenSpec.ofChange fnExactDayCountSpec)

/-- ITS FALSE NEIGHBOUR: 'it returns false'. Refute it at one input. -/
def fnExactDayCountWrong : ChangeSpec := { name := "fnExactDayCount", fn := fun _ => fun
  | [d1, d2, d3] => { results := [.lit (.bool false)], args := [d1, d2, d3] }
  | _ => none }
def FnExactDayCountWrongFalsely : Prop := fnExactDayCountRow.holds Try.pinned (OpenSpec.ofChange fnExactDayCountWrong)

/-- 'laws.FnExactShareAmount': WHATEVER THE INPUT: true; the input reads as it did. -/
def fnExactShareAmountSpec : ChangeSpec := { name := "fnExactShareAmount", fn := fun _ => fun
  | [d1, d2] => { results := [.lit (.bool true)], args := [d1, d2] }
  | _ => none }
def fnExactShareAmountRow : OpenClaim := { program := "ytjdnongcefddiaa", sum := "49ea5f409da724e30d051f58107db157710f0d95802a9f1249eb440e39001b96", func := "loop.example/g00902/laws.FnExactShareAmount", spec := "fnExactShareAmount", unfollowed := true, recurses := true, apart := false }
def FnExactShareAmountSaid : Prop := fnExactShareAmountRow.holds Try.pinned (OpenSpec.ofChange fnExactShareAmountSpec)

/-- ITS FALSE NEIGHBOUR: 'it returns false'. Refute it at one input. -/
def fnExactShareAmountWrong : ChangeSpec := { name := "fnExactShareAmount", fn := fun _ => fun
  | [d1, d2] => { results := [.lit (.bool false)], args := [d1, d2] }
  | _ => none }
def FnExactShareAmountWrongFalsely : Prop := fnExactShareAmountRow.holds Try.pinned (OpenSpec.ofChange fnExactShareAmountWrong)

/-- 'laws.FnShares': WHATEVER THE INPUT: true; the input reads as it did. -/
def fnSharesSpec : ChangeSpec := { name := "fnShares", fn := fun _ => fun
  | [d] => { results := [.lit (.bool true)], args := [d] }
  | _ => none }
def fnSharesRow : OpenClaim := { program := "ytjdnongcefddiaa", sum := "49ea5f409da724e30d051f58107db157710f0d95802a9f1249eb440e39001b96", func := "loop.example/g00902/laws.FnShares", spec := "fnShares", unfollowed := true, recurses := true, apart := false }
def FnSharesSaid : Prop := fnSharesRow.holds Try.pinned (OpenSpec.ofChange fnSharesSpec)

/-- ITS FALSE NEIGHBOUR: 'it returns false'. Refute it at one input. -/
def fnSharesWrong : ChangeSpec := { name := "fnShares", fn := fun _ => fun
  | [d] => { results := [.lit (.bool false)], args := [d] }
  | _ => none }
def FnSharesWrongFalsely : Prop := fnSharesRow.holds Try.pinned (OpenSpec.ofChange fnSharesWrong)

/- THE SECOND FORM. 'bulk': how many values and letters a reading holds, each counted each time it is reached (what is shared counts as often as it is met; a slice's spare places count too). A statement '..UptoSaid' is the law's where the arguments, and the package variables that the reading takes, are together of bulk at most 1048576: NARROWER than '..Said'. Prove '..Said' where nothing that the law and all that it calls make is longer than what came in: it says more and counts as full. Else prove '..UptoSaid'. A law counts once. -/
mutual
def uptoBulk {H : Type} : DataW H → Nat
  | .lit (.string bytes) => bytes.length + 1
  | .lit _ => 1
  | .nil => 1
  | .ptr d => uptoBulk d + 1
  | .slice elems spare => uptoBulkAll elems + uptoBulkAll spare + 1
  | .agg parts => uptoBulkAll parts + 1
  | .iface _ d => uptoBulk d + 1
  | .map entries => uptoBulkEntries entries + 1
  | .held _ => 1
def uptoBulkAll {H : Type} : List (DataW H) → Nat
  | [] => 0
  | d :: r => uptoBulk d + uptoBulkAll r
def uptoBulkEntries {H : Type} : List (Lit × DataW H) → Nat
  | [] => 0
  | x :: r => uptoBulkEntry x + uptoBulkEntries r
def uptoBulkEntry {H : Type} : Lit × DataW H → Nat
  | (.string bytes, d) => bytes.length + uptoBulk d + 1
  | (_, d) => uptoBulk d + 1
 end
def uptoSmall : (H : Type) → List (DataW H) → Bool := fun _ ds => decide (uptoBulkAll ds ≤ 1048576)
def OpenSpec.upto (s : _root_.Go.ChangeSpec) : _root_.Go.OpenSpec := { _root_.Go.OpenSpec.ofChange s with cond := some uptoSmall }

/-- 'laws.FnExactAddAmounts', WHERE WHAT IT READS IS OF BULK AT MOST 1048576: true; the input reads as it did. -/
def fnExactAddAmountsUptoRow : OpenClaim := { program := "ytjdnongcefddiaa", sum := "49ea5f409da724e30d051f58107db157710f0d95802a9f1249eb440e39001b96", func := "loop.example/g00902/laws.FnExactAddAmounts", spec := "fnExactAddAmounts", unfollowed := true, recurses := true, apart := false, narrowed := true }
def FnExactAddAmountsUptoSaid : Prop := fnExactAddAmountsUptoRow.holds Try.pinned (OpenSpec.upto fnExactAddAmountsSpec)

/-- 'laws.FnExactMakeFraction', WHERE WHAT IT READS IS OF BULK AT MOST 1048576: true; the input reads as it did. -/
def fnExactMakeFractionUptoRow : OpenClaim := { program := "ytjdnongcefddiaa", sum := "49ea5f409da724e30d051f58107db157710f0d95802a9f1249eb440e39001b96", func := "loop.example/g00902/laws.FnExactMakeFraction", spec := "fnExactMakeFraction", apart := false, narrowed := true }
def FnExactMakeFractionUptoSaid : Prop := fnExactMakeFractionUptoRow.holds Try.pinned (OpenSpec.upto fnExactMakeFractionSpec)

/-- 'laws.FnExactCompareFractions', WHERE WHAT IT READS IS OF BULK AT MOST 1048576: true; the input reads as it did. -/
def fnExactCompareFractionsUptoRow : OpenClaim := { program := "ytjdnongcefddiaa", sum := "49ea5f409da724e30d051f58107db157710f0d95802a9f1249eb440e39001b96", func := "loop.example/g00902/laws.FnExactCompareFractions", spec := "fnExactCompareFractions", apart := false, narrowed := true }
def FnExactCompareFractionsUptoSaid : Prop := fnExactCompareFractionsUptoRow.holds Try.pinned (OpenSpec.upto fnExactCompareFractionsSpec)

/-- 'laws.FnExactAddFractions', WHERE WHAT IT READS IS OF BULK AT MOST 1048576: true; the input reads as it did. -/
def fnExactAddFractionsUptoRow : OpenClaim := { program := "ytjdnongcefddiaa", sum := "49ea5f409da724e30d051f58107db157710f0d95802a9f1249eb440e39001b96", func := "loop.example/g00902/laws.FnExactAddFractions", spec := "fnExactAddFractions", apart := false, narrowed := true }
def FnExactAddFractionsUptoSaid : Prop := fnExactAddFractionsUptoRow.holds Try.pinned (OpenSpec.upto fnExactAddFractionsSpec)

/-- 'laws.FnExactMultiplyFractions', WHERE WHAT IT READS IS OF BULK AT MOST 1048576: true; the input reads as it did. -/
def fnExactMultiplyFractionsUptoRow : OpenClaim := { program := "ytjdnongcefddiaa", sum := "49ea5f409da724e30d051f58107db157710f0d95802a9f1249eb440e39001b96", func := "loop.example/g00902/laws.FnExactMultiplyFractions", spec := "fnExactMultiplyFractions", apart := false, narrowed := true }
def FnExactMultiplyFractionsUptoSaid : Prop := fnExactMultiplyFractionsUptoRow.holds Try.pinned (OpenSpec.upto fnExactMultiplyFractionsSpec)

/-- 'laws.FnExactScaleAmount', WHERE WHAT IT READS IS OF BULK AT MOST 1048576: true; the input reads as it did. -/
def fnExactScaleAmountUptoRow : OpenClaim := { program := "ytjdnongcefddiaa", sum := "49ea5f409da724e30d051f58107db157710f0d95802a9f1249eb440e39001b96", func := "loop.example/g00902/laws.FnExactScaleAmount", spec := "fnExactScaleAmount", apart := false, narrowed := true }
def FnExactScaleAmountUptoSaid : Prop := fnExactScaleAmountUptoRow.holds Try.pinned (OpenSpec.upto fnExactScaleAmountSpec)

/-- 'laws.FnFractions', WHERE WHAT IT READS IS OF BULK AT MOST 1048576: true; the input reads as it did. -/
def fnFractionsUptoRow : OpenClaim := { program := "ytjdnongcefddiaa", sum := "49ea5f409da724e30d051f58107db157710f0d95802a9f1249eb440e39001b96", func := "loop.example/g00902/laws.FnFractions", spec := "fnFractions", apart := false, narrowed := true }
def FnFractionsUptoSaid : Prop := fnFractionsUptoRow.holds Try.pinned (OpenSpec.upto fnFractionsSpec)

/-- 'laws.FnExactDayCount', WHERE WHAT IT READS IS OF BULK AT MOST 1048576: true; the input reads as it did. -/
def fnExactDayCountUptoRow : OpenClaim := { program := "ytjdnongcefddiaa", sum := "49ea5f409da724e30d051f58107db157710f0d95802a9f1249eb440e39001b96", func := "loop.example/g00902/laws.FnExactDayCount", spec := "fnExactDayCount", apart := false, narrowed := true }
def FnExactDayCountUptoSaid : Prop := fnExactDayCountUptoRow.holds Try.pinned (OpenSpec.upto fnExactDayCountSpec)

/-- 'laws.FnExactShareAmount', WHERE WHAT IT READS IS OF BULK AT MOST 1048576: true; the input reads as it did. -/
def fnExactShareAmountUptoRow : OpenClaim := { program := "ytjdnongcefddiaa", sum := "49ea5f409da724e30d051f58107db157710f0d95802a9f1249eb440e39001b96", func := "loop.example/g00902/laws.FnExactShareAmount", spec := "fnExactShareAmount", unfollowed := true, recurses := true, apart := false, narrowed := true }
def FnExactShareAmountUptoSaid : Prop := fnExactShareAmountUptoRow.holds Try.pinned (OpenSpec.upto fnExactShareAmountSpec)

/-- 'laws.FnShares', WHERE WHAT IT READS IS OF BULK AT MOST 1048576: true; the input reads as it did. -/
def fnSharesUptoRow : OpenClaim := { program := "ytjdnongcefddiaa", sum := "49ea5f409da724e30d051f58107db157710f0d95802a9f1249eb440e39001b96", func := "loop.example/g00902/laws.FnShares", spec := "fnShares", unfollowed := true, recurses := true, apart := false, narrowed := true }
def FnSharesUptoSaid : Prop := fnSharesUptoRow.holds Try.pinned (OpenSpec.upto fnSharesSpec)

end Rows
end Go.Proofs.Ytjdnongcefddiaa
