/- Go's library functions that the laws of this seat reach, by the shelf's contracts, in the print's form. No condition. -/
import Derived.Test.YtoijhfngihjhiaaDoorShelf
import Derived.Test.YtoijhfngihjhiaaDoorWMore
namespace Go.Proofs.YtoijhfngihjhiaaDoor.Own
open Go.RowKit Go.Proofs.YtoijhfngihjhiaaDoorW.PrintWords Go.Proofs.YtoijhfngihjhiaaDoorW.PrintLast Go.Proofs.YtoijhfngihjhiaaDoorW.PrintMore
set_option linter.unusedVariables false
set_option linter.unusedSimpArgs false
theorem below_grow (w : World) (os : Array Obj) : Below w.heap.size w (Sort.grow w os) :=
  ⟨rfl, rfl, rfl, by simp [Sort.grow], fun i hi => by simp [Sort.grow, Array.getElem?_append, hi]⟩
def itoaF (a : Int) : Option ByteArray := if -9223372036854775808 ≤ a ∧ a ≤ 9223372036854775807 then some ⟨(Lib.itoa a).toArray⟩ else none
theorem itoa_calls (a : Int) (r : ByteArray) (w : World) (ht : Lib.TabIs Tryd.prog w "internal/strconv.uint64pow10" .u64 Lib.pow10Tab) (h : itoaF a = some r) :
    Calls Tryd.prog 31 #[.int .i64 a] w fun e w' => e = .returned (.string r) ∧ Below w.heap.size w w' := by
  unfold itoaF at h
  split at h
  · rename_i hb
    obtain rfl := Option.some.inj h
    refine (Tryd.strconv_Itoa a hb.1 hb.2 w ht).mono ?_
    rintro e w' ⟨rfl, k, os, rfl⟩
    refine ⟨rfl, ?_⟩
    have h1 : Below w.heap.size w (w.drewN k) := Drawn0.below ⟨⟨k, rfl⟩⟩
    exact below_then h1 h1.size (below_grow _ os)
  · cases h
end Go.Proofs.YtoijhfngihjhiaaDoor.Own
