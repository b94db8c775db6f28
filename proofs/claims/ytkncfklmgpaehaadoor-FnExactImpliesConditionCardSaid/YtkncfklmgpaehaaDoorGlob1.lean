/- What a walk hands down of the library's variables: the cell of internal/bytealg.MaxLen holds some number. No condition. -/
import Derived.Test.YtkncfklmgpaehaaDoorVMore
import Derived.Test.YtkncfklmgpaehaaDoorOwnW
import Derived.WalkSmall
namespace Go.Proofs.YtkncfklmgpaehaaDoor.Own
open Go.RowKit Go.Proofs.YtkncfklmgpaehaaDoorW.PrintWords Go.Proofs.YtkncfklmgpaehaaDoorW.PrintLast Go.Proofs.YtkncfklmgpaehaaDoorW.PrintMore
structure Glob (w : World) : Prop where
  maxLen : ∃ m, w.cell? ⟨0, 0, none⟩ = some (.int .i64 m)
theorem Glob.below {w w' : World} (h : Glob w) (hb : Below w.heap.size w w') : Glob w' := by
  obtain ⟨m, hm⟩ := h.maxLen
  exact ⟨⟨m, pw_cell_below hb hm⟩⟩
theorem Glob.drewN {w : World} (h : Glob w) (n : Nat) : Glob (w.drewN n) := h.below (Drawn0.below ⟨⟨n, rfl⟩⟩)
theorem Glob.drew {w : World} (h : Glob w) : Glob w.drew := h.drewN 1
end Go.Proofs.YtkncfklmgpaehaaDoor.Own
