/- What a walk hands down of the library's variables: the cell of internal/bytealg.MaxLen holds some number. No condition. -/
import Derived.Test.YtnpenfficbdlmaaDoorVMore
import Derived.Test.YtnpenfficbdlmaaDoorOwnW
import Derived.WalkSmall
namespace Go.Proofs.YtnpenfficbdlmaaDoor.Own
open Go.RowKit Go.Proofs.YtnpenfficbdlmaaDoorW.PrintWords Go.Proofs.YtnpenfficbdlmaaDoorW.PrintLast Go.Proofs.YtnpenfficbdlmaaDoorW.PrintMore
structure Glob (w : World) : Prop where
  maxLen : ∃ m, w.cell? ⟨0, 0, none⟩ = some (.int .i64 m)
theorem Glob.below {w w' : World} (h : Glob w) (hb : Below w.heap.size w w') : Glob w' := by
  obtain ⟨m, hm⟩ := h.maxLen
  exact ⟨⟨m, pw_cell_below hb hm⟩⟩
theorem Glob.drewN {w : World} (h : Glob w) (n : Nat) : Glob (w.drewN n) := h.below (Drawn0.below ⟨⟨n, rfl⟩⟩)
theorem Glob.drew {w : World} (h : Glob w) : Glob w.drew := h.drewN 1
theorem gl {w W : World} (h : Glob w) (hb : Below w.heap.size w W := by repeat (first | (with_reducible (refine Aside0.out ?_; assumption)) | (with_reducible apply below_alloc) | (with_reducible apply pw_below_drewN) | (with_reducible apply below_drew1) | (with_reducible refine below_set ?_ (Aside0.out (by assumption))))) : Glob W := h.below hb
end Go.Proofs.YtnpenfficbdlmaaDoor.Own
