/- What a walk hands down of the library's variables: the cell of internal/bytealg.MaxLen holds some number. No condition. -/
import Derived.Test.YtckopglnblcnoaaGreatDoorOwnW
import Derived.WalkSmall
namespace Go.Proofs.YtckopglnblcnoaaGreatDoor.Own
open Go.RowKit Go.Proofs.YtckopglnblcnoaaGreatDoorW.PrintWords Go.Proofs.YtckopglnblcnoaaGreatDoorW.PrintLast
structure Glob (w : World) : Prop where
  maxLen : ∃ m, w.cell? ⟨0, 0, none⟩ = some (.int .i64 m)
theorem Glob.below {w w' : World} (h : Glob w) (hb : Below w.heap.size w w') : Glob w' := by
  obtain ⟨m, hm⟩ := h.maxLen
  exact ⟨⟨m, pw_cell_below hb hm⟩⟩
theorem gl {w W : World} (h : Glob w) (hb : Below w.heap.size w W := by repeat (first | (with_reducible (refine Aside0.out ?_; assumption)) | (with_reducible apply below_alloc) | (with_reducible apply pw_below_drewN) | (with_reducible apply below_drew1) | (with_reducible refine below_set ?_ (Aside0.out (by assumption))))) : Glob W := h.below hb
end Go.Proofs.YtckopglnblcnoaaGreatDoor.Own
