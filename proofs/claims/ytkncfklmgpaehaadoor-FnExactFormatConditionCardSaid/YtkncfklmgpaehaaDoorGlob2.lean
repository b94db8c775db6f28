/- What a walk hands down of the library's variables: the cell of internal/bytealg.MaxLen holds some number; internal/strconv.uint64pow10 is Go's table. No condition. -/
import Derived.Test.YtkncfklmgpaehaaDoorVMore
import Derived.Test.YtkncfklmgpaehaaDoorOwnW
import Derived.Test.YtkncfklmgpaehaaDoorProg
import Derived.WalkSmall
import Derived.Lib.LaidTab
import Derived.Shelf.Strconv.Itoa3
namespace Go.Proofs.YtkncfklmgpaehaaDoor.Own
open Go.RowKit Go.Proofs.YtkncfklmgpaehaaDoorW.PrintWords Go.Proofs.YtkncfklmgpaehaaDoorW.PrintLast Go.Proofs.YtkncfklmgpaehaaDoorW.PrintMore
structure Glob (w : World) : Prop where
  maxLen : ∃ m, w.cell? ⟨0, 0, none⟩ = some (.int .i64 m)
  tab : Lib.TabIs Tryd.prog w "internal/strconv.uint64pow10" .u64 Lib.pow10Tab
theorem var_lt {P : Program} {w : World} {n : String} {cs : Array Value} (hv : w.var? P n = some cs) : ∃ g, P.globalNamed n = some g ∧ g < w.heap.size := by
  unfold World.var? at hv
  obtain ⟨g, hg, h2⟩ := Option.bind_eq_some_iff.1 hv
  refine ⟨g, hg, ?_⟩
  by_cases h : g < w.heap.size
  · exact h
  · rw [Array.getElem?_eq_none (by omega)] at h2
    simp at h2
theorem Glob.below {w w' : World} (h : Glob w) (hb : Below w.heap.size w w') : Glob w' := by
  obtain ⟨m, hm⟩ := h.maxLen
  obtain ⟨g, hg, hl⟩ := var_lt h.tab
  exact ⟨⟨m, pw_cell_below hb hm⟩, var?_below hb hg hl h.tab⟩
theorem Glob.drewN {w : World} (h : Glob w) (n : Nat) : Glob (w.drewN n) := h.below (Drawn0.below ⟨⟨n, rfl⟩⟩)
theorem Glob.drew {w : World} (h : Glob w) : Glob w.drew := h.drewN 1
end Go.Proofs.YtkncfklmgpaehaaDoor.Own
