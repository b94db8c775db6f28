/- What a walk hands down of the library's variables: the cell of internal/bytealg.MaxLen holds some number; internal/strconv.uint64pow10 is Go's table; the cells of strconv's two errors hold each some error. No condition. -/
import Derived.Test.YtoijhfngihjhiaaDoorWMore
import Derived.Test.YtoijhfngihjhiaaDoorOwnW
import Derived.Test.YtoijhfngihjhiaaDoorProg
import Derived.WalkSmall
import Derived.Lib.LaidTab
import Derived.Shelf.Strconv.Itoa3
namespace Go.Proofs.YtoijhfngihjhiaaDoor.Own
open Go.RowKit Go.Proofs.YtoijhfngihjhiaaDoorW.PrintWords Go.Proofs.YtoijhfngihjhiaaDoorW.PrintLast Go.Proofs.YtoijhfngihjhiaaDoorW.PrintMore
structure Glob (w : World) : Prop where
  maxLen : ∃ m, w.cell? ⟨2, 0, none⟩ = some (.int .i64 m)
  err0 : ∃ ev, w.cell? ⟨0, 0, none⟩ = some ev ∧ (ev = .nilIface ∨ ∃ te pe, ev = .iface te pe)
  err1 : ∃ ev, w.cell? ⟨1, 0, none⟩ = some ev ∧ (ev = .nilIface ∨ ∃ te pe, ev = .iface te pe)
  tab : Lib.TabIs Tryd.prog w "internal/strconv.uint64pow10" .u64 Lib.pow10Tab
theorem var_lt {P : Program} {w : World} {n : String} {cs : Array Value} (hv : w.var? P n = some cs) : ∃ g, P.globalNamed n = some g ∧ g < w.heap.size := by
  unfold World.var? at hv
  obtain ⟨g, hg, h2⟩ := Option.bind_eq_some_iff.1 hv
  refine ⟨g, hg, ?_⟩
  by_cases h : g < w.heap.size
  · exact h
  · rw [Array.getElem?_eq_none (by omega)] at h2
    simp at h2
theorem Glob.below {w w' : World} (h : Glob w) (hb : Below w.heap.size w w') : Glob w' := by
  obtain ⟨m, hm⟩ := h.maxLen
  obtain ⟨g, hg, hl⟩ := var_lt h.tab
  obtain ⟨e0, h0, k0⟩ := h.err0
  obtain ⟨e1, h1, k1⟩ := h.err1
  exact ⟨⟨m, pw_cell_below hb hm⟩, ⟨e0, pw_cell_below hb h0, k0⟩, ⟨e1, pw_cell_below hb h1, k1⟩, var?_below hb hg hl h.tab⟩
theorem Glob.drewN {w : World} (h : Glob w) (n : Nat) : Glob (w.drewN n) := h.below (Drawn0.below ⟨⟨n, rfl⟩⟩)
theorem Glob.drew {w : World} (h : Glob w) : Glob w.drew := h.drewN 1
theorem gl {w W : World} (h : Glob w) (hb : Below w.heap.size w W := by repeat (first | (with_reducible (refine Aside0.out ?_; assumption)) | (with_reducible apply below_alloc) | (with_reducible apply pw_below_drewN) | (with_reducible apply below_drew1) | (with_reducible refine below_set ?_ (Aside0.out (by assumption))))) : Glob W := h.below hb
end Go.Proofs.YtoijhfngihjhiaaDoor.Own
