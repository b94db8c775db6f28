/- The library's sort and compaction of strings, as the program calls them on a row of its own (impl.sorted), in the print's form. No condition. -/
import Derived.Test.YtckopglnblcnoaaGreatDoorShelf
import Derived.Test.YtckopglnblcnoaaGreatDoorOwnW
import Derived.Sort.OwnSorted
namespace Go.Proofs.YtckopglnblcnoaaGreatDoor.Own
open Go.RowKit Go.Sort Go.Proofs.YtckopglnblcnoaaGreatDoorW.PrintWords Go.Proofs.YtckopglnblcnoaaGreatDoorW.PrintLast
set_option linter.unusedVariables false
set_option linter.unusedSimpArgs false
def bytesOf (l : List ByteArray) : List (List UInt8) := l.map fun x => x.data.toList
def ofBytes (l : List (List UInt8)) : List ByteArray := l.map fun x => ⟨x.toArray⟩
theorem encs_bytes (l : List ByteArray) : encs Value.string l = (bytesOf l).map encStr := by
  unfold encs bytesOf encStr
  rw [List.map_map]
  apply List.map_congr_left
  intro x _
  rfl
theorem encs_of (l : List (List UInt8)) : encs Value.string (ofBytes l) = l.map encStr := by
  unfold encs ofBytes encStr
  rw [List.map_map]
  rfl
def sortedL (l : List ByteArray) : List (List UInt8) := Lib.compact ((bytesOf l).mergeSort fun x y => decide (x ≤ y))
def sortedF (l : List ByteArray) : Option (List ByteArray) := if l.length < 4611686018427387904 then some (ofBytes (sortedL l)) else none
theorem grow_none (w : World) : grow w #[] = w := by simp [grow]
theorem compact_len (zs : List (List UInt8)) : (Lib.compact zs).length ≤ zs.length := by
  unfold Lib.compact Lib.compactUpTo
  rw [List.length_map]
  exact Nat.le_trans (List.length_filter_le _ _) (by simp)
theorem compact_nil : Lib.compact ([] : List (List UInt8)) = [] := rfl
/-- A row that is cut at its end is a row. -/
theorem owns_cut {w : World} {base g cap n m : Nat} {e : TypeId} {xs ys : List Value} (h : w.ownsRow base e 1 (.slice (some ⟨g, 0, none⟩) n cap) n (xs ++ ys)) (hm : xs.length = m) : w.ownsRow base e 1 (.slice (some ⟨g, 0, none⟩) m cap) m xs := by
  obtain ⟨hl, ⟨h1, _⟩ | ⟨g', cap', cur, he, hb, hh, hn, hc, hs, ht⟩⟩ := h
  · cases h1
  · injection he with h1 h2 h3
    injection h1 with h1
    injection h1 with h1
    subst h1; subst h3
    simp only [List.length_append, Nat.mul_one] at hl
    refine ⟨by simp [hm], .inr ⟨g, cap, cur, rfl, hb, hh, by omega, hc, hs, ?_⟩⟩
    rw [Nat.mul_one] at ht ⊢
    have : (cur.toList.take n).take m = cur.toList.take m := by rw [List.take_take, Nat.min_eq_left (by omega)]
    rw [← this, ht, ← hm, List.take_left]
theorem kept_grown {w w1 : World} {g : Nat} {S : Nat → Prop} (hg : w.grownBy w1 (some g)) (hS : S g) : Kept w w1 S := Kept.of_grown hg (Kept.refl w S) (fun k e => .inl (by injection e with e; rw [← e]; exact hS))
/-- What is known of the row ahead of the two calls. -/
def Row0 (w0 w : World) (P : Nat → Prop) (g n cap : Nat) (cur : Array Value) : Prop := Below w0.heap.size w0 w ∧ P g ∧ w0.heap.size ≤ g ∧ w.heap[g]? = some (.cells cur 9 (0, 0)) ∧ n ≤ cap ∧ cap ≤ 9223372036854775807 ∧ cur.size = cap * 1
/-- Behind the sort. -/
def Row1 (w0 w w1 : World) (P : Nat → Prop) (g n cap : Nat) : Prop := ∃ cur, w.grownBy w1 (some g) ∧ Row0 w0 w1 P g n cap cur
theorem grown_row0 {w0 w w1 : World} {P : Nat → Prop} {g n cap : Nat} {cur cur1 : Array Value} (h : Row0 w0 w P g n cap cur) (hg : w.grownBy w1 (some g)) (hb : w1.heap[g]? = some (.cells cur1 9 (0, 0))) (hs : cur1.size = cur.size) : Row0 w0 w1 P g n cap cur1 := by
  obtain ⟨hB, hP, hbase, _, h1, h2, h3⟩ := h
  exact ⟨hB.grown hg hB.size (fun j hj => by injection hj with hj; rw [← hj]; exact hbase), hP, hbase, hb, h1, h2, by rw [hs]; exact h3⟩
theorem sort_done {w0 w w1 : World} {P : Nat → Prop} {g cap n : Nat} {os : Array Obj} {cur : Array Value} {m : Nat} {ts : List (List UInt8)} (hl : ts.length = m) (h : Row0 w0 w P g m cap cur) (hw : w1 = grow (putRow encStr (Sort.ahead w n) g 0 ts.toArray) os) :
    Row1 w0 w w1 P g m cap ∧ Holds encStr w1 g 0 ts.toArray ∧ w1.ownsRow w0.heap.size 9 1 (.slice (some ⟨g, 0, none⟩) m cap) m (ts.map encStr) := by
  subst hw
  subst hl
  have hg := grownBy_sorted (w := w) (g := g) (n := n) (os := os) ts.toArray
  have hb1 := heap_sorted (w := w) (g := g) (n := n) (os := os) ts.toArray h.2.2.2.1
  have hr := grown_row0 h hg hb1 (by simp [putCells])
  have ho := ownsRow_sorted (n := n) (os := os) (ss := ts) (ts := ts) rfl h.2.2.1 h.2.2.2.1 h.2.2.2.2.1 (show cap ≤ maxLen from h.2.2.2.2.2.1) h.2.2.2.2.2.2
  refine ⟨⟨_, hg, hr⟩, holds_of_block hb1 ?_, ho⟩
  have hc : ts.length ≤ cur.size := by have := h.2.2.2.2.1; have := h.2.2.2.2.2.2; omega
  exact take_putCells cur ts hc
theorem sort_end {w0 w w1 w2 : World} {P : Nat → Prop} {g cap m q : Nat} {ts : List (List UInt8)} (hl : ts.length = m) (h : Row1 w0 w w1 P g m cap)
    (hw : w2 = putRow encStr (Sort.ahead w1 q) g 0 (Lib.compact ts ++ List.replicate (ts.length - (Lib.compact ts).length) []).toArray) :
    Kd.R Kd.string 9 w2 w0.heap.size (fun k_ => (P k_ ∨ w.heap.size ≤ k_)) (.slice (some ⟨g, 0, none⟩) (Lib.compact ts).length cap) (ofBytes (Lib.compact ts)) ∧ Below w0.heap.size w0 w2 ∧ Kept w w2 (fun k_ => P k_) := by
  obtain ⟨cur, hg1, h1⟩ := h
  have hlen : (Lib.compact ts ++ List.replicate (ts.length - (Lib.compact ts).length) ([] : List UInt8)).length = m := by
    have := compact_len ts
    simp only [List.length_append, List.length_replicate]; omega
  rw [← grow_none (putRow _ _ _ _ _)] at hw
  obtain ⟨⟨_, hg2, h2⟩, _, ho⟩ := sort_done hlen h1 hw
  rw [List.map_append] at ho
  have ho' := owns_cut (m := (Lib.compact ts).length) ho (by simp)
  refine ⟨Kd.R_of_own (by rw [encs_of, show (ofBytes (Lib.compact ts)).length = (Lib.compact ts).length by simp [ofBytes]]; exact ho') (fun k hk => ?_), h2.1, (kept_grown hg1 h1.2.1).then_ (kept_grown hg2 h1.2.1) (fun _ hk => .inl hk)⟩
  have : k = g := by simpa [Value.ownBlock] using hk.symm
  rw [this]; exact .inl h1.2.1
theorem sorted_calls (P0_ : Nat → Prop) (u9000_ : Value) (l0 : List ByteArray) (r : List ByteArray) (w0 w : World) (hB : Below w0.heap.size w0 w) (ho0 : Kd.R Kd.string 9 w w0.heap.size P0_ u9000_ l0) (h : sortedF l0 = some r) :
    Calls Tryz.prog 69 #[u9000_] w fun e w' => ∃ v0_ : Value, e = .returned (v0_) ∧ Kd.R Kd.string 9 w' w0.heap.size (fun k_ => (P0_ k_ ∨ w.heap.size ≤ k_)) v0_ r ∧ Below w0.heap.size w0 w' ∧ Kept w w' (fun k_ => P0_ k_) := by
  unfold sortedF at h
  split at h
  case isFalse => cases h
  rename_i hlen
  obtain rfl := Option.some.inj h
  clear h
  have hown := Kd.own_of_R ho0
  have hP := ho0.1
  rw [encs_bytes] at hown
  rcases hown.2 with ⟨rfl, h0⟩ | ⟨g, cap, cur, rfl, hbase, hb, h1, h2, h3, h4⟩
  · have e0 : l0 = [] := List.length_eq_zero_iff.1 h0
    subst e0
    have HB := Aside0.mk hB
    clear hB hown hP ho0 h0 hlen
    go_enter Tryz.func69, Tryz.ntmps69
    go_wp2_with (first | (go_at_call 75; refine (Tryz.slices_Sort_string_none _ _ _).mono ?_; rintro e w' ⟨rfl, rfl⟩) | (go_at_call 76; refine (Tryz.slices_Compact_string_empty _ _ _).mono ?_; rintro e w' ⟨rfl, rfl⟩))
    go_ret
    have e1 : ofBytes (sortedL []) = [] := by simp [sortedL, bytesOf, ofBytes, compact_nil]
    rw [e1]
    exact ⟨_, rfl, Kd.R_nil _ _ _ _ _, HB.out, Kept.refl _ _⟩
  · have hg : g < w.heap.size := (Array.getElem?_eq_some_iff.1 hb).1
    have hlb : (bytesOf l0).length = l0.length := by simp [bytesOf]
    have hH : Holds encStr w g 0 (bytesOf l0).toArray := holds_of_block hb (by rw [hlb]; rw [Nat.mul_one] at h4; exact h4)
    have R0 : Row0 w0 w P0_ g l0.length cap cur := ⟨hB, hP g rfl, hbase, hb, h1, h2, h3⟩
    generalize hts : (bytesOf l0).mergeSort (fun x y => decide (x ≤ y)) = ts
    have hlt : ts.length = l0.length := by rw [← hts]; simp [bytesOf]
    have hr : ofBytes (sortedL l0) = ofBytes (Lib.compact ts) := by unfold sortedL; rw [hts]
    rw [hr]
    have HS : Aside0 (Calls Tryz.prog 75 #[.slice (some ⟨g, 0, none⟩) l0.length cap] w fun e w1 => e = .returned (.tuple #[]) ∧ Aside0 (Row1 w0 w w1 P0_ g l0.length cap ∧ Holds encStr w1 g 0 ts.toArray)) := ⟨by
      have C := Tryz.slices_Sort_string g 0 cap (bytesOf l0) w hH hg (by omega)
      rw [hlb] at C
      refine C.mono ?_
      rintro e w1 ⟨rfl, n, os, hw⟩
      rw [hts] at hw
      have := sort_done hlt R0 hw
      exact ⟨rfl, ⟨this.1, this.2.1⟩⟩⟩
    have HC : Aside0 (∀ w1, Aside0 (Row1 w0 w w1 P0_ g l0.length cap ∧ Holds encStr w1 g 0 ts.toArray) → Calls Tryz.prog 76 #[.slice (some ⟨g, 0, none⟩) l0.length cap] w1 fun e w2 => e = .returned (.slice (some ⟨g, 0, none⟩) (Lib.compact ts).length cap) ∧
        Aside0 (Kd.R Kd.string 9 w2 w0.heap.size (fun k_ => (P0_ k_ ∨ w.heap.size ≤ k_)) (.slice (some ⟨g, 0, none⟩) (Lib.compact ts).length cap) (ofBytes (Lib.compact ts)) ∧ Below w0.heap.size w0 w2 ∧ Kept w w2 (fun k_ => P0_ k_))) := ⟨fun w1 hx => by
      have C := Tryz.slices_Compact_string g 0 cap ts w1 hx.out.2 (by omega) (by omega)
      rw [hlt] at C
      refine C.mono ?_
      rintro e w2 ⟨rfl, q, hw⟩
      rw [← hlt] at hw
      exact ⟨rfl, ⟨sort_end hlt hx.out.1 hw⟩⟩⟩
    clear hB hP hbase hb h1 h2 h3 h4 hown ho0 hg hH hlb hlen R0 hlt hr hts
    go_enter Tryz.func69, Tryz.ntmps69
    go_wp2_with (first | (go_at_call 75; refine HS.out.mono ?_; rintro e w1 ⟨rfl, hx1⟩) | (go_at_call 76; refine (HC.out _ hx1).mono ?_; rintro e w2 ⟨rfl, hx2⟩))
    go_ret
    exact ⟨_, rfl, hx2.out.1, hx2.out.2.1, hx2.out.2.2⟩
end Go.Proofs.YtckopglnblcnoaaGreatDoor.Own
