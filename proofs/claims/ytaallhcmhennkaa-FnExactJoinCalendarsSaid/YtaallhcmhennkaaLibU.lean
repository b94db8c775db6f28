/- The library's clone, sort and compaction of whole numbers, as the program calls them (impl.united), in the print's form. No condition. -/
import Derived.Test.YtaallhcmhennkaaShelf
import Derived.Test.YtaallhcmhennkaaWMore
import Derived.Test.YtaallhcmhennkaaOwnW
import Derived.Sort.OwnSortedInts
import Derived.Shelf.Slices.Clone
namespace Go.Proofs.Ytaallhcmhennkaa.Own
open Go.RowKit Go.Sort Go.Proofs.YtaallhcmhennkaaW.PrintWords Go.Proofs.YtaallhcmhennkaaW.PrintLast Go.Proofs.YtaallhcmhennkaaW.PrintMore
set_option linter.unusedVariables false
set_option linter.unusedSimpArgs false
theorem grow_none (w : World) : grow w #[] = w := by simp [grow]
theorem compact_len (zs : List Int) : (Lib.compact zs).length ≤ zs.length := by
  unfold Lib.compact Lib.compactUpTo
  rw [List.length_map]
  exact Nat.le_trans (List.length_filter_le _ _) (by simp)
/-- A row that is cut at its end is a row. -/
theorem owns_cut {w : World} {base g cap n m : Nat} {e : TypeId} {xs ys : List Value} (h : w.ownsRow base e 1 (.slice (some ⟨g, 0, none⟩) n cap) n (xs ++ ys)) (hm : xs.length = m) : w.ownsRow base e 1 (.slice (some ⟨g, 0, none⟩) m cap) m xs := by
  obtain ⟨hl, ⟨h1, _⟩ | ⟨g', cap', cur, he, hb, hh, hn, hc, hs, ht⟩⟩ := h
  · cases h1
  · injection he with h1 h2 h3
    injection h1 with h1
    injection h1 with h1
    subst h1; subst h3
    simp only [List.length_append, Nat.mul_one] at hl
    refine ⟨by simp [hm], .inr ⟨g, cap, cur, rfl, hb, hh, by omega, hc, hs, ?_⟩⟩
    rw [Nat.mul_one] at ht ⊢
    have : (cur.toList.take n).take m = cur.toList.take m := by rw [List.take_take, Nat.min_eq_left (by omega)]
    rw [← this, ht, ← hm, List.take_left]
/-- What is known of the row ahead of the two calls. -/
def Row0 (w0 w : World) (g n cap : Nat) (cur : Array Value) : Prop := Below w0.heap.size w0 w ∧ w0.heap.size ≤ g ∧ w.heap[g]? = some (.cells cur 3 (0, 0)) ∧ n ≤ cap ∧ cap ≤ 9223372036854775807 ∧ cur.size = cap * 1
/-- Behind the sort. -/
def Row1 (w0 w1 : World) (g n cap : Nat) : Prop := ∃ cur, Row0 w0 w1 g n cap cur
theorem grown_row0 {w0 w w1 : World} {g n cap : Nat} {cur cur1 : Array Value} (h : Row0 w0 w g n cap cur) (hg : w.grownBy w1 (some g)) (hb : w1.heap[g]? = some (.cells cur1 3 (0, 0))) (hs : cur1.size = cur.size) : Row0 w0 w1 g n cap cur1 := by
  obtain ⟨hB, hbase, _, h1, h2, h3⟩ := h
  exact ⟨hB.grown hg hB.size (fun j hj => by injection hj with hj; rw [← hj]; exact hbase), hbase, hb, h1, h2, by rw [hs]; exact h3⟩
theorem sort_done {w0 w w1 : World} {g cap n : Nat} {os : Array Obj} {cur : Array Value} {m : Nat} {ts : List Int} (hl : ts.length = m) (h : Row0 w0 w g m cap cur) (hw : w1 = grow (putRow (Value.int .i64) (Sort.ahead w n) g 0 ts.toArray) os) :
    Row1 w0 w1 g m cap ∧ Holds (Value.int .i64) w1 g 0 ts.toArray ∧ w1.ownsRow w0.heap.size 3 1 (.slice (some ⟨g, 0, none⟩) m cap) m (ts.map (Value.int .i64)) := by
  subst hw
  subst hl
  have hg := grownBy_sortedI (w := w) (g := g) (n := n) (os := os) ts.toArray
  have hb1 := heap_sortedI (w := w) (g := g) (n := n) (os := os) ts.toArray h.2.2.1
  have hr := grown_row0 h hg hb1 (by simp [putCells])
  have ho := ownsRow_sortedI (n := n) (os := os) (ss := ts) (ts := ts) rfl h.2.1 h.2.2.1 h.2.2.2.1 (show cap ≤ maxLen from h.2.2.2.2.1) h.2.2.2.2.2
  refine ⟨⟨_, hr⟩, holds_of_blockI hb1 ?_, ho⟩
  have hc : ts.length ≤ cur.size := by have := h.2.2.2.1; have := h.2.2.2.2.2; omega
  exact take_putCellsI cur ts hc
theorem sort_end {w0 w1 w2 : World} {g cap m q : Nat} {ts : List Int} (hl : ts.length = m) (h : Row1 w0 w1 g m cap)
    (hw : w2 = putRow (Value.int .i64) (Sort.ahead w1 q) g 0 (Lib.compact ts ++ List.replicate (ts.length - (Lib.compact ts).length) 0).toArray) :
    Kd.R (Kd.int .i64) 3 w2 w0.heap.size (fun _ => True) (.slice (some ⟨g, 0, none⟩) (Lib.compact ts).length cap) (Lib.compact ts) ∧ Below w0.heap.size w0 w2 := by
  obtain ⟨cur, h1⟩ := h
  have hlen : (Lib.compact ts ++ List.replicate (ts.length - (Lib.compact ts).length) (0 : Int)).length = m := by
    have := compact_len ts
    simp only [List.length_append, List.length_replicate]; omega
  rw [← grow_none (putRow _ _ _ _ _)] at hw
  obtain ⟨⟨_, h2⟩, _, ho⟩ := sort_done hlen h1 hw
  rw [List.map_append] at ho
  have ho' := owns_cut (m := (Lib.compact ts).length) ho (by simp)
  exact ⟨Kd.R_of_own ho' (fun _ _ => trivial), h2.1⟩
def sortedI (l : List Int) : List Int := Lib.compact (l.mergeSort fun x y => decide (x ≤ y))
/-- The sort and the compaction of a row of the call's own. -/
theorem pair_calls (l : List Int) (w0 W : World) (v : Value) (hB : Below w0.heap.size w0 W) (ho : Kd.R (Kd.int .i64) 3 W w0.heap.size (fun _ => True) v l) (hlen : l.length ≤ 1000000000) :
    ∃ T : World → Prop, (Calls Try.prog 52 #[v] W fun e w1 => e = .returned (.tuple #[]) ∧ T w1) ∧
      ∀ w1, T w1 → Calls Try.prog 53 #[v] w1 fun e w2 => ∃ v', e = .returned v' ∧ Kd.R (Kd.int .i64) 3 w2 w0.heap.size (fun _ => True) v' (sortedI l) ∧ Below w0.heap.size w0 w2 := by
  have hown := Kd.own_of_R ho
  rcases hown.2 with ⟨rfl, h0⟩ | ⟨g, cap, cur, rfl, hbase, hb, h1, h2, h3, h4⟩
  · have e0 : l = [] := List.length_eq_zero_iff.1 h0
    subst e0
    refine ⟨fun w1 => w1 = W, ?_, ?_⟩
    · refine (Try.slices_Sort_int_none _ _ _).mono ?_
      rintro e w' ⟨rfl, rfl⟩
      exact ⟨rfl, rfl⟩
    · rintro w1 rfl
      refine (Try.slices_Compact_int_empty _ _ _).mono ?_
      rintro e w' ⟨rfl, rfl⟩
      have e1 : sortedI [] = [] := by simp [sortedI, Lib.compact, Lib.compactUpTo]
      rw [e1]
      exact ⟨_, rfl, Kd.R_nil _ _ _ _ _, hB⟩
  · have hg : g < W.heap.size := (Array.getElem?_eq_some_iff.1 hb).1
    have hH : Holds (Value.int .i64) W g 0 l.toArray := holds_of_blockI hb (by rw [Nat.mul_one] at h4; exact h4)
    have R0 : Row0 w0 W g l.length cap cur := ⟨hB, hbase, hb, h1, h2, h3⟩
    unfold sortedI
    generalize hts : l.mergeSort (fun x y => decide (x ≤ y)) = ts
    have hlt : ts.length = l.length := by rw [← hts]; simp
    refine ⟨fun w1 => Row1 w0 w1 g l.length cap ∧ Holds (Value.int .i64) w1 g 0 ts.toArray, ?_, ?_⟩
    · refine (Try.slices_Sort_int g 0 cap l W hH hg (by omega)).mono ?_
      rintro e w1 ⟨rfl, n, os, hw⟩
      rw [hts] at hw
      have := sort_done hlt R0 hw
      exact ⟨rfl, this.1, this.2.1⟩
    · rintro w1 ⟨hr, hh⟩
      have C := Try.slices_Compact_int g 0 cap ts w1 hh (by omega) (by omega)
      rw [hlt] at C
      refine C.mono ?_
      rintro e w2 ⟨rfl, q, hw⟩
      rw [← hlt] at hw
      exact ⟨_, rfl, (sort_end hlt hr hw).1, (sort_end hlt hr hw).2⟩
theorem clone_calls (A0 : Option Addr) (c0 : Nat) (l : List Int) (w : World) (hr0 : Kd.C (Kd.int .i64) w A0 l.length l) (hlen : l.length ≤ 1000000000) :
    Calls Try.prog 51 #[.slice A0 l.length c0] w fun e w' => ∃ v', e = .returned v' ∧ Kd.R (Kd.int .i64) 3 w' w.heap.size (fun _ => True) v' l ∧ Below w.heap.size w w' := by
  by_cases h0 : l.length = 0
  · have e0 : l = [] := List.length_eq_zero_iff.1 h0
    subst e0
    cases A0 with
    | none =>
      refine (Try.slices_Clone_int_nil _ _ _).mono ?_
      rintro e w' ⟨rfl, rfl⟩
      exact ⟨_, rfl, Kd.R_nil _ _ _ _ _, Below.refl _ _⟩
    | some a =>
      refine (Try.slices_Clone_int_zero a _ _).mono ?_
      rintro e w' ⟨v', rfl, ho, _, hb⟩
      exact ⟨_, rfl, Kd.R_of_own ho (fun _ _ => trivial), hb⟩
  · have hR := Kd.reads_of_C (enc := Value.int .i64) (d := (0 : Int)) (h1 := fun _ => rfl) hr0
    obtain ⟨ad, rfl, hc⟩ := hR.2.2 (by omega)
    have h00 := hc 0 (by omega)
    obtain ⟨b, o, sp⟩ := ad
    have hlt : b < w.heap.size ∧ sp = none := by
      rw [show (⟨b, o, sp⟩ : Addr).add 0 = ⟨b, o, sp⟩ from rfl] at h00
      unfold World.cell? at h00
      split at h00
      · rename_i heq
        refine ⟨(Array.getElem?_eq_some_iff.1 heq).1, ?_⟩
        cases sp with
        | none => rfl
        | some _ => simp at h00
      · cases h00
    have hadd : ∀ j, (⟨b, o, none⟩ : Addr).add j = ⟨b, o + j, none⟩ := fun j => by unfold Addr.add; split <;> simp_all
    obtain ⟨hlt, rfl⟩ := hlt
    refine (Try.slices_Clone_int b o l.length c0 l w (Nat.le_refl _) (by omega) (fun j hj => ?_)).mono ?_
    · have := hc j hj
      rw [hadd] at this
      exact this
    · rintro e w' ⟨v', rfl, ho, _, hb⟩
      rw [List.take_length] at ho
      exact ⟨_, rfl, Kd.R_of_own ho (fun _ _ => trivial), hb⟩
def unitedF (l0 l1 : List Int) : Option (List Int) := if l0.length ≤ 10000000 ∧ l1.length ≤ 10000000 then some (sortedI (l0 ++ l1)) else none
set_option maxHeartbeats 8000000 in
set_option maxRecDepth 100000 in
theorem united_calls (A0 : Option Addr) (c0 : Nat) (l0 : List Int) (A1 : Option Addr) (c1 : Nat) (l1 r : List Int) (w : World) (hr0 : Kd.C (Kd.int .i64) w A0 l0.length l0) (hc0 : l0.length ≤ c0) (hr1 : Kd.C (Kd.int .i64) w A1 l1.length l1) (hc1 : l1.length ≤ c1) (h : unitedF l0 l1 = some r) :
    Calls Try.prog 32 #[.slice A0 l0.length c0, .slice A1 l1.length c1] w fun e w' => ∃ v0_ : Value, e = .returned (v0_) ∧ Kd.R (Kd.int .i64) 3 w' w.heap.size (fun _ => True) v0_ r ∧ Below w.heap.size w w' := by
  unfold unitedF at h
  split at h
  case isFalse => cases h
  rename_i hlen
  obtain rfl := Option.some.inj h
  have info3 : (Try.prog.info? 3).map (fun i => (i.zero, i.size, i.bytes)) = some (some (.int .i64 0), 1, 8) := by kernel_rfl
  have HB := Aside0.mk (Below.refl w.heap.size w)
  have HR1 := Aside0.mk hr1
  have HC := Aside0.mk (clone_calls A0 c0 l0 w hr0 (by omega))
  have HL := Aside0.mk hlen
  clear h hr0 hc0 hr1 hc1 hlen
  go_enter Try.func32, Try.ntmps32
  go_wp2_with (first | (go_at_call 51; (with_reducible refine HC.out.mono ?_); rintro e w5 ⟨v5, rfl, ho, hb⟩; have HO := Aside0.mk ho; replace HB := Aside0.mk hb; clear ho hb) | ((with_reducible refine gate_builtin (b := .append) (xs := #[.tmp 7, .tmp 8]) rfl ?_); at_builtin; refine Kd.R_append_rows (Kd.int .i64) (w0 := w) w.heap.size rfl (.tmp 7) (.tmp 8) 24 3 (.int .i64 0) 8 rfl Try.underlying24 info3 rfl (by decide) (by omega) v5 l0 l1 _ _ _ (fun _ => True) (fun _ => False) rfl rfl ?aO ?aR (fun _ _ h => h) (fun _ h => h.elim) ?aF ?aB ?aS ?aL ?_; (case aR => exact Kd.C_below HR1.out HB.out); (case aB => exact HB.out); (case aF => exact (fun _ _ => trivial)); (case aO => exact HO.out); (case aS => exact HB.out.size); (case aL => have := HL.out; omega); intro v9 w6 ho hb hg hat; (replace HO := Aside0.mk ho); (replace HB := Aside0.mk hb); clear ho hb hg hat; (have HP := Aside0.mk (pair_calls (l0 ++ l1) w w6 v9 HB.out HO.out (by have := HL.out; rw [List.length_append]; omega))); (obtain ⟨T, hS, hC⟩ := HP.out); (have HS := Aside0.mk hS); (have HT := Aside0.mk hC); clear hS hC HP) | (go_at_call 52; (with_reducible refine HS.out.mono ?_); rintro e w7 ⟨rfl, ht⟩; have HW := Aside0.mk ht; clear ht) | (go_at_call 53; (with_reducible refine (HT.out _ HW.out).mono ?_); rintro e w8 ⟨v8, rfl, ho, hb⟩; replace HO := Aside0.mk ho; replace HB := Aside0.mk hb; clear ho hb))
  go_ret
  exact ⟨_, Own.rr, HO.out, HB.out⟩
end Go.Proofs.Ytaallhcmhennkaa.Own
