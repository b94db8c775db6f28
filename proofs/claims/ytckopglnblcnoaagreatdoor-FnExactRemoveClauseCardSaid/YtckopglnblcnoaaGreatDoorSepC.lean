/- Trees of conditions that the call made, each block in a place of its own: marks written into such a tree stand there. No condition. -/
import Derived.Test.YtckopglnblcnoaaGreatDoorMarkC
namespace Go.Proofs.YtckopglnblcnoaaGreatDoor.Own
open Go.RowKit Go.Proofs.YtckopglnblcnoaaGreatDoor.QFnExactRemoveClause Go.Proofs.YtckopglnblcnoaaGreatDoorW.PrintWords Go.Proofs.YtckopglnblcnoaaGreatDoorW.PrintLast
set_option linter.unusedVariables false
set_option linter.unusedSimpArgs false
/-- A row of conditions whose blocks lie in [lo, hi), each row below it in a stretch of its own. -/
inductive Sep (w : World) : Nat → Nat → Value → List S49 → Prop
 | nil (lo hi : Nat) (h : lo ≤ hi) (A : Option Addr) (c : Nat) : Sep w lo hi (.slice A 0 c) []
 | row (lo hi g c : Nat) (l : List S49) (V : Nat → Value) (B E : Nat → Nat) (hp : 0 < l.length) (h0 : lo ≤ g) (h1 : g < hi) (ht : ∃ cur, w.heap[g]? = some (.cells cur 49 (0, 0))) (hc : l.length ≤ c) (hm : c ≤ 9223372036854775807)
  (hf : ∀ i (h : i < l.length), w.cell? ⟨g, i * 4, none⟩ = some (.int .i64 l[i].f0) ∧ w.cell? ⟨g, i * 4 + 1, none⟩ = some (.string l[i].f1) ∧ w.cell? ⟨g, i * 4 + 2, none⟩ = some (.int .i64 l[i].f2) ∧ w.cell? ⟨g, i * 4 + 3, none⟩ = some (V i))
  (hb : ∀ i, i < l.length → lo ≤ B i ∧ B i ≤ E i ∧ E i ≤ hi ∧ (g < B i ∨ E i ≤ g)) (hd : ∀ i j, i < j → j < l.length → E i ≤ B j)
  (hr : ∀ i (h : i < l.length), Sep w (B i) (E i) (V i) l[i].f3) : Sep w lo hi (.slice (some ⟨g, 0, none⟩) l.length c) l
theorem cell_eq {w W : World} {g : Nat} (h : W.heap[g]? = w.heap[g]?) (i : Nat) : W.cell? ⟨g, i, none⟩ = w.cell? ⟨g, i, none⟩ := by simp [World.cell?, h]
theorem Sep.kept {w W : World} {lo hi : Nat} {v : Value} {l : List S49} (h : Sep w lo hi v l) : (∀ k, lo ≤ k → k < hi → W.heap[k]? = w.heap[k]?) → Sep W lo hi v l := by
 induction h with
 | nil lo hi h A c => intro _; exact .nil lo hi h A c
 | row lo hi g c l V B E hp h0 h1 ht hc hm hf hb hd hr ih =>
  intro hk; have hg := hk g h0 h1
  refine .row lo hi g c l V B E hp h0 h1 (by rw [hg]; exact ht) hc hm (fun i hi => ?_) hb hd (fun i hi => ih i hi (fun k a b => hk k (by have := hb i hi; omega) (by have := hb i hi; omega)))
  rw [cell_eq hg, cell_eq hg, cell_eq hg, cell_eq hg]
  exact hf i hi
/-- Such a row is read. -/
theorem Sep.C {w : World} {lo hi : Nat} {v : Value} {l : List S49} (h : Sep w lo hi v l) : ∃ A c, v = .slice A l.length c ∧ l.length ≤ c ∧ Kd.C k49 w A l.length l := by
 induction h with
 | nil lo hi h A c => exact ⟨A, c, rfl, Nat.zero_le _, rfl, by simp, fun h => absurd h (Nat.lt_irrefl 0)⟩
 | row lo hi g c l V B E hp h0 h1 ht hc hm hf hb hd hr ih =>
  refine ⟨_, c, rfl, hc, rfl, by omega, fun _ => ⟨_, rfl, fun j p hj => ?_⟩⟩
  obtain ⟨hlt, rfl⟩ := List.getElem?_eq_some_iff.1 hj
  obtain ⟨A3, c3, e3, l3, g3⟩ := ih j hlt; obtain ⟨f0, f1, f2, f3⟩ := hf j hlt; rw [e3] at f3
  refine ⟨_, rfl, k49_mk w l[j] l3 g3, fun i u hi => ?_⟩
  rw [add_plain]
  show w.cell? ⟨g, j * 4 + i, none⟩ = some u
  match i, hi with
  | 0, hi => obtain rfl := Option.some.inj hi; exact f0
  | 1, hi => obtain rfl := Option.some.inj hi; exact f1
  | 2, hi => obtain rfl := Option.some.inj hi; exact f2
  | 3, hi => obtain rfl := Option.some.inj hi; exact f3
/-- A row that holds the marks from k to r. -/
inductive Held (w : World) : Nat → Nat → Value → Int → Int → Prop
 | nil (lo hi : Nat) (A : Option Addr) (c : Nat) (k : Int) : Held w lo hi (.slice A 0 c) k k
 | row (lo hi g c n : Nat) (V : Nat → Value) (B E : Nat → Nat) (K : Nat → Int) (hp : 0 < n) (h0 : lo ≤ g) (h1 : g < hi)
  (hf : ∀ i, i < n → w.cell? ⟨g, i * 4, none⟩ = some (.int .i64 (K i)) ∧ w.cell? ⟨g, i * 4 + 1, none⟩ = some (.string (mt (K i + 1))) ∧ w.cell? ⟨g, i * 4 + 2, none⟩ = some (.int .i64 (K i + 2)) ∧ w.cell? ⟨g, i * 4 + 3, none⟩ = some (V i))
  (hb : ∀ i, i < n → lo ≤ B i ∧ E i ≤ hi) (hK : ∀ i, i < n → K i + 3 ≤ K (i + 1))
  (hr : ∀ i, i < n → Held w (B i) (E i) (V i) (K i + 3) (K (i + 1))) : Held w lo hi (.slice (some ⟨g, 0, none⟩) n c) (K 0) (K n)
theorem Held.kept {w W : World} {lo hi : Nat} {v : Value} {k r : Int} (h : Held w lo hi v k r) : (∀ k, lo ≤ k → k < hi → W.heap[k]? = w.heap[k]?) → Held W lo hi v k r := by
 induction h with
 | nil lo hi A c k => intro _; exact .nil lo hi A c k
 | row lo hi g c n V B E K hp h0 h1 hf hb hK hr ih =>
  intro hk; have hg := hk g h0 h1
  refine .row lo hi g c n V B E K hp h0 h1 (fun i hi => ?_) hb hK (fun i hi => ih i hi (fun k a b => hk k (by have := hb i hi; omega) (by have := hb i hi; omega)))
  rw [cell_eq hg, cell_eq hg, cell_eq hg, cell_eq hg]
  exact hf i hi
/-- The world within a row's marking: the elements up to i are marked. -/
structure Mid (w W : World) (lo hi g n : Nat) (f : Nat → Int × ByteArray × Int) (V : Nat → Value) (B E : Nat → Nat) (K : Nat → Int) (i : Nat) : Prop where
 done : ∀ j, j < i → W.cell? ⟨g, j * 4, none⟩ = some (.int .i64 (K j)) ∧ W.cell? ⟨g, j * 4 + 1, none⟩ = some (.string (mt (K j + 1))) ∧ W.cell? ⟨g, j * 4 + 2, none⟩ = some (.int .i64 (K j + 2)) ∧ W.cell? ⟨g, j * 4 + 3, none⟩ = some (V j) ∧ Held W (B j) (E j) (V j) (K j + 3) (K (j + 1)) ∧ K j + 3 ≤ K (j + 1)
 todo : ∀ j, i ≤ j → j < n → W.cell? ⟨g, j * 4, none⟩ = some (.int .i64 (f j).1) ∧ W.cell? ⟨g, j * 4 + 1, none⟩ = some (.string (f j).2.1) ∧ W.cell? ⟨g, j * 4 + 2, none⟩ = some (.int .i64 (f j).2.2) ∧ W.cell? ⟨g, j * 4 + 3, none⟩ = some (V j)
 blk : ∃ cur, W.heap[g]? = some (.cells cur 49 (0, 0))
 rest : ∀ j, i ≤ j → j < n → ∀ k, B j ≤ k → k < E j → W.heap[k]? = w.heap[k]?
 kept : Kept w W (fun k => lo ≤ k ∧ k < hi)
 low : Below 0 w W
theorem Mid.cells {w W : World} {lo hi g n i : Nat} {f : Nat → Int × ByteArray × Int} {V : Nat → Value} {B E : Nat → Nat} {K : Nat → Int} (h : Mid w W lo hi g n f V B E K i) (hin : i < n) :
 ∃ a s d, W.cell? ⟨g, i * 4, none⟩ = some (.int .i64 a) ∧ W.cell? ⟨g, i * 4 + 1, none⟩ = some (.string s) ∧ W.cell? ⟨g, i * 4 + 2, none⟩ = some (.int .i64 d) ∧ W.cell? ⟨g, i * 4 + 3, none⟩ = some (V i) ∧ W.frozen? ⟨g, i * 4, none⟩ = false ∧ W.frozen? ⟨g, i * 4 + 1, none⟩ = false ∧ W.frozen? ⟨g, i * 4 + 2, none⟩ = false := by
 obtain ⟨cur, hc⟩ := h.blk; obtain ⟨c0, c1, c2, c3⟩ := h.todo i (Nat.le_refl _) hin
 exact ⟨_, _, _, c0, c1, c2, c3, blk_frozen hc _, blk_frozen hc _, blk_frozen hc _⟩
/-- An element's three marks, and the row below it. -/
theorem Mid.step {w W W1 W2 : World} {lo hi g n i : Nat} {f : Nat → Int × ByteArray × Int} {V : Nat → Value} {B E : Nat → Nat} {K : Nat → Int} (h : Mid w W lo hi g n f V B E K i) (hin : i < n) (h0 : lo ≤ g) (h1 : g < hi)
 (hb : ∀ i, i < n → lo ≤ B i ∧ B i ≤ E i ∧ E i ≤ hi ∧ (g < B i ∨ E i ≤ g)) (hd : ∀ i j, i < j → j < n → E i ≤ B j) (hsz : hi ≤ w.heap.size)
 (hw1 : Below (W.setCell ⟨g, i * 4, none⟩ (.int .i64 (K i))).heap.size (W.setCell ⟨g, i * 4, none⟩ (.int .i64 (K i))) W1) (r : Int) (hr : K i + 3 ≤ r)
 (hk : Kept ((W1.setCell ⟨g, i * 4 + 1, none⟩ (.string (mt (K i + 1)))).setCell ⟨g, i * 4 + 2, none⟩ (.int .i64 (K i + 2))) W2 (fun k => B i ≤ k ∧ k < E i)) (hl : Below 0 ((W1.setCell ⟨g, i * 4 + 1, none⟩ (.string (mt (K i + 1)))).setCell ⟨g, i * 4 + 2, none⟩ (.int .i64 (K i + 2))) W2) (hh : Held W2 (B i) (E i) (V i) (K i + 3) r) :
 Mid w W2 lo hi g n f V B E (fun j => if j ≤ i then K j else r) (i + 1) := by
 obtain ⟨cur, hc⟩ := h.blk; obtain ⟨t0, t1, t2, t3⟩ := h.todo i (Nat.le_refl _) hin
 have hgw : g < W.heap.size := blk_lt hc
 have hcA := blk_set hc (i * 4) (.int .i64 (K i))
 have hc1 : W1.heap[g]? = some (.cells (cur.setIfInBounds (i * 4) (.int .i64 (K i))) 49 (0, 0)) := (hw1.block g (by rw [World.size_setCell]; exact hgw)).trans hcA
 have hc2 := blk_set hc1 (i * 4 + 1) (.string (mt (K i + 1)))
 have hc3 := blk_set hc2 (i * 4 + 2) (.int .i64 (K i + 2))
 have hgB : ∀ j, j < n → ¬ (B j ≤ g ∧ g < E j) := fun j hj => by have := hb j hj; omega
 have hsame : ∀ k, k ≠ g → k < W.heap.size → ((W1.setCell ⟨g, i * 4 + 1, none⟩ (.string (mt (K i + 1)))).setCell ⟨g, i * 4 + 2, none⟩ (.int .i64 (K i + 2))).heap[k]? = W.heap[k]? := fun k hk hlt => by
  rw [Below.heap_setCell _ ⟨g, i * 4 + 2, none⟩ _ k hk, Below.heap_setCell _ ⟨g, i * 4 + 1, none⟩ _ k hk, hw1.block k (by rw [World.size_setCell]; exact hlt), Below.heap_setCell _ ⟨g, i * 4, none⟩ _ k hk]
 have hsz3 : W.heap.size ≤ ((W1.setCell ⟨g, i * 4 + 1, none⟩ (.string (mt (K i + 1)))).setCell ⟨g, i * 4 + 2, none⟩ (.int .i64 (K i + 2))).heap.size := by
  rw [World.size_setCell, World.size_setCell]; have := hw1.size; rw [World.size_setCell] at this; exact this
 have hwW := h.kept.1
 have hg2 : W2.heap[g]? = some (.cells (((cur.setIfInBounds (i * 4) (.int .i64 (K i))).setIfInBounds (i * 4 + 1) (.string (mt (K i + 1)))).setIfInBounds (i * 4 + 2) (.int .i64 (K i + 2))) 49 (0, 0)) := (hk.2 g (Nat.lt_of_lt_of_le hgw hsz3) (hgB i hin)).trans hc3
 have hcur : ∀ q, W.cell? ⟨g, q, none⟩ = cur[q]? := fun q => blk_cell hc q
 have hnew : ∀ q, q ≠ i * 4 → q ≠ i * 4 + 1 → q ≠ i * 4 + 2 → W2.cell? ⟨g, q, none⟩ = W.cell? ⟨g, q, none⟩ := fun q a b c => by
  rw [hcur, blk_cell hg2, Array.getElem?_setIfInBounds_ne (Ne.symm c), Array.getElem?_setIfInBounds_ne (Ne.symm b), Array.getElem?_setIfInBounds_ne (Ne.symm a)]
 rw [hcur] at t0 t1 t2
 have l0 : i * 4 < cur.size := (Array.getElem?_eq_some_iff.1 t0).1
 have l1 : i * 4 + 1 < cur.size := (Array.getElem?_eq_some_iff.1 t1).1
 have l2 : i * 4 + 2 < cur.size := (Array.getElem?_eq_some_iff.1 t2).1
 have oth : ∀ j, j < n → j ≠ i → ∀ k, B j ≤ k → k < E j → W2.heap[k]? = W.heap[k]? := fun j hj hne k a b => by
  have hbj := hb j hj; have hbi := hb i hin
  have hkg : k ≠ g := fun e => hgB j hj (by omega)
  have hki : ¬ (B i ≤ k ∧ k < E i) := by
   rcases Nat.lt_or_gt_of_ne hne with hlt | hgt
   · have := hd j i hlt hin; omega
   · have := hd i j hgt hj; omega
  have hkW : k < W.heap.size := by omega
  rw [hk.2 k (Nat.lt_of_lt_of_le hkW hsz3) hki, hsame k hkg hkW]
 refine ⟨fun j hj => ?_, fun j hj hjn => ?_, ⟨_, hg2⟩, fun j hj hjn k a b => ?_, ?_, ?_⟩
 · by_cases e : j = i
   · subst e
     simp only [Nat.le_refl, if_true, show ¬ (j + 1 ≤ j) by omega, if_false]
     refine ⟨?_, ?_, ?_, ?_, hh, hr⟩
     · rw [blk_cell hg2, Array.getElem?_setIfInBounds_ne (by omega), Array.getElem?_setIfInBounds_ne (by omega), Array.getElem?_setIfInBounds_self_of_lt l0]
     · rw [blk_cell hg2, Array.getElem?_setIfInBounds_ne (by omega), Array.getElem?_setIfInBounds_self_of_lt (by simpa using l1)]
     · rw [blk_cell hg2, Array.getElem?_setIfInBounds_self_of_lt (by simpa using l2)]
     · rw [hnew _ (by omega) (by omega) (by omega)]; exact t3
   · obtain ⟨d0, d1, d2, d3, d4, d5⟩ := h.done j (by omega)
     simp only [show j ≤ i by omega, show j + 1 ≤ i by omega, if_true]
     refine ⟨?_, ?_, ?_, ?_, d4.kept (oth j (by omega) e), d5⟩
     · rw [hnew _ (by omega) (by omega) (by omega)]; exact d0
     · rw [hnew _ (by omega) (by omega) (by omega)]; exact d1
     · rw [hnew _ (by omega) (by omega) (by omega)]; exact d2
     · rw [hnew _ (by omega) (by omega) (by omega)]; exact d3
 · obtain ⟨d0, d1, d2, d3⟩ := h.todo j (by omega) hjn
   refine ⟨?_, ?_, ?_, ?_⟩
   · rw [hnew _ (by omega) (by omega) (by omega)]; exact d0
   · rw [hnew _ (by omega) (by omega) (by omega)]; exact d1
   · rw [hnew _ (by omega) (by omega) (by omega)]; exact d2
   · rw [hnew _ (by omega) (by omega) (by omega)]; exact d3
 · rw [oth j hjn (by omega) k a b, h.rest j (by omega) hjn k a b]
 · refine ⟨Nat.le_trans h.kept.1 (Nat.le_trans hsz3 hk.1), fun k hlt hn => ?_⟩
   have hkW : k < W.heap.size := Nat.lt_of_lt_of_le hlt hwW
   have hbi := hb i hin; rw [hk.2 k (Nat.lt_of_lt_of_le hkW hsz3) (by omega), hsame k (by omega) hkW]
   exact h.kept.2 k hlt hn
 · exact ((((h.low.setCell (Nat.zero_le _) _).trans (hw1.mono (Nat.zero_le _))).setCell (Nat.zero_le _) _).setCell (Nat.zero_le _) _).trans hl
theorem Mid.far3 {w W W1 : World} {lo up g n i : Nat} {f : Nat → Int × ByteArray × Int} {V : Nat → Value} {B E : Nat → Nat} {K : Nat → Int} (h : Mid w W lo up g n f V B E K i) (u0 u1 u2 : Value)
 (hw1 : Below (W.setCell ⟨g, i * 4, none⟩ u0).heap.size (W.setCell ⟨g, i * 4, none⟩ u0) W1) : W.heap.size ≤ ((W1.setCell ⟨g, i * 4 + 1, none⟩ u1).setCell ⟨g, i * 4 + 2, none⟩ u2).heap.size ∧ ∀ k, k ≠ g → k < W.heap.size → ((W1.setCell ⟨g, i * 4 + 1, none⟩ u1).setCell ⟨g, i * 4 + 2, none⟩ u2).heap[k]? = W.heap[k]? := by
 refine ⟨?_, fun k hk hlt => ?_⟩
 · rw [World.size_setCell, World.size_setCell]; have := hw1.size; rw [World.size_setCell] at this; exact this
 · rw [Below.heap_setCell _ ⟨g, i * 4 + 2, none⟩ _ k hk, Below.heap_setCell _ ⟨g, i * 4 + 1, none⟩ _ k hk, hw1.block k (by rw [World.size_setCell]; exact hlt), Below.heap_setCell _ ⟨g, i * 4, none⟩ _ k hk]
theorem Mid.cells1 {w W W1 : World} {lo up g n i : Nat} {f : Nat → Int × ByteArray × Int} {V : Nat → Value} {B E : Nat → Nat} {K : Nat → Int} (h : Mid w W lo up g n f V B E K i) (hin : i < n) (u0 : Value)
 (hw1 : Below (W.setCell ⟨g, i * 4, none⟩ u0).heap.size (W.setCell ⟨g, i * 4, none⟩ u0) W1) :
 ∃ s d, W1.cell? ⟨g, i * 4 + 1, none⟩ = some (.string s) ∧ W1.cell? ⟨g, i * 4 + 2, none⟩ = some (.int .i64 d) ∧ W1.cell? ⟨g, i * 4 + 3, none⟩ = some (V i) ∧ W1.frozen? ⟨g, i * 4 + 1, none⟩ = false ∧ W1.frozen? ⟨g, i * 4 + 2, none⟩ = false := by
 obtain ⟨cur, hc⟩ := h.blk; obtain ⟨c0, c1, c2, c3⟩ := h.todo i (Nat.le_refl _) hin
 have hgw : g < W.heap.size := blk_lt hc
 have hc1 := (hw1.block g (by rw [World.size_setCell]; exact hgw)).trans (blk_set hc (i * 4) u0)
 have hq : ∀ q, q ≠ i * 4 → W1.cell? ⟨g, q, none⟩ = W.cell? ⟨g, q, none⟩ := fun q a => by rw [blk_cell hc1, blk_cell hc, Array.getElem?_setIfInBounds_ne (Ne.symm a)]
 exact ⟨_, _, (hq _ (by omega)).trans c1, (hq _ (by omega)).trans c2, (hq _ (by omega)).trans c3, blk_frozen hc1 _, blk_frozen hc1 _⟩
theorem szL_take (l : List S49) (i : Nat) (h : i < l.length) : szL (l.take (i + 1)) = szL (l.take i) + (szL l[i].f3 + 1) := by rw [List.take_succ_eq_append_getElem h, szL_snoc, szT_eq]
theorem szL_le (l : List S49) (i : Nat) (h : i ≤ l.length) : szL (l.take i) ≤ szL l := by
 have h1 := szL_sum l i h
 have h2 := szL_sum l l.length (Nat.le_refl _)
 rw [List.take_length] at h2; rw [← h1, ← h2]
 exact sumTo_le _ _ _ h
theorem len_szL (l : List S49) : l.length ≤ szL l := by
 have h2 := szL_sum l l.length (Nat.le_refl _)
 rw [List.take_length] at h2; rw [← h2]
 exact sumTo_n _ _
set_option maxHeartbeats 8000000 in
set_option maxRecDepth 100000 in
theorem markP_calls {w : World} {lo hi : Nat} {v : Value} {l : List S49} (h : Sep w lo hi v l) : ∀ (W : World) (a1 : Int), (∀ k, lo ≤ k → k < hi → W.heap[k]? = w.heap[k]?) → hi ≤ W.heap.size → 1 ≤ a1 → a1 + 3 * szL l ≤ 900000000 →
 Calls Tryz.prog 44 #[v, .int .i64 a1] W fun e W' => ∃ r, e = .returned (.int .i64 r) ∧ a1 ≤ r ∧ r ≤ a1 + 3 * szL l ∧ Held W' lo hi v a1 r ∧ Kept W W' (fun k => lo ≤ k ∧ k < hi) ∧ Below 0 W W' := by
 induction h with
 | nil lo hi h A c =>
  intro W a1 hW hsz h0 h1
  go_enter Tryz.func44, Tryz.ntmps44
  go_wp2
  go_loopg [1, 5] 1 (fun kq v1 v5 w' => v1 = .int .i64 a1 ∧ v5 = .int .i64 0 ∧ Aside0 (Below W.heap.size W w'))
  case atStart => exact ⟨rfl, rfl, ⟨by repeat (first | exact Below.refl _ _ | apply pw_below_drewN | apply below_drew1)⟩⟩
  case round =>
   obtain ⟨rfl, rfl, HS⟩ := hrel
   go_wp2
   go_ret
   exact ⟨a1, rfl, Int.le_refl _, by omega, .nil _ _ _ _ _, Kept.of_below HS.out _, HS.out.mono (Nat.zero_le _)⟩
 | row lo hi g c l V B E hp hg0 hg1 ht hc hm hf hb hd hr ih =>
  intro W a1 hW hsz h0 h1; have HI := Aside0.mk ih; have Hb := Aside0.mk hb; have Hd := Aside0.mk hd; have HW := Aside0.mk hW; have Hsz := Aside0.mk hsz
  have Hg := Aside0.mk (And.intro hg0 hg1)
  have HL : Aside0 (l.length ≤ 300000000) := ⟨by have := len_szL l; omega⟩
  have Hp := Aside0.mk hp
  have Hh := Aside0.mk (And.intro h0 h1)
  have hmid : Mid W W lo hi g l.length (fun j => ((l.getD j z49).f0, (l.getD j z49).f1, (l.getD j z49).f2)) V B E (fun _ => a1) 0 := by
   have hge := hW g hg0 hg1
   refine ⟨fun j hj => absurd hj (Nat.not_lt_zero _), fun j _ hj => ?_, by rw [hge]; exact ht, fun j _ _ k _ _ => rfl, Kept.refl _ _, Below.refl _ _⟩
   have e : l.getD j z49 = l[j] := by rw [List.getD_eq_getElem?_getD, List.getElem?_eq_getElem hj]; rfl
   rw [cell_eq hge, cell_eq hge, cell_eq hge, cell_eq hge]
   simp only [e]
   exact hf j hj
  have HM := Aside0.mk hmid
  have hvs : Aside0 (∀ i, i < l.length → ∃ A n c, V i = .slice A n c) := ⟨fun i hi => by obtain ⟨A, c, e, _⟩ := (hr i hi).C; exact ⟨A, _, c, e⟩⟩
  clear ih hb hd hW hsz hg0 hg1 hf hr ht hc hm h0 h1 hmid hp; have hu1 := Tryz.underlying49; have hu2 := Tryz.underlying47
  go_enter Tryz.func44, Tryz.ntmps44
  go_wp2
  go_loopg [1, 5] (l.length + 1) (fun kq v1 v5 w' => ∃ (i : Nat) (K : Nat → Int), v1 = .int .i64 (K i) ∧ v5 = .int .i64 (i : Int) ∧ Aside0 (i + kq = l.length + 1) ∧ Aside0 (i ≤ l.length) ∧ Aside0 (K 0 = a1) ∧ Aside0 (a1 ≤ K i ∧ K i ≤ a1 + 3 * szL (l.take i)) ∧ Aside0 (Mid W w' lo hi g l.length (fun j => ((l.getD j z49).f0, (l.getD j z49).f1, (l.getD j z49).f2)) V B E K i))
  case atStart => exact ⟨0, fun _ => a1, rfl, by first | rfl | (simp; done), ⟨by omega⟩, ⟨by omega⟩, ⟨rfl⟩, ⟨by simp [szL]⟩, HM⟩
  case round =>
   clear HM; obtain ⟨i, K, rfl, rfl, HK, HI1, HK0, HX, HM⟩ := hrel
   by_cases c5 : i < l.length
   · have Hi := Aside0.mk c5
     have Hn := Aside0.mk (And.intro (szL_take l i Hi.out) (szL_le l (i + 1) Hi.out))
     have Hx : Aside0 (1 ≤ K i ∧ K i + 3 + 3 * szL (l[i]'Hi.out).f3 ≤ 900000000) := ⟨by have h1 := HX.out; have h2 := Hn.out; have h3 := Hh.out; omega⟩
     have w1 : wrap64 (K i + 1) = K i + 1 := by have := Hx.out; unfold wrap64; omega
     have w2 : wrap64 (K i + 1 + 1) = K i + 2 := by have := Hx.out; unfold wrap64; omega
     have w3 : wrap64 (K i + 2 + 1) = K i + 3 := by have := Hx.out; unfold wrap64; omega
     obtain ⟨b0, b1, b2, y0, y1, y2, y3, z0, z1, z2⟩ := HM.out.cells Hi.out
     have p5 : (0 ≤ (i : Int)) = True := eq_true (by omega)
     have c6 : ((i : Int) < (l.length : Int)) = True := eq_true (by omega)
     have c7 : (i < l.length) = True := eq_true c5
     have c5' : decide ((i : Int) < (l.length : Int)) = true := decide_eq_true (by omega)
     have ei : (i : Int).toNat = i := by omega
     clear c5
     go_wp2_with (first | (go_at_call 43; (with_reducible refine (laws_markText.calls 11 (K i + 1) (mt (K i + 1)) _ (mk_all _ (by have := Hx.out; omega) (by have := Hx.out; omega))).mono ?_); rintro e w8 ⟨rfl, hb⟩; have HB1 := Aside0.mk hb; clear hb y0 y1 y2 y3 z0 z1 z2 b0 b1 b2; obtain ⟨b1, b2, y1, y2, y3, z1, z2⟩ := HM.out.cells1 Hi.out _ HB1.out) | (go_at_call 44; (with_reducible refine (HI.out i Hi.out _ (K i + 3) ?hs ?hz ?h1 ?h2).mono ?_); (case hs => intro k a b; have hb_ := Hb.out i Hi.out; have hg_ := Hg.out; have hs_ := Hsz.out; have hk_ := HM.out.kept.1; rw [(HM.out.far3 _ _ _ HB1.out).2 k (by omega) (by omega), HM.out.rest i (Nat.le_refl _) Hi.out k a b]; exact HW.out k (by omega) (by omega)); (case hz => have hb_ := Hb.out i Hi.out; have hs_ := Hsz.out; have hk_ := HM.out.kept.1; have hf_ := (HM.out.far3 (.int .i64 (K i)) (.string (mt (K i + 1))) (.int .i64 (K i + 2)) HB1.out).1; omega); (case h1 => have := Hx.out; omega); (case h2 => have := Hx.out; omega); rintro e w9 ⟨r9, rfl, g1, g2, hh, hk, hl⟩; have HR := Aside0.mk (And.intro g1 g2); have HM2 := Aside0.mk (HM.out.step Hi.out Hg.out.1 Hg.out.2 Hb.out Hd.out Hsz.out HB1.out r9 g1 hk hl hh); clear g1 g2 hk hl hh y1 y2 y3 z1 z2))
     go_roundg (gk - 1)
     case measure => have := HK.out; have := Hi.out; omega
     case rel => exact ⟨i + 1, _, by simp only [show ¬ (i + 1 ≤ i) by omega, if_false], by rw [show wrap64 ((i : Int) + 1) = ((i + 1 : Nat) : Int) from by have := Hi.out; have := HL.out; unfold wrap64; omega], ⟨by have := HK.out; have := Hi.out; omega⟩, ⟨by have := Hi.out; omega⟩, ⟨by simp only [Nat.zero_le, if_true]; exact HK0.out⟩, ⟨by simp only [show ¬ (i + 1 ≤ i) by omega, if_false]; have h1 := HX.out; have h2 := Hn.out; have h3 := HR.out; omega⟩, HM2⟩
   · have c6 : decide ((i : Int) < (l.length : Int)) = false := decide_eq_false (by omega)
     have c7 : ((i : Int) < (l.length : Int)) = False := eq_false (by omega)
     have hil : i = l.length := by have := HI1.out; omega
     subst hil
     go_wp2
     go_ret
     refine ⟨K l.length, rfl, HX.out.1, by have := HX.out.2; rw [List.take_length] at this; exact this, ?_, HM.out.kept, HM.out.low⟩
     rw [← HK0.out]
     exact .row _ _ g c l.length V B E K Hp.out Hg.out.1 Hg.out.2 (fun j hj => by obtain ⟨d0, d1, d2, d3, _⟩ := HM.out.done j hj; exact ⟨d0, d1, d2, d3⟩) (fun j hj => by have := Hb.out j hj; omega) (fun j hj => (HM.out.done j hj).2.2.2.2.2) (fun j hj => (HM.out.done j hj).2.2.2.2.1)
theorem Held.ge {w : World} {lo hi : Nat} {v : Value} {k r : Int} (h : Held w lo hi v k r) : k ≤ r := by
 induction h with
 | nil lo hi A c k => exact Int.le_refl _
 | row lo hi g c n V B E K hp h0 h1 hf hb hK hr ih =>
  have : ∀ i, i ≤ n → K 0 ≤ K i := fun i => by
   induction i with
   | zero => intro _; exact Int.le_refl _
   | succ i ihi => intro hi; have := ihi (by omega); have := hK i (by omega); omega
  exact this n (Nat.le_refl _)
theorem Held.slice {w : World} {lo hi : Nat} {v : Value} {k r : Int} (h : Held w lo hi v k r) : ∃ A n c, v = .slice A n c ∧ (n : Int) ≤ r - k := by
 cases h with
 | nil lo hi A c k => exact ⟨_, _, _, rfl, by omega⟩
 | row lo hi g c n V B E K hp h0 h1 hf hb hK hr =>
  have : ∀ i : Nat, i ≤ n → (i : Int) ≤ K i - K 0 := fun i => by
   induction i with
   | zero => intro _; omega
   | succ i ihi => intro hi; have := ihi (by omega); have := hK i (by omega); omega
  exact ⟨_, _, _, rfl, this n (Nat.le_refl _)⟩
theorem Held.K_ge {n : Nat} {K : Nat → Int} (hK : ∀ i, i < n → K i + 3 ≤ K (i + 1)) (i : Nat) (h : i ≤ n) : K 0 + i ≤ K i ∧ K i + (n - i : Nat) ≤ K n := by
 have h1 : ∀ i : Nat, i ≤ n → K 0 + (i : Int) ≤ K i := fun i => by
  induction i with
  | zero => intro _; omega
  | succ i ihi => intro hi; have := ihi (by omega); have := hK i (by omega); omega
 have h2 : ∀ d : Nat, d ≤ n → K (n - d) + (d : Int) ≤ K n := fun d => by
  induction d with
  | zero => intro _; simp
  | succ d ihd =>
   intro hd
   have := ihd (by omega)
   have h3 := hK (n - (d + 1)) (by omega)
   rw [show n - (d + 1) + 1 = n - d by omega] at h3
   omega
 have := h2 (n - i) (by omega)
 rw [show n - (n - i) = i by omega] at this
 exact ⟨h1 i h, this⟩
set_option maxHeartbeats 8000000 in
set_option maxRecDepth 100000 in
theorem heldP_calls {w : World} {lo hi : Nat} {v : Value} {k r : Int} (h : Held w lo hi v k r) : ∀ (W : World), (∀ j, lo ≤ j → j < hi → W.heap[j]? = w.heap[j]?) → hi ≤ W.heap.size → 1 ≤ k → r ≤ 900000000 →
 Calls Tryz.prog 45 #[v, .int .i64 k] W fun e W' => e = .returned (.int .i64 r) ∧ Below W.heap.size W W' := by
 induction h with
 | nil lo hi A c k =>
  intro W hW hsz h0 h1
  go_enter Tryz.func45, Tryz.ntmps45
  go_wp2
  go_loopg [1, 5] 1 (fun kq v1 v5 w' => v1 = .int .i64 k ∧ v5 = .int .i64 0 ∧ Aside0 (Below W.heap.size W w'))
  case atStart => exact ⟨rfl, rfl, ⟨by repeat (first | exact Below.refl _ _ | apply pw_below_drewN | apply below_drew1)⟩⟩
  case round =>
   obtain ⟨rfl, rfl, HS⟩ := hrel
   go_wp2
   go_ret
   exact ⟨rfl, HS.out⟩
 | row lo hi g c n V B E K hp hg0 hg1 hf hb hK hr ih =>
  intro W hW hsz h0 h1; have HI := Aside0.mk ih; have HW := Aside0.mk hW; have Hb := Aside0.mk hb; have Hsz := Aside0.mk hsz
  have HKs := Aside0.mk (fun i h => Held.K_ge hK i h)
  have HK3 := Aside0.mk hK
  have Hh := Aside0.mk (And.intro h0 h1)
  have hge := hW g hg0 hg1
  have HC : Aside0 (∀ (W' : World), Below W.heap.size W W' → ∀ i, i < n → W'.cell? ⟨g, i * 4, none⟩ = some (.int .i64 (K i)) ∧ W'.cell? ⟨g, i * 4 + 1, none⟩ = some (.string (mt (K i + 1))) ∧ W'.cell? ⟨g, i * 4 + 2, none⟩ = some (.int .i64 (K i + 2)) ∧ W'.cell? ⟨g, i * 4 + 3, none⟩ = some (V i)) := ⟨fun W' hb i hi => by
   have e := (hb.block g (by omega)).trans hge
   rw [cell_eq e, cell_eq e, cell_eq e, cell_eq e]
   exact hf i hi⟩
  have HG := Aside0.mk (fun i hi => (hr i hi).ge)
  have HV := Aside0.mk (fun i hi => (hr i hi).slice)
  have HB := Aside0.mk (Below.refl W.heap.size W)
  clear ih hW hsz hg0 hg1 hf hb hK hr h0 h1 hge hp; have hu1 := Tryz.underlying49; have hu2 := Tryz.underlying47
  go_enter Tryz.func45, Tryz.ntmps45
  go_wp2
  go_loopg [1, 5] (n + 1) (fun kq v1 v5 w' => ∃ (i : Nat), v1 = .int .i64 (K i) ∧ v5 = .int .i64 (i : Int) ∧ Aside0 (i + kq = n + 1) ∧ Aside0 (i ≤ n) ∧ Aside0 (Below W.heap.size W w'))
  case atStart => exact ⟨0, rfl, by first | rfl | (simp; done), ⟨by omega⟩, ⟨by omega⟩, HB⟩
  case round =>
   clear HB; obtain ⟨i, rfl, rfl, HQ, HI1, HB⟩ := hrel
   by_cases c5 : i < n
   · have Hi := Aside0.mk c5
     have Hx : Aside0 (1 ≤ K i ∧ K i + 3 ≤ K (i + 1) ∧ K (i + 1) ≤ 900000000) := ⟨by have h1 := (HKs.out i (by omega)).1; have h2 := (HKs.out (i + 1) (by omega)).2; have h3 := Hh.out; have h4 := HK3.out i c5; omega⟩
     have HN : Aside0 ((n : Int) ≤ 900000000) := ⟨by have h1 := (HKs.out n (Nat.le_refl _)).1; have h3 := Hh.out; omega⟩
     have w1 : wrap64 (K i + 1) = K i + 1 := by have := Hx.out; unfold wrap64; omega
     have w2 : wrap64 (K i + 1 + 1) = K i + 2 := by have := Hx.out; unfold wrap64; omega
     have w3 : wrap64 (K i + 2 + 1) = K i + 3 := by have := Hx.out; unfold wrap64; omega
     obtain ⟨y0, y1, y2, y3⟩ := HC.out _ HB.out i Hi.out
     have p5 : (0 ≤ (i : Int)) = True := eq_true (by omega)
     have c6 : ((i : Int) < (n : Int)) = True := eq_true (by omega)
     have c7 : (i < n) = True := eq_true c5
     have c5' : decide ((i : Int) < (n : Int)) = true := decide_eq_true (by omega)
     have cr : decide (K (i + 1) < 0) = false := decide_eq_false (by have := Hx.out; omega)
     have ei : (i : Int).toNat = i := by omega
     clear c5
     go_upto_region 7 with (fail)
     (try simp only [Own.ps])
     go_region_with (first | (go_at_call 43; (with_reducible refine (laws_markText.calls 11 (K i + 1) (mt (K i + 1)) _ (mk_all _ (by have := Hx.out; omega) (by have := Hx.out; omega))).mono ?_); rintro e w8 ⟨rfl, hb⟩; replace HB := Aside0.mk (below_step (below_drew1 HB.out) (by first | exact hb | exact Drawn0.below hb)); clear hb y0 y1 y2 y3; obtain ⟨y0, y1, y2, y3⟩ := HC.out _ HB.out i Hi.out))
     all_goals ((try simp only [Own.ps]); (go_wp2_with (first | (go_at_call 45; (with_reducible refine (HI.out i Hi.out _ ?hs ?hz ?h1 ?h2).mono ?_); (case hs => intro j a b; have hb_ := Hb.out i Hi.out; have hs_ := Hsz.out; rw [HB.out.block j (by omega)]; exact HW.out j (by omega) (by omega)); (case hz => have hb_ := Hb.out i Hi.out; have hs_ := Hsz.out; have hk_ := HB.out.size; omega); (case h1 => have := Hx.out; omega); (case h2 => have := Hx.out; omega); rintro e w9 ⟨rfl, hb⟩; replace HB := Aside0.mk (below_step HB.out hb); clear hb y0 y1 y2 y3))); go_roundg (gk - 1); (case measure => have := HQ.out; have := Hi.out; omega); (case rel => exact ⟨i + 1, by first | rfl | (simp; done), by rw [show wrap64 ((i : Int) + 1) = ((i + 1 : Nat) : Int) from by have := Hi.out; have := HN.out; unfold wrap64; omega], ⟨by have := HQ.out; have := Hi.out; omega⟩, ⟨by have := Hi.out; omega⟩, HB⟩))
   · have c6 : decide ((i : Int) < (n : Int)) = false := decide_eq_false (by omega)
     have c7 : ((i : Int) < (n : Int)) = False := eq_false (by omega)
     have hil : i = n := by have := HI1.out; omega
     subst hil
     go_wp2
     go_ret
     exact ⟨rfl, HB.out⟩
end Go.Proofs.YtckopglnblcnoaaGreatDoor.Own
