/- Contracts that the call made, each block in a place of its own: marks written into such a contract stand there. No condition. -/
import Derived.Test.YtckopglnblcnoaaGreatDoorSepC
namespace Go.Proofs.YtckopglnblcnoaaGreatDoor.Own
open Go.RowKit Go.Proofs.YtckopglnblcnoaaGreatDoor.QFnExactRemoveClause Go.Proofs.YtckopglnblcnoaaGreatDoorW.PrintWords Go.Proofs.YtckopglnblcnoaaGreatDoorW.PrintLast
set_option linter.unusedVariables false
set_option linter.unusedSimpArgs false
/-- A row of strings in a block of its own. -/
inductive SepS (w : World) (lo hi : Nat) : Value → List ByteArray → Prop
 | nil (h : lo ≤ hi) (A : Option Addr) (c : Nat) : SepS w lo hi (.slice A 0 c) []
 | row (g c : Nat) (l : List ByteArray) (hp : 0 < l.length) (h0 : lo ≤ g) (h1 : g < hi) (ht : ∃ cur, w.heap[g]? = some (.cells cur 9 (0, 0))) (hc : l.length ≤ c) (hm : c ≤ 9223372036854775807) (hf : ∀ i (h : i < l.length), w.cell? ⟨g, i, none⟩ = some (.string l[i])) : SepS w lo hi (.slice (some ⟨g, 0, none⟩) l.length c) l
inductive HeldS (w : World) (lo hi : Nat) : Value → Int → Int → Prop
 | nil (A : Option Addr) (c : Nat) (k : Int) : HeldS w lo hi (.slice A 0 c) k k
 | row (g c n : Nat) (k : Int) (hp : 0 < n) (h0 : lo ≤ g) (h1 : g < hi) (hf : ∀ i, i < n → w.cell? ⟨g, i, none⟩ = some (.string (mt (k + i)))) : HeldS w lo hi (.slice (some ⟨g, 0, none⟩) n c) k (k + n)
theorem SepS.kept {w W : World} {lo hi : Nat} {v : Value} {l : List ByteArray} (h : SepS w lo hi v l) (hk : ∀ k, lo ≤ k → k < hi → W.heap[k]? = w.heap[k]?) : SepS W lo hi v l := by
 cases h with
 | nil h A c => exact .nil h A c
 | row g c l hp h0 h1 ht hc hm hf =>
  have hg := hk g h0 h1
  exact .row g c l hp h0 h1 (by rw [hg]; exact ht) hc hm (fun i hi => by rw [cell_eq hg]; exact hf i hi)
theorem HeldS.kept {w W : World} {lo hi : Nat} {v : Value} {k r : Int} (h : HeldS w lo hi v k r) (hk : ∀ k, lo ≤ k → k < hi → W.heap[k]? = w.heap[k]?) : HeldS W lo hi v k r := by
 cases h with
 | nil A c k => exact .nil A c k
 | row g c n k hp h0 h1 hf =>
  have hg := hk g h0 h1
  exact .row g c n k hp h0 h1 (fun i hi => by rw [cell_eq hg]; exact hf i hi)
/-- A row of clauses in a block of its own, each condition's parts in a stretch of their own. -/
inductive SepR (w : World) (lo hi : Nat) : Value → List S51 → Prop
 | nil (h : lo ≤ hi) (A : Option Addr) (c : Nat) : SepR w lo hi (.slice A 0 c) []
 | row (g c : Nat) (l : List S51) (cur : Array Value) (V : Nat → Value) (B E : Nat → Nat) (hp : 0 < l.length) (h0 : lo ≤ g) (h1 : g < hi) (ht : w.heap[g]? = some (.cells cur 51 (0, 0))) (hc : l.length ≤ c) (hm : c ≤ 9223372036854775807)
  (hf : ∀ i (h : i < l.length) (q : Nat), q < 12 → cur[i * 12 + q]? = ([.string l[i].f0, .int .i64 l[i].f1, .int .i64 l[i].f2, .string l[i].f3, .int .i64 l[i].f4, .int .i64 l[i].f5, .int .i64 l[i].f6.f0, .string l[i].f6.f1, .int .i64 l[i].f6.f2, V i, .int .i64 l[i].f7, .string l[i].f8] : List Value)[q]?)
  (hb : ∀ i, i < l.length → lo ≤ B i ∧ B i ≤ E i ∧ E i ≤ hi ∧ (g < B i ∨ E i ≤ g)) (hd : ∀ i j, i < j → j < l.length → E i ≤ B j)
  (hr : ∀ i (h : i < l.length), Sep w (B i) (E i) (V i) l[i].f6.f3) : SepR w lo hi (.slice (some ⟨g, 0, none⟩) l.length c) l
theorem SepR.kept {w W : World} {lo hi : Nat} {v : Value} {l : List S51} (h : SepR w lo hi v l) (hk : ∀ k, lo ≤ k → k < hi → W.heap[k]? = w.heap[k]?) : SepR W lo hi v l := by
 cases h with
 | nil h A c => exact .nil h A c
 | row g c l cur V B E hp h0 h1 ht hc hm hf hb hd hr =>
  exact .row g c l cur V B E hp h0 h1 (by rw [hk g h0 h1]; exact ht) hc hm hf hb hd (fun i hi => (hr i hi).kept (fun k a b => hk k (by have := hb i hi; omega) (by have := hb i hi; omega)))
/-- What the marks leave in a clause's cells. -/
def hv (k s : Int) (v : Value) : List Value := [.string (mt k), .int .i64 (k + 1), .int .i64 (k + 2), .string (mt (k + 3)), .int .i64 (k + 4), .int .i64 (k + 5), .int .i64 (k + 6), .string (mt (k + 7)), .int .i64 (k + 8), v, .int .i64 s, .string (mt (s + 1))]
def tv (v : Value) (b0 b3 b7 b11 : ByteArray) (b1 b2 b4 b5 b6 b8 b10 : Int) : List Value := [.string b0, .int .i64 b1, .int .i64 b2, .string b3, .int .i64 b4, .int .i64 b5, .int .i64 b6, .string b7, .int .i64 b8, v, .int .i64 b10, .string b11]
inductive HeldR (w : World) (lo hi : Nat) : Value → Int → Int → Prop
 | nil (A : Option Addr) (c : Nat) (k : Int) : HeldR w lo hi (.slice A 0 c) k k
 | row (g c n : Nat) (cur : Array Value) (V : Nat → Value) (B E : Nat → Nat) (K : Nat → Int) (hp : 0 < n) (h0 : lo ≤ g) (h1 : g < hi) (ht : w.heap[g]? = some (.cells cur 51 (0, 0)))
  (hf : ∀ i, i < n → ∀ q, q < 12 → cur[i * 12 + q]? = (hv (K i) (K (i + 1) - 2) (V i))[q]?)
  (hb : ∀ i, i < n → lo ≤ B i ∧ E i ≤ hi) (hK : ∀ i, i < n → K i + 11 ≤ K (i + 1))
  (hr : ∀ i, i < n → Held w (B i) (E i) (V i) (K i + 9) (K (i + 1) - 2)) : HeldR w lo hi (.slice (some ⟨g, 0, none⟩) n c) (K 0) (K n)
/-- The cells of one clause in the block g, in a world behind some marks. -/
structure At (w W : World) (g i : Nat) (S : Nat → Prop) (vs : List Value) : Prop where
 len : vs.length = 12
 blk : ∃ cur0 cur, w.heap[g]? = some (.cells cur0 51 (0, 0)) ∧ W.heap[g]? = some (.cells cur 51 (0, 0)) ∧ (∀ q, q < 12 → cur[i * 12 + q]? = vs[q]?) ∧ ∀ j, j < i * 12 ∨ i * 12 + 12 ≤ j → cur[j]? = cur0[j]?
 far : ∀ k, k ≠ g → k < w.heap.size → ¬ S k → W.heap[k]? = w.heap[k]?
 low : Below 0 w W
theorem At.below {w W W1 : World} {g i : Nat} {S : Nat → Prop} {vs : List Value} (h : At w W g i S vs) (hb : Below W.heap.size W W1) : At w W1 g i S vs := by
 obtain ⟨c0, c, h0, h1, h2, h3⟩ := h.blk
 exact ⟨h.len, ⟨c0, c, h0, (hb.block g (blk_lt h1)).trans h1, h2, h3⟩, fun k a b s => (hb.block k (Nat.lt_of_lt_of_le b h.low.size)).trans (h.far k a b s), h.low.trans (hb.mono (Nat.zero_le _))⟩
theorem At.set {w W : World} {g i : Nat} {S : Nat → Prop} {vs : List Value} (h : At w W g i S vs) (q : Nat) (hq : q < 12) (x : Value) : At w (W.setCell ⟨g, i * 12 + q, none⟩ x) g i S (vs.set q x) := by
 obtain ⟨c0, c, h0, h1, h2, h3⟩ := h.blk; have hl := h.len
 have hlt : i * 12 + q < c.size := by
  have := h2 q hq
  rw [List.getElem?_eq_getElem (by omega)] at this
  exact (Array.getElem?_eq_some_iff.1 this).1
 refine ⟨by rw [List.length_set]; exact hl, ⟨c0, _, h0, blk_set h1 _ x, fun p hp => ?_, fun j hj => ?_⟩, fun k a b s => (Below.heap_setCell W ⟨g, i * 12 + q, none⟩ x k a).trans (h.far k a b s), h.low.setCell (Nat.zero_le _) x⟩
 · by_cases e : q = p
   · subst e
     simp [hlt, hl, hq]
   · rw [Array.getElem?_setIfInBounds_ne (by omega), List.getElem?_set_ne e]; exact h2 p hp
 · rw [Array.getElem?_setIfInBounds_ne (by omega)]; exact h3 j hj
theorem At.kept {w W W1 : World} {g i : Nat} {S : Nat → Prop} {vs : List Value} (h : At w W g i (fun _ => False) vs) (hk : Kept W W1 S) (hg : ¬ S g) (hl : Below 0 W W1) : At w W1 g i S vs := by
 obtain ⟨c0, c, h0, h1, h2, h3⟩ := h.blk
 exact ⟨h.len, ⟨c0, c, h0, (hk.2 g (blk_lt h1) hg).trans h1, h2, h3⟩, fun k a b s => (hk.2 k (Nat.lt_of_lt_of_le b h.low.size) s).trans (h.far k a b (fun hf => hf)), h.low.trans hl⟩
theorem At.get {w W : World} {g i : Nat} {S : Nat → Prop} {vs : List Value} (h : At w W g i S vs) (q : Nat) (hq : q < 12) (u : Value) (hu : vs[q]? = some u) : W.cell? ⟨g, i * 12 + q, none⟩ = some u ∧ W.frozen? ⟨g, i * 12 + q, none⟩ = false := by
 obtain ⟨c0, c, h0, h1, h2, h3⟩ := h.blk
 exact ⟨by rw [blk_cell h1, h2 q hq]; exact hu, blk_frozen h1 _⟩
theorem At.all {w W : World} {g i : Nat} {S : Nat → Prop} {u0 u1 u2 u3 u4 u5 u6 u7 u8 u9 u10 u11 : Value} (h : At w W g i S [u0, u1, u2, u3, u4, u5, u6, u7, u8, u9, u10, u11]) : W.cell? ⟨g, i * 12, none⟩ = some u0 ∧ W.cell? ⟨g, i * 12 + 1, none⟩ = some u1 ∧ W.cell? ⟨g, i * 12 + 2, none⟩ = some u2 ∧ W.cell? ⟨g, i * 12 + 3, none⟩ = some u3 ∧ W.cell? ⟨g, i * 12 + 4, none⟩ = some u4 ∧ W.cell? ⟨g, i * 12 + 5, none⟩ = some u5 ∧ W.cell? ⟨g, i * 12 + 6, none⟩ = some u6 ∧ W.cell? ⟨g, i * 12 + 7, none⟩ = some u7 ∧ W.cell? ⟨g, i * 12 + 8, none⟩ = some u8 ∧ W.cell? ⟨g, i * 12 + 9, none⟩ = some u9 ∧ W.cell? ⟨g, i * 12 + 10, none⟩ = some u10 ∧ W.cell? ⟨g, i * 12 + 11, none⟩ = some u11 ∧ W.frozen? ⟨g, i * 12, none⟩ = false ∧ W.frozen? ⟨g, i * 12 + 1, none⟩ = false ∧ W.frozen? ⟨g, i * 12 + 2, none⟩ = false ∧ W.frozen? ⟨g, i * 12 + 3, none⟩ = false ∧ W.frozen? ⟨g, i * 12 + 4, none⟩ = false ∧ W.frozen? ⟨g, i * 12 + 5, none⟩ = false ∧ W.frozen? ⟨g, i * 12 + 6, none⟩ = false ∧ W.frozen? ⟨g, i * 12 + 7, none⟩ = false ∧ W.frozen? ⟨g, i * 12 + 8, none⟩ = false ∧ W.frozen? ⟨g, i * 12 + 9, none⟩ = false ∧ W.frozen? ⟨g, i * 12 + 10, none⟩ = false ∧ W.frozen? ⟨g, i * 12 + 11, none⟩ = false :=
 ⟨(h.get 0 (by decide) _ rfl).1, (h.get 1 (by decide) _ rfl).1, (h.get 2 (by decide) _ rfl).1, (h.get 3 (by decide) _ rfl).1, (h.get 4 (by decide) _ rfl).1, (h.get 5 (by decide) _ rfl).1, (h.get 6 (by decide) _ rfl).1, (h.get 7 (by decide) _ rfl).1, (h.get 8 (by decide) _ rfl).1, (h.get 9 (by decide) _ rfl).1, (h.get 10 (by decide) _ rfl).1, (h.get 11 (by decide) _ rfl).1, (h.get 0 (by decide) _ rfl).2, (h.get 1 (by decide) _ rfl).2, (h.get 2 (by decide) _ rfl).2, (h.get 3 (by decide) _ rfl).2, (h.get 4 (by decide) _ rfl).2, (h.get 5 (by decide) _ rfl).2, (h.get 6 (by decide) _ rfl).2, (h.get 7 (by decide) _ rfl).2, (h.get 8 (by decide) _ rfl).2, (h.get 9 (by decide) _ rfl).2, (h.get 10 (by decide) _ rfl).2, (h.get 11 (by decide) _ rfl).2⟩
/-- A row of clauses, i of them marked. -/
structure MidR (w W : World) (lo hi g n : Nat) (V : Nat → Value) (B E : Nat → Nat) (K : Nat → Int) (i : Nat) : Prop where
 blk : ∃ cur, W.heap[g]? = some (.cells cur 51 (0, 0)) ∧ (∀ j, j < i → ∀ q, q < 12 → cur[j * 12 + q]? = (hv (K j) (K (j + 1) - 2) (V j))[q]?) ∧ ∀ j, i ≤ j → j < n → ∃ b0 b1 b2 b3 b4 b5 b6 b7 b8 b10 b11, ∀ q, q < 12 → cur[j * 12 + q]? = (tv (V j) b0 b3 b7 b11 b1 b2 b4 b5 b6 b8 b10)[q]?
 held : ∀ j, j < i → Held W (B j) (E j) (V j) (K j + 9) (K (j + 1) - 2) ∧ K j + 11 ≤ K (j + 1)
 rest : ∀ j, i ≤ j → j < n → ∀ k, B j ≤ k → k < E j → W.heap[k]? = w.heap[k]?
 kept : Kept w W (fun k => lo ≤ k ∧ k < hi)
 low : Below 0 w W
theorem MidR.at {w W : World} {lo hi g n i : Nat} {V : Nat → Value} {B E : Nat → Nat} {K : Nat → Int} (h : MidR w W lo hi g n V B E K i) (hin : i < n) (S : Nat → Prop) : ∃ b0 b1 b2 b3 b4 b5 b6 b7 b8 b10 b11, At W W g i S [.string b0, .int .i64 b1, .int .i64 b2, .string b3, .int .i64 b4, .int .i64 b5, .int .i64 b6, .string b7, .int .i64 b8, V i, .int .i64 b10, .string b11] := by
 obtain ⟨cur, h1, h2, h3⟩ := h.blk; obtain ⟨b0, b1, b2, b3, b4, b5, b6, b7, b8, b10, b11, hq⟩ := h3 i (Nat.le_refl _) hin
 exact ⟨b0, b1, b2, b3, b4, b5, b6, b7, b8, b10, b11, rfl, ⟨cur, cur, h1, h1, hq, fun _ _ => rfl⟩, fun _ _ _ _ => rfl, Below.refl _ _⟩
theorem MidR.step {w W W2 : World} {lo hi g n i : Nat} {V : Nat → Value} {B E : Nat → Nat} {K : Nat → Int} (h : MidR w W lo hi g n V B E K i) (hin : i < n) (h0 : lo ≤ g) (h1 : g < hi)
 (hb : ∀ i, i < n → lo ≤ B i ∧ B i ≤ E i ∧ E i ≤ hi ∧ (g < B i ∨ E i ≤ g)) (hd : ∀ i j, i < j → j < n → E i ≤ B j) (hsz : hi ≤ w.heap.size) (s : Int) (hs : K i + 9 ≤ s)
 (ha : At W W2 g i (fun k => B i ≤ k ∧ k < E i) (hv (K i) s (V i))) (hh : Held W2 (B i) (E i) (V i) (K i + 9) s) : MidR w W2 lo hi g n V B E (fun j => if j ≤ i then K j else s + 2) (i + 1) := by
 obtain ⟨c0, c, q0, q1, q2, q3⟩ := ha.blk; obtain ⟨cur, p1, p2, p3⟩ := h.blk; rw [p1] at q0
 injection q0 with q0
 injection q0 with q0
 subst q0; have hws := h.kept.1; have hbi := hb i hin
 refine ⟨⟨c, q1, fun j hj q hq => ?_, fun j a b => ?_⟩, fun j hj => ?_, fun j a b k x y => ?_, ⟨Nat.le_trans h.kept.1 ha.low.size, fun k a s => ?_⟩, h.low.trans ha.low⟩
 · by_cases e : j = i
   · subst e
     simp only [Nat.le_refl, if_true, show ¬ (j + 1 ≤ j) by omega, if_false, Int.add_sub_cancel]
     exact q2 q hq
   · simp only [show j ≤ i by omega, show j + 1 ≤ i by omega, if_true]
     rw [q3 _ (by omega)]
     exact p2 j (by omega) q hq
 · obtain ⟨b0, b1, b2, b3, b4, b5, b6, b7, b8, b10, b11, hq⟩ := p3 j (by omega) b
   exact ⟨b0, b1, b2, b3, b4, b5, b6, b7, b8, b10, b11, fun q hq' => by rw [q3 _ (by omega)]; exact hq q hq'⟩
 · by_cases e : j = i
   · subst e
     simp only [Nat.le_refl, if_true, show ¬ (j + 1 ≤ j) by omega, if_false, Int.add_sub_cancel]
     exact ⟨hh, by omega⟩
   · simp only [show j ≤ i by omega, show j + 1 ≤ i by omega, if_true]
     have hbj := hb j (by omega)
     have hdj := hd j i (by omega) hin
     exact ⟨(h.held j (by omega)).1.kept (fun k x y => ha.far k (by omega) (by omega) (by omega)), (h.held j (by omega)).2⟩
 · have hbj := hb j b
   have hdj := hd i j (by omega) b
   exact (ha.far k (by omega) (by omega) (by omega)).trans (h.rest j (by omega) b k x y)
 · exact (ha.far k (by omega) (by omega) (by omega)).trans (h.kept.2 k a s)
/-- A row of strings under marks. -/
structure MidS (w W : World) (lo hi g n : Nat) (a1 : Int) (i : Nat) : Prop where
 blk : ∃ cur, W.heap[g]? = some (.cells cur 9 (0, 0)) ∧ (∀ j, j < i → cur[j]? = some (.string (mt (a1 + j)))) ∧ ∀ j, i ≤ j → j < n → ∃ b, cur[j]? = some (.string b)
 kept : Kept w W (fun k => lo ≤ k ∧ k < hi)
 low : Below 0 w W
theorem MidS.below {w W W1 : World} {lo hi g n i : Nat} {a1 : Int} (h : MidS w W lo hi g n a1 i) (hb : Below W.heap.size W W1) : MidS w W1 lo hi g n a1 i := by
 obtain ⟨c, h1, h2, h3⟩ := h.blk
 exact ⟨⟨c, (hb.block g (blk_lt h1)).trans h1, h2, h3⟩, ⟨Nat.le_trans h.kept.1 hb.size, fun k a s => (hb.block k (Nat.lt_of_lt_of_le a h.kept.1)).trans (h.kept.2 k a s)⟩, h.low.trans (hb.mono (Nat.zero_le _))⟩
theorem MidS.at {w W : World} {lo hi g n i : Nat} {a1 : Int} (h : MidS w W lo hi g n a1 i) (hin : i < n) : ∃ b, W.cell? ⟨g, i, none⟩ = some (.string b) ∧ W.frozen? ⟨g, i, none⟩ = false := by
 obtain ⟨c, h1, h2, h3⟩ := h.blk; obtain ⟨b, hb⟩ := h3 i (Nat.le_refl _) hin
 exact ⟨b, by rw [blk_cell h1]; exact hb, blk_frozen h1 _⟩
theorem MidS.step {w W : World} {lo hi g n i : Nat} {a1 : Int} (h : MidS w W lo hi g n a1 i) (hin : i < n) (h0 : lo ≤ g) (h1 : g < hi) : MidS w (W.setCell ⟨g, i, none⟩ (.string (mt (a1 + i)))) lo hi g n a1 (i + 1) := by
 obtain ⟨c, p1, p2, p3⟩ := h.blk; obtain ⟨b, hb⟩ := p3 i (Nat.le_refl _) hin
 have hlt := (Array.getElem?_eq_some_iff.1 hb).1
 refine ⟨⟨_, blk_set p1 _ _, fun j hj => ?_, fun j a b' => ?_⟩, ⟨by rw [World.size_setCell]; exact h.kept.1, fun k a s => (Below.heap_setCell W ⟨g, i, none⟩ _ k (fun e => s (by rw [e]; exact ⟨h0, h1⟩))).trans (h.kept.2 k a s)⟩, h.low.setCell (Nat.zero_le _) _⟩
 · by_cases e : j = i
   · subst e
     simp [hlt]
   · rw [Array.getElem?_setIfInBounds_ne (by omega)]; exact p2 j (by omega)
 · rw [Array.getElem?_setIfInBounds_ne (by omega)]; exact p3 j (by omega) b'
set_option maxHeartbeats 8000000 in
set_option maxRecDepth 100000 in
theorem markSS_calls {w : World} {lo hi : Nat} {v : Value} {l : List ByteArray} (h : SepS w lo hi v l) (W : World) (a1 : Int) (hW : ∀ k, lo ≤ k → k < hi → W.heap[k]? = w.heap[k]?) (h0 : 1 ≤ a1) (h1 : a1 + l.length ≤ 900000000) :
 Calls Tryz.prog 25 #[v, .int .i64 a1] W fun e W' => e = .returned (.int .i64 (a1 + l.length)) ∧ HeldS W' lo hi v a1 (a1 + l.length) ∧ Kept W W' (fun k => lo ≤ k ∧ k < hi) ∧ Below 0 W W' := by
 cases h with
 | nil h A c =>
  clear hW
  go_enter Tryz.func25, Tryz.ntmps25
  go_wp2
  go_loopg [1, 5] 1 (fun kq v1 v5 w' => v1 = .int .i64 a1 ∧ v5 = .int .i64 0 ∧ Aside0 (Below W.heap.size W w'))
  case atStart => exact ⟨rfl, rfl, ⟨by repeat (first | exact Below.refl _ _ | apply pw_below_drewN | apply below_drew1)⟩⟩
  case round =>
   obtain ⟨rfl, rfl, HS⟩ := hrel
   go_wp2
   go_ret
   refine ⟨by simp, ?_, Kept.of_below HS.out _, HS.out.mono (Nat.zero_le _)⟩
   simp only [List.length_nil, Int.ofNat_zero, Int.add_zero, Int.natCast_zero]
   first | exact .nil _ _ _ | (have h_ := HeldS.nil (w := wr) (lo := lo) (hi := hi) A c a1; simpa using h_)
 | row g c l hp hg0 hg1 ht hc hm hf =>
  obtain ⟨cur, ht⟩ := ht; have hge := hW g hg0 hg1
  have hmid : MidS W W lo hi g l.length a1 0 := ⟨⟨cur, by rw [hge]; exact ht, fun j hj => absurd hj (Nat.not_lt_zero _), fun j _ hj => ⟨l[j], by rw [← blk_cell ht]; exact hf j hj⟩⟩, Kept.refl _ _, Below.refl _ _⟩
  have HM := Aside0.mk hmid
  have Hg := Aside0.mk (And.intro hg0 hg1)
  have Hp := Aside0.mk hp
  have Hh := Aside0.mk (And.intro h0 h1)
  have HL : Aside0 (l.length ≤ 900000000) := ⟨by omega⟩
  clear hW hg0 hg1 ht hc hm hf hge hmid hp h0 h1; have hu1 := Tryz.underlying9; have hu2 := Tryz.underlying22
  go_enter Tryz.func25, Tryz.ntmps25
  go_wp2
  go_loopg [1, 5] (l.length + 1) (fun kq v1 v5 w' => ∃ (i : Nat), v1 = .int .i64 (a1 + (i : Int)) ∧ v5 = .int .i64 (i : Int) ∧ Aside0 (i + kq = l.length + 1) ∧ Aside0 (i ≤ l.length) ∧ Aside0 (MidS W w' lo hi g l.length a1 i))
  case atStart => exact ⟨0, by simp, by first | rfl | (simp; done), ⟨by omega⟩, ⟨by omega⟩, HM⟩
  case round =>
   clear HM; obtain ⟨i, rfl, rfl, HK, HI, HM⟩ := hrel
   by_cases c5 : i < l.length
   · have Hi := Aside0.mk c5
     have p5 : (0 ≤ (i : Int)) = True := eq_true (by omega)
     have c6 : ((i : Int) < (l.length : Int)) = True := eq_true (by omega)
     have c7 : (i < l.length) = True := eq_true c5
     have c5' : decide ((i : Int) < (l.length : Int)) = true := decide_eq_true (by omega)
     have ei : (i : Int).toNat = i := by omega
     have w0 : wrap64 (a1 + (i : Int) + 1) = a1 + (i : Int) + 1 := by have := Hh.out; unfold wrap64; omega
     have wi : wrap64 ((i : Int) + 1) = ((i + 1 : Nat) : Int) := by have := HL.out; unfold wrap64; omega
     obtain ⟨b0, y0, z0⟩ := HM.out.at Hi.out; clear c5
     go_wp2_with (first | (go_at_call 43; (with_reducible refine (laws_markText.calls 11 (a1 + (i : Int)) (mt (a1 + (i : Int))) _ (mk_all _ (by have := Hh.out; omega) (by have := Hh.out; have := Hi.out; omega))).mono ?_); rintro e w8 ⟨rfl, hb⟩; replace HM := Aside0.mk (HM.out.below hb); clear hb y0 z0 b0; obtain ⟨b0, y0, z0⟩ := HM.out.at Hi.out))
     go_roundg (gk - 1)
     case measure => have := HK.out; have := Hi.out; omega
     case rel => exact ⟨i + 1, by congr 1; omega, by rw [wi], ⟨by have := HK.out; have := Hi.out; omega⟩, ⟨by have := Hi.out; omega⟩, ⟨HM.out.step Hi.out Hg.out.1 Hg.out.2⟩⟩
   · have c6 : decide ((i : Int) < (l.length : Int)) = false := decide_eq_false (by omega)
     have c7 : ((i : Int) < (l.length : Int)) = False := eq_false (by omega)
     have hil : i = l.length := by have := HI.out; omega
     subst hil
     go_wp2
     go_ret; obtain ⟨c', p1, p2, _⟩ := HM.out.blk
     exact ⟨rfl, .row g c l.length a1 Hp.out Hg.out.1 Hg.out.2 (fun j hj => by rw [blk_cell p1]; exact p2 j hj), HM.out.kept, HM.out.low⟩
def szR : List S51 → Nat
 | [] => 0
 | x :: l => (11 + 3 * szL x.f6.f3) + szR l
theorem szR_snoc (l : List S51) (x : S51) : szR (l ++ [x]) = szR l + (11 + 3 * szL x.f6.f3) := by
 induction l with
 | nil => simp [szR]
 | cons y l ih => simp only [List.cons_append, szR, ih]; omega
theorem szR_take (l : List S51) (i : Nat) (h : i < l.length) : szR (l.take (i + 1)) = szR (l.take i) + (11 + 3 * szL l[i].f6.f3) := by rw [List.take_succ_eq_append_getElem h, szR_snoc]
theorem szR_le (l : List S51) : ∀ i, szR (l.take i) ≤ szR l := by
 induction l with
 | nil => intro i; simp [szR]
 | cons y l ih => intro i; cases i with
  | zero => simp [szR]
  | succ i => have := ih i; simp only [List.take_succ_cons, szR]; omega
theorem len_szR (l : List S51) : l.length ≤ szR l := by
 induction l with
 | nil => simp [szR]
 | cons y l ih => simp only [List.length_cons, szR]; omega
set_option maxHeartbeats 16000000 in
set_option maxRecDepth 100000 in
theorem markRR_calls {w : World} {lo hi : Nat} {v : Value} {l : List S51} (h : SepR w lo hi v l) (W : World) (a1 : Int) (hW : ∀ k, lo ≤ k → k < hi → W.heap[k]? = w.heap[k]?) (hsz : hi ≤ W.heap.size) (h0 : 1 ≤ a1) (h1 : a1 + szR l ≤ 900000000) :
 Calls Tryz.prog 26 #[v, .int .i64 a1] W fun e W' => ∃ r, e = .returned (.int .i64 r) ∧ a1 ≤ r ∧ r ≤ a1 + szR l ∧ HeldR W' lo hi v a1 r ∧ Kept W W' (fun k => lo ≤ k ∧ k < hi) ∧ Below 0 W W' := by
 cases h with
 | nil h A c =>
  clear hW
  go_enter Tryz.func26, Tryz.ntmps26
  go_wp2
  go_loopg [1, 5] 1 (fun kq v1 v5 w' => v1 = .int .i64 a1 ∧ v5 = .int .i64 0 ∧ Aside0 (Below W.heap.size W w'))
  case atStart => exact ⟨rfl, rfl, ⟨by repeat (first | exact Below.refl _ _ | apply pw_below_drewN | apply below_drew1)⟩⟩
  case round =>
   obtain ⟨rfl, rfl, HS⟩ := hrel
   go_wp2
   go_ret
   exact ⟨a1, rfl, Int.le_refl _, by omega, .nil _ _ _, Kept.of_below HS.out _, HS.out.mono (Nat.zero_le _)⟩
 | row g c l cur V B E hp hg0 hg1 ht hc hm hf hb hd hr =>
  have hmid : MidR W W lo hi g l.length V B E (fun _ => a1) 0 := ⟨⟨cur, by rw [hW g hg0 hg1]; exact ht, fun j hj => absurd hj (Nat.not_lt_zero _), fun j _ hj => ⟨_, _, _, _, _, _, _, _, _, _, _, fun q hq => hf j hj q hq⟩⟩, fun j hj => absurd hj (Nat.not_lt_zero _), fun j _ hj k _ _ => rfl, Kept.refl _ _, Below.refl _ _⟩
  have HM := Aside0.mk hmid
  have HI : Aside0 (∀ (i : Nat) (hi : i < l.length) (W : World) (a1 : Int), (∀ k, B i ≤ k → k < E i → W.heap[k]? = w.heap[k]?) → E i ≤ W.heap.size → 1 ≤ a1 → a1 + 3 * szL (l[i]'hi).f6.f3 ≤ 900000000 → Calls Tryz.prog 44 #[V i, .int .i64 a1] W fun e W' => ∃ r, e = .returned (.int .i64 r) ∧ a1 ≤ r ∧ r ≤ a1 + 3 * szL (l[i]'hi).f6.f3 ∧ Held W' (B i) (E i) (V i) a1 r ∧ Kept W W' (fun k => B i ≤ k ∧ k < E i) ∧ Below 0 W W') := ⟨fun i hi W a1 q0 q1 q2 q3 => markP_calls (hr i hi) W a1 q0 q1 q2 q3⟩
  have hvs : Aside0 (∀ i, i < l.length → ∃ A n c, V i = .slice A n c) := ⟨fun i hi => by obtain ⟨A, c, e, _⟩ := (hr i hi).C; exact ⟨A, _, c, e⟩⟩
  have Hb := Aside0.mk hb; have Hd := Aside0.mk hd; have HW := Aside0.mk hW; have Hsz := Aside0.mk hsz
  have Hg := Aside0.mk (And.intro hg0 hg1)
  have HL : Aside0 (l.length ≤ 900000000) := ⟨by have := len_szR l; omega⟩
  have Hp := Aside0.mk hp
  have Hh := Aside0.mk (And.intro h0 h1)
  clear hb hd hW hsz hg0 hg1 hf hr ht hc hm h0 h1 hmid hp; have hu1 := Tryz.underlying51; have hu2 := Tryz.underlying27; have hu3 := Tryz.underlying49
  go_enter Tryz.func26, Tryz.ntmps26
  go_wp2
  go_loopg [1, 5] (l.length + 1) (fun kq v1 v5 w' => ∃ (i : Nat) (K : Nat → Int), v1 = .int .i64 (K i) ∧ v5 = .int .i64 (i : Int) ∧ Aside0 (i + kq = l.length + 1) ∧ Aside0 (i ≤ l.length) ∧ Aside0 (K 0 = a1) ∧ Aside0 (a1 ≤ K i ∧ K i ≤ a1 + szR (l.take i)) ∧ Aside0 (MidR W w' lo hi g l.length V B E K i))
  case atStart => exact ⟨0, fun _ => a1, rfl, by first | rfl | (simp; done), ⟨by omega⟩, ⟨by omega⟩, ⟨rfl⟩, ⟨by simp [szR]⟩, HM⟩
  case round =>
   clear HM; obtain ⟨i, K, rfl, rfl, HK, HI1, HK0, HX, HM⟩ := hrel
   by_cases c5 : i < l.length
   · have Hi := Aside0.mk c5
     have Hn := Aside0.mk (And.intro (szR_take l i Hi.out) (szR_le l (i + 1)))
     have Hx : Aside0 (1 ≤ K i ∧ K i + 11 + 3 * szL (l[i]'Hi.out).f6.f3 ≤ 900000000) := ⟨by have h1 := HX.out; have h2 := Hn.out; have h3 := Hh.out; omega⟩
     have HX9 : Aside0 (W.heap.size ≤ wr.heap.size) := ⟨HM.out.kept.1⟩
     have p5 : (0 ≤ (i : Int)) = True := eq_true (by omega)
     have c6 : ((i : Int) < (l.length : Int)) = True := eq_true (by omega)
     have c7 : (i < l.length) = True := eq_true c5
     have c5' : decide ((i : Int) < (l.length : Int)) = true := decide_eq_true (by omega)
     have ei : (i : Int).toNat = i := by omega
     have w0 : wrap64 (K i + 1) = K i + 1 := by have := Hx.out; unfold wrap64; omega
     have w1 : wrap64 (K i + 1 + 1) = K i + 2 := by have := Hx.out; unfold wrap64; omega
     have w2 : wrap64 (K i + 2 + 1) = K i + 3 := by have := Hx.out; unfold wrap64; omega
     have w3 : wrap64 (K i + 3 + 1) = K i + 4 := by have := Hx.out; unfold wrap64; omega
     have w4 : wrap64 (K i + 4 + 1) = K i + 5 := by have := Hx.out; unfold wrap64; omega
     have w5 : wrap64 (K i + 5 + 1) = K i + 6 := by have := Hx.out; unfold wrap64; omega
     have w6 : wrap64 (K i + 6 + 1) = K i + 7 := by have := Hx.out; unfold wrap64; omega
     have w7 : wrap64 (K i + 7 + 1) = K i + 8 := by have := Hx.out; unfold wrap64; omega
     have w8 : wrap64 (K i + 8 + 1) = K i + 9 := by have := Hx.out; unfold wrap64; omega
     have wi : wrap64 ((i : Int) + 1) = ((i + 1 : Nat) : Int) := by have := HL.out; unfold wrap64; omega
     obtain ⟨b0, b1, b2, b3, b4, b5, b6, b7, b8, b10, b11, hA⟩ := HM.out.at Hi.out (fun _ => False)
     have HA := Aside0.mk hA; clear hA; obtain ⟨y0, y1, y2, y3, y4, y5, y6, y7, y8, y9, y10, y11, z0, z1, z2, z3, z4, z5, z6, z7, z8, z9, z10, z11⟩ := HA.out.all; have T1 := Aside0.mk True.intro; clear c5
     go_wp2_with (first | (go_at_call 43; clear T1; (with_reducible refine (laws_markText.calls 11 (K i) (mt (K i)) _ (mk_all _ (by have := Hx.out; omega) (by have := Hx.out; omega))).mono ?_); rintro e w21 ⟨rfl, hb⟩; replace HA := Aside0.mk (At.below HA.out hb); clear y0 y1 y2 y3 y4 y5 y6 y7 y8 y9 y10 y11 z0 z1 z2 z3 z4 z5 z6 z7 z8 z9 z10 z11; obtain ⟨y0, y1, y2, y3, y4, y5, y6, y7, y8, y9, y10, y11, z0, z1, z2, z3, z4, z5, z6, z7, z8, z9, z10, z11⟩ := HA.out.all; clear hb; have T2 := Aside0.mk True.intro) | (go_at_call 43; clear T2; (with_reducible refine (laws_markText.calls 11 (K i + 3) (mt (K i + 3)) _ (mk_all _ (by have := Hx.out; omega) (by have := Hx.out; omega))).mono ?_); rintro e w22 ⟨rfl, hb⟩; replace HA := Aside0.mk (At.below (((HA.out.set 0 (by decide) (.string (mt (K i)))).set 1 (by decide) (.int .i64 (K i + 1))).set 2 (by decide) (.int .i64 (K i + 2))) hb); clear y0 y1 y2 y3 y4 y5 y6 y7 y8 y9 y10 y11 z0 z1 z2 z3 z4 z5 z6 z7 z8 z9 z10 z11; obtain ⟨y0, y1, y2, y3, y4, y5, y6, y7, y8, y9, y10, y11, z0, z1, z2, z3, z4, z5, z6, z7, z8, z9, z10, z11⟩ := HA.out.all; clear hb; have T3 := Aside0.mk True.intro) | (go_at_call 43; clear T3; (with_reducible refine (laws_markText.calls 11 (K i + 7) (mt (K i + 7)) _ (mk_all _ (by have := Hx.out; omega) (by have := Hx.out; omega))).mono ?_); rintro e w23 ⟨rfl, hb⟩; replace HA := Aside0.mk (At.below ((((HA.out.set 3 (by decide) (.string (mt (K i + 3)))).set 4 (by decide) (.int .i64 (K i + 4))).set 5 (by decide) (.int .i64 (K i + 5))).set 6 (by decide) (.int .i64 (K i + 6))) hb); clear y0 y1 y2 y3 y4 y5 y6 y7 y8 y9 y10 y11 z0 z1 z2 z3 z4 z5 z6 z7 z8 z9 z10 z11; obtain ⟨y0, y1, y2, y3, y4, y5, y6, y7, y8, y9, y10, y11, z0, z1, z2, z3, z4, z5, z6, z7, z8, z9, z10, z11⟩ := HA.out.all; clear hb; have T4 := Aside0.mk True.intro) | (go_at_call 44; clear T4; have HA9 := Aside0.mk (((HA.out.set 7 (by decide) (.string (mt (K i + 7)))).set 8 (by decide) (.int .i64 (K i + 8)))); (with_reducible refine (HI.out i Hi.out _ (K i + 9) ?hs ?hz ?h1 ?h2).mono ?_); (case hs => intro k a b; have hb_ := Hb.out i Hi.out; have hg_ := Hg.out; have hs_ := Hsz.out; have hk_ := HM.out.kept.1; exact (HA9.out.far k (by omega) (by omega) (fun h_ => h_)).trans ((HM.out.rest i (Nat.le_refl _) Hi.out k a b).trans (HW.out k (by omega) (by omega)))); (case hz => have hb_ := Hb.out i Hi.out; have hs_ := Hsz.out; have hk_ := HM.out.kept.1; exact Nat.le_trans (show E i ≤ wr.heap.size by omega) HA9.out.low.size); (case h1 => have := Hx.out; omega); (case h2 => have := Hx.out; omega); rintro e w24 ⟨r9, rfl, g1, g2, hh, hk, hl⟩; have HR := Aside0.mk (show K i + 9 ≤ r9 ∧ r9 ≤ K i + 9 + 3 * szL (l[i]'Hi.out).f6.f3 from ⟨g1, g2⟩); have HH := Aside0.mk hh; replace HA := Aside0.mk (At.kept HA9.out hk (by have hb_ := Hb.out i Hi.out; omega) hl); have HX8 := Aside0.mk (show wr.heap.size ≤ w24.heap.size from HA.out.low.size); clear g1 g2 hh hk hl HA9 y0 y1 y2 y3 y4 y5 y6 y7 y8 y9 y10 y11 z0 z1 z2 z3 z4 z5 z6 z7 z8 z9 z10 z11; obtain ⟨y0, y1, y2, y3, y4, y5, y6, y7, y8, y9, y10, y11, z0, z1, z2, z3, z4, z5, z6, z7, z8, z9, z10, z11⟩ := HA.out.all; have u0 : wrap64 (r9 + 1) = r9 + 1 := (by have := Hx.out; have := HR.out; unfold wrap64; omega); have u1 : wrap64 (r9 + 1 + 1) = r9 + 2 := (by have := Hx.out; have := HR.out; unfold wrap64; omega); have T5 := Aside0.mk True.intro) | (go_at_call 43; clear T5; (with_reducible refine (laws_markText.calls 11 (r9 + 1) (mt (r9 + 1)) _ (mk_all _ (by have := Hx.out; have := HR.out; omega) (by have := Hx.out; have := HR.out; omega))).mono ?_); rintro e w25 ⟨rfl, hb⟩; replace HA := Aside0.mk (At.below (HA.out.set 10 (by decide) (.int .i64 r9)) hb); clear y0 y1 y2 y3 y4 y5 y6 y7 y8 y9 y10 y11 z0 z1 z2 z3 z4 z5 z6 z7 z8 z9 z10 z11; obtain ⟨y0, y1, y2, y3, y4, y5, y6, y7, y8, y9, y10, y11, z0, z1, z2, z3, z4, z5, z6, z7, z8, z9, z10, z11⟩ := HA.out.all; replace HH := Aside0.mk (HH.out.kept (fun k_ a_ b_ => by have hb_ := Hb.out i Hi.out; have hz_ := Hsz.out; have hy_ := HX9.out; have hx_ := HX8.out; rw [hb.block k_ (by rw [World.size_setCell]; omega)]; exact Below.heap_setCell _ ⟨g, i * 12 + 10, none⟩ _ k_ (show k_ ≠ g from by omega))); clear hb; have T6 := Aside0.mk True.intro))
     have HM2 := Aside0.mk (HM.out.step Hi.out Hg.out.1 Hg.out.2 Hb.out Hd.out Hsz.out r9 HR.out.1 (HA.out.set 11 (by decide) (.string (mt (r9 + 1)))) (HH.out.kept (fun k_ a_ b_ => Below.heap_setCell _ ⟨g, i * 12 + 11, none⟩ _ k_ (show k_ ≠ g from by have hb_ := Hb.out i Hi.out; omega))))
     go_roundg (gk - 1)
     case measure => clear w0 w1 w2 w3 w4 w5 w6 w7 w8 wi u0 u1; have := HK.out; have := Hi.out; omega
     case rel => exact ⟨i + 1, _, by simp only [Nat.not_succ_le_self, if_false, u1], by rw [wi], ⟨by clear w0 w1 w2 w3 w4 w5 w6 w7 w8 wi u0 u1; have := HK.out; have := Hi.out; omega⟩, ⟨by clear w0 w1 w2 w3 w4 w5 w6 w7 w8 wi u0 u1; have := Hi.out; omega⟩, ⟨by simp only [Nat.zero_le, if_true]; exact HK0.out⟩, ⟨by simp only [Nat.not_succ_le_self, if_false]; clear w0 w1 w2 w3 w4 w5 w6 w7 w8 wi u0 u1; have h1 := HX.out; have h2 := Hn.out; have h3 := HR.out; omega⟩, HM2⟩
   · have c6 : decide ((i : Int) < (l.length : Int)) = false := decide_eq_false (by omega)
     have c7 : ((i : Int) < (l.length : Int)) = False := eq_false (by omega)
     have hil : i = l.length := by have := HI1.out; omega
     subst hil
     go_wp2
     go_ret
     refine ⟨K l.length, rfl, HX.out.1, by have := HX.out.2; rw [List.take_length] at this; exact this, ?_, HM.out.kept, HM.out.low⟩
     obtain ⟨c', p1, p2, _⟩ := HM.out.blk; rw [← HK0.out]
     exact .row g c l.length c' V B E K Hp.out Hg.out.1 Hg.out.2 p1 p2 (fun j hj => by have := Hb.out j hj; omega) (fun j hj => (HM.out.held j hj).2) (fun j hj => (HM.out.held j hj).1)
end Go.Proofs.YtckopglnblcnoaaGreatDoor.Own
