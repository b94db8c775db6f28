/- A row of clauses without one of them: what slices.Delete leaves. No condition. -/
import Derived.Test.YtckopglnblcnoaaGreatDoorOwnK
namespace Go.Proofs.YtckopglnblcnoaaGreatDoor.Own
open Go.RowKit Go.Proofs.YtckopglnblcnoaaGreatDoor.QFnExactRemoveClause Go.Proofs.YtckopglnblcnoaaGreatDoorW.PrintWords Go.Proofs.YtckopglnblcnoaaGreatDoorW.PrintLast
set_option linter.unusedVariables false
set_option linter.unusedSimpArgs false
theorem setCells_blk {g : Nat} {t : TypeId} : ∀ (vs : List Value) (o : Nat) (W : World) (cur : Array Value), W.heap[g]? = some (.cells cur t (0, 0)) → o + vs.length ≤ cur.size → ∃ cur', (W.setCells g o vs).heap[g]? = some (.cells cur' t (0, 0)) ∧ cur'.size = cur.size ∧ ∀ p, cur'[p]? = if o ≤ p ∧ p < o + vs.length then vs[p - o]? else cur[p]?
 | [], o, W, cur, h, _ => ⟨cur, h, rfl, fun p => by rw [if_neg (by simp only [List.length_nil]; omega)]⟩
 | v :: vs, o, W, cur, h, hl => by
  simp only [List.length_cons] at hl
  obtain ⟨c, h1, h2, h3⟩ := setCells_blk vs (o + 1) _ _ (blk_set h o v) (by simp; omega)
  refine ⟨c, h1, by rw [h2]; simp, fun p => ?_⟩
  rw [h3]
  simp only [List.length_cons]
  by_cases e : p = o
  · subst e
    rw [if_neg (by omega), if_pos (by omega), Nat.sub_self]
    have : p < cur.size := by omega
    simp [this]
  · by_cases h4 : o + 1 ≤ p ∧ p < o + 1 + vs.length
    · rw [if_pos h4, if_pos (by omega)]
      obtain ⟨m, hm⟩ : ∃ m, p - o = m + 1 := ⟨p - o - 1, by omega⟩
      rw [hm, List.getElem?_cons_succ]
      congr 1; omega
    · rw [if_neg h4, if_neg (by omega), Array.getElem?_setIfInBounds_ne (fun e' => e e'.symm)]
theorem setCells_far {g : Nat} : ∀ (vs : List Value) (o : Nat) (W : World) (k : Nat), k ≠ g → (W.setCells g o vs).heap[k]? = W.heap[k]?
 | [], _, _, _, _ => rfl
 | v :: vs, o, W, k, h => (setCells_far vs (o + 1) _ k h).trans (Below.heap_setCell W ⟨g, o, none⟩ v k h)
theorem setCells_size {g : Nat} : ∀ (vs : List Value) (o : Nat) (W : World), (W.setCells g o vs).heap.size = W.heap.size
 | [], _, _ => rfl
 | v :: vs, o, W => (setCells_size vs (o + 1) _).trans (World.size_setCell ..)
theorem setCells_below {g b : Nat} {w : World} (hg : b ≤ g) : ∀ (vs : List Value) (o : Nat) (W : World), Below b w W → Below b w (W.setCells g o vs)
 | [], _, _, h => h
 | v :: vs, o, W, h => setCells_below hg vs (o + 1) _ (h.setCell (p := ⟨g, o, none⟩) hg v)
/-- What is asked of a row for a cut: its block, its cells, and what a cut of them is. -/
theorem SepR.cut {w : World} {lo hi : Nat} {v : Value} {l : List S51} (h : SepR w lo hi v l) (hn : 2 ≤ l.length) (i : Nat) (hi' : i < l.length) :
 ∃ (g c : Nat) (cur : Array Value), v = .slice (some ⟨g, 0, none⟩) l.length c ∧ lo ≤ g ∧ g < hi ∧ w.heap[g]? = some (.cells cur 51 (0, 0)) ∧ l.length * 12 ≤ cur.size ∧ l.length ≤ c ∧ c ≤ 9223372036854775807 ∧ (∀ p u, p < l.length * 12 → cur[p]? = some u → u.oneCell' = true) ∧
  ∀ (W : World) (cur' : Array Value), W.heap[g]? = some (.cells cur' 51 (0, 0)) → (∀ k, lo ≤ k → k < hi → k ≠ g → W.heap[k]? = w.heap[k]?) → (∀ p, p < (l.length - 1) * 12 → cur'[p]? = if p < i * 12 then cur[p]? else cur[p + 12]?) → SepR W lo hi (.slice (some ⟨g, 0, none⟩) (l.length - 1) c) (l.eraseIdx i) := by
 cases h with
 | nil h A c => simp at hn
 | row g c l cur V B E hp h0 h1 ht hc hm hf hb hd hr =>
  have hlen : (l.eraseIdx i).length = l.length - 1 := List.length_eraseIdx_of_lt hi'
  refine ⟨g, c, cur, rfl, h0, h1, ht, ?_, hc, hm, fun p u hp' hu => ?_, fun W cur' hW hk hcut => ?_⟩
  · have := hf (l.length - 1) (by omega) 11 (by omega)
    have h2 := (Array.getElem?_eq_some_iff.1 this).1
    omega
  · have hq := hf (p / 12) (by omega) (p % 12) (Nat.mod_lt _ (by omega))
    rw [show p / 12 * 12 + p % 12 = p by omega, hu] at hq
    obtain ⟨A9, c9, e, _⟩ := (hr (p / 12) (by omega)).C
    rw [e] at hq
    have hmem := List.mem_of_getElem? hq.symm
    simp only [List.mem_cons, List.not_mem_nil, or_false] at hmem
    rcases hmem with rfl | rfl | rfl | rfl | rfl | rfl | rfl | rfl | rfl | rfl | rfl | rfl <;> rfl
  · rw [← hlen]
    have hget : ∀ j (hj : j < (l.eraseIdx i).length), (l.eraseIdx i)[j] = if h : j < i then l[j]'(by omega) else l[j + 1]'(by omega) := fun j hj => List.getElem_eraseIdx ..
    refine .row g c (l.eraseIdx i) cur' (fun j => if j < i then V j else V (j + 1)) (fun j => if j < i then B j else B (j + 1)) (fun j => if j < i then E j else E (j + 1)) (by omega) h0 h1 hW (by omega) hm (fun j hj q hq => ?_) (fun j hj => ?_) (fun a b hab hb' => ?_) (fun j hj => ?_)
    · rw [hcut _ (by omega), hget j hj]
      by_cases e : j < i
      · simp only [e, dite_true, if_true]
        rw [if_pos (by omega)]
        exact hf j (by omega) q hq
      · simp only [e, dite_false, if_false]
        rw [if_neg (by omega), show j * 12 + q + 12 = (j + 1) * 12 + q by omega]
        exact hf (j + 1) (by omega) q hq
    · by_cases e : j < i
      · simp only [e, if_true]; exact hb j (by omega)
      · simp only [e, if_false]; exact hb (j + 1) (by omega)
    · by_cases e : a < i <;> by_cases e2 : b < i
      · simp only [e, e2, if_true]; exact hd a b hab (by omega)
      · simp only [e, e2, if_true, if_false]; exact hd a (b + 1) (by omega) (by omega)
      · omega
      · simp only [e, e2, if_false]; exact hd (a + 1) (b + 1) (by omega) (by omega)
    · rw [hget j hj]
      by_cases e : j < i
      · simp only [e, dite_true, if_true]
        have hbj := hb j (by omega)
        exact (hr j (by omega)).kept (fun k a b => hk k (by omega) (by omega) (by omega))
      · simp only [e, dite_false, if_false]
        have hbj := hb (j + 1) (by omega)
        exact (hr (j + 1) (by omega)).kept (fun k a b => hk k (by omega) (by omega) (by omega))
/-- What clear leaves of one element of twelve cells. -/
def zcl : List Value := [.string ⟨#[]⟩, .int .i64 0, .int .i64 0, .string ⟨#[]⟩, .int .i64 0, .int .i64 0, .int .i64 0, .string ⟨#[]⟩, .int .i64 0, .slice none 0 0, .int .i64 0, .string ⟨#[]⟩]
theorem run_clear_clause (w : World) (ty : TypeId) (b q c : Nat) (hc : ∀ j, j < 12 → (w.cell? ⟨b, q + j, none⟩).isSome = true) (hf : ∀ j, j < 12 → w.frozen? ⟨b, q + j, none⟩ = false) :
 (Builtin.clear_ #[27] ty #[.slice (some ⟨b, q, none⟩) 1 c]).run Tryz.prog w = .ok (.tuple #[]) (w.setCells b q zcl) := by
 obtain ⟨i0, hi, hzz⟩ := Option.map_eq_some_iff.1 info51
 simp only [Prod.mk.injEq] at hzz
 have hv : ∀ w, (zeroValue 51).run Tryz.prog w = .ok (.agg #[.string ⟨#[]⟩, .int .i64 0, .int .i64 0, .string ⟨#[]⟩, .int .i64 0, .int .i64 0, .int .i64 0, .string ⟨#[]⟩, .int .i64 0, .slice none 0 0, .int .i64 0, .string ⟨#[]⟩]) w := fun w => by simp [zeroValue, typeInfo, hi, hzz.1]
 have hzc : (Builtin.zeroCells (Value.agg #[.string ⟨#[]⟩, .int .i64 0, .int .i64 0, .string ⟨#[]⟩, .int .i64 0, .int .i64 0, .int .i64 0, .string ⟨#[]⟩, .int .i64 0, .slice none 0 0, .int .i64 0, .string ⟨#[]⟩]).cells 1).toList = zcl := by kernel_rfl
 have hst := run_storeCells_cells (P := Tryz.prog) b q zcl 0 w (by intro j hj; rw [Nat.add_zero]; exact hc j hj) (by intro j hj; rw [Nat.add_zero]; exact hf j hj) (by intro v hv'; simp only [zcl, List.mem_cons, List.not_mem_nil, or_false] at hv'; rcases hv' with rfl | rfl | rfl | rfl | rfl | rfl | rfl | rfl | rfl | rfl | rfl | rfl <;> rfl)
 simp only [Nat.add_zero] at hst
 simp [Builtin.clear_, run_underlying Tryz.underlying27, hv, hzc, hst]
def dl_T : Bool × List (List Nat × List Nat) := (true, [([], []), ([], []), ([0, 1], [0, 1]), ([], []), ([], []), ([3, 4], [3, 4]), ([2, 5], [2, 5]), ([6, 6, 0, 1, 2, 3, 4, 5, 6], [0, 3, 6])])
def dl_B : List Nat := [0, 0, 3, 0, 0, 24, 63, 127]
theorem dl_tab : rtab .any (opsOf Tryz.f22 5) = dl_T := by kernel_rfl
theorem dl_bits : waitsOk dl_T.2 dl_B = true := by kernel_rfl
/-- What the walk leaves of the block. -/
structure Cut (W W' : World) (g n i : Nat) (cur : Array Value) : Prop where
 blk : ∃ cur', W'.heap[g]? = some (.cells cur' 51 (0, 0)) ∧ ∀ p, p < (n - 1) * 12 → cur'[p]? = if p < i * 12 then cur[p]? else cur[p + 12]?
 far : ∀ k, k ≠ g → W'.heap[k]? = W.heap[k]?
 size : W'.heap.size = W.heap.size
 low : ∀ (b : Nat) (w0 : World), Below b w0 W → b ≤ g → Below b w0 W'
theorem cut_of {W : World} {g n i : Nat} {cur : Array Value} (hg : W.heap[g]? = some (.cells cur 51 (0, 0))) (hi : i < n) (hsz : n * 12 ≤ cur.size) (news : List Value) (hn : news = (cur.toList.take (n * 12)).drop ((i + 1) * 12)) (a b : Nat) (ha : a = i * 12) (hb : b = (n - 1) * 12) (zs : List Value) (hz : zs.length = 12) : Cut W ((W.drew.setCells g a news).setCells g b zs) g n i cur := by
 subst ha hb
 have hl : news.length = (n - 1 - i) * 12 := by rw [hn, List.length_drop, List.length_take, Array.length_toList]; omega
 have hg' : W.drew.heap[g]? = some (.cells cur 51 (0, 0)) := hg
 obtain ⟨c1, h1, s1, e1⟩ := setCells_blk news (i * 12) _ cur hg' (by omega)
 obtain ⟨c2, h2, s2, e2⟩ := setCells_blk zs ((n - 1) * 12) _ c1 h1 (by omega)
 refine ⟨⟨c2, h2, fun p hp => ?_⟩, fun k hk => ?_, ?_, fun b w0 hB hbg => setCells_below hbg _ _ _ (setCells_below hbg _ _ _ (below_drew1 hB))⟩
 · rw [e2, if_neg (by omega), e1]
   by_cases h : p < i * 12
   · rw [if_neg (by omega), if_pos h]
   · rw [if_pos (by omega), if_neg h, hn, List.getElem?_drop, List.getElem?_take_of_lt (by omega), Array.getElem?_toList]
     congr 1; omega
 · exact (setCells_far _ _ _ k hk).trans (setCells_far _ _ _ k hk)
 · exact (setCells_size ..).trans (setCells_size ..)
set_option maxHeartbeats 8000000 in
set_option maxRecDepth 100000 in
theorem del_calls (g cap n i j : Nat) (hj : j = i + 1) (cur : Array Value) (W : World) (hg : W.heap[g]? = some (.cells cur 51 (0, 0))) (hn : 2 ≤ n) (hi : i < n) (hsz : n * 12 ≤ cur.size) (hcap : n ≤ cap) (hm : cap ≤ 9223372036854775807) (h1 : ∀ p u, p < n * 12 → cur[p]? = some u → u.oneCell' = true) :
 Calls Tryz.prog 22 #[.slice (some ⟨g, 0, none⟩) n cap, .int .i64 i, .int .i64 j] W fun e W' => e = .returned (.slice (some ⟨g, 0, none⟩) (n - 1) cap) ∧ Cut W W' g n i cur := by
 obtain ⟨i0, hi0, hzz⟩ := Option.map_eq_some_iff.1 info51
 simp only [Prod.mk.injEq] at hzz
 obtain ⟨news, hnews⟩ : ∃ news, news = (cur.toList.take (n * 12)).drop ((i + 1) * 12) := ⟨_, rfl⟩
 have hlen : news.length = (n - j) * 12 := by rw [hnews, List.length_drop, List.length_take, Array.length_toList]; omega
 have hget : ∀ t u, news[t]? = some u → t < (n - j) * 12 ∧ cur[j * 12 + t]? = some u := by
  intro t u hu
  have ht : t < (n - j) * 12 := by have := (List.getElem?_eq_some_iff.1 hu).1; omega
  refine ⟨ht, ?_⟩
  rw [hnews, List.getElem?_drop, List.getElem?_take_of_lt (by omega), Array.getElem?_toList] at hu
  rw [← hu]; congr 1; omega
 have hcell : ∀ p, W.drew.cell? ⟨g, p, none⟩ = cur[p]? := fun p => blk_cell (show W.drew.heap[g]? = _ from hg) p
 obtain ⟨A, hA, hsrc⟩ : ∃ A : Addr, (if cap = j then (some ⟨g, 0, none⟩ : Option Addr) else some ⟨g, j * 12, none⟩) = some A ∧ Aside0 (∀ t u, news[t]? = some u → W.drew.cell? (A.add t) = some u) := by
  by_cases h : cap = j
  · refine ⟨⟨g, 0, none⟩, by simp [h], ⟨fun t u hu => ?_⟩⟩
    have := (hget t u hu).1; omega
  · refine ⟨⟨g, j * 12, none⟩, by simp [h], ⟨fun t u hu => ?_⟩⟩
    rw [Addr.add_lit, hcell]
    exact (hget t u hu).2
 have s1 : Aside0 (news.length = (n - j) * 12) := ⟨hlen⟩
 have s2 : Aside0 (∀ u ∈ news, u.oneCell' = true) := ⟨fun u hu => by
  obtain ⟨t, ht, rfl⟩ := List.mem_iff_getElem.1 hu
  have h := hget t _ (List.getElem?_eq_getElem ht)
  exact h1 _ _ (by omega) h.2⟩
 have s3 : Aside0 (∀ t, t < news.length → (W.drew.cell? ⟨g, 0 + i * 12 + t, none⟩).isSome = true ∧ W.drew.frozen? ⟨g, 0 + i * 12 + t, none⟩ = false) := ⟨fun t ht => by
  refine ⟨?_, blk_frozen (show W.drew.heap[g]? = _ from hg) _⟩
  rw [hcell, Array.getElem?_eq_getElem (by omega)]; rfl⟩
 obtain ⟨W1, hW1⟩ : ∃ W1, W1 = W.drew.setCells g (0 + i * 12) news := ⟨_, rfl⟩
 obtain ⟨c1, hc1, hs1, _⟩ := setCells_blk news (0 + i * 12) W.drew cur (show W.drew.heap[g]? = _ from hg) (by omega)
 rw [← hW1] at hc1
 have hcl : ∀ ty, (Builtin.clear_ #[27] ty #[.slice (some ⟨g, (n - 1) * 12, none⟩) 1 (cap - (n - 1))]).run Tryz.prog W1 = .ok (.tuple #[]) (W1.setCells g ((n - 1) * 12) zcl) := fun ty => run_clear_clause W1 ty g ((n - 1) * 12) _ (fun q hq => by rw [blk_cell hc1, Array.getElem?_eq_getElem (by omega)]; rfl) (fun q hq => blk_frozen hc1 _)
 have HC : Aside0 (Cut W (W1.setCells g ((n - 1) * 12) zcl) g n i cur) := ⟨by rw [hW1]; exact cut_of hg hi hsz news hnews _ _ (by omega) rfl zcl rfl⟩
 have hW := Aside0.mk hW1
 have I0 := Aside0.mk (And.intro hi0 hzz.2.1)
 have hlt : i < j := by omega
 have hij : i ≤ j := by omega
 have hj2 : j ≤ n := by omega
 have hic : i ≤ cap := by omega
 have hjc : j ≤ cap := by omega
 have hic2 : i ≤ n := by omega
 have hne : ((i : Int) = (j : Int)) = False := eq_false (by omega)
 have hne2 : decide ((i : Int) = (j : Int)) = false := decide_eq_false (by omega)
 have hnj : i + (n - j) = n - 1 := by omega
 have hn1 : n - 1 ≤ n := by omega
 have hn2 : n - 1 ≤ cap := by omega
 have hn3 : n - (n - 1) = 1 := by omega
 have HN := Aside0.mk (And.intro hn (And.intro hi (And.intro hj (And.intro hm hcap))))
 clear hg hsz h1 hi0 hzz hnews hlen hget hcell hW1 hc1 hs1 hn hi hj
 go_enter Tryz.func22, Tryz.ntmps22
 go_upto_region 5 with (fail)
 (try simp only [Own.ps])
 refine start_ (n := 8) (S := fun _ => True) (ds := []) (Own.fl 8 0) (by kernel_rfl) rfl rfl trivial (fun hHeld => ?_); refine with_tabW dl_tab dl_bits (fun HT_ HW_ => ?_)
 refine pure_ (i := 0) (N := some 20) (v := ?_) (a' := ?_) (Own.fl 8 1) rfl rfl (any_of HT_.out (by kernel_rfl)) (fun _ _ _ h => h) (Or.inl ⟨by rfl, ?_⟩) ?_ ?_; rotate_left; intro w'; go_simp; with_reducible rfl; rotate_left; simp only [Own.ps]; rfl
 refine pure_ (i := 1) (N := some 21) (v := ?_) (a' := ?_) (Own.fl 8 3) rfl rfl (any_of HT_.out (by kernel_rfl)) (fun _ _ _ h => h) (Or.inl ⟨by rfl, ?_⟩) ?_ ?_; rotate_left; intro w'; go_simp; with_reducible rfl; rotate_left; simp only [Own.ps]; rfl
 refine pure_ (i := 2) (N := some 22) (v := ?_) (a' := ?_) (Own.fl 8 7) rfl rfl (any_of HT_.out (by kernel_rfl)) (fun _ _ _ h => h) (Or.inl ⟨by rfl, ?_⟩) ?_ ?_; rotate_left; intro w'; go_simp; with_reducible rfl; rotate_left; simp only [Own.ps]; rfl
 refine pure_ (i := 3) (N := some 23) (v := ?_) (a' := ?_) (Own.fl 8 15) rfl rfl (any_of HT_.out (by kernel_rfl)) (fun _ _ _ h => h) (Or.inl ⟨by rfl, ?_⟩) ?_ ?_; rotate_left; intro w'; go_simp; with_reducible rfl; rotate_left; simp only [Own.ps]; rfl
 refine pure_ (i := 4) (N := some 24) (v := ?_) (a' := ?_) (Own.fl 8 31) rfl rfl (any_of HT_.out (by kernel_rfl)) (fun _ _ _ h => h) (Or.inl ⟨by rfl, ?_⟩) ?_ ?_; rotate_left; intro w'; go_simp; with_reducible rfl; rotate_left; simp only [Own.ps]; rfl
 refine pure_ (i := 5) (N := some 25) (v := ?_) (a' := ?_) (Own.fl 8 63) rfl rfl (any_of HT_.out (by kernel_rfl)) (fun _ _ _ h => h) (Or.inl ⟨by rfl, ?_⟩) ?_ ?_; rotate_left; intro w'; go_simp; with_reducible rfl; rotate_left; simp only [Own.ps]; rfl
 refine one_ (i := 6) (N := some 26) (Own.fl 8 127) rfl rfl (one_of HT_.out (by kernel_rfl)) (by decide) (fun K hK => ?_)
 refine step_append_room rfl (.tmp 22) (.tmp 25) 27 rfl 51 i0 12 Tryz.underlying27 I0.out.1 I0.out.2 g 0 i cap (by simp [Act.eval, Act.put]) A (n - j) (cap - j) news (by simp [Act.eval, Act.put]) s1.out hsrc.out s2.out (by omega) s3.out ?_
 rw [← hW.out, hnj]
 refine hK.out _ _ trivial (fun hHeld => ?_)
 clear hK K; refine norm_ (a' := ?_) ?_ ?_; rotate_left; show Act.put _ (some 26) _ = _; simp only [Own.ps]; rfl
 refine pure_ (i := 7) (N := some 0) (v := ?_) (a' := ?_) (Own.fl 8 255) rfl rfl (any_of HT_.out (by kernel_rfl)) (fun _ _ _ h => h) (Or.inl ⟨by rfl, ?_⟩) ?_ ?_; rotate_left; intro w'; go_simp; with_reducible rfl; rotate_left; simp only [Own.ps]; rfl
 refine done_ (done_of HT_.out (by kernel_rfl)) ?_
 go_wp2
 go_ret
 exact ⟨Own.rr, HC.out⟩
end Go.Proofs.YtckopglnblcnoaaGreatDoor.Own
