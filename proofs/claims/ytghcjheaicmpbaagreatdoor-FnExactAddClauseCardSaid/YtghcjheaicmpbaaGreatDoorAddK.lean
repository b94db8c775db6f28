/- impl.AddClause: the contract with one more clause, copied; each block in a place of its own. No condition. -/
import Derived.Test.YtghcjheaicmpbaaGreatDoorOwnK
import Derived.Test.YtghcjheaicmpbaaGreatDoorQFnExactAddClausex14
namespace Go.Proofs.YtghcjheaicmpbaaGreatDoor.Own
open Go.RowKit Go.Proofs.YtghcjheaicmpbaaGreatDoor.QFnExactAddClause Go.Proofs.YtghcjheaicmpbaaGreatDoorW.PrintWords Go.Proofs.YtghcjheaicmpbaaGreatDoorW.PrintLast
set_option linter.unusedVariables false
set_option linter.unusedSimpArgs false
section
variable {P : Program} {ops : Array Oper} {o : Oper} {a : Act} {Q : Exit → Act → World → Prop} {K : Act → World → Prop}
/-- One more element, its cells read anywhere; one step of a region that draws. -/
theorem more_step {W : World} (base : Nat) (hw : Region.wanted o (yielded ops a.tmps) = true) (s x : Operand) (t e : TypeId) (z : Value) (size bytes : Nat)
 (ho : o.op = .call { callee := .builtin .append, args := #[s, x], argTypes := #[t, t] })
 (ht : P.underlying t = some (.slice e)) (hinfo : (P.info? e).map (fun i => (i.zero, i.size, i.bytes)) = some (some z, size, bytes)) (hz : z.cells.size = size) (hs0 : 0 < size) (hb0 : 0 < bytes)
 (v : Value) (n : Nat) (xs ys : List Value) (q : Nat) (hs : a.eval s = v) (hx : a.eval x = .slice (some ⟨q, 0, none⟩) 1 1) (hys : ys.length = size) (hq : W.heap[q]? = some (.cells ys.toArray e (0, 0))) (h1 : ∀ u ∈ ys, u.oneCell' = true)
 (HO : W.ownsRow base e size v n xs) (hbase : base ≤ W.heap.size) (hl : (n + 1) * bytes ≤ 140737488355328)
 (h : ∀ v1 w1, w1.ownsRow base e size v1 (n + 1) (xs ++ ys) → W.grownBy w1 v.ownBlock → K (a.put o.dst v1) w1) :
 if Region.wanted o (yielded ops a.tmps) = true then Oper.wp P o a W K Q else K (a.put o.dst undef) W := by
 obtain ⟨i0, hi, hzz⟩ := Option.map_eq_some_iff.1 hinfo
 simp only [Prod.mk.injEq] at hzz
 obtain ⟨hz0, hz1, hz2⟩ := hzz
 have hlen : n + 1 ≤ 140737488355328 := Nat.le_trans (Nat.le_mul_of_pos_right _ hb0) hl
 rw [if_pos hw]
 obtain ⟨v1, w1, hr, hown, hg, _, _⟩ := run_append_own_at (P := P) W base t o.type e i0 z size bytes ht hi hz0 hz1 hz2 hz hs0 v n xs HO ⟨q, 0, none⟩ 1 1 ys (by rw [hys]; simp)
  (fun j u hu => by rw [Addr.add_lit, Nat.zero_add, blk_cell hq]; simpa using hu) h1 (by simp only [maxLen]; omega) hl hbase
 unfold Oper.wp execOp
 simp only [ho, resolve, invoke, builtin, Sem.run_bind, Sem.run_pure, Result.andThen_ok, List.map_toArray, List.map_cons, List.map_nil, hs, hx, hr]
 exact h v1 w1 hown hg
theorem lit_step {W : World} (hw : Region.wanted o (yielded ops a.tmps) = true) {N : Tmp} (_hd : o.dst = some N) {cs : Array Value} {t : TypeId}
 (hrun : (execOp a.eval o).run P W = .ok (.value (.slice (some ⟨W.heap.size, 0, none⟩) 1 1)) (W.alloc (.cells cs t (0, 0))))
 (h : ∀ g, g = W.heap.size → ∀ w1, w1.heap[g]? = some (.cells cs t (0, 0)) → Below W.heap.size W w1 → K (a.put o.dst (.slice (some ⟨g, 0, none⟩) 1 1)) w1) : if Region.wanted o (yielded ops a.tmps) = true then Oper.wp P o a W K Q else K (a.put o.dst undef) W :=
 event_step hw hrun (h _ rfl _ (blk_new W _) (below_alloc (Below.refl _ _) _))
end
/-- A row of clauses of the call's own, its cells and what they say. -/
structure FC (w0 W : World) (v : Value) (l : List S43) (cs : List Value) : Prop where
 own : W.ownsRow w0.heap.size 43 12 v l.length cs
 rep : Reps (k43.K w0) 12 l cs
 low : Below w0.heap.size w0 W
theorem FC.below {w0 W W1 : World} {v : Value} {l : List S43} {cs : List Value} (h : FC w0 W v l cs) (hb : Below W.heap.size W W1) : FC w0 W1 v l cs :=
 ⟨own_move h.own (fun k hk => hb.block k (own_lt h.own k hk)), h.rep, below_step h.low hb⟩
theorem FC.C {w0 W : World} {v : Value} {l : List S43} {cs : List Value} (h : FC w0 W v l cs) : ∃ A c, v = .slice A l.length c ∧ l.length ≤ c ∧ Kd.C k43 W A l.length l := OwnRow.reads (R := k43.K W) ⟨cs, h.own, h.rep.imp_ (fun _ _ hp => k43.K_below h.low hp)⟩
theorem FC.C' {w0 W : World} {A : Option Addr} {n c : Nat} {l : List S43} {cs : List Value} (h : FC w0 W (.slice A n c) l cs) : l.length ≤ c ∧ Kd.C k43 W A l.length l := by
 obtain ⟨A', c', e, h1, h2⟩ := h.C
 injection e with e1 e2 e3
 subst e1 e3
 exact ⟨h1, h2⟩
theorem FC.set {w0 W : World} {v : Value} {l : List S43} {cs : List Value} {g : Nat} (h : FC w0 W v l cs) (hne : some g ≠ v.ownBlock) (hg : w0.heap.size ≤ g) (a b : Value) : FC w0 ((W.setCell ⟨g, 0, none⟩ a).setCell ⟨g, 1, none⟩ b) v l cs :=
 ⟨own_move h.own (fun k hk => by
  have hk' : k ≠ g := fun e => hne (by rw [← e, hk])
  rw [Below.heap_setCell _ ⟨g, 1, none⟩ _ k hk', Below.heap_setCell _ ⟨g, 0, none⟩ _ k hk']), h.rep, below_set (below_set h.low hg) hg⟩
theorem FC.far {w0 : World} {g : Nat} {W : World} {v : Value} {l : List S43} {cs : List Value} {ys : Array Value} (h : FC w0 W v l cs) (hg : W.heap[g]? = some (.cells ys 35 (0, 0))) : some g ≠ v.ownBlock := fun e => by
 obtain ⟨c, hc⟩ := own_typed h.own g e.symm; rw [hc] at hg
 injection hg with hg
 injection hg with _ hg
 exact absurd hg (by decide)
theorem FC.more {w0 W W1 : World} {v v1 : Value} {l L : List S43} {cs ys : List Value} {x : S43} (e : l ++ [x] = L) (h : FC w0 W v l cs) (ho : W1.ownsRow w0.heap.size 43 12 v1 (l.length + 1) (cs ++ ys)) (hg : W.grownBy W1 v.ownBlock) (hx : k43.K w0 x ys) (hl : ys.length = 12) : FC w0 W1 v1 L (cs ++ ys) := e ▸
 ⟨by rw [List.length_append]; exact ho, h.rep.snoc hx hl, h.low.grown hg h.low.size (own_base h.own)⟩
def ad_T : Bool × List (List Nat × List Nat) := (true, [([], []), ([0], [0]), ([], []), ([2], [2]), ([3], [3]), ([], []), ([5], [5]), ([4, 6, 4], [4, 6]), ([1, 7], [1, 7]), ([], []), ([9, 8, 7, 0, 1, 2, 3, 4, 5, 6, 7, 8, 9], [8, 9])])
def ad_B : List Nat := [0, 1, 0, 4, 12, 0, 32, 124, 255, 0, 1023]
theorem ad_tab : rtab .any (opsOf Tryz.f9 3) = ad_T := by kernel_rfl
theorem ad_bits : waitsOk ad_T.2 ad_B = true := by kernel_rfl
def impl_Add.f (k : Nat) (p : List ByteArray) (l : List S43) (x : S43) : Option ((List ByteArray × List S43) × Bool) :=
 (impl_IsValidContract.f k p l).bind fun b1 => if b1 = true then (impl_IsValidContract.f k p (l ++ [x])).bind fun b2 => if b2 = true then some ((p, l ++ [x]), true) else some (([], []), false) else some (([], []), false)
def Add2 (w w' : World) (e : Ending) (g0 : List ByteArray) (g1 : List S43) (b : Bool) : Prop := ∃ (v0 v1 : Value) (M : Nat), e = .returned (.tuple #[.agg #[v0, v1], .bool b]) ∧ SepS w' w.heap.size M v0 g0 ∧ SepR w' M w'.heap.size v1 g1 ∧ w.heap.size ≤ M ∧ M ≤ w'.heap.size ∧ Below w.heap.size w w'
theorem add2_nil {w W : World} (h : Below w.heap.size w W) {g : Nat} (hg : w.heap.size ≤ g) : Add2 w ((W.setCell ⟨g, 0, none⟩ (.slice none 0 0)).setCell ⟨g, 1, none⟩ (.slice none 0 0)) (.returned (.tuple #[.agg #[.slice none 0 0, .slice none 0 0], .bool false])) [] [] false :=
 ⟨_, _, w.heap.size, rfl, .nil (Nat.le_refl _) _ _, .nil (by rw [World.size_setCell, World.size_setCell]; exact h.size) _ _, Nat.le_refl _, by rw [World.size_setCell, World.size_setCell]; exact h.size, below_set (below_set h hg) hg⟩
theorem add2_put {w W : World} {s M g : Nat} {v0 v1 : Value} {l0 : List ByteArray} {l1 : List S43} (h : Below w.heap.size w W) (hg : w.heap.size ≤ g) (hs0 : SepS W s M v0 l0) (hs1 : SepR W M W.heap.size v1 l1) (hm0 : s ≤ M) (hm1 : M ≤ W.heap.size) (hs : w.heap.size ≤ s) (hl : g < s) : Add2 w ((W.setCell ⟨g, 0, none⟩ v0).setCell ⟨g, 1, none⟩ v1) (.returned (.tuple #[.agg #[v0, v1], .bool true])) l0 l1 true := by
 have hk : ∀ k, k ≠ g → ((W.setCell ⟨g, 0, none⟩ v0).setCell ⟨g, 1, none⟩ v1).heap[k]? = W.heap[k]? := fun k hk => by rw [Below.heap_setCell _ ⟨g, 1, none⟩ _ k hk, Below.heap_setCell _ ⟨g, 0, none⟩ _ k hk]
 have hz : ((W.setCell ⟨g, 0, none⟩ v0).setCell ⟨g, 1, none⟩ v1).heap.size = W.heap.size := by rw [World.size_setCell, World.size_setCell]
 refine ⟨v0, v1, M, rfl, (hs0.kept (fun k a b => hk k (by omega))).weaken hs (Nat.le_refl _), ?_, by omega, by omega, below_set (below_set h hg) hg⟩
 rw [hz]
 exact hs1.kept (fun k a b => hk k (by omega))
set_option maxHeartbeats 8000000 in
set_option maxRecDepth 100000 in
theorem add_no (k : Nat) (A0 : Option Addr) (c0 : Nat) (l0 : List ByteArray) (A1 : Option Addr) (c1 : Nat) (l1 : List S43) (x : S43) (A9 : Option Addr) (c9 : Nat) (w : World) (hr0 : Kd.C Kd.string w A0 l0.length l0) (hc0 : l0.length ≤ c0) (hr1 : Kd.C k43 w A1 l1.length l1) (hc1 : l1.length ≤ c1) (hr9 : Kd.C k41 w A9 x.f6.f3.length x.f6.f3) (hc9 : x.f6.f3.length ≤ c9) (hG : Own.Glob w) (hv : impl_IsValidContract.f k l0 l1 = some false) : Calls Tryz.prog 9 #[.agg #[.slice A0 l0.length c0, .slice A1 l1.length c1], .agg #[.string x.f0, .int .i64 x.f1, .int .i64 x.f2, .string x.f3, .int .i64 x.f4, .int .i64 x.f5, .int .i64 x.f6.f0, .string x.f6.f1, .int .i64 x.f6.f2, .slice A9 x.f6.f3.length c9, .int .i64 x.f7, .string x.f8]] w fun e w' => Add2 w w' e [] [] false := by
 have hu1 := Tryz.underlying35; have hu2 := Tryz.underlying43; have R0 := Aside0.mk hr0
 have H0 := Aside0.mk (And.intro hc0 True.intro)
 have R1 := Aside0.mk hr1
 have H1 := Aside0.mk (And.intro hc1 True.intro)
 have R9 := Aside0.mk (And.intro hr9 hc9)
 have GG := Aside0.mk hG; have V1 := Aside0.mk hv
 have HB := Aside0.mk (Below.refl w.heap.size w)
 clear hr0 hc0 hr1 hc1 hr9 hc9 hG hv
 go_enter Tryz.func9, Tryz.ntmps9
 go_wp2_with (first | ((with_reducible refine gate_dst (N := 2) rfl ?_); refine Own.be (N := 2) (cs := #[.slice A0 l0.length c0, .slice A1 l1.length c1]) (t := 35) ?_; intro g2 hg w1 hbox hb; have BK2 := Aside0.mk hbox; have G2 := Own.gs hg; replace HB := Own.bs hb; clear hb hbox hg) | ((with_reducible refine gate_dst (N := 3) rfl ?_); refine Own.be (N := 3) (cs := #[.string x.f0, .int .i64 x.f1, .int .i64 x.f2, .string x.f3, .int .i64 x.f4, .int .i64 x.f5, .int .i64 x.f6.f0, .string x.f6.f1, .int .i64 x.f6.f2, .slice A9 x.f6.f3.length c9, .int .i64 x.f7, .string x.f8]) (t := 43) ?_; intro g3 hg w2 hbox hb; have BK3 := Aside0.mk hbox; replace BK2 := Aside0.mk (blk_below BK2.out hb); replace HB := Own.bs hb; clear hb hbox hg) | ((with_reducible refine gate_dst (N := 4) rfl ?_); refine Own.be (N := 4) (cs := #[.slice none 0 0, .slice none 0 0]) (t := 35) ?_; intro g4 hg w3 hbox hb; have BK4 := Aside0.mk hbox; have G4 := Own.gs hg; replace BK2 := Aside0.mk (blk_below BK2.out hb); replace BK3 := Aside0.mk (blk_below BK3.out hb); replace HB := Own.bs hb; clear hb hbox hg; obtain ⟨ya0, ya1, za0, za1⟩ := Own.box2 BK2.out) | (go_at_call 24; (with_reducible refine (impl_IsValidContract.calls k A0 c0 l0 A1 c1 l1 false _ (Kd.C_below R0.out HB.out) H0.out.1 (Kd.C_below R1.out HB.out) H1.out.1 (GG.out.below HB.out) V1.out).mono ?_); rintro e w4 ⟨rfl, hb⟩; clear V1; replace BK2 := Aside0.mk (blk_below BK2.out hb); replace BK3 := Aside0.mk (blk_below BK3.out hb); replace BK4 := Aside0.mk (blk_below BK4.out hb); replace HB := Aside0.mk (below_step HB.out hb); clear hb ya0 ya1 za0 za1; obtain ⟨yd0, yd1, zd0, zd1⟩ := Own.box2 BK4.out))
 refine bodyPost_ret (results_ct rfl _ _ g4 35 #[.slice none 0 0, .slice none 0 0] (0, 0) _ rfl (by with_reducible exact Own.put2 BK4.out) Tryz.underlying35 rfl (by kernel_rfl)) rfl ?_
 exact add2_nil HB.out G4.out
set_option maxHeartbeats 16000000 in
set_option maxRecDepth 100000 in
theorem add_b (k : Nat) (A0 : Option Addr) (c0 : Nat) (l0 : List ByteArray) (A1 : Option Addr) (c1 : Nat) (l1 : List S43) (x : S43) (A9 : Option Addr) (c9 : Nat) (w : World) (hr0 : Kd.C Kd.string w A0 l0.length l0) (hc0 : l0.length ≤ c0) (hr1 : Kd.C k43 w A1 l1.length l1) (hc1 : l1.length ≤ c1) (hr9 : Kd.C k41 w A9 x.f6.f3.length x.f6.f3) (hc9 : x.f6.f3.length ≤ c9) (hG : Own.Glob w) (L : List S43) (hL : l1 ++ [x] = L) (hz0 : l0.length ≤ 100000000) (hz1 : szR L ≤ 100000000) (hv : impl_IsValidContract.f k l0 l1 = some true) (b2 : Bool) (hv2 : impl_IsValidContract.f k l0 L = some b2) : Calls Tryz.prog 9 #[.agg #[.slice A0 l0.length c0, .slice A1 l1.length c1], .agg #[.string x.f0, .int .i64 x.f1, .int .i64 x.f2, .string x.f3, .int .i64 x.f4, .int .i64 x.f5, .int .i64 x.f6.f0, .string x.f6.f1, .int .i64 x.f6.f2, .slice A9 x.f6.f3.length c9, .int .i64 x.f7, .string x.f8]] w fun e w' => Add2 w w' e (if b2 = true then l0 else []) (if b2 = true then L else []) b2 := by
 have hu1 := Tryz.underlying35; have hu2 := Tryz.underlying43; have R0 := Aside0.mk hr0
 have H0 := Aside0.mk (And.intro hc0 hz0)
 have R1 := Aside0.mk hr1
 have H1 := Aside0.mk (And.intro hc1 (And.intro (show l1.length ≤ 100000000 from by have := len_szR L; rw [← hL, List.length_append] at this; rw [← hL] at hz1; omega) hz1))
 have R9 := Aside0.mk (And.intro hr9 hc9)
 have GG := Aside0.mk hG; have V1 := Aside0.mk hv
 have HB := Aside0.mk (Below.refl w.heap.size w)
 have V2 := Aside0.mk hv2; have EL := Aside0.mk hL; clear hL hv2 hz0 hz1 hr0 hc0 hr1 hc1 hr9 hc9 hG hv
 go_enter Tryz.func9, Tryz.ntmps9
 go_upto_region 3 with (first | ((with_reducible refine gate_dst (N := 2) rfl ?_); refine Own.be (N := 2) (cs := #[.slice A0 l0.length c0, .slice A1 l1.length c1]) (t := 35) ?_; intro g2 hg w1 hbox hb; have BK2 := Aside0.mk hbox; have G2 := Own.gs hg; replace HB := Own.bs hb; clear hb hbox hg) | ((with_reducible refine gate_dst (N := 3) rfl ?_); refine Own.be (N := 3) (cs := #[.string x.f0, .int .i64 x.f1, .int .i64 x.f2, .string x.f3, .int .i64 x.f4, .int .i64 x.f5, .int .i64 x.f6.f0, .string x.f6.f1, .int .i64 x.f6.f2, .slice A9 x.f6.f3.length c9, .int .i64 x.f7, .string x.f8]) (t := 43) ?_; intro g3 hg w2 hbox hb; have BK3 := Aside0.mk hbox; replace BK2 := Aside0.mk (blk_below BK2.out hb); replace HB := Own.bs hb; clear hb hbox hg) | ((with_reducible refine gate_dst (N := 4) rfl ?_); refine Own.be (N := 4) (cs := #[.slice none 0 0, .slice none 0 0]) (t := 35) ?_; intro g4 hg w3 hbox hb; have BK4 := Aside0.mk hbox; have G4 := Own.gs hg; replace BK2 := Aside0.mk (blk_below BK2.out hb); replace BK3 := Aside0.mk (blk_below BK3.out hb); replace HB := Own.bs hb; clear hb hbox hg; obtain ⟨ya0, ya1, za0, za1⟩ := Own.box2 BK2.out) | (go_at_call 24; (with_reducible refine (impl_IsValidContract.calls k A0 c0 l0 A1 c1 l1 true _ (Kd.C_below R0.out HB.out) H0.out.1 (Kd.C_below R1.out HB.out) H1.out.1 (GG.out.below HB.out) V1.out).mono ?_); rintro e w4 ⟨rfl, hb⟩; clear V1; replace BK2 := Aside0.mk (blk_below BK2.out hb); replace BK3 := Aside0.mk (blk_below BK3.out hb); replace BK4 := Aside0.mk (blk_below BK4.out hb); replace HB := Aside0.mk (below_step HB.out hb); clear hb ya0 ya1 za0 za1; obtain ⟨yd0, yd1, zd0, zd1⟩ := Own.box2 BK4.out))
 (try simp only [Own.ps])
 clear yd0 yd1 zd0 zd1
 replace BK2 := Aside0.mk (blk_drew BK2.out)
 replace BK3 := Aside0.mk (blk_drew BK3.out)
 replace BK4 := Aside0.mk (blk_drew BK4.out)
 replace HB := Aside0.mk (below_drew1 HB.out)
 have Hb := Aside0.mk (Below.refl w4.drew.heap.size w4.drew)
 have HH := Aside0.mk (fun (w' : World) (hb : Below w4.drew.heap.size w4.drew w') => (⟨blk_cell (blk_below BK2.out hb) 0, blk_cell (blk_below BK2.out hb) 1, blk_cell (blk_below BK3.out hb) 0, blk_cell (blk_below BK3.out hb) 1, blk_cell (blk_below BK3.out hb) 2, blk_cell (blk_below BK3.out hb) 3, blk_cell (blk_below BK3.out hb) 4, blk_cell (blk_below BK3.out hb) 5, blk_cell (blk_below BK3.out hb) 6, blk_cell (blk_below BK3.out hb) 7, blk_cell (blk_below BK3.out hb) 8, blk_cell (blk_below BK3.out hb) 9, blk_cell (blk_below BK3.out hb) 10, blk_cell (blk_below BK3.out hb) 11⟩ : w'.cell? ⟨g2, 0, none⟩ = some (.slice A0 l0.length c0) ∧ w'.cell? ⟨g2, 1, none⟩ = some (.slice A1 l1.length c1) ∧ w'.cell? ⟨g3, 0, none⟩ = some (.string x.f0) ∧ w'.cell? ⟨g3, 1, none⟩ = some (.int .i64 x.f1) ∧ w'.cell? ⟨g3, 2, none⟩ = some (.int .i64 x.f2) ∧ w'.cell? ⟨g3, 3, none⟩ = some (.string x.f3) ∧ w'.cell? ⟨g3, 4, none⟩ = some (.int .i64 x.f4) ∧ w'.cell? ⟨g3, 5, none⟩ = some (.int .i64 x.f5) ∧ w'.cell? ⟨g3, 6, none⟩ = some (.int .i64 x.f6.f0) ∧ w'.cell? ⟨g3, 7, none⟩ = some (.string x.f6.f1) ∧ w'.cell? ⟨g3, 8, none⟩ = some (.int .i64 x.f6.f2) ∧ w'.cell? ⟨g3, 9, none⟩ = some (.slice A9 x.f6.f3.length c9) ∧ w'.cell? ⟨g3, 10, none⟩ = some (.int .i64 x.f7) ∧ w'.cell? ⟨g3, 11, none⟩ = some (.string x.f8)))
 refine start_ (n := 11) (S := fun w' => w'.cell? ⟨g2, 0, none⟩ = some (.slice A0 l0.length c0) ∧ w'.cell? ⟨g2, 1, none⟩ = some (.slice A1 l1.length c1) ∧ w'.cell? ⟨g3, 0, none⟩ = some (.string x.f0) ∧ w'.cell? ⟨g3, 1, none⟩ = some (.int .i64 x.f1) ∧ w'.cell? ⟨g3, 2, none⟩ = some (.int .i64 x.f2) ∧ w'.cell? ⟨g3, 3, none⟩ = some (.string x.f3) ∧ w'.cell? ⟨g3, 4, none⟩ = some (.int .i64 x.f4) ∧ w'.cell? ⟨g3, 5, none⟩ = some (.int .i64 x.f5) ∧ w'.cell? ⟨g3, 6, none⟩ = some (.int .i64 x.f6.f0) ∧ w'.cell? ⟨g3, 7, none⟩ = some (.string x.f6.f1) ∧ w'.cell? ⟨g3, 8, none⟩ = some (.int .i64 x.f6.f2) ∧ w'.cell? ⟨g3, 9, none⟩ = some (.slice A9 x.f6.f3.length c9) ∧ w'.cell? ⟨g3, 10, none⟩ = some (.int .i64 x.f7) ∧ w'.cell? ⟨g3, 11, none⟩ = some (.string x.f8)) (ds := []) (Own.fl 11 0) (by kernel_rfl) rfl rfl (HH.out _ Hb.out) (fun hHeld => ?_); refine with_tabW ad_tab ad_bits (fun HT_ HW_ => ?_)
 generalize w4.drew = w5 at BK2 BK3 BK4 HB Hb HH hHeld ⊢
 have L2 := Aside0.mk (blk_lt BK2.out)
 have L3 := Aside0.mk (blk_lt BK3.out)
 have L4 := Aside0.mk (blk_lt BK4.out)
 refine pure_ (i := 0) (N := some 11) (v := ?_) (a' := ?_) (Own.fl 11 1) rfl rfl (any_of HT_.out (by kernel_rfl)) (fun _ _ _ h => h) (Or.inl ⟨by rfl, ?_⟩) ?_ ?_; rotate_left; intro w'; go_simp; with_reducible rfl; rotate_left; simp only [Own.ps]; rfl
 refine take_ (i := 1) (N := some 12) (v := ?_) (a' := ?_) (Own.fl 11 3) rfl rfl (take_ofW HT_.out HW_.out (by kernel_rfl)) (fun _ _ _ h => h) (Or.inl ⟨by rfl, ?_⟩) hHeld ?_ ?_; rotate_left; rintro w' ⟨q0, q1, q2, q3, q4, q5, q6, q7, q8, q9, q10, q11, q12, q13⟩; go_simp; with_reducible rfl; rotate_left; simp only [Own.ps]; rfl
 refine pure_ (i := 2) (N := some 13) (v := ?_) (a' := ?_) (Own.fl 11 7) rfl rfl (any_of HT_.out (by kernel_rfl)) (fun _ _ _ h => h) (Or.inl ⟨by rfl, ?_⟩) ?_ ?_; rotate_left; intro w'; go_simp; with_reducible rfl; rotate_left; simp only [Own.ps]; rfl
 refine take_ (i := 3) (N := some 14) (v := ?_) (a' := ?_) (Own.fl 11 15) rfl rfl (take_ofW HT_.out HW_.out (by kernel_rfl)) (fun _ _ _ h => h) (Or.inl ⟨by rfl, ?_⟩) hHeld ?_ ?_; rotate_left; rintro w' ⟨q0, q1, q2, q3, q4, q5, q6, q7, q8, q9, q10, q11, q12, q13⟩; go_simp; with_reducible rfl; rotate_left; simp only [Own.ps]; rfl
 refine take_ (i := 5) (N := some 16) (v := ?_) (a' := ?_) (Own.fl 11 47) rfl rfl (take_ofW HT_.out HW_.out (by kernel_rfl)) (fun _ _ _ h => h) (Or.inl ⟨by rfl, ?_⟩) hHeld ?_ ?_; rotate_left; rintro w' ⟨q0, q1, q2, q3, q4, q5, q6, q7, q8, q9, q10, q11, q12, q13⟩; go_simp; with_reducible rfl; rotate_left; simp only [Own.ps]; rfl
 refine join_ (σ := Value × Nat × Value × Nat) 1 (Own.fl 11 1023) (fun s_ => [(15, s_.1), (17, .slice (some ⟨s_.2.1, 0, none⟩) 1 1), (18, s_.2.2.1), (19, .agg #[.slice A0 l0.length c0, s_.2.2.1]), (6, .pointer (some ⟨s_.2.2.2, 0, none⟩))]) (fun s_ w' => (∃ cs_, FC w5 w' s_.2.2.1 L cs_) ∧ w'.heap[s_.2.2.2]? = some (.cells #[.slice none 0 0, .slice none 0 0] 35 (0, 0)) ∧ w5.heap.size ≤ s_.2.2.2 ∧ Below w5.heap.size w5 w') ?_ ?_
 rotate_left
 ·
  intro hCont
  refine three_ (i := 4) (j := 6) (k := 9) (Ni := some 15) (Nj := some 17) (Nk := some 6) (Own.fl 11 63) (Own.fl 11 111) (Own.fl 11 559) rfl rfl rfl rfl rfl rfl (three_of HT_.out (by kernel_rfl)) (by decide) (by decide) (by decide) (fun K hK => ?_) (fun K hK => ?_) (fun K hK => ?_)
  ·
   refine goes_ Tryz.func25 (by kernel_rfl) rfl #[.slice A1 l1.length c1] (by rfl) rfl rfl Own.ha ?_
   with_reducible refine (cloneK_calls A1 c1 l1 w5 _ Hb.out (Kd.C_below R1.out HB.out) H1.out.1 H1.out.2.1).mono ?_
   rintro e wr1 ⟨v_, rfl, ⟨cs_, ho, hrp⟩, hb⟩
   refine ⟨_, rfl, ?_⟩
   have FV := Aside0.mk (FC.mk (own_weaken ho Hb.out.size) hrp (below_step Hb.out hb))
   replace Hb := Aside0.mk (below_step Hb.out hb)
   clear ho hrp hb
   refine hK.out _ _ (HH.out _ Hb.out) (fun hHeld => ?_)
   clear hK K; refine norm_ (a' := ?_) ?_ ?_; rotate_left; show Act.put _ (some 15) _ = _; simp only [Own.ps]; rfl
   refine two_ (i := 6) (j := 9) (Ni := some 17) (Nj := some 6) (Own.fl 11 127) (Own.fl 11 575) rfl rfl rfl rfl (two_of HT_.out (by kernel_rfl)) (by decide) (by decide) (fun K hK => ?_) (fun K hK => ?_)
   ·
    refine lit_step ?hg (N := 17) ?hd (cs := #[.string x.f0, .int .i64 x.f1, .int .i64 x.f2, .string x.f3, .int .i64 x.f4, .int .i64 x.f5, .int .i64 x.f6.f0, .string x.f6.f1, .int .i64 x.f6.f2, .slice A9 x.f6.f3.length c9, .int .i64 x.f7, .string x.f8]) (t := 43) ?hr ?_; (case hd => rfl); (case hg => rfl); (case hr => first | (go_simp; done) | (go_simp; rfl))
    intro q hg wr2 hq hb
    replace FV := Aside0.mk (FC.below FV.out hb)
    have FS := Aside0.mk hq
    replace Hb := Aside0.mk (below_step Hb.out hb)
    clear hq hb hg
    refine hK.out _ _ (HH.out _ Hb.out) (fun hHeld => ?_)
    clear hK K; refine norm_ (a' := ?_) ?_ ?_; rotate_left; show Act.put _ (some 17) _ = _; simp only [Own.ps]; rfl
    refine two_ (i := 7) (j := 9) (Ni := some 18) (Nj := some 6) (Own.fl 11 255) (Own.fl 11 639) rfl rfl rfl rfl (two_of HT_.out (by kernel_rfl)) (by decide) (by decide) (fun K hK => ?_) (fun K hK => ?_)
    ·
     refine more_step w5.heap.size (by rfl) (.tmp 15) (.tmp 17) 33 43 (.agg #[(.string ⟨#[]⟩), (.int .i64 0), (.int .i64 0), (.string ⟨#[]⟩), (.int .i64 0), (.int .i64 0), (.int .i64 0), (.string ⟨#[]⟩), (.int .i64 0), (.slice none 0 0), (.int .i64 0), (.string ⟨#[]⟩)]) 12 144 rfl Tryz.underlying33 info43 rfl (by decide) (by omega) v_ l1.length cs_ [.string x.f0, .int .i64 x.f1, .int .i64 x.f2, .string x.f3, .int .i64 x.f4, .int .i64 x.f5, .int .i64 x.f6.f0, .string x.f6.f1, .int .i64 x.f6.f2, .slice A9 x.f6.f3.length c9, .int .i64 x.f7, .string x.f8] q rfl rfl rfl FS.out (by simp [Value.oneCell']) FV.out.own Hb.out.size (by have := H1.out.2.1; omega) ?_
     intro v1 wr3 ho hg
     have FX := Aside0.mk (FC.more EL.out FV.out ho hg (k43_mk w5 x R9.out.2 (Kd.C_below R9.out.1 HB.out)) rfl)
     replace Hb := Aside0.mk (Hb.out.grown hg Hb.out.size (own_base FV.out.own))
     clear ho hg FV FS
     refine hK.out _ _ (HH.out _ Hb.out) (fun hHeld => ?_)
     clear hK K; refine norm_ (a' := ?_) ?_ ?_; rotate_left; show Act.put _ (some 18) _ = _; simp only [Own.ps]; rfl
     obtain ⟨Av, cv, rfl, _, _⟩ := FX.out.C
     refine pure_ (i := 8) (N := some 19) (v := ?_) (a' := ?_) (Own.fl 11 511) rfl rfl (any_of HT_.out (by kernel_rfl)) (fun _ _ _ h => h) (Or.inl ⟨by rfl, ?_⟩) ?_ ?_; rotate_left; intro w'; go_simp; with_reducible rfl; rotate_left; simp only [Own.ps]; rfl
     refine one_ (i := 9) (N := some 6) (Own.fl 11 1023) rfl rfl (one_of HT_.out (by kernel_rfl)) (by decide) (fun K hK => ?_)
     refine box_step ?hg (N := 6) ?hd (cs := #[.slice none 0 0, .slice none 0 0]) (t := 35) ?hr ?_; (case hd => rfl); (case hg => rfl); (case hr => first | (go_simp; done) | (go_simp; rfl))
     intro g6 hg wr4 hbox hb
     replace FX := Aside0.mk (FC.below FX.out hb)
     have G6 := Aside0.mk (show w5.heap.size ≤ g6 from by rw [hg]; exact Hb.out.size)
     have FB := Aside0.mk hbox
     replace Hb := Aside0.mk (below_step Hb.out hb)
     clear hg hbox hb
     refine hK.out _ _ (HH.out _ Hb.out) (fun hHeld => ?_)
     clear hK K; refine norm_ (a' := ?_) ?_ ?_; rotate_left; show Act.put _ (some 6) _ = _; simp only [Own.ps]; rfl
     exact norm_ (by simp only [putAll, Act.put, List.setIfInBounds_toArray, List.set_cons_zero, List.set_cons_succ]) (hCont (v_, q, .slice Av L.length cv, g6) _ ⟨⟨_, FX.out⟩, FB.out, G6.out, Hb.out⟩)
    ·
     refine box_step ?hg (N := 6) ?hd (cs := #[.slice none 0 0, .slice none 0 0]) (t := 35) ?hr ?_; (case hd => rfl); (case hg => rfl); (case hr => first | (go_simp; done) | (go_simp; rfl))
     intro g6 hg wr5 hbox hb
     replace FV := Aside0.mk (FC.below FV.out hb)
     replace FS := Aside0.mk (blk_below FS.out hb)
     have G6 := Aside0.mk (show w5.heap.size ≤ g6 from by rw [hg]; exact Hb.out.size)
     have FB := Aside0.mk hbox
     replace Hb := Aside0.mk (below_step Hb.out hb)
     clear hg hbox hb
     refine hK.out _ _ (HH.out _ Hb.out) (fun hHeld => ?_)
     clear hK K; refine norm_ (a' := ?_) ?_ ?_; rotate_left; show Act.put _ (some 6) _ = _; simp only [Own.ps]; rfl
     refine one_ (i := 7) (N := some 18) (Own.fl 11 767) rfl rfl (one_of HT_.out (by kernel_rfl)) (by decide) (fun K hK => ?_)
     refine more_step w5.heap.size (by rfl) (.tmp 15) (.tmp 17) 33 43 (.agg #[(.string ⟨#[]⟩), (.int .i64 0), (.int .i64 0), (.string ⟨#[]⟩), (.int .i64 0), (.int .i64 0), (.int .i64 0), (.string ⟨#[]⟩), (.int .i64 0), (.slice none 0 0), (.int .i64 0), (.string ⟨#[]⟩)]) 12 144 rfl Tryz.underlying33 info43 rfl (by decide) (by omega) v_ l1.length cs_ [.string x.f0, .int .i64 x.f1, .int .i64 x.f2, .string x.f3, .int .i64 x.f4, .int .i64 x.f5, .int .i64 x.f6.f0, .string x.f6.f1, .int .i64 x.f6.f2, .slice A9 x.f6.f3.length c9, .int .i64 x.f7, .string x.f8] q rfl rfl rfl FS.out (by simp [Value.oneCell']) FV.out.own Hb.out.size (by have := H1.out.2.1; omega) ?_
     intro v1 wr6 ho hg
     have FX := Aside0.mk (FC.more EL.out FV.out ho hg (k43_mk w5 x R9.out.2 (Kd.C_below R9.out.1 HB.out)) rfl)
     replace FB := Aside0.mk (blk_grown FB.out hg (FC.far FV.out FB.out))
     replace Hb := Aside0.mk (Hb.out.grown hg Hb.out.size (own_base FV.out.own))
     clear ho hg FV FS
     refine hK.out _ _ (HH.out _ Hb.out) (fun hHeld => ?_)
     clear hK K; refine norm_ (a' := ?_) ?_ ?_; rotate_left; show Act.put _ (some 18) _ = _; simp only [Own.ps]; rfl
     obtain ⟨Av, cv, rfl, _, _⟩ := FX.out.C
     refine pure_ (i := 8) (N := some 19) (v := ?_) (a' := ?_) (Own.fl 11 1023) rfl rfl (any_of HT_.out (by kernel_rfl)) (fun _ _ _ h => h) (Or.inl ⟨by rfl, ?_⟩) ?_ ?_; rotate_left; intro w'; go_simp; with_reducible rfl; rotate_left; simp only [Own.ps]; rfl
     exact norm_ (by simp only [putAll, Act.put, List.setIfInBounds_toArray, List.set_cons_zero, List.set_cons_succ]) (hCont (v_, q, .slice Av L.length cv, g6) _ ⟨⟨_, FX.out⟩, FB.out, G6.out, Hb.out⟩)
   ·
    refine box_step ?hg (N := 6) ?hd (cs := #[.slice none 0 0, .slice none 0 0]) (t := 35) ?hr ?_; (case hd => rfl); (case hg => rfl); (case hr => first | (go_simp; done) | (go_simp; rfl))
    intro g6 hg wr7 hbox hb
    replace FV := Aside0.mk (FC.below FV.out hb)
    have G6 := Aside0.mk (show w5.heap.size ≤ g6 from by rw [hg]; exact Hb.out.size)
    have FB := Aside0.mk hbox
    replace Hb := Aside0.mk (below_step Hb.out hb)
    clear hg hbox hb
    refine hK.out _ _ (HH.out _ Hb.out) (fun hHeld => ?_)
    clear hK K; refine norm_ (a' := ?_) ?_ ?_; rotate_left; show Act.put _ (some 6) _ = _; simp only [Own.ps]; rfl
    refine one_ (i := 6) (N := some 17) (Own.fl 11 639) rfl rfl (one_of HT_.out (by kernel_rfl)) (by decide) (fun K hK => ?_)
    refine lit_step ?hg (N := 17) ?hd (cs := #[.string x.f0, .int .i64 x.f1, .int .i64 x.f2, .string x.f3, .int .i64 x.f4, .int .i64 x.f5, .int .i64 x.f6.f0, .string x.f6.f1, .int .i64 x.f6.f2, .slice A9 x.f6.f3.length c9, .int .i64 x.f7, .string x.f8]) (t := 43) ?hr ?_; (case hd => rfl); (case hg => rfl); (case hr => first | (go_simp; done) | (go_simp; rfl))
    intro q hg wr8 hq hb
    replace FV := Aside0.mk (FC.below FV.out hb)
    replace FB := Aside0.mk (blk_below FB.out hb)
    have FS := Aside0.mk hq
    replace Hb := Aside0.mk (below_step Hb.out hb)
    clear hq hb hg
    refine hK.out _ _ (HH.out _ Hb.out) (fun hHeld => ?_)
    clear hK K; refine norm_ (a' := ?_) ?_ ?_; rotate_left; show Act.put _ (some 17) _ = _; simp only [Own.ps]; rfl
    refine one_ (i := 7) (N := some 18) (Own.fl 11 767) rfl rfl (one_of HT_.out (by kernel_rfl)) (by decide) (fun K hK => ?_)
    refine more_step w5.heap.size (by rfl) (.tmp 15) (.tmp 17) 33 43 (.agg #[(.string ⟨#[]⟩), (.int .i64 0), (.int .i64 0), (.string ⟨#[]⟩), (.int .i64 0), (.int .i64 0), (.int .i64 0), (.string ⟨#[]⟩), (.int .i64 0), (.slice none 0 0), (.int .i64 0), (.string ⟨#[]⟩)]) 12 144 rfl Tryz.underlying33 info43 rfl (by decide) (by omega) v_ l1.length cs_ [.string x.f0, .int .i64 x.f1, .int .i64 x.f2, .string x.f3, .int .i64 x.f4, .int .i64 x.f5, .int .i64 x.f6.f0, .string x.f6.f1, .int .i64 x.f6.f2, .slice A9 x.f6.f3.length c9, .int .i64 x.f7, .string x.f8] q rfl rfl rfl FS.out (by simp [Value.oneCell']) FV.out.own Hb.out.size (by have := H1.out.2.1; omega) ?_
    intro v1 wr9 ho hg
    have FX := Aside0.mk (FC.more EL.out FV.out ho hg (k43_mk w5 x R9.out.2 (Kd.C_below R9.out.1 HB.out)) rfl)
    replace FB := Aside0.mk (blk_grown FB.out hg (FC.far FV.out FB.out))
    replace Hb := Aside0.mk (Hb.out.grown hg Hb.out.size (own_base FV.out.own))
    clear ho hg FV FS
    refine hK.out _ _ (HH.out _ Hb.out) (fun hHeld => ?_)
    clear hK K; refine norm_ (a' := ?_) ?_ ?_; rotate_left; show Act.put _ (some 18) _ = _; simp only [Own.ps]; rfl
    obtain ⟨Av, cv, rfl, _, _⟩ := FX.out.C
    refine pure_ (i := 8) (N := some 19) (v := ?_) (a' := ?_) (Own.fl 11 1023) rfl rfl (any_of HT_.out (by kernel_rfl)) (fun _ _ _ h => h) (Or.inl ⟨by rfl, ?_⟩) ?_ ?_; rotate_left; intro w'; go_simp; with_reducible rfl; rotate_left; simp only [Own.ps]; rfl
    exact norm_ (by simp only [putAll, Act.put, List.setIfInBounds_toArray, List.set_cons_zero, List.set_cons_succ]) (hCont (v_, q, .slice Av L.length cv, g6) _ ⟨⟨_, FX.out⟩, FB.out, G6.out, Hb.out⟩)
  ·
   refine lit_step ?hg (N := 17) ?hd (cs := #[.string x.f0, .int .i64 x.f1, .int .i64 x.f2, .string x.f3, .int .i64 x.f4, .int .i64 x.f5, .int .i64 x.f6.f0, .string x.f6.f1, .int .i64 x.f6.f2, .slice A9 x.f6.f3.length c9, .int .i64 x.f7, .string x.f8]) (t := 43) ?hr ?_; (case hd => rfl); (case hg => rfl); (case hr => first | (go_simp; done) | (go_simp; rfl))
   intro q hg wr10 hq hb; have FS := Aside0.mk hq
   replace Hb := Aside0.mk (below_step Hb.out hb)
   clear hq hb hg
   refine hK.out _ _ (HH.out _ Hb.out) (fun hHeld => ?_)
   clear hK K; refine norm_ (a' := ?_) ?_ ?_; rotate_left; show Act.put _ (some 17) _ = _; simp only [Own.ps]; rfl
   refine two_ (i := 4) (j := 9) (Ni := some 15) (Nj := some 6) (Own.fl 11 127) (Own.fl 11 623) rfl rfl rfl rfl (two_of HT_.out (by kernel_rfl)) (by decide) (by decide) (fun K hK => ?_) (fun K hK => ?_)
   ·
    refine goes_ Tryz.func25 (by kernel_rfl) rfl #[.slice A1 l1.length c1] (by rfl) rfl rfl Own.ha ?_
    with_reducible refine (cloneK_calls A1 c1 l1 w5 _ Hb.out (Kd.C_below R1.out HB.out) H1.out.1 H1.out.2.1).mono ?_
    rintro e wr11 ⟨v_, rfl, ⟨cs_, ho, hrp⟩, hb⟩
    refine ⟨_, rfl, ?_⟩
    replace FS := Aside0.mk (blk_below FS.out hb)
    have FV := Aside0.mk (FC.mk (own_weaken ho Hb.out.size) hrp (below_step Hb.out hb))
    replace Hb := Aside0.mk (below_step Hb.out hb)
    clear ho hrp hb
    refine hK.out _ _ (HH.out _ Hb.out) (fun hHeld => ?_)
    clear hK K; refine norm_ (a' := ?_) ?_ ?_; rotate_left; show Act.put _ (some 15) _ = _; simp only [Own.ps]; rfl
    refine two_ (i := 7) (j := 9) (Ni := some 18) (Nj := some 6) (Own.fl 11 255) (Own.fl 11 639) rfl rfl rfl rfl (two_of HT_.out (by kernel_rfl)) (by decide) (by decide) (fun K hK => ?_) (fun K hK => ?_)
    ·
     refine more_step w5.heap.size (by rfl) (.tmp 15) (.tmp 17) 33 43 (.agg #[(.string ⟨#[]⟩), (.int .i64 0), (.int .i64 0), (.string ⟨#[]⟩), (.int .i64 0), (.int .i64 0), (.int .i64 0), (.string ⟨#[]⟩), (.int .i64 0), (.slice none 0 0), (.int .i64 0), (.string ⟨#[]⟩)]) 12 144 rfl Tryz.underlying33 info43 rfl (by decide) (by omega) v_ l1.length cs_ [.string x.f0, .int .i64 x.f1, .int .i64 x.f2, .string x.f3, .int .i64 x.f4, .int .i64 x.f5, .int .i64 x.f6.f0, .string x.f6.f1, .int .i64 x.f6.f2, .slice A9 x.f6.f3.length c9, .int .i64 x.f7, .string x.f8] q rfl rfl rfl FS.out (by simp [Value.oneCell']) FV.out.own Hb.out.size (by have := H1.out.2.1; omega) ?_
     intro v1 wr12 ho hg
     have FX := Aside0.mk (FC.more EL.out FV.out ho hg (k43_mk w5 x R9.out.2 (Kd.C_below R9.out.1 HB.out)) rfl)
     replace Hb := Aside0.mk (Hb.out.grown hg Hb.out.size (own_base FV.out.own))
     clear ho hg FV FS
     refine hK.out _ _ (HH.out _ Hb.out) (fun hHeld => ?_)
     clear hK K; refine norm_ (a' := ?_) ?_ ?_; rotate_left; show Act.put _ (some 18) _ = _; simp only [Own.ps]; rfl
     obtain ⟨Av, cv, rfl, _, _⟩ := FX.out.C
     refine pure_ (i := 8) (N := some 19) (v := ?_) (a' := ?_) (Own.fl 11 511) rfl rfl (any_of HT_.out (by kernel_rfl)) (fun _ _ _ h => h) (Or.inl ⟨by rfl, ?_⟩) ?_ ?_; rotate_left; intro w'; go_simp; with_reducible rfl; rotate_left; simp only [Own.ps]; rfl
     refine one_ (i := 9) (N := some 6) (Own.fl 11 1023) rfl rfl (one_of HT_.out (by kernel_rfl)) (by decide) (fun K hK => ?_)
     refine box_step ?hg (N := 6) ?hd (cs := #[.slice none 0 0, .slice none 0 0]) (t := 35) ?hr ?_; (case hd => rfl); (case hg => rfl); (case hr => first | (go_simp; done) | (go_simp; rfl))
     intro g6 hg wr13 hbox hb
     replace FX := Aside0.mk (FC.below FX.out hb)
     have G6 := Aside0.mk (show w5.heap.size ≤ g6 from by rw [hg]; exact Hb.out.size)
     have FB := Aside0.mk hbox
     replace Hb := Aside0.mk (below_step Hb.out hb)
     clear hg hbox hb
     refine hK.out _ _ (HH.out _ Hb.out) (fun hHeld => ?_)
     clear hK K; refine norm_ (a' := ?_) ?_ ?_; rotate_left; show Act.put _ (some 6) _ = _; simp only [Own.ps]; rfl
     exact norm_ (by simp only [putAll, Act.put, List.setIfInBounds_toArray, List.set_cons_zero, List.set_cons_succ]) (hCont (v_, q, .slice Av L.length cv, g6) _ ⟨⟨_, FX.out⟩, FB.out, G6.out, Hb.out⟩)
    ·
     refine box_step ?hg (N := 6) ?hd (cs := #[.slice none 0 0, .slice none 0 0]) (t := 35) ?hr ?_; (case hd => rfl); (case hg => rfl); (case hr => first | (go_simp; done) | (go_simp; rfl))
     intro g6 hg wr14 hbox hb
     replace FV := Aside0.mk (FC.below FV.out hb)
     replace FS := Aside0.mk (blk_below FS.out hb)
     have G6 := Aside0.mk (show w5.heap.size ≤ g6 from by rw [hg]; exact Hb.out.size)
     have FB := Aside0.mk hbox
     replace Hb := Aside0.mk (below_step Hb.out hb)
     clear hg hbox hb
     refine hK.out _ _ (HH.out _ Hb.out) (fun hHeld => ?_)
     clear hK K; refine norm_ (a' := ?_) ?_ ?_; rotate_left; show Act.put _ (some 6) _ = _; simp only [Own.ps]; rfl
     refine one_ (i := 7) (N := some 18) (Own.fl 11 767) rfl rfl (one_of HT_.out (by kernel_rfl)) (by decide) (fun K hK => ?_)
     refine more_step w5.heap.size (by rfl) (.tmp 15) (.tmp 17) 33 43 (.agg #[(.string ⟨#[]⟩), (.int .i64 0), (.int .i64 0), (.string ⟨#[]⟩), (.int .i64 0), (.int .i64 0), (.int .i64 0), (.string ⟨#[]⟩), (.int .i64 0), (.slice none 0 0), (.int .i64 0), (.string ⟨#[]⟩)]) 12 144 rfl Tryz.underlying33 info43 rfl (by decide) (by omega) v_ l1.length cs_ [.string x.f0, .int .i64 x.f1, .int .i64 x.f2, .string x.f3, .int .i64 x.f4, .int .i64 x.f5, .int .i64 x.f6.f0, .string x.f6.f1, .int .i64 x.f6.f2, .slice A9 x.f6.f3.length c9, .int .i64 x.f7, .string x.f8] q rfl rfl rfl FS.out (by simp [Value.oneCell']) FV.out.own Hb.out.size (by have := H1.out.2.1; omega) ?_
     intro v1 wr15 ho hg
     have FX := Aside0.mk (FC.more EL.out FV.out ho hg (k43_mk w5 x R9.out.2 (Kd.C_below R9.out.1 HB.out)) rfl)
     replace FB := Aside0.mk (blk_grown FB.out hg (FC.far FV.out FB.out))
     replace Hb := Aside0.mk (Hb.out.grown hg Hb.out.size (own_base FV.out.own))
     clear ho hg FV FS
     refine hK.out _ _ (HH.out _ Hb.out) (fun hHeld => ?_)
     clear hK K; refine norm_ (a' := ?_) ?_ ?_; rotate_left; show Act.put _ (some 18) _ = _; simp only [Own.ps]; rfl
     obtain ⟨Av, cv, rfl, _, _⟩ := FX.out.C
     refine pure_ (i := 8) (N := some 19) (v := ?_) (a' := ?_) (Own.fl 11 1023) rfl rfl (any_of HT_.out (by kernel_rfl)) (fun _ _ _ h => h) (Or.inl ⟨by rfl, ?_⟩) ?_ ?_; rotate_left; intro w'; go_simp; with_reducible rfl; rotate_left; simp only [Own.ps]; rfl
     exact norm_ (by simp only [putAll, Act.put, List.setIfInBounds_toArray, List.set_cons_zero, List.set_cons_succ]) (hCont (v_, q, .slice Av L.length cv, g6) _ ⟨⟨_, FX.out⟩, FB.out, G6.out, Hb.out⟩)
   ·
    refine box_step ?hg (N := 6) ?hd (cs := #[.slice none 0 0, .slice none 0 0]) (t := 35) ?hr ?_; (case hd => rfl); (case hg => rfl); (case hr => first | (go_simp; done) | (go_simp; rfl))
    intro g6 hg wr16 hbox hb
    replace FS := Aside0.mk (blk_below FS.out hb)
    have G6 := Aside0.mk (show w5.heap.size ≤ g6 from by rw [hg]; exact Hb.out.size)
    have FB := Aside0.mk hbox
    replace Hb := Aside0.mk (below_step Hb.out hb)
    clear hg hbox hb
    refine hK.out _ _ (HH.out _ Hb.out) (fun hHeld => ?_)
    clear hK K; refine norm_ (a' := ?_) ?_ ?_; rotate_left; show Act.put _ (some 6) _ = _; simp only [Own.ps]; rfl
    refine one_ (i := 4) (N := some 15) (Own.fl 11 639) rfl rfl (one_of HT_.out (by kernel_rfl)) (by decide) (fun K hK => ?_)
    refine goes_ Tryz.func25 (by kernel_rfl) rfl #[.slice A1 l1.length c1] (by rfl) rfl rfl Own.ha ?_
    with_reducible refine (cloneK_calls A1 c1 l1 w5 _ Hb.out (Kd.C_below R1.out HB.out) H1.out.1 H1.out.2.1).mono ?_
    rintro e wr17 ⟨v_, rfl, ⟨cs_, ho, hrp⟩, hb⟩
    refine ⟨_, rfl, ?_⟩
    replace FS := Aside0.mk (blk_below FS.out hb)
    replace FB := Aside0.mk (blk_below FB.out hb)
    have FV := Aside0.mk (FC.mk (own_weaken ho Hb.out.size) hrp (below_step Hb.out hb))
    replace Hb := Aside0.mk (below_step Hb.out hb)
    clear ho hrp hb
    refine hK.out _ _ (HH.out _ Hb.out) (fun hHeld => ?_)
    clear hK K; refine norm_ (a' := ?_) ?_ ?_; rotate_left; show Act.put _ (some 15) _ = _; simp only [Own.ps]; rfl
    refine one_ (i := 7) (N := some 18) (Own.fl 11 767) rfl rfl (one_of HT_.out (by kernel_rfl)) (by decide) (fun K hK => ?_)
    refine more_step w5.heap.size (by rfl) (.tmp 15) (.tmp 17) 33 43 (.agg #[(.string ⟨#[]⟩), (.int .i64 0), (.int .i64 0), (.string ⟨#[]⟩), (.int .i64 0), (.int .i64 0), (.int .i64 0), (.string ⟨#[]⟩), (.int .i64 0), (.slice none 0 0), (.int .i64 0), (.string ⟨#[]⟩)]) 12 144 rfl Tryz.underlying33 info43 rfl (by decide) (by omega) v_ l1.length cs_ [.string x.f0, .int .i64 x.f1, .int .i64 x.f2, .string x.f3, .int .i64 x.f4, .int .i64 x.f5, .int .i64 x.f6.f0, .string x.f6.f1, .int .i64 x.f6.f2, .slice A9 x.f6.f3.length c9, .int .i64 x.f7, .string x.f8] q rfl rfl rfl FS.out (by simp [Value.oneCell']) FV.out.own Hb.out.size (by have := H1.out.2.1; omega) ?_
    intro v1 wr18 ho hg
    have FX := Aside0.mk (FC.more EL.out FV.out ho hg (k43_mk w5 x R9.out.2 (Kd.C_below R9.out.1 HB.out)) rfl)
    replace FB := Aside0.mk (blk_grown FB.out hg (FC.far FV.out FB.out))
    replace Hb := Aside0.mk (Hb.out.grown hg Hb.out.size (own_base FV.out.own))
    clear ho hg FV FS
    refine hK.out _ _ (HH.out _ Hb.out) (fun hHeld => ?_)
    clear hK K; refine norm_ (a' := ?_) ?_ ?_; rotate_left; show Act.put _ (some 18) _ = _; simp only [Own.ps]; rfl
    obtain ⟨Av, cv, rfl, _, _⟩ := FX.out.C
    refine pure_ (i := 8) (N := some 19) (v := ?_) (a' := ?_) (Own.fl 11 1023) rfl rfl (any_of HT_.out (by kernel_rfl)) (fun _ _ _ h => h) (Or.inl ⟨by rfl, ?_⟩) ?_ ?_; rotate_left; intro w'; go_simp; with_reducible rfl; rotate_left; simp only [Own.ps]; rfl
    exact norm_ (by simp only [putAll, Act.put, List.setIfInBounds_toArray, List.set_cons_zero, List.set_cons_succ]) (hCont (v_, q, .slice Av L.length cv, g6) _ ⟨⟨_, FX.out⟩, FB.out, G6.out, Hb.out⟩)
  ·
   refine box_step ?hg (N := 6) ?hd (cs := #[.slice none 0 0, .slice none 0 0]) (t := 35) ?hr ?_; (case hd => rfl); (case hg => rfl); (case hr => first | (go_simp; done) | (go_simp; rfl))
   intro g6 hg wr19 hbox hb
   have G6 := Aside0.mk (show w5.heap.size ≤ g6 from by rw [hg]; exact Hb.out.size)
   have FB := Aside0.mk hbox
   replace Hb := Aside0.mk (below_step Hb.out hb)
   clear hg hbox hb
   refine hK.out _ _ (HH.out _ Hb.out) (fun hHeld => ?_)
   clear hK K; refine norm_ (a' := ?_) ?_ ?_; rotate_left; show Act.put _ (some 6) _ = _; simp only [Own.ps]; rfl
   refine two_ (i := 4) (j := 6) (Ni := some 15) (Nj := some 17) (Own.fl 11 575) (Own.fl 11 623) rfl rfl rfl rfl (two_of HT_.out (by kernel_rfl)) (by decide) (by decide) (fun K hK => ?_) (fun K hK => ?_)
   ·
    refine goes_ Tryz.func25 (by kernel_rfl) rfl #[.slice A1 l1.length c1] (by rfl) rfl rfl Own.ha ?_
    with_reducible refine (cloneK_calls A1 c1 l1 w5 _ Hb.out (Kd.C_below R1.out HB.out) H1.out.1 H1.out.2.1).mono ?_
    rintro e wr20 ⟨v_, rfl, ⟨cs_, ho, hrp⟩, hb⟩
    refine ⟨_, rfl, ?_⟩
    replace FB := Aside0.mk (blk_below FB.out hb)
    have FV := Aside0.mk (FC.mk (own_weaken ho Hb.out.size) hrp (below_step Hb.out hb))
    replace Hb := Aside0.mk (below_step Hb.out hb)
    clear ho hrp hb
    refine hK.out _ _ (HH.out _ Hb.out) (fun hHeld => ?_)
    clear hK K; refine norm_ (a' := ?_) ?_ ?_; rotate_left; show Act.put _ (some 15) _ = _; simp only [Own.ps]; rfl
    refine one_ (i := 6) (N := some 17) (Own.fl 11 639) rfl rfl (one_of HT_.out (by kernel_rfl)) (by decide) (fun K hK => ?_)
    refine lit_step ?hg (N := 17) ?hd (cs := #[.string x.f0, .int .i64 x.f1, .int .i64 x.f2, .string x.f3, .int .i64 x.f4, .int .i64 x.f5, .int .i64 x.f6.f0, .string x.f6.f1, .int .i64 x.f6.f2, .slice A9 x.f6.f3.length c9, .int .i64 x.f7, .string x.f8]) (t := 43) ?hr ?_; (case hd => rfl); (case hg => rfl); (case hr => first | (go_simp; done) | (go_simp; rfl))
    intro q hg wr21 hq hb
    replace FV := Aside0.mk (FC.below FV.out hb)
    replace FB := Aside0.mk (blk_below FB.out hb)
    have FS := Aside0.mk hq
    replace Hb := Aside0.mk (below_step Hb.out hb)
    clear hq hb hg
    refine hK.out _ _ (HH.out _ Hb.out) (fun hHeld => ?_)
    clear hK K; refine norm_ (a' := ?_) ?_ ?_; rotate_left; show Act.put _ (some 17) _ = _; simp only [Own.ps]; rfl
    refine one_ (i := 7) (N := some 18) (Own.fl 11 767) rfl rfl (one_of HT_.out (by kernel_rfl)) (by decide) (fun K hK => ?_)
    refine more_step w5.heap.size (by rfl) (.tmp 15) (.tmp 17) 33 43 (.agg #[(.string ⟨#[]⟩), (.int .i64 0), (.int .i64 0), (.string ⟨#[]⟩), (.int .i64 0), (.int .i64 0), (.int .i64 0), (.string ⟨#[]⟩), (.int .i64 0), (.slice none 0 0), (.int .i64 0), (.string ⟨#[]⟩)]) 12 144 rfl Tryz.underlying33 info43 rfl (by decide) (by omega) v_ l1.length cs_ [.string x.f0, .int .i64 x.f1, .int .i64 x.f2, .string x.f3, .int .i64 x.f4, .int .i64 x.f5, .int .i64 x.f6.f0, .string x.f6.f1, .int .i64 x.f6.f2, .slice A9 x.f6.f3.length c9, .int .i64 x.f7, .string x.f8] q rfl rfl rfl FS.out (by simp [Value.oneCell']) FV.out.own Hb.out.size (by have := H1.out.2.1; omega) ?_
    intro v1 wr22 ho hg
    have FX := Aside0.mk (FC.more EL.out FV.out ho hg (k43_mk w5 x R9.out.2 (Kd.C_below R9.out.1 HB.out)) rfl)
    replace FB := Aside0.mk (blk_grown FB.out hg (FC.far FV.out FB.out))
    replace Hb := Aside0.mk (Hb.out.grown hg Hb.out.size (own_base FV.out.own))
    clear ho hg FV FS
    refine hK.out _ _ (HH.out _ Hb.out) (fun hHeld => ?_)
    clear hK K; refine norm_ (a' := ?_) ?_ ?_; rotate_left; show Act.put _ (some 18) _ = _; simp only [Own.ps]; rfl
    obtain ⟨Av, cv, rfl, _, _⟩ := FX.out.C
    refine pure_ (i := 8) (N := some 19) (v := ?_) (a' := ?_) (Own.fl 11 1023) rfl rfl (any_of HT_.out (by kernel_rfl)) (fun _ _ _ h => h) (Or.inl ⟨by rfl, ?_⟩) ?_ ?_; rotate_left; intro w'; go_simp; with_reducible rfl; rotate_left; simp only [Own.ps]; rfl
    exact norm_ (by simp only [putAll, Act.put, List.setIfInBounds_toArray, List.set_cons_zero, List.set_cons_succ]) (hCont (v_, q, .slice Av L.length cv, g6) _ ⟨⟨_, FX.out⟩, FB.out, G6.out, Hb.out⟩)
   ·
    refine lit_step ?hg (N := 17) ?hd (cs := #[.string x.f0, .int .i64 x.f1, .int .i64 x.f2, .string x.f3, .int .i64 x.f4, .int .i64 x.f5, .int .i64 x.f6.f0, .string x.f6.f1, .int .i64 x.f6.f2, .slice A9 x.f6.f3.length c9, .int .i64 x.f7, .string x.f8]) (t := 43) ?hr ?_; (case hd => rfl); (case hg => rfl); (case hr => first | (go_simp; done) | (go_simp; rfl))
    intro q hg wr23 hq hb
    replace FB := Aside0.mk (blk_below FB.out hb)
    have FS := Aside0.mk hq
    replace Hb := Aside0.mk (below_step Hb.out hb)
    clear hq hb hg
    refine hK.out _ _ (HH.out _ Hb.out) (fun hHeld => ?_)
    clear hK K; refine norm_ (a' := ?_) ?_ ?_; rotate_left; show Act.put _ (some 17) _ = _; simp only [Own.ps]; rfl
    refine one_ (i := 4) (N := some 15) (Own.fl 11 639) rfl rfl (one_of HT_.out (by kernel_rfl)) (by decide) (fun K hK => ?_)
    refine goes_ Tryz.func25 (by kernel_rfl) rfl #[.slice A1 l1.length c1] (by rfl) rfl rfl Own.ha ?_
    with_reducible refine (cloneK_calls A1 c1 l1 w5 _ Hb.out (Kd.C_below R1.out HB.out) H1.out.1 H1.out.2.1).mono ?_
    rintro e wr24 ⟨v_, rfl, ⟨cs_, ho, hrp⟩, hb⟩
    refine ⟨_, rfl, ?_⟩
    replace FS := Aside0.mk (blk_below FS.out hb)
    replace FB := Aside0.mk (blk_below FB.out hb)
    have FV := Aside0.mk (FC.mk (own_weaken ho Hb.out.size) hrp (below_step Hb.out hb))
    replace Hb := Aside0.mk (below_step Hb.out hb)
    clear ho hrp hb
    refine hK.out _ _ (HH.out _ Hb.out) (fun hHeld => ?_)
    clear hK K; refine norm_ (a' := ?_) ?_ ?_; rotate_left; show Act.put _ (some 15) _ = _; simp only [Own.ps]; rfl
    refine one_ (i := 7) (N := some 18) (Own.fl 11 767) rfl rfl (one_of HT_.out (by kernel_rfl)) (by decide) (fun K hK => ?_)
    refine more_step w5.heap.size (by rfl) (.tmp 15) (.tmp 17) 33 43 (.agg #[(.string ⟨#[]⟩), (.int .i64 0), (.int .i64 0), (.string ⟨#[]⟩), (.int .i64 0), (.int .i64 0), (.int .i64 0), (.string ⟨#[]⟩), (.int .i64 0), (.slice none 0 0), (.int .i64 0), (.string ⟨#[]⟩)]) 12 144 rfl Tryz.underlying33 info43 rfl (by decide) (by omega) v_ l1.length cs_ [.string x.f0, .int .i64 x.f1, .int .i64 x.f2, .string x.f3, .int .i64 x.f4, .int .i64 x.f5, .int .i64 x.f6.f0, .string x.f6.f1, .int .i64 x.f6.f2, .slice A9 x.f6.f3.length c9, .int .i64 x.f7, .string x.f8] q rfl rfl rfl FS.out (by simp [Value.oneCell']) FV.out.own Hb.out.size (by have := H1.out.2.1; omega) ?_
    intro v1 wr25 ho hg
    have FX := Aside0.mk (FC.more EL.out FV.out ho hg (k43_mk w5 x R9.out.2 (Kd.C_below R9.out.1 HB.out)) rfl)
    replace FB := Aside0.mk (blk_grown FB.out hg (FC.far FV.out FB.out))
    replace Hb := Aside0.mk (Hb.out.grown hg Hb.out.size (own_base FV.out.own))
    clear ho hg FV FS
    refine hK.out _ _ (HH.out _ Hb.out) (fun hHeld => ?_)
    clear hK K; refine norm_ (a' := ?_) ?_ ?_; rotate_left; show Act.put _ (some 18) _ = _; simp only [Own.ps]; rfl
    obtain ⟨Av, cv, rfl, _, _⟩ := FX.out.C
    refine pure_ (i := 8) (N := some 19) (v := ?_) (a' := ?_) (Own.fl 11 1023) rfl rfl (any_of HT_.out (by kernel_rfl)) (fun _ _ _ h => h) (Or.inl ⟨by rfl, ?_⟩) ?_ ?_; rotate_left; intro w'; go_simp; with_reducible rfl; rotate_left; simp only [Own.ps]; rfl
    exact norm_ (by simp only [putAll, Act.put, List.setIfInBounds_toArray, List.set_cons_zero, List.set_cons_succ]) (hCont (v_, q, .slice Av L.length cv, g6) _ ⟨⟨_, FX.out⟩, FB.out, G6.out, Hb.out⟩)
 rintro ⟨v_, q, v1, g6⟩ w6 ⟨⟨cs_, hfx⟩, hfb, hg6, hb⟩
 replace hfx : FC w5 w6 v1 L cs_ := hfx
 replace hfb : w6.heap[g6]? = some (.cells #[.slice none 0 0, .slice none 0 0] 35 (0, 0)) := hfb
 replace hg6 : w5.heap.size ≤ g6 := hg6
 replace hb : Below w5.heap.size w5 w6 := hb
 obtain ⟨Av, cv, rfl, hlc, hlC⟩ := hfx.C
 have hne : some g6 ≠ (Value.slice Av L.length cv).ownBlock := FC.far hfx hfb
 refine norm_ (a' := ?_) ?_ ?_
 rotate_left
 ·
  simp only [putAll, Act.put, List.setIfInBounds_toArray, List.set_cons_zero, List.set_cons_succ]
  rfl
 refine one_ (i := 10) (N := none) (Own.fl 11 2047) rfl rfl (one_of HT_.out (by kernel_rfl)) (by decide) (fun K hK => ?_)
 obtain ⟨ys0, ys1, zs0, zs1⟩ := Own.box2 hfb
 refine skip_ (w1 := ((w6.setCell ⟨g6, 0, none⟩ (.slice A0 l0.length c0)).setCell ⟨g6, 1, none⟩ (.slice Av L.length cv))) (by rfl) rfl ?_ ?_
 ·
  first | (go_simp; done) | (go_simp; rfl)
 replace Hb := Aside0.mk (below_set (below_set hb hg6 (j := 0) (v := .slice A0 l0.length c0)) hg6 (j := 1) (v := .slice Av L.length cv))
 refine hK.out _ _ (HH.out _ Hb.out) (fun hHeld => ?_)
 clear hK K
 refine done_ (done_of HT_.out (by kernel_rfl)) ?_
 have BK6 := Aside0.mk (Own.put2 hfb (b0 := .slice A0 l0.length c0) (b1 := .slice Av L.length cv))
 have RX := Aside0.mk (FC.C' (FC.set hfx hne hg6 (.slice A0 l0.length c0) (.slice Av L.length cv)))
 clear hfx hfb hg6 hb hlc hlC hne hHeld ys0 ys1 zs0 zs1 HT_ HW_ L2 L3 L4
 generalize ((w6.setCell ⟨g6, 0, none⟩ (.slice A0 l0.length c0)).setCell ⟨g6, 1, none⟩ (.slice Av L.length cv)) = w7 at BK6 RX Hb ⊢
 replace BK4 := Aside0.mk (blk_below BK4.out Hb.out)
 replace HB := Aside0.mk (below_step HB.out Hb.out)
 clear Hb BK2 BK3; obtain ⟨yx0, yx1, zx0, zx1⟩ := Own.box2 BK6.out
 cases b2 with
 | false =>
  go_wp2_with (first | (go_at_call 24; (with_reducible refine (impl_IsValidContract.calls k A0 c0 l0 Av cv L false _ (Kd.C_below R0.out HB.out) H0.out.1 RX.out.2 RX.out.1 (GG.out.below HB.out) V2.out).mono ?_); rintro e w8 ⟨rfl, hb⟩; clear V2 yx0 yx1 zx0 zx1; replace RX := Aside0.mk (show _ ∧ _ from ⟨RX.out.1, Kd.C_below RX.out.2 hb⟩); replace BK4 := Aside0.mk (blk_below BK4.out hb); replace BK6 := Aside0.mk (blk_below BK6.out hb); replace HB := Aside0.mk (below_step HB.out hb); clear hb; obtain ⟨yx0, yx1, zx0, zx1⟩ := Own.box2 BK6.out; obtain ⟨yd0, yd1, zd0, zd1⟩ := Own.box2 BK4.out))
  refine bodyPost_ret (results_ct rfl _ _ g4 35 #[.slice none 0 0, .slice none 0 0] (0, 0) _ rfl (by with_reducible exact Own.put2 BK4.out) Tryz.underlying35 rfl (by kernel_rfl)) rfl ?_
  exact add2_nil HB.out G4.out
 | true =>
  go_wp2_with (first | (go_at_call 24; (with_reducible refine (impl_IsValidContract.calls k A0 c0 l0 Av cv L true _ (Kd.C_below R0.out HB.out) H0.out.1 RX.out.2 RX.out.1 (GG.out.below HB.out) V2.out).mono ?_); rintro e w8 ⟨rfl, hb⟩; clear V2 yx0 yx1 zx0 zx1; replace RX := Aside0.mk (show _ ∧ _ from ⟨RX.out.1, Kd.C_below RX.out.2 hb⟩); replace BK4 := Aside0.mk (blk_below BK4.out hb); replace BK6 := Aside0.mk (blk_below BK6.out hb); replace HB := Aside0.mk (below_step HB.out hb); clear hb; obtain ⟨yx0, yx1, zx0, zx1⟩ := Own.box2 BK6.out; obtain ⟨yd0, yd1, zd0, zd1⟩ := Own.box2 BK4.out) | (go_at_call 26; (with_reducible refine (ownK_calls A0 c0 l0 Av cv L _ (Kd.C_below R0.out HB.out) H0.out.1 RX.out.2 RX.out.1 H0.out.2 H1.out.2.2).mono ?_); rintro e w9 ⟨v0, vv, M, rfl, hs0, hs1, hm0, hm1, hb⟩; have HS := Aside0.mk (And.intro hs0 (And.intro hs1 (And.intro hm0 (And.intro hm1 (And.intro (HB.out.size) (blk_lt BK4.out)))))); replace BK4 := Aside0.mk (blk_below BK4.out hb); replace HB := Aside0.mk (below_step HB.out hb); clear hs0 hs1 hm0 hm1 hb yx0 yx1 zx0 zx1 yd0 yd1 zd0 zd1 RX; obtain ⟨Ap, np, cp, rfl⟩ := HS.out.1.form; obtain ⟨Aq, nq, cq, rfl⟩ := HS.out.2.1.form; obtain ⟨yd0, yd1, zd0, zd1⟩ := Own.box2 BK4.out))
  refine bodyPost_ret (results_ct rfl _ _ g4 35 #[.slice Ap np cp, .slice Aq nq cq] (0, 0) _ rfl (by with_reducible exact Own.put2 BK4.out) Tryz.underlying35 rfl (by kernel_rfl)) rfl ?_
  obtain ⟨hs0, hs1, hm0, hm1, hs, hl⟩ := HS.out
  exact add2_put HB.out G4.out hs0 hs1 hm0 hm1 hs hl
theorem addA_calls (k : Nat) (A0 : Option Addr) (c0 : Nat) (l0 : List ByteArray) (A1 : Option Addr) (c1 : Nat) (l1 : List S43) (x : S43) (A9 : Option Addr) (c9 : Nat) (w : World) (hr0 : Kd.C Kd.string w A0 l0.length l0) (hc0 : l0.length ≤ c0) (hr1 : Kd.C k43 w A1 l1.length l1) (hc1 : l1.length ≤ c1) (hr9 : Kd.C k41 w A9 x.f6.f3.length x.f6.f3) (hc9 : x.f6.f3.length ≤ c9) (hG : Own.Glob w) (g0 : List ByteArray) (g1 : List S43) (gb : Bool) (hz0 : l0.length ≤ 100000000) (hz1 : szR (l1 ++ [x]) ≤ 100000000) (h : impl_Add.f k l0 l1 x = some ((g0, g1), gb)) : Calls Tryz.prog 9 #[.agg #[.slice A0 l0.length c0, .slice A1 l1.length c1], .agg #[.string x.f0, .int .i64 x.f1, .int .i64 x.f2, .string x.f3, .int .i64 x.f4, .int .i64 x.f5, .int .i64 x.f6.f0, .string x.f6.f1, .int .i64 x.f6.f2, .slice A9 x.f6.f3.length c9, .int .i64 x.f7, .string x.f8]] w fun e w' => Add2 w w' e g0 g1 gb := by
 unfold impl_Add.f at h; obtain ⟨b1, h1, h⟩ := Option.bind_eq_some_iff.1 h
 have hz2 : l1.length ≤ 100000000 := by have := len_szR (l1 ++ [x]); rw [List.length_append] at this; omega
 cases b1 with
 | false =>
  rw [if_neg Bool.false_ne_true] at h
  simp only [Option.some.injEq, Prod.mk.injEq] at h
  obtain ⟨⟨rfl, rfl⟩, rfl⟩ := h
  exact add_no k A0 c0 l0 A1 c1 l1 x A9 c9 w hr0 hc0 hr1 hc1 hr9 hc9 hG h1
 | true =>
  rw [if_pos rfl] at h; obtain ⟨b2, h2, h⟩ := Option.bind_eq_some_iff.1 h
  have hb := add_b k A0 c0 l0 A1 c1 l1 x A9 c9 w hr0 hc0 hr1 hc1 hr9 hc9 hG (l1 ++ [x]) rfl hz0 hz1 h1 b2 h2
  cases b2 with
  | false =>
   rw [if_neg Bool.false_ne_true] at h
   simp only [Option.some.injEq, Prod.mk.injEq] at h
   obtain ⟨⟨rfl, rfl⟩, rfl⟩ := h
   exact hb
  | true =>
   rw [if_pos rfl] at h
   simp only [Option.some.injEq, Prod.mk.injEq] at h
   obtain ⟨⟨rfl, rfl⟩, rfl⟩ := h
   exact hb
end Go.Proofs.YtghcjheaicmpbaaGreatDoor.Own
