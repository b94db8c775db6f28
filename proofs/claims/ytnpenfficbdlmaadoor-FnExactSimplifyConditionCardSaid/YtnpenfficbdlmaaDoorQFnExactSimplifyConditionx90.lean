/- The law FnExactSimplifyCondition, walked: it says true where the functions that it calls answer as its mirror asks. No condition. -/
import Derived.Test.YtnpenfficbdlmaaDoorHeldC
import Derived.Test.YtnpenfficbdlmaaDoorSimJ
import Derived.Test.YtnpenfficbdlmaaDoorSimS
import Derived.Test.YtnpenfficbdlmaaDoorQFnExactSimplifyConditionx1
import Derived.Test.YtnpenfficbdlmaaDoorQFnExactSimplifyConditionx5
import Derived.Test.YtnpenfficbdlmaaDoorQFnExactSimplifyConditionx9
namespace Go.Proofs.YtnpenfficbdlmaaDoor.QFnExactSimplifyCondition
open Go.RowKit Go.Proofs.YtnpenfficbdlmaaDoorW.PrintWords Go.Proofs.YtnpenfficbdlmaaDoorW.PrintLast Go.Proofs.YtnpenfficbdlmaaDoorW.PrintMore Go.Proofs.YtnpenfficbdlmaaDoor.Own
set_option linter.unusedVariables false
set_option linter.unusedSimpArgs false
/-- What the law asks of the functions that it calls, in order. -/
def laws_FnExactSimplifyCondition.f (k : Nat) (a0 : Int) (a1 : ByteArray) (a2 : Int) (l : List S24) : Option Bool :=
  (laws_szCondition.f k a0 a1 a2 l 1048576).bind fun t => if t < 0 then some true else
  (laws_toCondition.f k a0 a1 a2 l).bind fun x => (spec_Simp.f k x.1 x.2.1 x.2.2.1 x.2.2.2).bind fun s => (impl_Simp.f k x.1 x.2.1 x.2.2.1 x.2.2.2).bind fun g =>
  (laws_eqCondition.f k g.1.f0 g.1.f1 g.1.f2 g.1.f3 s.1.f0 s.1.f1 s.1.f2 s.1.f3).bind fun e1 => (laws_eqCondition.f k x.1 x.2.1 x.2.2.1 x.2.2.2 x.1 x.2.1 x.2.2.1 x.2.2.2).bind fun e2 =>
  if e1 = true ∧ e2 = true ∧ g.2 = s.2 ∧ szL x.2.2.2 ≤ 100000000 ∧ szL g.1.f3 ≤ 100000000 then some true else none
/-- A stretch of the heap is as it was. -/
structure Gk (w0 W : World) (lo hi : Nat) : Prop where
  same : ∀ k, lo ≤ k → k < hi → W.heap[k]? = w0.heap[k]?
  size : hi ≤ W.heap.size
theorem Gk.below {w0 W W1 : World} {lo hi : Nat} (h : Gk w0 W lo hi) (hb : Below W.heap.size W W1) : Gk w0 W1 lo hi := ⟨fun k a b => (hb.block k (Nat.lt_of_lt_of_le b h.2)).trans (h.1 k a b), Nat.le_trans h.2 hb.size⟩
theorem Gk.kept {w0 W W1 : World} {lo hi : Nat} {S : Nat → Prop} (h : Gk w0 W lo hi) (hk : Kept W W1 S) (hS : ∀ k, S k → k < lo) : Gk w0 W1 lo hi := ⟨fun k a b => (hk.2 k (Nat.lt_of_lt_of_le b h.2) (fun hs => by have := hS k hs; omega)).trans (h.1 k a b), Nat.le_trans h.2 hk.1⟩
theorem Gk.set4 {w0 W : World} {lo hi g : Nat} (h : Gk w0 W lo hi) (hg : hi ≤ g) (a b c d : Value) : Gk w0 ((((W.setCell ⟨g, 0, none⟩ a).setCell ⟨g, 1, none⟩ b).setCell ⟨g, 2, none⟩ c).setCell ⟨g, 3, none⟩ d) lo hi := ⟨fun k x y => (put4k W g k (by omega) a b c d).trans (h.1 k x y), by rw [World.size_setCell, World.size_setCell, World.size_setCell, World.size_setCell]; exact h.2⟩
theorem Gk.sep {w0 W : World} {lo hi : Nat} {v : Value} {l : List S28} (h : Gk w0 W lo hi) (hs : Sep w0 lo hi v l) : Sep W lo hi v l := hs.kept h.1
theorem sep_read {W : World} {lo hi n c : Nat} {A : Option Addr} {l : List S28} (h : Sep W lo hi (.slice A n c) l) : l.length ≤ c ∧ Kd.C k28 W A l.length l := by
  obtain ⟨A', c', e, h1, h2⟩ := h.C
  injection e with e1 e2 e3
  subst e1 e3
  exact ⟨h1, h2⟩
theorem put4s {W : World} {g : Nat} {c0 c1 c2 c3 : Value} {t : TypeId} (h : W.heap[g]? = some (.cells #[c0, c1, c2, c3] t (0, 0))) (a b c d : Value) : ((((W.setCell ⟨g, 0, none⟩ a).setCell ⟨g, 1, none⟩ b).setCell ⟨g, 2, none⟩ c).setCell ⟨g, 3, none⟩ d).heap[g]? = some (.cells #[a, b, c, d] t (0, 0)) := Own.put4 h
theorem bs4 {w0 W : World} {b g : Nat} (h : Below b w0 W) (hg : b ≤ g) (a0 a1 a2 a3 : Value) : Below b w0 ((((W.setCell ⟨g, 0, none⟩ a0).setCell ⟨g, 1, none⟩ a1).setCell ⟨g, 2, none⟩ a2).setCell ⟨g, 3, none⟩ a3) := (((h.setCell (p := ⟨g, 0, none⟩) hg a0).setCell (p := ⟨g, 1, none⟩) hg a1).setCell (p := ⟨g, 2, none⟩) hg a2).setCell (p := ⟨g, 3, none⟩) hg a3
theorem below_kept {w0 W W1 : World} {b : Nat} {S : Nat → Prop} (h : Below b w0 W) (hb : b ≤ W.heap.size) (hk : Kept W W1 S) (h0 : Below 0 W W1) (hS : ∀ k, S k → b ≤ k) : Below b w0 W1 :=
  ⟨h0.os.trans h.os, h0.tape.trans h.tape, h0.output.trans h.output, Nat.le_trans h.size h0.size, fun k hk' => (hk.2 k (by omega) (fun hs => by have := hS k hs; omega)).trans (h.block k hk')⟩
set_option maxHeartbeats 16000000 in
set_option maxRecDepth 100000 in
theorem laws_FnExactSimplifyCondition.calls (k : Nat) (a0_0 : Int) (a0_1 : ByteArray) (a0_2 : Int) (A0_3 : Option Addr) (c0_3 : Nat) (l0_3 : List (S24)) (r : Bool) (w : World) (hr0_3 : Kd.C k24 w A0_3 l0_3.length l0_3) (hc0_3 : l0_3.length ≤ c0_3) (hG : Own.Glob w) (h : laws_FnExactSimplifyCondition.f k a0_0 a0_1 a0_2 l0_3 = some r) (hr_ : Aside0 (r = true)) :
    Calls Tryd.prog 3 #[.agg #[.int .i64 a0_0, .string a0_1, .int .i64 a0_2, .slice A0_3 l0_3.length c0_3]] w fun e w' => e = .returned (.bool r) ∧ Below w.heap.size w w' := by
  obtain rfl := hr_.out
  clear hr_
  have P := Aside0.mk (And.intro hc0_3 hr0_3)
  have GG := Aside0.mk hG
  have HB := Aside0.mk (Below.refl w.heap.size w)
  clear hr0_3 hc0_3 hG
  unfold laws_FnExactSimplifyCondition.f at h
  have hu1 := Tryd.underlying24
  have hu2 := Tryd.underlying28
  replace h := Own.bd h
  obtain ⟨t, A1, h⟩ := h
  by_cases ct : t < 0
  · have ct' := decide_eq_true ct
    clear ct h
    go_enter Tryd.func3, Tryd.ntmps3
    go_wp2_with (first | ((with_reducible refine gate_dst (N := 1) rfl ?_); refine Own.be (N := 1) (cs := #[.int .i64 a0_0, .string a0_1, .int .i64 a0_2, .slice A0_3 l0_3.length c0_3]) (t := 24) ?_; intro ga hg wa hbox hb; have BKa := Aside0.mk hbox; replace HB := Aside0.mk (below_step HB.out hb); obtain ⟨ya0, ya1, ya2, ya3, za0, za1, za2, za3⟩ := Own.box4 (hbox); clear hb hg hbox; have T1 := Aside0.mk True.intro) | (go_at_call 5; clear T1; (with_reducible refine (laws_szCondition.calls k a0_0 a0_1 a0_2 A0_3 c0_3 l0_3 1048576 t _ (Kd.C_below P.out.2 HB.out) P.out.1 A1.out).mono ?_); rintro e w1 ⟨rfl, hb⟩; clear ya0 za0 ya1 za1 ya2 za2 ya3 za3; replace HB := Aside0.mk (below_step HB.out hb); replace BKa := Aside0.mk (blk_below BKa.out hb); clear hb; obtain ⟨ya0, ya1, ya2, ya3, za0, za1, za2, za3⟩ := Own.box4 (BKa.out); have T2 := Aside0.mk True.intro))
    go_ret
    exact ⟨Own.rr, HB.out⟩
  rw [if_neg ct] at h
  have ct' := decide_eq_false ct
  clear ct
  replace h := Own.bd h
  obtain ⟨⟨x0, x1, x2, x3⟩, A3, h⟩ := h
  replace h := Own.bd h
  obtain ⟨⟨s, sb⟩, A4, h⟩ := h
  replace h := Own.bd h
  obtain ⟨⟨g, gb⟩, A5, h⟩ := h
  replace h := Own.bd h
  obtain ⟨e1, A6, h⟩ := h
  replace h := Own.bd h
  obtain ⟨e2, A7, h⟩ := h
  replace h := Own.ifn h
  obtain ⟨⟨rfl, rfl, hgs, hx, hg⟩, h⟩ := h
  simp only at A4 A5 A6 A7 hgs hx hg
  subst hgs
  have SX := Aside0.mk hx
  have SG := Aside0.mk hg
  clear h hx hg
  go_enter Tryd.func3, Tryd.ntmps3
  go_upto_region 10 with (first | ((with_reducible refine gate_dst (N := 1) rfl ?_); refine Own.be (N := 1) (cs := #[.int .i64 a0_0, .string a0_1, .int .i64 a0_2, .slice A0_3 l0_3.length c0_3]) (t := 24) ?_; intro ga hg wa hbox hb; have BKa := Aside0.mk hbox; replace HB := Aside0.mk (below_step HB.out hb); obtain ⟨ya0, ya1, ya2, ya3, za0, za1, za2, za3⟩ := Own.box4 (hbox); clear hb hg hbox; have T1 := Aside0.mk True.intro) | (go_at_call 5; clear T1; (with_reducible refine (laws_szCondition.calls k a0_0 a0_1 a0_2 A0_3 c0_3 l0_3 1048576 t _ (Kd.C_below P.out.2 HB.out) P.out.1 A1.out).mono ?_); rintro e w1 ⟨rfl, hb⟩; clear ya0 za0 ya1 za1 ya2 za2 ya3 za3; replace HB := Aside0.mk (below_step HB.out hb); replace BKa := Aside0.mk (blk_below BKa.out hb); clear hb; obtain ⟨ya0, ya1, ya2, ya3, za0, za1, za2, za3⟩ := Own.box4 (BKa.out); have T2 := Aside0.mk True.intro) | (go_at_call 7; clear T2; (with_reducible refine (laws_toCondition.calls k a0_0 a0_1 a0_2 A0_3 c0_3 l0_3 x0 x1 x2 x3 _ (Kd.C_below P.out.2 HB.out) P.out.1 A3.out).mono ?_); rintro e w5 ⟨v_, rfl, ho, hb⟩; clear ya0 za0 ya1 za1 ya2 za2 ya3 za3; replace HB := Aside0.mk (below_step HB.out hb); replace BKa := Aside0.mk (blk_below BKa.out hb); obtain ⟨Aq, cq, rfl⟩ := Kd.R_slice ho; have PT := Aside0.mk (Kd.R_reads' ho).2; clear ho hb; have T3 := Aside0.mk True.intro) | (go_at_call 6; clear T3; (with_reducible refine (spS_calls k x0 x1 x2 Aq cq x3 s gb _ PT.out.2 PT.out.1 A4.out).mono ?_); rintro e w6 ⟨v_, rfl, hv, hb⟩; replace HB := Aside0.mk (below_step HB.out hb); replace BKa := Aside0.mk (blk_below BKa.out hb); obtain ⟨As, cs, rfl⟩ := Kd.V_slice hv; have SA := Aside0.mk (Kd.V_reads' hv).2; have H6 := Aside0.mk (Below.refl w6.heap.size w6); clear hv hb PT; have T4 := Aside0.mk True.intro) | ((with_reducible refine gate_dst (N := 4) rfl ?_); clear T4; refine Own.be (N := 4) (cs := #[.int .i64 0, .string (⟨#[]⟩ : ByteArray), .int .i64 0, .slice none 0 0]) (t := 28) ?_; intro g4 hg w7 hbox hb; have HB6 := HB; have BK6 := BKa; replace HB := Aside0.mk (below_step HB.out hb); replace BKa := Aside0.mk (blk_below BKa.out hb); replace H6 := Aside0.mk (below_step H6.out hb); have GS := Aside0.mk (show w6.heap.size ≤ g4 from Nat.le_of_eq hg.symm); have NA := Aside0.mk (show ga ≠ g4 from by rw [hg]; exact Nat.ne_of_lt (blk_lt BK6.out)); have GW := Aside0.mk (show w.heap.size ≤ g4 from by rw [hg]; exact HB6.out.size); have BS := Aside0.mk hbox; obtain ⟨yn0, yn1, yn2, yn3, zn0, zn1, zn2, zn3⟩ := Own.box4 (hbox); clear hb hg hbox HB6 BK6; have T5 := Aside0.mk True.intro) | ((with_reducible refine gate_store (t := 28) (p := 4) rfl ?_); clear T5; refine store_event (t := 28) (p := 4) (v := ?vo_store4) (w1 := ((((w7.setCell ⟨g4, 0, none⟩ (.int .i64 s.f0)).setCell ⟨g4, 1, none⟩ (.string s.f1)).setCell ⟨g4, 2, none⟩ (.int .i64 s.f2)).setCell ⟨g4, 3, none⟩ (.slice As s.f3.length cs))) ?hg ?ho ?hn ?hr ?_; (case ho => rfl); (case hg => rfl); (case hn => rfl); (case hr => first | (go_simp; done) | (go_simp; rfl)); clear yn0 zn0 yn1 zn1 yn2 zn2 yn3 zn3; intro w8 hw; have n0_ := bs4 (g := g4) HB.out GW.out (.int .i64 s.f0) (.string s.f1) (.int .i64 s.f2) (.slice As s.f3.length cs); have n1_ := bs4 (g := g4) H6.out GS.out (.int .i64 s.f0) (.string s.f1) (.int .i64 s.f2) (.slice As s.f3.length cs); have n2_ := put4f (g := g4) BKa.out NA.out (.int .i64 s.f0) (.string s.f1) (.int .i64 s.f2) (.slice As s.f3.length cs); have n3_ := put4s BS.out (.int .i64 s.f0) (.string s.f1) (.int .i64 s.f2) (.slice As s.f3.length cs); rw [← hw] at n0_ n1_ n2_ n3_; clear hw; replace HB := Aside0.mk n0_; replace H6 := Aside0.mk n1_; replace BKa := Aside0.mk n2_; replace BS := Aside0.mk n3_; clear n0_ n1_ n2_ n3_; replace SA := Aside0.mk (show _ ∧ _ from ⟨SA.out.1, Kd.C_below SA.out.2 H6.out⟩); replace P := Aside0.mk (show _ ∧ _ from ⟨P.out.1, Kd.C_below P.out.2 HB.out⟩); replace GG := Aside0.mk (GG.out.below HB.out); have HZ := Aside0.mk (Below.refl w8.heap.size w8); clear H6 GS NA GW; obtain ⟨ya0, ya1, ya2, ya3, za0, za1, za2, za3⟩ := Own.box4 (BKa.out); have T6 := Aside0.mk True.intro) | (go_at_call 7; clear T6; (with_reducible refine (laws_toCondition.calls k a0_0 a0_1 a0_2 A0_3 c0_3 l0_3 x0 x1 x2 x3 w8 P.out.2 P.out.1 A3.out).mono ?_); rintro e wx ⟨v_, rfl, ho, hb⟩; clear ya0 za0 ya1 za1 ya2 za2 ya3 za3; replace HZ := Aside0.mk (below_step HZ.out hb); obtain ⟨Ax, cx, rfl⟩ := Kd.R_slice ho; have HX := Aside0.mk ho; have HY := Aside0.mk (Below.refl wx.heap.size wx); have WXL := Aside0.mk (show w8.heap.size ≤ wx.heap.size from hb.size); clear ho hb; have T7 := Aside0.mk True.intro) | ((with_reducible refine gate_dst (N := 6) rfl ?_); clear T7; refine Own.be (N := 6) (cs := #[.int .i64 0, .string (⟨#[]⟩ : ByteArray), .int .i64 0, .slice none 0 0]) (t := 28) ?_; intro g6 hg wx2 hbox hb; have GX := Aside0.mk (show wx.heap.size ≤ g6 from Nat.le_of_eq hg.symm); have GY := Aside0.mk (show w8.heap.size ≤ g6 from Nat.le_trans HZ.out.size GX.out); replace HZ := Aside0.mk (below_step HZ.out hb); replace HY := Aside0.mk (below_step HY.out hb); have BX := Aside0.mk hbox; obtain ⟨yn0, yn1, yn2, yn3, zn0, zn1, zn2, zn3⟩ := Own.box4 (hbox); clear hb hg hbox; have T8 := Aside0.mk True.intro) | ((with_reducible refine gate_store (t := 28) (p := 6) rfl ?_); clear T8; refine store_event (t := 28) (p := 6) (v := ?vo_store6) (w1 := ((((wx2.setCell ⟨g6, 0, none⟩ (.int .i64 x0)).setCell ⟨g6, 1, none⟩ (.string x1)).setCell ⟨g6, 2, none⟩ (.int .i64 x2)).setCell ⟨g6, 3, none⟩ (.slice Ax x3.length cx))) ?hg ?ho ?hn ?hr ?_; (case ho => rfl); (case hg => rfl); (case hn => rfl); (case hr => first | (go_simp; done) | (go_simp; rfl)); clear yn0 zn0 yn1 zn1 yn2 zn2 yn3 zn3; intro wx3 hw; have n0_ := bs4 (g := g6) HZ.out GY.out (.int .i64 x0) (.string x1) (.int .i64 x2) (.slice Ax x3.length cx); have n1_ := bs4 (g := g6) HY.out GX.out (.int .i64 x0) (.string x1) (.int .i64 x2) (.slice Ax x3.length cx); have n2_ := put4s BX.out (.int .i64 x0) (.string x1) (.int .i64 x2) (.slice Ax x3.length cx); rw [← hw] at n0_ n1_ n2_; clear hw; replace HZ := Aside0.mk n0_; replace HY := Aside0.mk n1_; replace BX := Aside0.mk n2_; clear n0_ n1_ n2_; clear GY; obtain ⟨yx0, yx1, yx2, yx3, zx0, zx1, zx2, zx3⟩ := Own.box4 (BX.out); have T9 := Aside0.mk True.intro) | (go_at_call 8; clear T9; (with_reducible refine (spI_calls k x0 x1 x2 Ax cx x3 g gb _ (Kd.C_below (Kd.R_reads' HX.out).2.2 HY.out) (Kd.R_reads' HX.out).2.1 (GG.out.below HZ.out) SX.out SG.out A5.out).mono ?_); rintro e wg ⟨v_, rfl, hs, hb⟩; clear yx0 zx0 yx1 zx1 yx2 zx2 yx3 zx3; obtain ⟨Ag, cg, rfl, _, _⟩ := hs.C; have HS := Aside0.mk hs; have GK := Aside0.mk (show Gk wg wg wx3.heap.size wg.heap.size from ⟨fun _ _ _ => rfl, Nat.le_refl _⟩); have XL := Aside0.mk (show wx.heap.size ≤ wx3.heap.size ∧ wx3.heap.size ≤ wg.heap.size from ⟨HY.out.size, hb.size⟩); replace HZ := Aside0.mk (below_step HZ.out hb); replace HY := Aside0.mk (below_step HY.out hb); replace BX := Aside0.mk (blk_below BX.out hb); clear hs hb; have T10 := Aside0.mk True.intro) | ((with_reducible refine gate_dst (N := 7) rfl ?_); clear T10; refine Own.be (N := 7) (cs := #[.int .i64 0, .string (⟨#[]⟩ : ByteArray), .int .i64 0, .slice none 0 0]) (t := 28) ?_; intro g7 hg wg2 hbox hb; have GZ := Aside0.mk (show wg.heap.size ≤ g7 from Nat.le_of_eq hg.symm); have NX := Aside0.mk (show g6 ≠ g7 from by rw [hg]; exact Nat.ne_of_lt (blk_lt BX.out)); have ZL := Aside0.mk (show w8.heap.size ≤ wg.heap.size from HZ.out.size); replace HZ := Aside0.mk (below_step HZ.out hb); replace HY := Aside0.mk (below_step HY.out hb); replace BX := Aside0.mk (blk_below BX.out hb); replace GK := Aside0.mk (Gk.below GK.out hb); have BG := Aside0.mk hbox; obtain ⟨yn0, yn1, yn2, yn3, zn0, zn1, zn2, zn3⟩ := Own.box4 (hbox); clear hb hg hbox; have T11 := Aside0.mk True.intro) | ((with_reducible refine gate_store (t := 28) (p := 7) rfl ?_); clear T11; refine store_event (t := 28) (p := 7) (v := ?vo_store7) (w1 := ((((wg2.setCell ⟨g7, 0, none⟩ (.int .i64 g.f0)).setCell ⟨g7, 1, none⟩ (.string g.f1)).setCell ⟨g7, 2, none⟩ (.int .i64 g.f2)).setCell ⟨g7, 3, none⟩ (.slice Ag g.f3.length cg))) ?hg ?ho ?hn ?hr ?_; (case ho => rfl); (case hg => rfl); (case hn => rfl); (case hr => first | (go_simp; done) | (go_simp; rfl)); clear yn0 zn0 yn1 zn1 yn2 zn2 yn3 zn3; intro wg3 hw; have n0_ := bs4 (g := g7) HZ.out (Nat.le_trans ZL.out GZ.out) (.int .i64 g.f0) (.string g.f1) (.int .i64 g.f2) (.slice Ag g.f3.length cg); have n1_ := bs4 (g := g7) HY.out (Nat.le_trans XL.out.1 (Nat.le_trans XL.out.2 GZ.out)) (.int .i64 g.f0) (.string g.f1) (.int .i64 g.f2) (.slice Ag g.f3.length cg); have n2_ := put4f (g := g7) BX.out NX.out (.int .i64 g.f0) (.string g.f1) (.int .i64 g.f2) (.slice Ag g.f3.length cg); have n3_ := Gk.set4 (g := g7) GK.out GZ.out (.int .i64 g.f0) (.string g.f1) (.int .i64 g.f2) (.slice Ag g.f3.length cg); have n4_ := put4s BG.out (.int .i64 g.f0) (.string g.f1) (.int .i64 g.f2) (.slice Ag g.f3.length cg); rw [← hw] at n0_ n1_ n2_ n3_ n4_; clear hw; replace HZ := Aside0.mk n0_; replace HY := Aside0.mk n1_; replace BX := Aside0.mk n2_; replace GK := Aside0.mk n3_; replace BG := Aside0.mk n4_; clear n0_ n1_ n2_ n3_ n4_; clear NX; obtain ⟨yg0, yg1, yg2, yg3, zg0, zg1, zg2, zg3⟩ := Own.box4 (BG.out); obtain ⟨ys0, ys1, ys2, ys3, zs0, zs1, zs2, zs3⟩ := Own.box4 (blk_below BS.out HZ.out); have T12 := Aside0.mk True.intro) | (go_at_call 9; clear T12; (with_reducible refine (laws_eqCondition.calls k g.f0 g.f1 g.f2 Ag cg g.f3 s.f0 s.f1 s.f2 As cs s.f3 true _ (sep_read (GK.out.sep HS.out)).2 (sep_read (GK.out.sep HS.out)).1 (Kd.C_below SA.out.2 HZ.out) SA.out.1 A6.out).mono ?_); rintro e wc ⟨rfl, hb⟩; clear yg0 zg0 yg1 zg1 yg2 zg2 yg3 zg3 ys0 zs0 ys1 zs1 ys2 zs2 ys3 zs3; replace HZ := Aside0.mk (below_step HZ.out hb); replace HY := Aside0.mk (below_step HY.out hb); replace BX := Aside0.mk (blk_below BX.out hb); replace GK := Aside0.mk (Gk.below GK.out hb); replace BG := Aside0.mk (blk_below BG.out hb); clear hb; have T13 := Aside0.mk True.intro))
  (try simp only [Own.ps])
  replace HZ := Aside0.mk (below_drew1 HZ.out)
  replace HY := Aside0.mk (below_drew1 HY.out)
  replace BX := Aside0.mk (blk_drew BX.out)
  replace GK := Aside0.mk (Gk.below GK.out (below_drew1 (Below.refl _ _)))
  replace BG := Aside0.mk (blk_drew BG.out)
  refine start_ (n := 5) (S := fun w' => w'.cell? ⟨g6, 0, none⟩ = some (.int .i64 x0) ∧ w'.cell? ⟨g6, 1, none⟩ = some (.string x1) ∧ w'.cell? ⟨g6, 2, none⟩ = some (.int .i64 x2) ∧ w'.cell? ⟨g6, 3, none⟩ = some (.slice Ax x3.length cx) ∧ w'.cell? ⟨ga, 0, none⟩ = some (.int .i64 a0_0) ∧ w'.cell? ⟨ga, 1, none⟩ = some (.string a0_1) ∧ w'.cell? ⟨ga, 2, none⟩ = some (.int .i64 a0_2) ∧ w'.cell? ⟨ga, 3, none⟩ = some (.slice A0_3 l0_3.length c0_3)) (ds := []) #[false, false, false, false, false] (by kernel_rfl) rfl rfl ⟨blk_cell BX.out 0, blk_cell BX.out 1, blk_cell BX.out 2, blk_cell BX.out 3, blk_cell (blk_below BKa.out HZ.out) 0, blk_cell (blk_below BKa.out HZ.out) 1, blk_cell (blk_below BKa.out HZ.out) 2, blk_cell (blk_below BKa.out HZ.out) 3⟩ (fun hHeld => ?_)
  generalize wc.drew = wd at HZ HY BX GK BG hHeld ⊢
  refine take_ (i := 0) (N := some 41) (v := ?_) (a' := ?_) #[true, false, false, false, false] rfl rfl (by kernel_rfl) (fun _ _ _ h => h) (Or.inl ⟨by rfl, ?_⟩) hHeld ?_ ?_
  rotate_left
  ·
    rintro w' ⟨q0, q1, q2, q3, q4, q5, q6, q7⟩
    go_simp
    with_reducible rfl
  rotate_left
  ·
    simp only [Own.ps]
    rfl
  refine take_ (i := 1) (N := some 42) (v := ?_) (a' := ?_) #[true, true, false, false, false] rfl rfl (by kernel_rfl) (fun _ _ _ h => h) (Or.inl ⟨by rfl, ?_⟩) hHeld ?_ ?_
  rotate_left
  ·
    rintro w' ⟨q0, q1, q2, q3, q4, q5, q6, q7⟩
    go_simp
    with_reducible rfl
  rotate_left
  ·
    simp only [Own.ps]
    rfl
  refine one_ (i := 2) (N := some 43) #[true, true, true, false, false] rfl rfl (by kernel_rfl) (by decide) (fun K hK => ?_)
  refine goes_ Tryd.func7 (by kernel_rfl) rfl #[.agg #[.int .i64 a0_0, .string a0_1, .int .i64 a0_2, .slice A0_3 l0_3.length c0_3]] (by rfl) rfl rfl Own.ha ?_
  with_reducible refine (laws_toCondition.calls k a0_0 a0_1 a0_2 A0_3 c0_3 l0_3 x0 x1 x2 x3 _ (Kd.C_below P.out.2 HZ.out) P.out.1 A3.out).mono ?_
  rintro e we ⟨v_, rfl, ho, hb⟩
  refine ⟨_, rfl, ?_⟩
  replace HZ := Aside0.mk (below_step HZ.out hb)
  replace HY := Aside0.mk (below_step HY.out hb)
  replace BX := Aside0.mk (blk_below BX.out hb)
  replace GK := Aside0.mk (Gk.below GK.out hb)
  replace BG := Aside0.mk (blk_below BG.out hb)
  obtain ⟨An, cn, rfl⟩ := Kd.R_slice ho
  have Q0 := Aside0.mk (Kd.R_reads' ho).2
  clear ho hb
  refine hK.out _ _ ⟨blk_cell BX.out 0, blk_cell BX.out 1, blk_cell BX.out 2, blk_cell BX.out 3, blk_cell (blk_below BKa.out HZ.out) 0, blk_cell (blk_below BKa.out HZ.out) 1, blk_cell (blk_below BKa.out HZ.out) 2, blk_cell (blk_below BKa.out HZ.out) 3⟩ (fun hHeld => ?_)
  clear hK K
  refine norm_ (a' := ?_) ?_ ?_
  rotate_left
  ·
    show Act.put _ (some 43) _ = _
    simp only [Own.ps]
    rfl
  refine one_ (i := 3) (N := some 44) #[true, true, true, true, false] rfl rfl (by kernel_rfl) (by decide) (fun K hK => ?_)
  refine goes_ Tryd.func9 (by kernel_rfl) rfl #[.agg #[(.int .i64 x0), (.string x1), (.int .i64 x2), (.slice Ax x3.length cx)], .agg #[.int .i64 x0, .string x1, .int .i64 x2, .slice An x3.length cn]] (by rfl) rfl rfl Own.ha ?_
  with_reducible refine (laws_eqCondition.calls k x0 x1 x2 Ax cx x3 x0 x1 x2 An cn x3 true _ (Kd.C_below (Kd.R_reads' HX.out).2.2 HY.out) (Kd.R_reads' HX.out).2.1 Q0.out.2 Q0.out.1 A7.out).mono ?_
  rintro e wf ⟨rfl, hb⟩
  refine ⟨_, rfl, ?_⟩
  replace HZ := Aside0.mk (below_step HZ.out hb)
  replace HY := Aside0.mk (below_step HY.out hb)
  replace BX := Aside0.mk (blk_below BX.out hb)
  replace GK := Aside0.mk (Gk.below GK.out hb)
  replace BG := Aside0.mk (blk_below BG.out hb)
  clear hb Q0
  refine hK.out _ _ ⟨blk_cell BX.out 0, blk_cell BX.out 1, blk_cell BX.out 2, blk_cell BX.out 3, blk_cell (blk_below BKa.out HZ.out) 0, blk_cell (blk_below BKa.out HZ.out) 1, blk_cell (blk_below BKa.out HZ.out) 2, blk_cell (blk_below BKa.out HZ.out) 3⟩ (fun hHeld => ?_)
  clear hK K
  refine norm_ (a' := ?_) ?_ ?_
  rotate_left
  ·
    show Act.put _ (some 44) _ = _
    simp only [Own.ps]
    rfl
  refine pure_ (i := 4) (N := some 45) (v := ?_) (a' := ?_) #[true, true, true, true, true] rfl rfl (by kernel_rfl) (fun _ _ _ h => h) (Or.inl ⟨by rfl, ?_⟩) ?_ ?_
  rotate_left
  ·
    intro w'
    go_simp
    with_reducible rfl
  rotate_left
  ·
    simp only [Own.ps]
    rfl
  refine done_ (by kernel_rfl) ?_
  clear hHeld
  obtain ⟨yx0, yx1, yx2, yx3, zx0, zx1, zx2, zx3⟩ := Own.box4 (BX.out)
  go_wp2_with (first | (go_at_call 10; (with_reducible refine (markC1_calls mt mk_all ((shC_of_R (ok0 := fun _ => True) _ x3 _ _ (Nat.le_refl _) (fun _ h_ => h_) HX.out).same (Same.of_below HY.out)) x0 x2 x1 _ 1 (Same.refl _ _) (by omega) (by have := SX.out; omega)).mono ?_); rintro e wm ⟨r1, rfl, q1, q2, hs⟩; clear yx0 zx0 yx1 zx1 yx2 zx2 yx3 zx3; have cr1 : decide (r1 < 0) = false := decide_eq_false (by omega); replace HZ := Aside0.mk (hs.lift HZ.out HZ.out.size (fun _ h_ => h_.2.1)); replace GK := Aside0.mk (Gk.kept GK.out hs.kept (fun _ h_ => Nat.lt_of_lt_of_le h_.2.2 XL.out.1)); replace BG := Aside0.mk (blk_kept BG.out hs.kept (fun h_ => by have h1_ := h_.2.2; have h2_ := XL.out; have h3_ := GZ.out; omega)); clear q1 q2 hs HY BX HX; obtain ⟨yg0, yg1, yg2, yg3, zg0, zg1, zg2, zg3⟩ := Own.box4 (BG.out); obtain ⟨ys0, ys1, ys2, ys3, zs0, zs1, zs2, zs3⟩ := Own.box4 (blk_below BS.out HZ.out); have T1 := Aside0.mk True.intro) | (go_at_call 9; clear T1; (with_reducible refine (laws_eqCondition.calls k g.f0 g.f1 g.f2 Ag cg g.f3 s.f0 s.f1 s.f2 As cs s.f3 true _ (sep_read (GK.out.sep HS.out)).2 (sep_read (GK.out.sep HS.out)).1 (Kd.C_below SA.out.2 HZ.out) SA.out.1 A6.out).mono ?_); rintro e wn ⟨rfl, hb⟩; clear yg0 zg0 yg1 zg1 yg2 zg2 yg3 zg3 ys0 zs0 ys1 zs1 ys2 zs2 ys3 zs3; replace HZ := Aside0.mk (below_step HZ.out hb); replace GK := Aside0.mk (Gk.below GK.out hb); replace BG := Aside0.mk (blk_below BG.out hb); clear hb; obtain ⟨yg0, yg1, yg2, yg3, zg0, zg1, zg2, zg3⟩ := Own.box4 (BG.out); have T2 := Aside0.mk True.intro) | (go_at_call 10; clear T2; (with_reducible refine (markP1_calls (GK.out.sep HS.out) g.f0 g.f2 g.f1 _ 1 (fun _ _ _ => rfl) GK.out.2 (by omega) (by have := SG.out; omega)).mono ?_); rintro e wo ⟨r2, rfl, q1, q2, hh, hk, h0⟩; clear yg0 zg0 yg1 zg1 yg2 zg2 yg3 zg3; have HH := Aside0.mk hh; have RL := Aside0.mk (show r2 ≤ 900000000 from by have := SG.out; omega); have cr2 : decide (r2 < 0) = false := decide_eq_false (by omega); have GM := Aside0.mk (show Gk wo wo wx3.heap.size wg.heap.size from ⟨fun _ _ _ => rfl, Nat.le_trans GK.out.2 hk.1⟩); replace HZ := Aside0.mk (below_kept HZ.out HZ.out.size hk h0 (fun k_ h_ => Nat.le_trans (Nat.le_trans WXL.out XL.out.1) h_.1)); replace BG := Aside0.mk (blk_kept BG.out hk (fun h_ => by have h1_ := h_.2; have h3_ := GZ.out; omega)); clear q1 q2 hh hk h0 GK HS; obtain ⟨yg0, yg1, yg2, yg3, zg0, zg1, zg2, zg3⟩ := Own.box4 (BG.out); have T3 := Aside0.mk True.intro) | (go_at_call 11; clear T3; (with_reducible refine (heldP1_calls HH.out g.f0 g.f2 g.f1 _ GM.out.1 GM.out.2 (by omega) RL.out).mono ?_); rintro e wp ⟨rfl, hb⟩; clear yg0 zg0 yg1 zg1 yg2 zg2 yg3 zg3; replace HZ := Aside0.mk (below_step HZ.out hb); replace GM := Aside0.mk (Gk.below GM.out hb); replace BG := Aside0.mk (blk_below BG.out hb); clear hb; obtain ⟨ya0, ya1, ya2, ya3, za0, za1, za2, za3⟩ := Own.box4 (blk_below BKa.out HZ.out); have T4 := Aside0.mk True.intro) | (go_at_call 7; clear T4; (with_reducible refine (laws_toCondition.calls k a0_0 a0_1 a0_2 A0_3 c0_3 l0_3 x0 x1 x2 x3 _ (Kd.C_below P.out.2 HZ.out) P.out.1 A3.out).mono ?_); rintro e wq ⟨v_, rfl, ho, hb⟩; clear ya0 za0 ya1 za1 ya2 za2 ya3 za3; replace HZ := Aside0.mk (below_step HZ.out hb); replace GM := Aside0.mk (Gk.below GM.out hb); replace BG := Aside0.mk (blk_below BG.out hb); obtain ⟨Au, cu, rfl⟩ := Kd.R_slice ho; have PU := Aside0.mk (Kd.R_reads' ho).2; clear ho hb; have T5 := Aside0.mk True.intro) | (go_at_call 8; clear T5; (with_reducible refine (spI_calls k x0 x1 x2 Au cu x3 g gb _ PU.out.2 PU.out.1 (GG.out.below HZ.out) SX.out SG.out A5.out).mono ?_); rintro e wh ⟨v_, rfl, hs, hb⟩; replace HZ := Aside0.mk (below_step HZ.out hb); replace GM := Aside0.mk (Gk.below GM.out hb); replace BG := Aside0.mk (blk_below BG.out hb); obtain ⟨Ah, ch, rfl, hl_, hc_⟩ := hs.C; have HH8 := Aside0.mk (And.intro hl_ hc_); have HQ := Aside0.mk (Below.refl wh.heap.size wh); clear hs hb hl_ hc_ PU; have T6 := Aside0.mk True.intro) | ((with_reducible refine gate_dst (N := 12) rfl ?_); clear T6; refine Own.be (N := 12) (cs := #[.int .i64 0, .string (⟨#[]⟩ : ByteArray), .int .i64 0, .slice none 0 0]) (t := 28) ?_; intro g12 hg wh2 hbox hb; have GH := Aside0.mk (show wh.heap.size ≤ g12 from Nat.le_of_eq hg.symm); have NG := Aside0.mk (show g7 ≠ g12 from by rw [hg]; exact Nat.ne_of_lt (blk_lt BG.out)); have GL := Aside0.mk (show wg.heap.size ≤ wh.heap.size from GM.out.2); have ZH := Aside0.mk (show w8.heap.size ≤ wh.heap.size from HZ.out.size); replace HZ := Aside0.mk (below_step HZ.out hb); replace GM := Aside0.mk (Gk.below GM.out hb); replace BG := Aside0.mk (blk_below BG.out hb); replace HQ := Aside0.mk (below_step HQ.out hb); have BH := Aside0.mk hbox; obtain ⟨yn0, yn1, yn2, yn3, zn0, zn1, zn2, zn3⟩ := Own.box4 (hbox); clear hb hg hbox; have T7 := Aside0.mk True.intro) | ((with_reducible refine gate_store (t := 28) (p := 12) rfl ?_); clear T7; refine store_event (t := 28) (p := 12) (v := ?vo_store12) (w1 := ((((wh2.setCell ⟨g12, 0, none⟩ (.int .i64 g.f0)).setCell ⟨g12, 1, none⟩ (.string g.f1)).setCell ⟨g12, 2, none⟩ (.int .i64 g.f2)).setCell ⟨g12, 3, none⟩ (.slice Ah g.f3.length ch))) ?hg ?ho ?hn ?hr ?_; (case ho => rfl); (case hg => rfl); (case hn => rfl); (case hr => first | (go_simp; done) | (go_simp; rfl)); clear yn0 zn0 yn1 zn1 yn2 zn2 yn3 zn3; intro wh3 hw; have n0_ := bs4 (g := g12) HZ.out (Nat.le_trans ZH.out GH.out) (.int .i64 g.f0) (.string g.f1) (.int .i64 g.f2) (.slice Ah g.f3.length ch); have n1_ := bs4 (g := g12) HQ.out GH.out (.int .i64 g.f0) (.string g.f1) (.int .i64 g.f2) (.slice Ah g.f3.length ch); have n2_ := put4f (g := g12) BG.out NG.out (.int .i64 g.f0) (.string g.f1) (.int .i64 g.f2) (.slice Ah g.f3.length ch); have n3_ := Gk.set4 (g := g12) GM.out (Nat.le_trans GL.out GH.out) (.int .i64 g.f0) (.string g.f1) (.int .i64 g.f2) (.slice Ah g.f3.length ch); have n4_ := put4s BH.out (.int .i64 g.f0) (.string g.f1) (.int .i64 g.f2) (.slice Ah g.f3.length ch); rw [← hw] at n0_ n1_ n2_ n3_ n4_; clear hw; replace HZ := Aside0.mk n0_; replace HQ := Aside0.mk n1_; replace BG := Aside0.mk n2_; replace GM := Aside0.mk n3_; replace BH := Aside0.mk n4_; clear n0_ n1_ n2_ n3_ n4_; replace HH8 := Aside0.mk (show _ ∧ _ from ⟨HH8.out.1, Kd.C_below HH8.out.2 HQ.out⟩); clear HQ NG GH GL ZH; obtain ⟨yh0, yh1, yh2, yh3, zh0, zh1, zh2, zh3⟩ := Own.box4 (BH.out); obtain ⟨ys0, ys1, ys2, ys3, zs0, zs1, zs2, zs3⟩ := Own.box4 (blk_below BS.out HZ.out); have T8 := Aside0.mk True.intro) | (go_at_call 9; clear T8; (with_reducible refine (laws_eqCondition.calls k g.f0 g.f1 g.f2 Ah ch g.f3 s.f0 s.f1 s.f2 As cs s.f3 true _ HH8.out.2 HH8.out.1 (Kd.C_below SA.out.2 HZ.out) SA.out.1 A6.out).mono ?_); rintro e wi ⟨rfl, hb⟩; clear yh0 zh0 yh1 zh1 yh2 zh2 yh3 zh3 ys0 zs0 ys1 zs1 ys2 zs2 ys3 zs3; replace HZ := Aside0.mk (below_step HZ.out hb); replace GM := Aside0.mk (Gk.below GM.out hb); replace BG := Aside0.mk (blk_below BG.out hb); clear hb BH HH8; obtain ⟨yg0, yg1, yg2, yg3, zg0, zg1, zg2, zg3⟩ := Own.box4 (BG.out); have T9 := Aside0.mk True.intro) | (go_at_call 11; clear T9; (with_reducible refine (heldP1_calls HH.out g.f0 g.f2 g.f1 _ GM.out.1 GM.out.2 (by omega) RL.out).mono ?_); rintro e wj ⟨rfl, hb⟩; clear yg0 zg0 yg1 zg1 yg2 zg2 yg3 zg3; replace HZ := Aside0.mk (below_step HZ.out hb); replace GM := Aside0.mk (Gk.below GM.out hb); replace BG := Aside0.mk (blk_below BG.out hb); clear hb; have T10 := Aside0.mk True.intro))
  go_ret
  exact ⟨Own.rr, below_step HB.out HZ.out⟩
end Go.Proofs.YtnpenfficbdlmaaDoor.QFnExactSimplifyCondition
