/- The law FnExactAddClause, walked: it says true where the functions that it calls answer as its mirror asks. No condition. -/
import Derived.Test.YtghcjheaicmpbaaGreatDoorHeldK
import Derived.Test.YtghcjheaicmpbaaGreatDoorAddK
import Derived.Test.YtghcjheaicmpbaaGreatDoorMarkK
import Derived.Test.YtghcjheaicmpbaaGreatDoorQFnExactAddClausex1
import Derived.Test.YtghcjheaicmpbaaGreatDoorQFnExactAddClausex1
namespace Go.Proofs.YtghcjheaicmpbaaGreatDoor.QFnExactAddClause
open Go.RowKit Go.Proofs.YtghcjheaicmpbaaGreatDoorW.PrintWords Go.Proofs.YtghcjheaicmpbaaGreatDoorW.PrintLast Go.Proofs.YtghcjheaicmpbaaGreatDoor.Own
set_option linter.unusedVariables false
set_option linter.unusedSimpArgs false
/-- What the law asks of the functions that it calls, in order. -/
def laws_FnExactAddClause.f (k : Nat) (l0_0 : List ByteArray) (l0_1 : List S30) (a1_0 : ByteArray) (a1_1 : Int) (a1_2 : Int) (a1_3 : ByteArray) (a1_4 : Int) (a1_5 : Int) (a1_6 : Int) (a1_7 : ByteArray) (a1_8 : Int) (l1_9 : List S28) (a1_10 : Int) (a1_11 : ByteArray) : Option Bool :=
 (laws_szContract.f k l0_0 l0_1 1048576).bind fun t => if t < 0 then some true else (laws_szClause.f k a1_0 a1_1 a1_2 a1_3 a1_4 a1_5 a1_6 a1_7 a1_8 l1_9 a1_10 a1_11 t).bind fun u => if u < 0 then some true else
 (laws_toContract.f k l0_0 l0_1).bind fun p => (laws_toClause.f k a1_0 a1_1 a1_2 a1_3 a1_4 a1_5 a1_6 a1_7 a1_8 l1_9 a1_10 a1_11).bind fun ⟨y0, y1, y2, y3, y4, y5, y6, y7, y8, y9, y10, y11⟩ => (spec_AddClause.f k p.1 p.2 y0 y1 y2 y3 y4 y5 y6 y7 y8 y9 y10 y11).bind fun s => (impl_Add.f k p.1 p.2 (⟨y0, y1, y2, y3, y4, y5, ⟨y6, y7, y8, y9⟩, y10, y11⟩ : S43)).bind fun g =>
 (laws_eqContract.f k g.1.1 g.1.2 s.1 s.2.1).bind fun e1 => (laws_eqContract.f k p.1 p.2 p.1 p.2).bind fun e2 => (laws_eqClause.f k y0 y1 y2 y3 y4 y5 y6 y7 y8 y9 y10 y11 y0 y1 y2 y3 y4 y5 y6 y7 y8 y9 y10 y11).bind fun e3 =>
 if e1 = true ∧ e2 = true ∧ e3 = true ∧ g.2 = s.2.2 ∧ p.1.length ≤ 100000000 ∧ szR (p.2 ++ [(⟨y0, y1, y2, y3, y4, y5, ⟨y6, y7, y8, y9⟩, y10, y11⟩ : S43)]) ≤ 100000000 ∧ p.1.length + 11 * szK p.2 + 3 * szL y9 ≤ 800000000 ∧ g.1.1.length + szR g.1.2 ≤ 800000000 then some true else none
structure Gk (w0 W : World) (lo hi : Nat) : Prop where
 same : ∀ k, lo ≤ k → k < hi → W.heap[k]? = w0.heap[k]?
 size : hi ≤ W.heap.size
theorem Gk.below {w0 W W1 : World} {lo hi : Nat} (h : Gk w0 W lo hi) (hb : Below W.heap.size W W1) : Gk w0 W1 lo hi := ⟨fun k a b => (hb.block k (Nat.lt_of_lt_of_le b h.2)).trans (h.1 k a b), Nat.le_trans h.2 hb.size⟩
theorem Gk.kept {w0 W W1 : World} {lo hi : Nat} {S : Nat → Prop} (h : Gk w0 W lo hi) (hk : Kept W W1 S) (hS : ∀ k, S k → k < lo) : Gk w0 W1 lo hi := ⟨fun k a b => (hk.2 k (Nat.lt_of_lt_of_le b h.2) (fun hs => by have := hS k hs; omega)).trans (h.1 k a b), Nat.le_trans h.2 hk.1⟩
theorem below_kept {w0 W W1 : World} {b : Nat} {S : Nat → Prop} (h : Below b w0 W) (hb : b ≤ W.heap.size) (hk : Kept W W1 S) (h0 : Below 0 W W1) (hS : ∀ k, S k → b ≤ k) : Below b w0 W1 :=
 ⟨h0.os.trans h.os, h0.tape.trans h.tape, h0.output.trans h.output, Nat.le_trans h.size h0.size, fun k hk' => (hk.2 k (by omega) (fun hs => by have := hS k hs; omega)).trans (h.block k hk')⟩
theorem pc {α : Type} {d : Kd α} {w w1 : World} {A : Option Addr} {n c : Nat} {xs : List α} (h : n ≤ c ∧ Kd.C d w A n xs) (hb : Below w.heap.size w w1) : n ≤ c ∧ Kd.C d w1 A n xs := ⟨h.1, Kd.C_below h.2 hb⟩
theorem bs2 {w0 W : World} {b g : Nat} (h : Below b w0 W) (hg : b ≤ g) (a0 a1 : Value) : Below b w0 ((W.setCell ⟨g, 0, none⟩ a0).setCell ⟨g, 1, none⟩ a1) := (h.setCell (p := ⟨g, 0, none⟩) hg a0).setCell (p := ⟨g, 1, none⟩) hg a1
theorem sepS_C {w : World} {lo hi : Nat} {v : Value} {l : List ByteArray} (h : SepS w lo hi v l) : ∃ A c, v = .slice A l.length c ∧ l.length ≤ c ∧ Kd.C Kd.string w A l.length l := by
 cases h with
 | nil h A c => exact ⟨A, c, rfl, Nat.zero_le _, rfl, by simp, fun h => absurd h (Nat.lt_irrefl 0)⟩
 | row g c l hp h0 h1 ht hc hm hf =>
  refine ⟨_, c, rfl, hc, Kd.C_of_reads (d := ByteArray.empty) ⟨rfl, by omega, fun _ => ⟨_, rfl, fun j hj => ?_⟩⟩⟩
  rw [Addr.add_lit, Nat.zero_add, hf j hj, List.getD_eq_getElem?_getD, List.getElem?_eq_getElem hj]
  rfl
theorem sepR_C {w : World} {lo hi : Nat} {v : Value} {l : List S43} (h : SepR w lo hi v l) : ∃ A c, v = .slice A l.length c ∧ l.length ≤ c ∧ Kd.C k43 w A l.length l := by
 cases h with
 | nil h A c => exact ⟨A, c, rfl, Nat.zero_le _, rfl, by simp, fun h => absurd h (Nat.lt_irrefl 0)⟩
 | row g c l cur V B E hp h0 h1 ht hc hm hf hb hd hr =>
  refine ⟨_, c, rfl, hc, rfl, by omega, fun _ => ⟨_, rfl, fun j x hj => ?_⟩⟩
  obtain ⟨hj2, rfl⟩ := List.getElem?_eq_some_iff.1 hj
  obtain ⟨A9, c9, e, h9, h8⟩ := (hr j hj2).C; have q := hf j hj2; rw [e] at q
  refine ⟨_, rfl, k43_mk w l[j] h9 h8, fun i u hu => ?_⟩
  have hi : i < 12 := (List.getElem?_eq_some_iff.1 hu).1
  rw [Addr.add_lit, Nat.zero_add, blk_cell ht]
  exact (q i hi).trans hu
theorem sepS_read {W : World} {lo hi n c : Nat} {A : Option Addr} {l : List ByteArray} (h : SepS W lo hi (.slice A n c) l) : l.length ≤ c ∧ Kd.C Kd.string W A l.length l := by
 obtain ⟨A', c', e, h1, h2⟩ := sepS_C h
 injection e with e1 e2 e3
 subst e1 e3
 exact ⟨h1, h2⟩
theorem sepR_read {W : World} {lo hi n c : Nat} {A : Option Addr} {l : List S43} (h : SepR W lo hi (.slice A n c) l) : l.length ≤ c ∧ Kd.C k43 W A l.length l := by
 obtain ⟨A', c', e, h1, h2⟩ := sepR_C h
 injection e with e1 e2 e3
 subst e1 e3
 exact ⟨h1, h2⟩
/-- What is read whatever is written into the block g. -/
structure Off {α : Type} (d : Kd α) (g : Nat) (w : World) (v : Value) (l : List α) : Prop where
 of : ∃ A c, v = .slice A l.length c ∧ l.length ≤ c ∧ ∀ W : World, (∀ k, k ≠ g → k < w.heap.size → W.heap[k]? = w.heap[k]?) → Kd.C d W A l.length l
theorem Off.below {α : Type} {d : Kd α} {g : Nat} {w w1 : World} {v : Value} {l : List α} (h : Off d g w v l) (hb : Below w.heap.size w w1) : Off d g w1 v l := by
 obtain ⟨A, c, e, hc, hW⟩ := h.of
 exact ⟨A, c, e, hc, fun W hk => hW W (fun k a b => (hk k a (Nat.lt_of_lt_of_le b hb.size)).trans (hb.block k b))⟩
theorem Off.read {α : Type} {d : Kd α} {g : Nat} {w : World} {A : Option Addr} {n c : Nat} {l : List α} (h : Off d g w (.slice A n c) l) (a b : Value) : l.length ≤ c ∧ Kd.C d ((w.setCell ⟨g, 0, none⟩ a).setCell ⟨g, 1, none⟩ b) A l.length l := by
 obtain ⟨A', c', e, hc, hW⟩ := h.of
 injection e with e1 e2 e3
 subst e1 e3
 exact ⟨hc, hW _ (fun k hk _ => by rw [Below.heap_setCell _ ⟨g, 1, none⟩ _ k hk, Below.heap_setCell _ ⟨g, 0, none⟩ _ k hk])⟩
theorem off_R {α : Type} {d : Kd α} {e b g : Nat} {ok : Nat → Prop} {w : World} {v : Value} {l : List α} (h : Kd.R d e w b (fun k => ok k ∧ k ≠ g) v l) : Off d g w v l := by
 obtain ⟨A, c, rfl, hc, _⟩ := Kd.R_reads h
 exact ⟨A, c, rfl, hc, fun W hW => (Kd.R_reads' (Kd.R_step h (fun k hk hlt => hW k hk.2 hlt))).2.2⟩
theorem off_Rt {α : Type} {d : Kd α} {e b g : Nat} {ok : Nat → Prop} {w : World} {v : Value} {l : List α} {cs : Array Value} {t : Nat} (h : Kd.R d e w b ok v l) (hg : w.heap[g]? = some (.cells cs t (0, 0))) (ht : ∀ q, q ∈ e :: d.E → q ≠ t) : Off d g w v l := off_R (Kd.R_types h hg ht)
theorem off_Rg {α : Type} {d : Kd α} {e b g : Nat} {ok : Nat → Prop} {w : World} {v : Value} {l : List α} (h : Kd.R d e w b ok v l) (hg : w.heap.size ≤ g) : Off d g w v l := off_R (Kd.R_mono (Kd.R_bound h) (fun k hk => ⟨hk.1, by have := hk.2.2.1; omega⟩))
theorem off_S {lo hi g : Nat} {w : World} {v : Value} {l : List ByteArray} (h : SepS w lo hi v l) (hh : hi ≤ w.heap.size) (hg : g < lo ∨ hi ≤ g) : Off Kd.string g w v l := by
 obtain ⟨A, c, rfl, hc, _⟩ := sepS_C h
 exact ⟨A, c, rfl, hc, fun W hW => (sepS_read (h.kept (fun k a b => hW k (by omega) (by omega)))).2⟩
theorem off_K {lo hi g : Nat} {w : World} {v : Value} {l : List S43} (h : SepR w lo hi v l) (hh : hi ≤ w.heap.size) (hg : g < lo ∨ hi ≤ g) : Off k43 g w v l := by
 obtain ⟨A, c, rfl, hc, _⟩ := sepR_C h
 exact ⟨A, c, rfl, hc, fun W hW => (sepR_read (h.kept (fun k a b => hW k (by omega) (by omega)))).2⟩
def laws_FnExactAddClause.T8 : Bool × List (List Nat × List Nat) := (true, [([], []), ([0], [0]), ([], []), ([2, 1], [2]), ([1, 3, 3], [1, 3]), ([4], [4]), ([5], [5]), ([5], [5]), ([], []), ([8, 6, 4, 0, 1, 2, 3, 4, 5, 6, 8], [6, 8]), ([7, 9, 0, 1, 2, 3, 4, 5, 6, 7, 8, 9], [7])])
def laws_FnExactAddClause.B8 : List Nat := [0, 1, 0, 7, 15, 31, 63, 63, 0, 383, 1023]
theorem laws_FnExactAddClause.tab8 : rtab .any (opsOf Tryz.f3 8) = laws_FnExactAddClause.T8 := by kernel_rfl
theorem laws_FnExactAddClause.bits8 : waitsOk laws_FnExactAddClause.T8.2 laws_FnExactAddClause.B8 = true := by kernel_rfl
def laws_FnExactAddClause.T31 : Bool × List (List Nat × List Nat) := (true, [([], []), ([0], [0]), ([], []), ([2, 1], [2]), ([1, 3, 3], [1, 3]), ([4], [4]), ([5], [5]), ([5], [5]), ([], []), ([8, 6, 4, 0, 1, 2, 3, 4, 5, 6, 8], [6, 8]), ([7, 9, 0, 1, 2, 3, 4, 5, 6, 7, 8, 9], [7])])
def laws_FnExactAddClause.B31 : List Nat := [0, 1, 0, 7, 15, 31, 63, 63, 0, 383, 1023]
theorem laws_FnExactAddClause.tab31 : rtab .any (opsOf Tryz.f3 31) = laws_FnExactAddClause.T31 := by kernel_rfl
theorem laws_FnExactAddClause.bits31 : waitsOk laws_FnExactAddClause.T31.2 laws_FnExactAddClause.B31 = true := by kernel_rfl
set_option maxHeartbeats 32000000 in
set_option maxRecDepth 100000 in
theorem laws_FnExactAddClause.calls (k : Nat) (A0_0 : Option Addr) (c0_0 : Nat) (l0_0 : List ByteArray) (A0_1 : Option Addr) (c0_1 : Nat) (l0_1 : List (S30)) (a1_0 : ByteArray) (a1_1 : Int) (a1_2 : Int) (a1_3 : ByteArray) (a1_4 : Int) (a1_5 : Int) (a1_6 : Int) (a1_7 : ByteArray) (a1_8 : Int) (A1_9 : Option Addr) (c1_9 : Nat) (l1_9 : List (S28)) (a1_10 : Int) (a1_11 : ByteArray) (r : Bool) (w : World) (hr0_0 : Kd.C Kd.string w A0_0 l0_0.length l0_0) (hc0_0 : l0_0.length ≤ c0_0) (hr0_1 : Kd.C k30 w A0_1 l0_1.length l0_1) (hc0_1 : l0_1.length ≤ c0_1) (hr1_9 : Kd.C k28 w A1_9 l1_9.length l1_9) (hc1_9 : l1_9.length ≤ c1_9) (hG : Own.Glob w) (h : laws_FnExactAddClause.f k l0_0 l0_1 a1_0 a1_1 a1_2 a1_3 a1_4 a1_5 a1_6 a1_7 a1_8 l1_9 a1_10 a1_11 = some r) (hr_ : Aside0 (r = true)) :
 Calls Tryz.prog 3 #[.agg #[.slice A0_0 l0_0.length c0_0, .slice A0_1 l0_1.length c0_1], .agg #[.string a1_0, .int .i64 a1_1, .int .i64 a1_2, .string a1_3, .int .i64 a1_4, .int .i64 a1_5, .int .i64 a1_6, .string a1_7, .int .i64 a1_8, .slice A1_9 l1_9.length c1_9, .int .i64 a1_10, .string a1_11]] w fun e w' => e = .returned (.bool r) ∧ Below w.heap.size w w' := by
 obtain rfl := hr_.out; clear hr_
 have P00 := Aside0.mk (And.intro hc0_0 hr0_0)
 have P01 := Aside0.mk (And.intro hc0_1 hr0_1)
 have P10 := Aside0.mk (And.intro hc1_9 hr1_9)
 have GG := Aside0.mk hG
 have HB := Aside0.mk (Below.refl w.heap.size w)
 clear hr0_0 hc0_0 hr0_1 hc0_1 hr1_9 hc1_9 hG; unfold laws_FnExactAddClause.f at h; have hu1 := Tryz.underlying25; have hu2 := Tryz.underlying30; have hu3 := Tryz.underlying35; have hu4 := Tryz.underlying43; replace h := Own.bd h; obtain ⟨t, A1, h⟩ := h
 by_cases ct : t < 0
 · have ct' := decide_eq_true ct
   clear ct h
   go_enter Tryz.func3, Tryz.ntmps3
   go_wp2_with (first | ((with_reducible refine gate_dst (N := 2) rfl ?_); refine Own.be (N := 2) (cs := #[.slice A0_0 l0_0.length c0_0, .slice A0_1 l0_1.length c0_1]) (t := 25) ?_; intro ga hg wa hbox hb; have BKa := Aside0.mk hbox; replace HB := Aside0.mk (below_step HB.out hb); clear hb hg hbox; have T1 := Aside0.mk True.intro) | ((with_reducible refine gate_dst (N := 3) rfl ?_); clear T1; refine Own.be (N := 3) (cs := #[.string a1_0, .int .i64 a1_1, .int .i64 a1_2, .string a1_3, .int .i64 a1_4, .int .i64 a1_5, .int .i64 a1_6, .string a1_7, .int .i64 a1_8, .slice A1_9 l1_9.length c1_9, .int .i64 a1_10, .string a1_11]) (t := 30) ?_; intro gb hg wb hbox hb; have BKb := Aside0.mk hbox; replace HB := Aside0.mk (below_step HB.out hb); replace BKa := Aside0.mk (blk_below BKa.out hb); obtain ⟨ua0, ua1, va0, va1⟩ := Own.box2 (BKa.out); clear hb hg hbox; have T2 := Aside0.mk True.intro) | (go_at_call 4; clear T2; (with_reducible refine (laws_szContract.calls k A0_0 c0_0 l0_0 A0_1 c0_1 l0_1 1048576 t _ (Kd.C_below P00.out.2 HB.out) P00.out.1 (Kd.C_below P01.out.2 HB.out) P01.out.1 A1.out).mono ?_); rintro e w1 ⟨rfl, hb⟩; clear ua0 ua1 va0 va1; replace HB := Aside0.mk (below_step HB.out hb); replace BKa := Aside0.mk (blk_below BKa.out hb); replace BKb := Aside0.mk (blk_below BKb.out hb); obtain ⟨ub0, ub1, ub2, ub3, ub4, ub5, ub6, ub7, ub8, ub9, ub10, ub11, vb0, vb1, vb2, vb3, vb4, vb5, vb6, vb7, vb8, vb9, vb10, vb11⟩ := Own.box12 (BKb.out); clear hb; have T3 := Aside0.mk True.intro))
   go_ret
   exact ⟨Own.rr, HB.out⟩
 rw [if_neg ct] at h; have ct' := decide_eq_false ct; clear ct; replace h := Own.bd h; obtain ⟨u, A2, h⟩ := h
 by_cases cu : u < 0
 · have cu' := decide_eq_true cu
   clear cu h
   go_enter Tryz.func3, Tryz.ntmps3
   go_wp2_with (first | ((with_reducible refine gate_dst (N := 2) rfl ?_); refine Own.be (N := 2) (cs := #[.slice A0_0 l0_0.length c0_0, .slice A0_1 l0_1.length c0_1]) (t := 25) ?_; intro ga hg wa hbox hb; have BKa := Aside0.mk hbox; replace HB := Aside0.mk (below_step HB.out hb); clear hb hg hbox; have T1 := Aside0.mk True.intro) | ((with_reducible refine gate_dst (N := 3) rfl ?_); clear T1; refine Own.be (N := 3) (cs := #[.string a1_0, .int .i64 a1_1, .int .i64 a1_2, .string a1_3, .int .i64 a1_4, .int .i64 a1_5, .int .i64 a1_6, .string a1_7, .int .i64 a1_8, .slice A1_9 l1_9.length c1_9, .int .i64 a1_10, .string a1_11]) (t := 30) ?_; intro gb hg wb hbox hb; have BKb := Aside0.mk hbox; replace HB := Aside0.mk (below_step HB.out hb); replace BKa := Aside0.mk (blk_below BKa.out hb); obtain ⟨ua0, ua1, va0, va1⟩ := Own.box2 (BKa.out); clear hb hg hbox; have T2 := Aside0.mk True.intro) | (go_at_call 4; clear T2; (with_reducible refine (laws_szContract.calls k A0_0 c0_0 l0_0 A0_1 c0_1 l0_1 1048576 t _ (Kd.C_below P00.out.2 HB.out) P00.out.1 (Kd.C_below P01.out.2 HB.out) P01.out.1 A1.out).mono ?_); rintro e w1 ⟨rfl, hb⟩; clear ua0 ua1 va0 va1; replace HB := Aside0.mk (below_step HB.out hb); replace BKa := Aside0.mk (blk_below BKa.out hb); replace BKb := Aside0.mk (blk_below BKb.out hb); obtain ⟨ub0, ub1, ub2, ub3, ub4, ub5, ub6, ub7, ub8, ub9, ub10, ub11, vb0, vb1, vb2, vb3, vb4, vb5, vb6, vb7, vb8, vb9, vb10, vb11⟩ := Own.box12 (BKb.out); clear hb; have T3 := Aside0.mk True.intro) | (go_at_call 5; clear T3; (with_reducible refine (laws_szClause.calls k a1_0 a1_1 a1_2 a1_3 a1_4 a1_5 a1_6 a1_7 a1_8 A1_9 c1_9 l1_9 a1_10 a1_11 t u _ (Kd.C_below P10.out.2 HB.out) P10.out.1 A2.out).mono ?_); rintro e w2 ⟨rfl, hb⟩; clear ub0 ub1 ub2 ub3 ub4 ub5 ub6 ub7 ub8 ub9 ub10 ub11 vb0 vb1 vb2 vb3 vb4 vb5 vb6 vb7 vb8 vb9 vb10 vb11; replace HB := Aside0.mk (below_step HB.out hb); replace BKa := Aside0.mk (blk_below BKa.out hb); replace BKb := Aside0.mk (blk_below BKb.out hb); clear hb; have T4 := Aside0.mk True.intro))
   go_ret
   exact ⟨Own.rr, HB.out⟩
 rw [if_neg cu] at h; have cu' := decide_eq_false cu; clear cu; replace h := Own.bd h; obtain ⟨⟨p0, p1⟩, A3, h⟩ := h; replace h := Own.bd h; obtain ⟨⟨y0, y1, y2, y3, y4, y5, y6, y7, y8, y9, y10, y11⟩, A4, h⟩ := h; replace h := Own.bd h; obtain ⟨⟨s0, s1, sb⟩, A5, h⟩ := h; replace h := Own.bd h; obtain ⟨⟨⟨g0, g1⟩, gf⟩, A6, h⟩ := h; replace h := Own.bd h; obtain ⟨e1, A7, h⟩ := h; replace h := Own.bd h; obtain ⟨e2, A8, h⟩ := h; replace h := Own.bd h; obtain ⟨e3, A9, h⟩ := h; replace h := Own.ifn h; obtain ⟨⟨rfl, rfl, rfl, hgs, z1, z2, z3, z4⟩, h⟩ := h
 simp only at A4 A5 A6 A7 A8 A9 hgs z1 z2 z3 z4
 subst hgs; have Z1 := Aside0.mk z1; have Z2 := Aside0.mk z2; have Z3 := Aside0.mk z3; have Z4 := Aside0.mk z4; clear h z1 z2 z3 z4
 go_enter Tryz.func3, Tryz.ntmps3
 go_upto_region 8 with (first | ((with_reducible refine gate_dst (N := 2) rfl ?_); refine Own.be (N := 2) (cs := #[.slice A0_0 l0_0.length c0_0, .slice A0_1 l0_1.length c0_1]) (t := 25) ?_; intro ga hg wa hbox hb; have BKa := Aside0.mk hbox; replace HB := Aside0.mk (below_step HB.out hb); clear hb hg hbox; have T1 := Aside0.mk True.intro) | ((with_reducible refine gate_dst (N := 3) rfl ?_); clear T1; refine Own.be (N := 3) (cs := #[.string a1_0, .int .i64 a1_1, .int .i64 a1_2, .string a1_3, .int .i64 a1_4, .int .i64 a1_5, .int .i64 a1_6, .string a1_7, .int .i64 a1_8, .slice A1_9 l1_9.length c1_9, .int .i64 a1_10, .string a1_11]) (t := 30) ?_; intro gb hg wb hbox hb; have BKb := Aside0.mk hbox; replace HB := Aside0.mk (below_step HB.out hb); replace BKa := Aside0.mk (blk_below BKa.out hb); obtain ⟨ua0, ua1, va0, va1⟩ := Own.box2 (BKa.out); clear hb hg hbox; have T2 := Aside0.mk True.intro) | (go_at_call 4; clear T2; (with_reducible refine (laws_szContract.calls k A0_0 c0_0 l0_0 A0_1 c0_1 l0_1 1048576 t _ (Kd.C_below P00.out.2 HB.out) P00.out.1 (Kd.C_below P01.out.2 HB.out) P01.out.1 A1.out).mono ?_); rintro e w1 ⟨rfl, hb⟩; clear ua0 ua1 va0 va1; replace HB := Aside0.mk (below_step HB.out hb); replace BKa := Aside0.mk (blk_below BKa.out hb); replace BKb := Aside0.mk (blk_below BKb.out hb); obtain ⟨ub0, ub1, ub2, ub3, ub4, ub5, ub6, ub7, ub8, ub9, ub10, ub11, vb0, vb1, vb2, vb3, vb4, vb5, vb6, vb7, vb8, vb9, vb10, vb11⟩ := Own.box12 (BKb.out); clear hb; have T3 := Aside0.mk True.intro) | (go_at_call 5; clear T3; (with_reducible refine (laws_szClause.calls k a1_0 a1_1 a1_2 a1_3 a1_4 a1_5 a1_6 a1_7 a1_8 A1_9 c1_9 l1_9 a1_10 a1_11 t u _ (Kd.C_below P10.out.2 HB.out) P10.out.1 A2.out).mono ?_); rintro e w2 ⟨rfl, hb⟩; clear ub0 ub1 ub2 ub3 ub4 ub5 ub6 ub7 ub8 ub9 ub10 ub11 vb0 vb1 vb2 vb3 vb4 vb5 vb6 vb7 vb8 vb9 vb10 vb11; replace HB := Aside0.mk (below_step HB.out hb); replace BKa := Aside0.mk (blk_below BKa.out hb); replace BKb := Aside0.mk (blk_below BKb.out hb); clear hb; have T4 := Aside0.mk True.intro))
 (try simp only [Own.ps])
 replace P00 := Aside0.mk (pc P00.out HB.out)
 replace P01 := Aside0.mk (pc P01.out HB.out)
 replace P10 := Aside0.mk (pc P10.out HB.out)
 replace GG := Aside0.mk (GG.out.below HB.out)
 clear T4
 replace BKa := Aside0.mk (blk_drew BKa.out)
 replace BKb := Aside0.mk (blk_drew BKb.out)
 replace HB := Aside0.mk (below_drew1 HB.out)
 replace GG := Aside0.mk (Glob.below GG.out (below_drew1 (Below.refl _ _)))
 replace P00 := Aside0.mk (pc P00.out (below_drew1 (Below.refl _ _)))
 replace P01 := Aside0.mk (pc P01.out (below_drew1 (Below.refl _ _)))
 replace P10 := Aside0.mk (pc P10.out (below_drew1 (Below.refl _ _)))
 refine start_ (n := 11) (S := fun w' => w'.cell? ⟨ga, 0, none⟩ = some (.slice A0_0 l0_0.length c0_0) ∧ w'.cell? ⟨ga, 1, none⟩ = some (.slice A0_1 l0_1.length c0_1) ∧ w'.cell? ⟨gb, 0, none⟩ = some (.string a1_0) ∧ w'.cell? ⟨gb, 1, none⟩ = some (.int .i64 a1_1) ∧ w'.cell? ⟨gb, 2, none⟩ = some (.int .i64 a1_2) ∧ w'.cell? ⟨gb, 3, none⟩ = some (.string a1_3) ∧ w'.cell? ⟨gb, 4, none⟩ = some (.int .i64 a1_4) ∧ w'.cell? ⟨gb, 5, none⟩ = some (.int .i64 a1_5) ∧ w'.cell? ⟨gb, 6, none⟩ = some (.int .i64 a1_6) ∧ w'.cell? ⟨gb, 7, none⟩ = some (.string a1_7) ∧ w'.cell? ⟨gb, 8, none⟩ = some (.int .i64 a1_8) ∧ w'.cell? ⟨gb, 9, none⟩ = some (.slice A1_9 l1_9.length c1_9) ∧ w'.cell? ⟨gb, 10, none⟩ = some (.int .i64 a1_10) ∧ w'.cell? ⟨gb, 11, none⟩ = some (.string a1_11)) (ds := []) (Own.fl 11 0) (by kernel_rfl) rfl rfl ⟨blk_cell BKa.out 0, blk_cell BKa.out 1, blk_cell BKb.out 0, blk_cell BKb.out 1, blk_cell BKb.out 2, blk_cell BKb.out 3, blk_cell BKb.out 4, blk_cell BKb.out 5, blk_cell BKb.out 6, blk_cell BKb.out 7, blk_cell BKb.out 8, blk_cell BKb.out 9, blk_cell BKb.out 10, blk_cell BKb.out 11⟩ (fun hHeld => ?_); refine with_tabW laws_FnExactAddClause.tab8 laws_FnExactAddClause.bits8 (fun HT_ HW_ => ?_)
 generalize w2.drew = wz at BKa BKb HB GG P00 P01 P10 hHeld ⊢
 have HZ := Aside0.mk (Below.refl wz.heap.size wz)
 have LA := Aside0.mk (blk_lt BKa.out)
 have LB := Aside0.mk (blk_lt BKb.out)
 have HH := Aside0.mk (fun (w' : World) (ha : w'.heap[ga]? = some (.cells #[.slice A0_0 l0_0.length c0_0, .slice A0_1 l0_1.length c0_1] 25 (0, 0))) (hb : w'.heap[gb]? = some (.cells #[.string a1_0, .int .i64 a1_1, .int .i64 a1_2, .string a1_3, .int .i64 a1_4, .int .i64 a1_5, .int .i64 a1_6, .string a1_7, .int .i64 a1_8, .slice A1_9 l1_9.length c1_9, .int .i64 a1_10, .string a1_11] 30 (0, 0))) => (⟨blk_cell ha 0, blk_cell ha 1, blk_cell hb 0, blk_cell hb 1, blk_cell hb 2, blk_cell hb 3, blk_cell hb 4, blk_cell hb 5, blk_cell hb 6, blk_cell hb 7, blk_cell hb 8, blk_cell hb 9, blk_cell hb 10, blk_cell hb 11⟩ : w'.cell? ⟨ga, 0, none⟩ = some (.slice A0_0 l0_0.length c0_0) ∧ w'.cell? ⟨ga, 1, none⟩ = some (.slice A0_1 l0_1.length c0_1) ∧ w'.cell? ⟨gb, 0, none⟩ = some (.string a1_0) ∧ w'.cell? ⟨gb, 1, none⟩ = some (.int .i64 a1_1) ∧ w'.cell? ⟨gb, 2, none⟩ = some (.int .i64 a1_2) ∧ w'.cell? ⟨gb, 3, none⟩ = some (.string a1_3) ∧ w'.cell? ⟨gb, 4, none⟩ = some (.int .i64 a1_4) ∧ w'.cell? ⟨gb, 5, none⟩ = some (.int .i64 a1_5) ∧ w'.cell? ⟨gb, 6, none⟩ = some (.int .i64 a1_6) ∧ w'.cell? ⟨gb, 7, none⟩ = some (.string a1_7) ∧ w'.cell? ⟨gb, 8, none⟩ = some (.int .i64 a1_8) ∧ w'.cell? ⟨gb, 9, none⟩ = some (.slice A1_9 l1_9.length c1_9) ∧ w'.cell? ⟨gb, 10, none⟩ = some (.int .i64 a1_10) ∧ w'.cell? ⟨gb, 11, none⟩ = some (.string a1_11)))
 refine take_ (i := 0) (N := some 28) (v := ?_) (a' := ?_) (Own.fl 11 1) rfl rfl (take_ofW HT_.out HW_.out (by kernel_rfl)) (fun _ _ _ h => h) (Or.inl ⟨by rfl, ?_⟩) hHeld ?_ ?_; rotate_left; rintro w' ⟨q0, q1, q2, q3, q4, q5, q6, q7, q8, q9, q10, q11, q12, q13⟩; go_simp; with_reducible rfl; rotate_left; simp only [Own.ps]; rfl
 refine take_ (i := 2) (N := some 30) (v := ?_) (a' := ?_) (Own.fl 11 5) rfl rfl (take_ofW HT_.out HW_.out (by kernel_rfl)) (fun _ _ _ h => h) (Or.inl ⟨by rfl, ?_⟩) hHeld ?_ ?_; rotate_left; rintro w' ⟨q0, q1, q2, q3, q4, q5, q6, q7, q8, q9, q10, q11, q12, q13⟩; go_simp; with_reducible rfl; rotate_left; simp only [Own.ps]; rfl
 refine join_ (σ := Value × Value × Value × Value × Value × Nat) 2 (Own.fl 11 511) (fun s_ => [(29, .agg #[s_.1, s_.2.1]), (31, .agg #[.string y0, .int .i64 y1, .int .i64 y2, .string y3, .int .i64 y4, .int .i64 y5, .int .i64 y6, .string y7, .int .i64 y8, s_.2.2.1, .int .i64 y10, .string y11]), (32, .tuple #[.agg #[s_.2.2.2.1, s_.2.2.2.2.1], .bool gf]), (6, .pointer (some ⟨s_.2.2.2.2.2, 0, none⟩)), (27, .tuple #[.agg #[s_.2.2.2.1, s_.2.2.2.2.1], .bool gf]), (33, .agg #[s_.2.2.2.1, s_.2.2.2.2.1]), (34, .bool gf)]) (fun s_ w' => Off Kd.string s_.2.2.2.2.2 w' s_.2.2.2.1 s0 ∧ Off k43 s_.2.2.2.2.2 w' s_.2.2.2.2.1 s1 ∧ w'.heap[s_.2.2.2.2.2]? = some (.cells #[.slice none 0 0, .slice none 0 0] 35 (0, 0)) ∧ wz.heap.size ≤ s_.2.2.2.2.2 ∧ Below wz.heap.size wz w' ∧ w'.heap[ga]? = some (.cells #[.slice A0_0 l0_0.length c0_0, .slice A0_1 l0_1.length c0_1] 25 (0, 0)) ∧ w'.heap[gb]? = some (.cells #[.string a1_0, .int .i64 a1_1, .int .i64 a1_2, .string a1_3, .int .i64 a1_4, .int .i64 a1_5, .int .i64 a1_6, .string a1_7, .int .i64 a1_8, .slice A1_9 l1_9.length c1_9, .int .i64 a1_10, .string a1_11] 30 (0, 0))) ?_ ?_
 rotate_left
 ·
  intro hCont
  refine two_ (i := 1) (j := 8) (Ni := some 29) (Nj := some 6) (Own.fl 11 7) (Own.fl 11 261) rfl rfl rfl rfl (two_of HT_.out (by kernel_rfl)) (by decide) (by decide) (fun K hK => ?_) (fun K hK => ?_)
  ·
   refine goes_ Tryz.func7 (by kernel_rfl) rfl #[.agg #[.slice A0_0 l0_0.length c0_0, .slice A0_1 l0_1.length c0_1]] (by rfl) rfl rfl Own.ha ?_
   with_reducible refine (laws_toContract.calls k A0_0 c0_0 l0_0 A0_1 c0_1 l0_1 p0 p1 _ (Kd.C_below P00.out.2 HZ.out) P00.out.1 (Kd.C_below P01.out.2 HZ.out) P01.out.1 A3.out).mono ?_
   rintro e wzc1 ⟨v_, u_, rfl, ho0, ho1, hb⟩
   refine ⟨_, rfl, ?_⟩
   replace BKa := Aside0.mk (blk_below BKa.out hb); replace BKb := Aside0.mk (blk_below BKb.out hb); replace HZ := Aside0.mk (below_step HZ.out hb)
   obtain ⟨BA, dA, rfl⟩ := Kd.R_slice ho0; obtain ⟨EA, fA, rfl⟩ := Kd.R_slice ho1; have PA0 := Aside0.mk (Kd.R_reads' ho0).2; have PA1 := Aside0.mk (Kd.R_reads' ho1).2; clear ho0 ho1 hb
   refine hK.out _ _ (HH.out _ BKa.out BKb.out) (fun hHeld => ?_)
   clear hK K; refine norm_ (a' := ?_) ?_ ?_; rotate_left; show Act.put _ (some 29) _ = _; simp only [Own.ps]; rfl
   refine two_ (i := 3) (j := 8) (Ni := some 31) (Nj := some 6) (Own.fl 11 15) (Own.fl 11 263) rfl rfl rfl rfl (two_of HT_.out (by kernel_rfl)) (by decide) (by decide) (fun K hK => ?_) (fun K hK => ?_)
   ·
    refine goes_ Tryz.func8 (by kernel_rfl) rfl #[.agg #[.string a1_0, .int .i64 a1_1, .int .i64 a1_2, .string a1_3, .int .i64 a1_4, .int .i64 a1_5, .int .i64 a1_6, .string a1_7, .int .i64 a1_8, .slice A1_9 l1_9.length c1_9, .int .i64 a1_10, .string a1_11]] (by rfl) rfl rfl Own.ha ?_
    with_reducible refine (laws_toClause.calls k a1_0 a1_1 a1_2 a1_3 a1_4 a1_5 a1_6 a1_7 a1_8 A1_9 c1_9 l1_9 a1_10 a1_11 y0 y1 y2 y3 y4 y5 y6 y7 y8 y9 y10 y11 _ (Kd.C_below P10.out.2 HZ.out) P10.out.1 A4.out).mono ?_
    rintro e wzc2 ⟨v_, rfl, ho0, hb⟩
    refine ⟨_, rfl, ?_⟩
    replace BKa := Aside0.mk (blk_below BKa.out hb); replace BKb := Aside0.mk (blk_below BKb.out hb); replace HZ := Aside0.mk (below_step HZ.out hb)
    replace PA0 := Aside0.mk (pc PA0.out hb)
    replace PA1 := Aside0.mk (pc PA1.out hb)
    obtain ⟨BB, dB, rfl⟩ := Kd.R_slice ho0; have PB0 := Aside0.mk (Kd.R_reads' ho0).2; clear ho0 hb
    refine hK.out _ _ (HH.out _ BKa.out BKb.out) (fun hHeld => ?_)
    clear hK K; refine norm_ (a' := ?_) ?_ ?_; rotate_left; show Act.put _ (some 31) _ = _; simp only [Own.ps]; rfl
    refine two_ (i := 4) (j := 8) (Ni := some 32) (Nj := some 6) (Own.fl 11 31) (Own.fl 11 271) rfl rfl rfl rfl (two_of HT_.out (by kernel_rfl)) (by decide) (by decide) (fun K hK => ?_) (fun K hK => ?_)
    ·
     refine goes_ Tryz.func6 (by kernel_rfl) rfl #[.agg #[.slice BA p0.length dA, .slice EA p1.length fA], .agg #[.string y0, .int .i64 y1, .int .i64 y2, .string y3, .int .i64 y4, .int .i64 y5, .int .i64 y6, .string y7, .int .i64 y8, .slice BB y9.length dB, .int .i64 y10, .string y11]] (by rfl) rfl rfl Own.ha ?_
     with_reducible refine (spec_AddClause.calls k _ _ p0 _ _ p1 y0 y1 y2 y3 y4 y5 y6 y7 y8 _ _ y9 y10 y11 s0 s1 gf _ PA0.out.2 PA0.out.1 PA1.out.2 PA1.out.1 PB0.out.2 PB0.out.1 A5.out).mono ?_
     rintro e wzc3 ⟨v_, u_, rfl, ho0, ho1, hb⟩
     refine ⟨_, rfl, ?_⟩
     replace BKa := Aside0.mk (blk_below BKa.out hb); replace BKb := Aside0.mk (blk_below BKb.out hb); replace HZ := Aside0.mk (below_step HZ.out hb)
     have V0 := Aside0.mk (off_Rg ho0 (Nat.le_refl _))
     have V1 := Aside0.mk (off_Rg ho1 (Nat.le_refl _))
     clear ho0 ho1 hb PA0 PA1 PB0
     refine hK.out _ _ (HH.out _ BKa.out BKb.out) (fun hHeld => ?_)
     clear hK K; refine norm_ (a' := ?_) ?_ ?_; rotate_left; show Act.put _ (some 32) _ = _; simp only [Own.ps]; rfl
     refine pure_ (i := 5) (N := some 27) (v := ?_) (a' := ?_) (Own.fl 11 63) rfl rfl (any_of HT_.out (by kernel_rfl)) (fun _ _ _ h => h) (Or.inl ⟨by rfl, ?_⟩) ?_ ?_; rotate_left; intro w'; go_simp; with_reducible rfl; rotate_left; simp only [Own.ps]; rfl
     refine pure_ (i := 6) (N := some 33) (v := ?_) (a' := ?_) (Own.fl 11 127) rfl rfl (any_of HT_.out (by kernel_rfl)) (fun _ _ _ h => h) (Or.inl ⟨by rfl, ?_⟩) ?_ ?_; rotate_left; intro w'; go_simp; with_reducible rfl; rotate_left; simp only [Own.ps]; rfl
     refine pure_ (i := 7) (N := some 34) (v := ?_) (a' := ?_) (Own.fl 11 255) rfl rfl (any_of HT_.out (by kernel_rfl)) (fun _ _ _ h => h) (Or.inl ⟨by rfl, ?_⟩) ?_ ?_; rotate_left; intro w'; go_simp; with_reducible rfl; rotate_left; simp only [Own.ps]; rfl
     refine one_ (i := 8) (N := some 6) (Own.fl 11 511) rfl rfl (one_of HT_.out (by kernel_rfl)) (by decide) (fun K hK => ?_)
     refine box_step ?hg (N := 6) ?hd (cs := #[.slice none 0 0, .slice none 0 0]) (t := 35) ?hr ?_; (case hd => rfl); (case hg => rfl); (case hr => first | (go_simp; done) | (go_simp; rfl))
     intro gs hg wzc4 hbox hb
     have GS := Aside0.mk (show wz.heap.size ≤ gs from by rw [hg]; exact HZ.out.size)
     replace V0 := Aside0.mk (Off.below V0.out hb)
     rw [← hg] at V0
     replace V1 := Aside0.mk (Off.below V1.out hb)
     rw [← hg] at V1
     replace BKa := Aside0.mk (blk_below BKa.out hb); replace BKb := Aside0.mk (blk_below BKb.out hb); replace HZ := Aside0.mk (below_step HZ.out hb)
     have BS := Aside0.mk hbox; clear hg hbox hb
     refine hK.out _ _ (HH.out _ BKa.out BKb.out) (fun hHeld => ?_)
     clear hK K; refine norm_ (a' := ?_) ?_ ?_; rotate_left; show Act.put _ (some 6) _ = _; simp only [Own.ps]; rfl
     exact norm_ (by simp only [putAll, Act.put, List.setIfInBounds_toArray, List.set_cons_zero, List.set_cons_succ]) (hCont (.slice BA p0.length dA, .slice EA p1.length fA, .slice BB y9.length dB, v_, u_, gs) _ ⟨V0.out, V1.out, BS.out, GS.out, HZ.out, BKa.out, BKb.out⟩)
    ·
     refine box_step ?hg (N := 6) ?hd (cs := #[.slice none 0 0, .slice none 0 0]) (t := 35) ?hr ?_; (case hd => rfl); (case hg => rfl); (case hr => first | (go_simp; done) | (go_simp; rfl))
     intro gs hg wzc5 hbox hb
     have GS := Aside0.mk (show wz.heap.size ≤ gs from by rw [hg]; exact HZ.out.size)
     replace BKa := Aside0.mk (blk_below BKa.out hb); replace BKb := Aside0.mk (blk_below BKb.out hb); replace HZ := Aside0.mk (below_step HZ.out hb)
     replace PA0 := Aside0.mk (pc PA0.out hb)
     replace PA1 := Aside0.mk (pc PA1.out hb)
     replace PB0 := Aside0.mk (pc PB0.out hb)
     have BS := Aside0.mk hbox; clear hg hbox hb
     refine hK.out _ _ (HH.out _ BKa.out BKb.out) (fun hHeld => ?_)
     clear hK K; refine norm_ (a' := ?_) ?_ ?_; rotate_left; show Act.put _ (some 6) _ = _; simp only [Own.ps]; rfl
     refine one_ (i := 4) (N := some 32) (Own.fl 11 287) rfl rfl (one_of HT_.out (by kernel_rfl)) (by decide) (fun K hK => ?_)
     refine goes_ Tryz.func6 (by kernel_rfl) rfl #[.agg #[.slice BA p0.length dA, .slice EA p1.length fA], .agg #[.string y0, .int .i64 y1, .int .i64 y2, .string y3, .int .i64 y4, .int .i64 y5, .int .i64 y6, .string y7, .int .i64 y8, .slice BB y9.length dB, .int .i64 y10, .string y11]] (by rfl) rfl rfl Own.ha ?_
     have LS := Aside0.mk (blk_lt BS.out)
     with_reducible refine (spec_AddClause.calls k _ _ p0 _ _ p1 y0 y1 y2 y3 y4 y5 y6 y7 y8 _ _ y9 y10 y11 s0 s1 gf _ PA0.out.2 PA0.out.1 PA1.out.2 PA1.out.1 PB0.out.2 PB0.out.1 A5.out).mono ?_
     rintro e wzc6 ⟨v_, u_, rfl, ho0, ho1, hb⟩
     refine ⟨_, rfl, ?_⟩
     replace BKa := Aside0.mk (blk_below BKa.out hb); replace BKb := Aside0.mk (blk_below BKb.out hb); replace HZ := Aside0.mk (below_step HZ.out hb)
     replace BS := Aside0.mk (blk_below BS.out hb)
     have V0 := Aside0.mk (off_Rt ho0 BS.out (by decide))
     have V1 := Aside0.mk (off_Rt ho1 BS.out (by decide))
     clear ho0 ho1 hb PA0 PA1 PB0
     refine hK.out _ _ (HH.out _ BKa.out BKb.out) (fun hHeld => ?_)
     clear hK K; refine norm_ (a' := ?_) ?_ ?_; rotate_left; show Act.put _ (some 32) _ = _; simp only [Own.ps]; rfl
     refine pure_ (i := 5) (N := some 27) (v := ?_) (a' := ?_) (Own.fl 11 319) rfl rfl (any_of HT_.out (by kernel_rfl)) (fun _ _ _ h => h) (Or.inl ⟨by rfl, ?_⟩) ?_ ?_; rotate_left; intro w'; go_simp; with_reducible rfl; rotate_left; simp only [Own.ps]; rfl
     refine pure_ (i := 6) (N := some 33) (v := ?_) (a' := ?_) (Own.fl 11 383) rfl rfl (any_of HT_.out (by kernel_rfl)) (fun _ _ _ h => h) (Or.inl ⟨by rfl, ?_⟩) ?_ ?_; rotate_left; intro w'; go_simp; with_reducible rfl; rotate_left; simp only [Own.ps]; rfl
     refine pure_ (i := 7) (N := some 34) (v := ?_) (a' := ?_) (Own.fl 11 511) rfl rfl (any_of HT_.out (by kernel_rfl)) (fun _ _ _ h => h) (Or.inl ⟨by rfl, ?_⟩) ?_ ?_; rotate_left; intro w'; go_simp; with_reducible rfl; rotate_left; simp only [Own.ps]; rfl
     exact norm_ (by simp only [putAll, Act.put, List.setIfInBounds_toArray, List.set_cons_zero, List.set_cons_succ]) (hCont (.slice BA p0.length dA, .slice EA p1.length fA, .slice BB y9.length dB, v_, u_, gs) _ ⟨V0.out, V1.out, BS.out, GS.out, HZ.out, BKa.out, BKb.out⟩)
   ·
    refine box_step ?hg (N := 6) ?hd (cs := #[.slice none 0 0, .slice none 0 0]) (t := 35) ?hr ?_; (case hd => rfl); (case hg => rfl); (case hr => first | (go_simp; done) | (go_simp; rfl))
    intro gs hg wzc7 hbox hb
    have GS := Aside0.mk (show wz.heap.size ≤ gs from by rw [hg]; exact HZ.out.size)
    replace BKa := Aside0.mk (blk_below BKa.out hb); replace BKb := Aside0.mk (blk_below BKb.out hb); replace HZ := Aside0.mk (below_step HZ.out hb)
    replace PA0 := Aside0.mk (pc PA0.out hb)
    replace PA1 := Aside0.mk (pc PA1.out hb)
    have BS := Aside0.mk hbox; clear hg hbox hb
    refine hK.out _ _ (HH.out _ BKa.out BKb.out) (fun hHeld => ?_)
    clear hK K; refine norm_ (a' := ?_) ?_ ?_; rotate_left; show Act.put _ (some 6) _ = _; simp only [Own.ps]; rfl
    refine one_ (i := 3) (N := some 31) (Own.fl 11 271) rfl rfl (one_of HT_.out (by kernel_rfl)) (by decide) (fun K hK => ?_)
    refine goes_ Tryz.func8 (by kernel_rfl) rfl #[.agg #[.string a1_0, .int .i64 a1_1, .int .i64 a1_2, .string a1_3, .int .i64 a1_4, .int .i64 a1_5, .int .i64 a1_6, .string a1_7, .int .i64 a1_8, .slice A1_9 l1_9.length c1_9, .int .i64 a1_10, .string a1_11]] (by rfl) rfl rfl Own.ha ?_
    with_reducible refine (laws_toClause.calls k a1_0 a1_1 a1_2 a1_3 a1_4 a1_5 a1_6 a1_7 a1_8 A1_9 c1_9 l1_9 a1_10 a1_11 y0 y1 y2 y3 y4 y5 y6 y7 y8 y9 y10 y11 _ (Kd.C_below P10.out.2 HZ.out) P10.out.1 A4.out).mono ?_
    rintro e wzc8 ⟨v_, rfl, ho0, hb⟩
    refine ⟨_, rfl, ?_⟩
    replace BKa := Aside0.mk (blk_below BKa.out hb); replace BKb := Aside0.mk (blk_below BKb.out hb); replace HZ := Aside0.mk (below_step HZ.out hb)
    replace PA0 := Aside0.mk (pc PA0.out hb)
    replace PA1 := Aside0.mk (pc PA1.out hb)
    replace BS := Aside0.mk (blk_below BS.out hb)
    obtain ⟨BB, dB, rfl⟩ := Kd.R_slice ho0; have PB0 := Aside0.mk (Kd.R_reads' ho0).2; clear ho0 hb
    refine hK.out _ _ (HH.out _ BKa.out BKb.out) (fun hHeld => ?_)
    clear hK K; refine norm_ (a' := ?_) ?_ ?_; rotate_left; show Act.put _ (some 31) _ = _; simp only [Own.ps]; rfl
    refine one_ (i := 4) (N := some 32) (Own.fl 11 287) rfl rfl (one_of HT_.out (by kernel_rfl)) (by decide) (fun K hK => ?_)
    refine goes_ Tryz.func6 (by kernel_rfl) rfl #[.agg #[.slice BA p0.length dA, .slice EA p1.length fA], .agg #[.string y0, .int .i64 y1, .int .i64 y2, .string y3, .int .i64 y4, .int .i64 y5, .int .i64 y6, .string y7, .int .i64 y8, .slice BB y9.length dB, .int .i64 y10, .string y11]] (by rfl) rfl rfl Own.ha ?_
    have LS := Aside0.mk (blk_lt BS.out)
    with_reducible refine (spec_AddClause.calls k _ _ p0 _ _ p1 y0 y1 y2 y3 y4 y5 y6 y7 y8 _ _ y9 y10 y11 s0 s1 gf _ PA0.out.2 PA0.out.1 PA1.out.2 PA1.out.1 PB0.out.2 PB0.out.1 A5.out).mono ?_
    rintro e wzc9 ⟨v_, u_, rfl, ho0, ho1, hb⟩
    refine ⟨_, rfl, ?_⟩
    replace BKa := Aside0.mk (blk_below BKa.out hb); replace BKb := Aside0.mk (blk_below BKb.out hb); replace HZ := Aside0.mk (below_step HZ.out hb)
    replace BS := Aside0.mk (blk_below BS.out hb)
    have V0 := Aside0.mk (off_Rt ho0 BS.out (by decide))
    have V1 := Aside0.mk (off_Rt ho1 BS.out (by decide))
    clear ho0 ho1 hb PA0 PA1 PB0
    refine hK.out _ _ (HH.out _ BKa.out BKb.out) (fun hHeld => ?_)
    clear hK K; refine norm_ (a' := ?_) ?_ ?_; rotate_left; show Act.put _ (some 32) _ = _; simp only [Own.ps]; rfl
    refine pure_ (i := 5) (N := some 27) (v := ?_) (a' := ?_) (Own.fl 11 319) rfl rfl (any_of HT_.out (by kernel_rfl)) (fun _ _ _ h => h) (Or.inl ⟨by rfl, ?_⟩) ?_ ?_; rotate_left; intro w'; go_simp; with_reducible rfl; rotate_left; simp only [Own.ps]; rfl
    refine pure_ (i := 6) (N := some 33) (v := ?_) (a' := ?_) (Own.fl 11 383) rfl rfl (any_of HT_.out (by kernel_rfl)) (fun _ _ _ h => h) (Or.inl ⟨by rfl, ?_⟩) ?_ ?_; rotate_left; intro w'; go_simp; with_reducible rfl; rotate_left; simp only [Own.ps]; rfl
    refine pure_ (i := 7) (N := some 34) (v := ?_) (a' := ?_) (Own.fl 11 511) rfl rfl (any_of HT_.out (by kernel_rfl)) (fun _ _ _ h => h) (Or.inl ⟨by rfl, ?_⟩) ?_ ?_; rotate_left; intro w'; go_simp; with_reducible rfl; rotate_left; simp only [Own.ps]; rfl
    exact norm_ (by simp only [putAll, Act.put, List.setIfInBounds_toArray, List.set_cons_zero, List.set_cons_succ]) (hCont (.slice BA p0.length dA, .slice EA p1.length fA, .slice BB y9.length dB, v_, u_, gs) _ ⟨V0.out, V1.out, BS.out, GS.out, HZ.out, BKa.out, BKb.out⟩)
  ·
   refine box_step ?hg (N := 6) ?hd (cs := #[.slice none 0 0, .slice none 0 0]) (t := 35) ?hr ?_; (case hd => rfl); (case hg => rfl); (case hr => first | (go_simp; done) | (go_simp; rfl))
   intro gs hg wzc10 hbox hb
   have GS := Aside0.mk (show wz.heap.size ≤ gs from by rw [hg]; exact HZ.out.size)
   replace BKa := Aside0.mk (blk_below BKa.out hb); replace BKb := Aside0.mk (blk_below BKb.out hb); replace HZ := Aside0.mk (below_step HZ.out hb)
   have BS := Aside0.mk hbox; clear hg hbox hb
   refine hK.out _ _ (HH.out _ BKa.out BKb.out) (fun hHeld => ?_)
   clear hK K; refine norm_ (a' := ?_) ?_ ?_; rotate_left; show Act.put _ (some 6) _ = _; simp only [Own.ps]; rfl
   refine one_ (i := 1) (N := some 29) (Own.fl 11 263) rfl rfl (one_of HT_.out (by kernel_rfl)) (by decide) (fun K hK => ?_)
   refine goes_ Tryz.func7 (by kernel_rfl) rfl #[.agg #[.slice A0_0 l0_0.length c0_0, .slice A0_1 l0_1.length c0_1]] (by rfl) rfl rfl Own.ha ?_
   with_reducible refine (laws_toContract.calls k A0_0 c0_0 l0_0 A0_1 c0_1 l0_1 p0 p1 _ (Kd.C_below P00.out.2 HZ.out) P00.out.1 (Kd.C_below P01.out.2 HZ.out) P01.out.1 A3.out).mono ?_
   rintro e wzc11 ⟨v_, u_, rfl, ho0, ho1, hb⟩
   refine ⟨_, rfl, ?_⟩
   replace BKa := Aside0.mk (blk_below BKa.out hb); replace BKb := Aside0.mk (blk_below BKb.out hb); replace HZ := Aside0.mk (below_step HZ.out hb)
   replace BS := Aside0.mk (blk_below BS.out hb)
   obtain ⟨BA, dA, rfl⟩ := Kd.R_slice ho0; obtain ⟨EA, fA, rfl⟩ := Kd.R_slice ho1; have PA0 := Aside0.mk (Kd.R_reads' ho0).2; have PA1 := Aside0.mk (Kd.R_reads' ho1).2; clear ho0 ho1 hb
   refine hK.out _ _ (HH.out _ BKa.out BKb.out) (fun hHeld => ?_)
   clear hK K; refine norm_ (a' := ?_) ?_ ?_; rotate_left; show Act.put _ (some 29) _ = _; simp only [Own.ps]; rfl
   refine one_ (i := 3) (N := some 31) (Own.fl 11 271) rfl rfl (one_of HT_.out (by kernel_rfl)) (by decide) (fun K hK => ?_)
   refine goes_ Tryz.func8 (by kernel_rfl) rfl #[.agg #[.string a1_0, .int .i64 a1_1, .int .i64 a1_2, .string a1_3, .int .i64 a1_4, .int .i64 a1_5, .int .i64 a1_6, .string a1_7, .int .i64 a1_8, .slice A1_9 l1_9.length c1_9, .int .i64 a1_10, .string a1_11]] (by rfl) rfl rfl Own.ha ?_
   with_reducible refine (laws_toClause.calls k a1_0 a1_1 a1_2 a1_3 a1_4 a1_5 a1_6 a1_7 a1_8 A1_9 c1_9 l1_9 a1_10 a1_11 y0 y1 y2 y3 y4 y5 y6 y7 y8 y9 y10 y11 _ (Kd.C_below P10.out.2 HZ.out) P10.out.1 A4.out).mono ?_
   rintro e wzc12 ⟨v_, rfl, ho0, hb⟩
   refine ⟨_, rfl, ?_⟩
   replace BKa := Aside0.mk (blk_below BKa.out hb); replace BKb := Aside0.mk (blk_below BKb.out hb); replace HZ := Aside0.mk (below_step HZ.out hb)
   replace BS := Aside0.mk (blk_below BS.out hb)
   replace PA0 := Aside0.mk (pc PA0.out hb)
   replace PA1 := Aside0.mk (pc PA1.out hb)
   obtain ⟨BB, dB, rfl⟩ := Kd.R_slice ho0; have PB0 := Aside0.mk (Kd.R_reads' ho0).2; clear ho0 hb
   refine hK.out _ _ (HH.out _ BKa.out BKb.out) (fun hHeld => ?_)
   clear hK K; refine norm_ (a' := ?_) ?_ ?_; rotate_left; show Act.put _ (some 31) _ = _; simp only [Own.ps]; rfl
   refine one_ (i := 4) (N := some 32) (Own.fl 11 287) rfl rfl (one_of HT_.out (by kernel_rfl)) (by decide) (fun K hK => ?_)
   refine goes_ Tryz.func6 (by kernel_rfl) rfl #[.agg #[.slice BA p0.length dA, .slice EA p1.length fA], .agg #[.string y0, .int .i64 y1, .int .i64 y2, .string y3, .int .i64 y4, .int .i64 y5, .int .i64 y6, .string y7, .int .i64 y8, .slice BB y9.length dB, .int .i64 y10, .string y11]] (by rfl) rfl rfl Own.ha ?_
   have LS := Aside0.mk (blk_lt BS.out)
   with_reducible refine (spec_AddClause.calls k _ _ p0 _ _ p1 y0 y1 y2 y3 y4 y5 y6 y7 y8 _ _ y9 y10 y11 s0 s1 gf _ PA0.out.2 PA0.out.1 PA1.out.2 PA1.out.1 PB0.out.2 PB0.out.1 A5.out).mono ?_
   rintro e wzc13 ⟨v_, u_, rfl, ho0, ho1, hb⟩
   refine ⟨_, rfl, ?_⟩
   replace BKa := Aside0.mk (blk_below BKa.out hb); replace BKb := Aside0.mk (blk_below BKb.out hb); replace HZ := Aside0.mk (below_step HZ.out hb)
   replace BS := Aside0.mk (blk_below BS.out hb)
   have V0 := Aside0.mk (off_Rt ho0 BS.out (by decide))
   have V1 := Aside0.mk (off_Rt ho1 BS.out (by decide))
   clear ho0 ho1 hb PA0 PA1 PB0
   refine hK.out _ _ (HH.out _ BKa.out BKb.out) (fun hHeld => ?_)
   clear hK K; refine norm_ (a' := ?_) ?_ ?_; rotate_left; show Act.put _ (some 32) _ = _; simp only [Own.ps]; rfl
   refine pure_ (i := 5) (N := some 27) (v := ?_) (a' := ?_) (Own.fl 11 319) rfl rfl (any_of HT_.out (by kernel_rfl)) (fun _ _ _ h => h) (Or.inl ⟨by rfl, ?_⟩) ?_ ?_; rotate_left; intro w'; go_simp; with_reducible rfl; rotate_left; simp only [Own.ps]; rfl
   refine pure_ (i := 6) (N := some 33) (v := ?_) (a' := ?_) (Own.fl 11 383) rfl rfl (any_of HT_.out (by kernel_rfl)) (fun _ _ _ h => h) (Or.inl ⟨by rfl, ?_⟩) ?_ ?_; rotate_left; intro w'; go_simp; with_reducible rfl; rotate_left; simp only [Own.ps]; rfl
   refine pure_ (i := 7) (N := some 34) (v := ?_) (a' := ?_) (Own.fl 11 511) rfl rfl (any_of HT_.out (by kernel_rfl)) (fun _ _ _ h => h) (Or.inl ⟨by rfl, ?_⟩) ?_ ?_; rotate_left; intro w'; go_simp; with_reducible rfl; rotate_left; simp only [Own.ps]; rfl
   exact norm_ (by simp only [putAll, Act.put, List.setIfInBounds_toArray, List.set_cons_zero, List.set_cons_succ]) (hCont (.slice BA p0.length dA, .slice EA p1.length fA, .slice BB y9.length dB, v_, u_, gs) _ ⟨V0.out, V1.out, BS.out, GS.out, HZ.out, BKa.out, BKb.out⟩)
 rintro ⟨va0, va1, vb0, v0, v1, gs⟩ wzj ⟨hv0, hv1, hbs, hgs, hz, hka, hkb⟩
 replace hv0 : Off Kd.string gs wzj v0 s0 := hv0
 replace hv1 : Off k43 gs wzj v1 s1 := hv1
 replace hbs : wzj.heap[gs]? = some (.cells #[.slice none 0 0, .slice none 0 0] 35 (0, 0)) := hbs
 replace hgs : wz.heap.size ≤ gs := hgs
 replace hz : Below wz.heap.size wz wzj := hz
 replace hka : wzj.heap[ga]? = some (.cells #[.slice A0_0 l0_0.length c0_0, .slice A0_1 l0_1.length c0_1] 25 (0, 0)) := hka
 replace hkb : wzj.heap[gb]? = some (.cells #[.string a1_0, .int .i64 a1_1, .int .i64 a1_2, .string a1_3, .int .i64 a1_4, .int .i64 a1_5, .int .i64 a1_6, .string a1_7, .int .i64 a1_8, .slice A1_9 l1_9.length c1_9, .int .i64 a1_10, .string a1_11] 30 (0, 0)) := hkb
 obtain ⟨BS0, dS0, rfl, _, _⟩ := hv0.of; obtain ⟨BS1, dS1, rfl, _, _⟩ := hv1.of
 have hna : ga ≠ gs := by have := LA.out; omega
 have hnb : gb ≠ gs := by have := LB.out; omega
 clear BKa BKb HZ
 have BKa := Aside0.mk (blk_far (blk_far hka hna (p := ⟨gs, 0, none⟩) (.slice BS0 s0.length dS0)) hna (p := ⟨gs, 1, none⟩) (.slice BS1 s1.length dS1))
 have BKb := Aside0.mk (blk_far (blk_far hkb hnb (p := ⟨gs, 0, none⟩) (.slice BS0 s0.length dS0)) hnb (p := ⟨gs, 1, none⟩) (.slice BS1 s1.length dS1))
 refine norm_ (a' := ?_) ?_ ?_
 rotate_left
 ·
  simp only [putAll, Act.put, List.setIfInBounds_toArray, List.set_cons_zero, List.set_cons_succ]
  rfl
 refine one_ (i := 9) (N := none) (Own.fl 11 1023) rfl rfl (one_of HT_.out (by kernel_rfl)) (by decide) (fun K hK => ?_)
 obtain ⟨ys0, ys1, zs0, zs1⟩ := Own.box2 hbs
 refine skip_ (w1 := ((wzj.setCell ⟨gs, 0, none⟩ (.slice BS0 s0.length dS0)).setCell ⟨gs, 1, none⟩ (.slice BS1 s1.length dS1))) (by rfl) rfl ?_ ?_
 ·
  first | (go_simp; done) | (go_simp; rfl)
 refine hK.out _ _ (HH.out _ BKa.out BKb.out) (fun hHeld => ?_)
 clear hK K
 refine pure_ (i := 10) (N := some 7) (v := ?_) (a' := ?_) (Own.fl 11 2047) rfl rfl (any_of HT_.out (by kernel_rfl)) (fun _ _ _ h => h) (Or.inl ⟨by rfl, ?_⟩) ?_ ?_; rotate_left; intro w'; go_simp; with_reducible rfl; rotate_left; simp only [Own.ps]; rfl
 refine done_ (done_of HT_.out (by kernel_rfl)) ?_
 have BS := Aside0.mk (Own.put2 hbs (b0 := .slice BS0 s0.length dS0) (b1 := .slice BS1 s1.length dS1))
 have HZ := Aside0.mk (bs2 hz hgs (.slice BS0 s0.length dS0) (.slice BS1 s1.length dS1))
 have S0 := Aside0.mk (hv0.read (.slice BS0 s0.length dS0) (.slice BS1 s1.length dS1))
 have S1 := Aside0.mk (hv1.read (.slice BS0 s0.length dS0) (.slice BS1 s1.length dS1))
 clear hv0 hv1 hbs hgs hz hka hkb hHeld ys0 ys1 zs0 zs1 hna hnb LA LB HT_ HW_ HH
 replace HB := Aside0.mk (below_step HB.out HZ.out)
 replace GG := Aside0.mk (GG.out.below HZ.out)
 replace P00 := Aside0.mk (pc P00.out HZ.out)
 replace P01 := Aside0.mk (pc P01.out HZ.out)
 replace P10 := Aside0.mk (pc P10.out HZ.out)
 clear HZ
 generalize ((wzj.setCell ⟨gs, 0, none⟩ (.slice BS0 s0.length dS0)).setCell ⟨gs, 1, none⟩ (.slice BS1 s1.length dS1)) = w8 at *
 have BS8 := BS; have SA := S0; have SB := S1; clear BS S0 S1
 have HZ := Aside0.mk (Below.refl w8.heap.size w8)
 obtain ⟨ua0, ua1, va0, va1⟩ := Own.box2 (BKa.out)
 go_upto_region 14 with (first | (go_at_call 7; (with_reducible refine (laws_toContract.calls k A0_0 c0_0 l0_0 A0_1 c0_1 l0_1 p0 p1 w8 P00.out.2 P00.out.1 P01.out.2 P01.out.1 A3.out).mono ?_); rintro e wx ⟨v_, u_, rfl, ho0, ho1, hb⟩; clear ua0 ua1 va0 va1; replace HZ := Aside0.mk (below_step HZ.out hb); obtain ⟨Bx0, dx0, rfl⟩ := Kd.R_slice ho0; obtain ⟨Bx1, dx1, rfl⟩ := Kd.R_slice ho1; have HX0 := Aside0.mk ho0; have HX1 := Aside0.mk ho1; have HXB := Aside0.mk (Below.refl wx.heap.size wx); have LX := Aside0.mk (show w8.heap.size ≤ wx.heap.size from hb.size); clear ho0 ho1 hb; have T1 := Aside0.mk True.intro) | ((with_reducible refine gate_dst (N := 8) rfl ?_); clear T1; refine Own.be (N := 8) (cs := #[.slice none 0 0, .slice none 0 0]) (t := 35) ?_; intro gx hg wx2 hbox hb; have GX := Aside0.mk (show wx.heap.size ≤ gx from Nat.le_of_eq hg.symm); replace HZ := Aside0.mk (below_step HZ.out hb); replace HXB := Aside0.mk (below_step HXB.out hb); have BX := Aside0.mk hbox; obtain ⟨un0, un1, vn0, vn1⟩ := Own.box2 (hbox); clear hb hg hbox; have T2 := Aside0.mk True.intro) | ((with_reducible refine gate_store (t := 35) (p := 8) rfl ?_); clear T2; refine store_event (t := 35) (p := 8) (v := ?vo_store8) (w1 := ((wx2.setCell ⟨gx, 0, none⟩ (.slice Bx0 p0.length dx0)).setCell ⟨gx, 1, none⟩ (.slice Bx1 p1.length dx1))) ?hg ?ho ?hn ?hr ?_; (case ho => rfl); (case hg => rfl); (case hn => rfl); (case hr => first | (go_simp; done) | (go_simp; rfl)); clear un0 un1 vn0 vn1; intro wx3 hw; replace HZ := Aside0.mk (by rw [hw]; exact below_set (below_set (HZ.out) (Nat.le_trans LX.out GX.out)) (Nat.le_trans LX.out GX.out) : Below w8.heap.size w8 wx3); replace HXB := Aside0.mk (by rw [hw]; exact below_set (below_set (HXB.out) GX.out) GX.out : Below wx.heap.size wx wx3); replace BX := Aside0.mk (by rw [hw]; exact Own.put2 BX.out : wx3.heap[gx]? = some (.cells #[.slice Bx0 p0.length dx0, .slice Bx1 p1.length dx1] 35 (0, 0))); clear hw; clear GX; obtain ⟨ub0, ub1, ub2, ub3, ub4, ub5, ub6, ub7, ub8, ub9, ub10, ub11, vb0, vb1, vb2, vb3, vb4, vb5, vb6, vb7, vb8, vb9, vb10, vb11⟩ := Own.box12 (blk_below BKb.out HZ.out); have T3 := Aside0.mk True.intro) | (go_at_call 8; clear T3; (with_reducible refine (laws_toClause.calls k a1_0 a1_1 a1_2 a1_3 a1_4 a1_5 a1_6 a1_7 a1_8 A1_9 c1_9 l1_9 a1_10 a1_11 y0 y1 y2 y3 y4 y5 y6 y7 y8 y9 y10 y11 _ (Kd.C_below P10.out.2 HZ.out) P10.out.1 A4.out).mono ?_); rintro e wy ⟨v_, rfl, ho, hb⟩; clear ub0 ub1 ub2 ub3 ub4 ub5 ub6 ub7 ub8 ub9 ub10 ub11 vb0 vb1 vb2 vb3 vb4 vb5 vb6 vb7 vb8 vb9 vb10 vb11; have LX3 := Aside0.mk (show w8.heap.size ≤ wx3.heap.size from HZ.out.size); replace HZ := Aside0.mk (below_step HZ.out hb); replace HXB := Aside0.mk (below_step HXB.out hb); replace BX := Aside0.mk (blk_below BX.out hb); obtain ⟨By, dy, rfl⟩ := Kd.R_slice ho; replace HX0 := Aside0.mk (Kd.R_mono (ok' := fun k_ => k_ < wy.heap.size) (Kd.R_bound (Kd.R_below HX0.out HXB.out)) (fun _ h_ => h_.2.2.1)); replace HX1 := Aside0.mk (Kd.R_mono (ok' := fun k_ => k_ < wy.heap.size) (Kd.R_bound (Kd.R_below HX1.out HXB.out)) (fun _ h_ => h_.2.2.1)); have HY9 := Aside0.mk (Kd.R_mono (ok' := fun k_ => k_ < wy.heap.size) (Kd.R_bound (Kd.R_lower ho LX3.out)) (fun _ h_ => h_.2.2.1)); have LY := Aside0.mk (show w8.heap.size ≤ wy.heap.size from HZ.out.size); have LGX := Aside0.mk (blk_lt BX.out); have HYB := Aside0.mk (Below.refl wy.heap.size wy); clear ho hb HXB LX LX3; have T4 := Aside0.mk True.intro) | ((with_reducible refine gate_dst (N := 9) rfl ?_); clear T4; refine Own.be (N := 9) (cs := #[.string (⟨#[]⟩ : ByteArray), .int .i64 0, .int .i64 0, .string (⟨#[]⟩ : ByteArray), .int .i64 0, .int .i64 0, .int .i64 0, .string (⟨#[]⟩ : ByteArray), .int .i64 0, .slice none 0 0, .int .i64 0, .string (⟨#[]⟩ : ByteArray)]) (t := 43) ?_; intro gy hg wy2 hbox hb; have GY := Aside0.mk (show wy.heap.size ≤ gy from Nat.le_of_eq hg.symm); replace HZ := Aside0.mk (below_step HZ.out hb); replace HYB := Aside0.mk (below_step HYB.out hb); have BY := Aside0.mk hbox; obtain ⟨um0, um1, um2, um3, um4, um5, um6, um7, um8, um9, um10, um11, vm0, vm1, vm2, vm3, vm4, vm5, vm6, vm7, vm8, vm9, vm10, vm11⟩ := Own.box12 (hbox); clear hb hg hbox; have T5 := Aside0.mk True.intro) | ((with_reducible refine gate_store (t := 43) (p := 9) rfl ?_); clear T5; refine store_event (t := 43) (p := 9) (v := ?vo_store9) (w1 := ((((((((((((wy2.setCell ⟨gy, 0, none⟩ (.string y0)).setCell ⟨gy, 1, none⟩ (.int .i64 y1)).setCell ⟨gy, 2, none⟩ (.int .i64 y2)).setCell ⟨gy, 3, none⟩ (.string y3)).setCell ⟨gy, 4, none⟩ (.int .i64 y4)).setCell ⟨gy, 5, none⟩ (.int .i64 y5)).setCell ⟨gy, 6, none⟩ (.int .i64 y6)).setCell ⟨gy, 7, none⟩ (.string y7)).setCell ⟨gy, 8, none⟩ (.int .i64 y8)).setCell ⟨gy, 9, none⟩ (.slice By y9.length dy)).setCell ⟨gy, 10, none⟩ (.int .i64 y10)).setCell ⟨gy, 11, none⟩ (.string y11))) ?hg ?ho ?hn ?hr ?_; (case ho => rfl); (case hg => rfl); (case hn => rfl); (case hr => first | (go_simp; done) | (go_simp; rfl)); clear um0 um1 um2 um3 um4 um5 um6 um7 um8 um9 um10 um11 vm0 vm1 vm2 vm3 vm4 vm5 vm6 vm7 vm8 vm9 vm10 vm11; intro wy3 hw; replace HZ := Aside0.mk (by rw [hw]; exact below_set (below_set (below_set (below_set (below_set (below_set (below_set (below_set (below_set (below_set (below_set (below_set (HZ.out) (Nat.le_trans LY.out GY.out)) (Nat.le_trans LY.out GY.out)) (Nat.le_trans LY.out GY.out)) (Nat.le_trans LY.out GY.out)) (Nat.le_trans LY.out GY.out)) (Nat.le_trans LY.out GY.out)) (Nat.le_trans LY.out GY.out)) (Nat.le_trans LY.out GY.out)) (Nat.le_trans LY.out GY.out)) (Nat.le_trans LY.out GY.out)) (Nat.le_trans LY.out GY.out)) (Nat.le_trans LY.out GY.out) : Below w8.heap.size w8 wy3); replace HYB := Aside0.mk (by rw [hw]; exact below_set (below_set (below_set (below_set (below_set (below_set (below_set (below_set (below_set (below_set (below_set (below_set (HYB.out) GY.out) GY.out) GY.out) GY.out) GY.out) GY.out) GY.out) GY.out) GY.out) GY.out) GY.out) GY.out : Below wy.heap.size wy wy3); replace BY := Aside0.mk (by rw [hw]; exact Own.put12 BY.out : wy3.heap[gy]? = some (.cells #[.string y0, .int .i64 y1, .int .i64 y2, .string y3, .int .i64 y4, .int .i64 y5, .int .i64 y6, .string y7, .int .i64 y8, .slice By y9.length dy, .int .i64 y10, .string y11] 43 (0, 0))); clear hw; obtain ⟨ux0, ux1, vx0, vx1⟩ := Own.box2 (blk_below BX.out HYB.out); obtain ⟨uy0, uy1, uy2, uy3, uy4, uy5, uy6, uy7, uy8, uy9, uy10, uy11, vy0, vy1, vy2, vy3, vy4, vy5, vy6, vy7, vy8, vy9, vy10, vy11⟩ := Own.box12 (BY.out); have T6 := Aside0.mk True.intro) | (go_at_call 9; clear T6; refine (addA_calls k _ _ p0 _ _ p1 (⟨y0, y1, y2, y3, y4, y5, ⟨y6, y7, y8, y9⟩, y10, y11⟩ : S43) _ _ wy3 (Kd.C_below (Kd.R_reads' HX0.out).2.2 HYB.out) (Kd.R_reads' HX0.out).2.1 (Kd.C_below (Kd.R_reads' HX1.out).2.2 HYB.out) (Kd.R_reads' HX1.out).2.1 (Kd.C_below (Kd.R_reads' HY9.out).2.2 HYB.out) (Kd.R_reads' HY9.out).2.1 (GG.out.below HZ.out) g0 g1 gf Z1.out Z2.out A6.out).mono ?_; rintro e wg ⟨v_, u_, M, rfl, hs0, hs1, hm0, hm1, hb⟩; clear ux0 ux1 vx0 vx1 uy0 uy1 uy2 uy3 uy4 uy5 uy6 uy7 uy8 uy9 uy10 uy11 vy0 vy1 vy2 vy3 vy4 vy5 vy6 vy7 vy8 vy9 vy10 vy11; obtain ⟨Ag0, cg0, rfl, _, _⟩ := sepS_C hs0; obtain ⟨Ag1, cg1, rfl, _, _⟩ := sepR_C hs1; have HS0 := Aside0.mk hs0; have HS1 := Aside0.mk hs1; have LM := Aside0.mk (And.intro hm0 (And.intro hm1 (And.intro (show wy.heap.size ≤ wy3.heap.size from HYB.out.size) (And.intro GY.out (blk_lt BY.out))))); replace HZ := Aside0.mk (below_step HZ.out hb); replace HYB := Aside0.mk (below_step HYB.out hb); replace BY := Aside0.mk (blk_below BY.out hb); replace BX := Aside0.mk (blk_below BX.out HYB.out); replace HX0 := Aside0.mk (Kd.R_below HX0.out HYB.out); replace HX1 := Aside0.mk (Kd.R_below HX1.out HYB.out); replace HY9 := Aside0.mk (Kd.R_below HY9.out HYB.out); have HZG := HZ; have HGB := Aside0.mk (Below.refl wg.heap.size wg); have LZG := Aside0.mk (show w8.heap.size ≤ wg.heap.size from HZ.out.size); have GK := Aside0.mk (show Gk wg wg wy3.heap.size wg.heap.size from ⟨fun _ _ _ => rfl, Nat.le_refl _⟩); clear hs0 hs1 hm0 hm1 hb HYB GY LGX; have T7 := Aside0.mk True.intro) | ((with_reducible refine gate_dst (N := 10) rfl ?_); clear T7; refine Own.be (N := 10) (cs := #[.slice none 0 0, .slice none 0 0]) (t := 35) ?_; intro gg hg wg2 hbox hb; have GZ := Aside0.mk (show wg.heap.size ≤ gg from Nat.le_of_eq hg.symm); replace HZ := Aside0.mk (below_step HZ.out hb); replace HGB := Aside0.mk (below_step HGB.out hb); have BG := Aside0.mk hbox; obtain ⟨un0, un1, vn0, vn1⟩ := Own.box2 (hbox); clear hb hg hbox; have T8 := Aside0.mk True.intro) | ((with_reducible refine gate_store (t := 35) (p := 10) rfl ?_); clear T8; refine store_event (t := 35) (p := 10) (v := ?vo_store10) (w1 := ((wg2.setCell ⟨gg, 0, none⟩ (.slice Ag0 g0.length cg0)).setCell ⟨gg, 1, none⟩ (.slice Ag1 g1.length cg1))) ?hg ?ho ?hn ?hr ?_; (case ho => rfl); (case hg => rfl); (case hn => rfl); (case hr => first | (go_simp; done) | (go_simp; rfl)); clear un0 un1 vn0 vn1; intro wg3 hw; replace HZ := Aside0.mk (by rw [hw]; exact below_set (below_set (HZ.out) (Nat.le_trans LZG.out GZ.out)) (Nat.le_trans LZG.out GZ.out) : Below w8.heap.size w8 wg3); replace HGB := Aside0.mk (by rw [hw]; exact below_set (below_set (HGB.out) GZ.out) GZ.out : Below wg.heap.size wg wg3); replace BG := Aside0.mk (by rw [hw]; exact Own.put2 BG.out : wg3.heap[gg]? = some (.cells #[.slice Ag0 g0.length cg0, .slice Ag1 g1.length cg1] 35 (0, 0))); clear hw; obtain ⟨ug0, ug1, vg0, vg1⟩ := Own.box2 (BG.out); obtain ⟨us0, us1, vs0, vs1⟩ := Own.box2 (blk_below BS8.out HZ.out); have T9 := Aside0.mk True.intro) | (go_at_call 10; clear T9; (with_reducible refine (laws_eqContract.calls k Ag0 cg0 g0 Ag1 cg1 g1 BS0 dS0 s0 BS1 dS1 s1 true _ (sepS_read (HS0.out.kept (fun k_ a_ b_ => (Gk.below GK.out HGB.out).same k_ a_ (by have := LM.out; omega)))).2 (sepS_read HS0.out).1 (sepR_read (HS1.out.kept (fun k_ a_ b_ => (Gk.below GK.out HGB.out).same k_ (by have := LM.out; omega) b_))).2 (sepR_read HS1.out).1 (Kd.C_below SA.out.2 HZ.out) SA.out.1 (Kd.C_below SB.out.2 HZ.out) SB.out.1 A7.out).mono ?_); rintro e wc ⟨rfl, hb⟩; clear ug0 ug1 vg0 vg1 us0 us1 vs0 vs1; replace HZ := Aside0.mk (below_step HZ.out hb); replace HGB := Aside0.mk (below_step HGB.out hb); replace BG := Aside0.mk (blk_below BG.out hb); clear hb; have T10 := Aside0.mk True.intro))
 (try simp only [Own.ps])
 replace HZ := Aside0.mk (below_drew1 HZ.out)
 replace HGB := Aside0.mk (below_drew1 HGB.out)
 replace BG := Aside0.mk (blk_drew BG.out)
 refine start_ (n := 5) (S := fun w' => w'.cell? ⟨gx, 0, none⟩ = some (.slice Bx0 p0.length dx0) ∧ w'.cell? ⟨gx, 1, none⟩ = some (.slice Bx1 p1.length dx1) ∧ w'.cell? ⟨ga, 0, none⟩ = some (.slice A0_0 l0_0.length c0_0) ∧ w'.cell? ⟨ga, 1, none⟩ = some (.slice A0_1 l0_1.length c0_1)) (ds := []) (Own.fl 5 0) (by kernel_rfl) rfl rfl ⟨blk_cell (blk_below BX.out HGB.out) 0, blk_cell (blk_below BX.out HGB.out) 1, blk_cell (blk_below BKa.out HZ.out) 0, blk_cell (blk_below BKa.out HZ.out) 1⟩ (fun hHeld => ?_)
 generalize wc.drew = wp at HZ HGB BG hHeld ⊢
 refine take_ (i := 0) (N := some 54) (v := ?_) (a' := ?_) (Own.fl 5 1) rfl rfl (by kernel_rfl) (fun _ _ _ h => h) (Or.inl ⟨by rfl, ?_⟩) hHeld ?_ ?_; rotate_left; rintro w' ⟨q0, q1, q2, q3⟩; go_simp; with_reducible rfl; rotate_left; simp only [Own.ps]; rfl
 refine take_ (i := 1) (N := some 55) (v := ?_) (a' := ?_) (Own.fl 5 3) rfl rfl (by kernel_rfl) (fun _ _ _ h => h) (Or.inl ⟨by rfl, ?_⟩) hHeld ?_ ?_; rotate_left; rintro w' ⟨q0, q1, q2, q3⟩; go_simp; with_reducible rfl; rotate_left; simp only [Own.ps]; rfl
 refine one_ (i := 2) (N := some 56) (Own.fl 5 7) rfl rfl (by kernel_rfl) (by decide) (fun K hK => ?_)
 refine goes_ Tryz.func7 (by kernel_rfl) rfl #[.agg #[.slice A0_0 l0_0.length c0_0, .slice A0_1 l0_1.length c0_1]] (by rfl) rfl rfl Own.ha ?_
 with_reducible refine (laws_toContract.calls k A0_0 c0_0 l0_0 A0_1 c0_1 l0_1 p0 p1 _ (Kd.C_below P00.out.2 HZ.out) P00.out.1 (Kd.C_below P01.out.2 HZ.out) P01.out.1 A3.out).mono ?_
 rintro e wpa ⟨v_, u_, rfl, ho0, ho1, hb⟩
 refine ⟨_, rfl, ?_⟩
 replace HZ := Aside0.mk (below_step HZ.out hb)
 replace HGB := Aside0.mk (below_step HGB.out hb)
 replace BG := Aside0.mk (blk_below BG.out hb)
 obtain ⟨Bn0, dn0, rfl⟩ := Kd.R_slice ho0; have Q0 := Aside0.mk (Kd.R_reads' ho0).2; obtain ⟨Bn1, dn1, rfl⟩ := Kd.R_slice ho1; have Q1 := Aside0.mk (Kd.R_reads' ho1).2; clear ho0 ho1 hb
 refine hK.out _ _ ⟨blk_cell (blk_below BX.out HGB.out) 0, blk_cell (blk_below BX.out HGB.out) 1, blk_cell (blk_below BKa.out HZ.out) 0, blk_cell (blk_below BKa.out HZ.out) 1⟩ (fun hHeld => ?_)
 clear hK K; refine norm_ (a' := ?_) ?_ ?_; rotate_left; show Act.put _ (some 56) _ = _; simp only [Own.ps]; rfl
 refine one_ (i := 3) (N := some 57) (Own.fl 5 15) rfl rfl (by kernel_rfl) (by decide) (fun K hK => ?_)
 refine goes_ Tryz.func10 (by kernel_rfl) rfl #[.agg #[.slice Bx0 p0.length dx0, .slice Bx1 p1.length dx1], .agg #[.slice Bn0 p0.length dn0, .slice Bn1 p1.length dn1]] (by rfl) rfl rfl Own.ha ?_
 with_reducible refine (laws_eqContract.calls k Bx0 dx0 p0 Bx1 dx1 p1 Bn0 dn0 p0 Bn1 dn1 p1 true _ (Kd.C_below (Kd.R_reads' HX0.out).2.2 HGB.out) (Kd.R_reads' HX0.out).2.1 (Kd.C_below (Kd.R_reads' HX1.out).2.2 HGB.out) (Kd.R_reads' HX1.out).2.1 Q0.out.2 Q0.out.1 Q1.out.2 Q1.out.1 A8.out).mono ?_
 rintro e wpb ⟨rfl, hb⟩
 refine ⟨_, rfl, ?_⟩
 replace HZ := Aside0.mk (below_step HZ.out hb)
 replace HGB := Aside0.mk (below_step HGB.out hb)
 replace BG := Aside0.mk (blk_below BG.out hb)
 clear hb Q0 Q1
 refine hK.out _ _ ⟨blk_cell (blk_below BX.out HGB.out) 0, blk_cell (blk_below BX.out HGB.out) 1, blk_cell (blk_below BKa.out HZ.out) 0, blk_cell (blk_below BKa.out HZ.out) 1⟩ (fun hHeld => ?_)
 clear hK K; refine norm_ (a' := ?_) ?_ ?_; rotate_left; show Act.put _ (some 57) _ = _; simp only [Own.ps]; rfl
 refine pure_ (i := 4) (N := some 58) (v := ?_) (a' := ?_) (Own.fl 5 31) rfl rfl (by kernel_rfl) (fun _ _ _ h => h) (Or.inl ⟨by rfl, ?_⟩) ?_ ?_; rotate_left; intro w'; go_simp; with_reducible rfl; rotate_left; simp only [Own.ps]; rfl
 refine done_ (by kernel_rfl) ?_
 clear hHeld
 go_upto_region 16 with (fail)
 (try simp only [Own.ps])
 replace HZ := Aside0.mk (below_drew1 HZ.out)
 replace HGB := Aside0.mk (below_drew1 HGB.out)
 replace BG := Aside0.mk (blk_drew BG.out)
 refine start_ (n := 5) (S := fun w' => w'.cell? ⟨gy, 0, none⟩ = some (.string y0) ∧ w'.cell? ⟨gy, 1, none⟩ = some (.int .i64 y1) ∧ w'.cell? ⟨gy, 2, none⟩ = some (.int .i64 y2) ∧ w'.cell? ⟨gy, 3, none⟩ = some (.string y3) ∧ w'.cell? ⟨gy, 4, none⟩ = some (.int .i64 y4) ∧ w'.cell? ⟨gy, 5, none⟩ = some (.int .i64 y5) ∧ w'.cell? ⟨gy, 6, none⟩ = some (.int .i64 y6) ∧ w'.cell? ⟨gy, 7, none⟩ = some (.string y7) ∧ w'.cell? ⟨gy, 8, none⟩ = some (.int .i64 y8) ∧ w'.cell? ⟨gy, 9, none⟩ = some (.slice By y9.length dy) ∧ w'.cell? ⟨gy, 10, none⟩ = some (.int .i64 y10) ∧ w'.cell? ⟨gy, 11, none⟩ = some (.string y11) ∧ w'.cell? ⟨gb, 0, none⟩ = some (.string a1_0) ∧ w'.cell? ⟨gb, 1, none⟩ = some (.int .i64 a1_1) ∧ w'.cell? ⟨gb, 2, none⟩ = some (.int .i64 a1_2) ∧ w'.cell? ⟨gb, 3, none⟩ = some (.string a1_3) ∧ w'.cell? ⟨gb, 4, none⟩ = some (.int .i64 a1_4) ∧ w'.cell? ⟨gb, 5, none⟩ = some (.int .i64 a1_5) ∧ w'.cell? ⟨gb, 6, none⟩ = some (.int .i64 a1_6) ∧ w'.cell? ⟨gb, 7, none⟩ = some (.string a1_7) ∧ w'.cell? ⟨gb, 8, none⟩ = some (.int .i64 a1_8) ∧ w'.cell? ⟨gb, 9, none⟩ = some (.slice A1_9 l1_9.length c1_9) ∧ w'.cell? ⟨gb, 10, none⟩ = some (.int .i64 a1_10) ∧ w'.cell? ⟨gb, 11, none⟩ = some (.string a1_11)) (ds := []) (Own.fl 5 0) (by kernel_rfl) rfl rfl ⟨blk_cell (blk_below BY.out HGB.out) 0, blk_cell (blk_below BY.out HGB.out) 1, blk_cell (blk_below BY.out HGB.out) 2, blk_cell (blk_below BY.out HGB.out) 3, blk_cell (blk_below BY.out HGB.out) 4, blk_cell (blk_below BY.out HGB.out) 5, blk_cell (blk_below BY.out HGB.out) 6, blk_cell (blk_below BY.out HGB.out) 7, blk_cell (blk_below BY.out HGB.out) 8, blk_cell (blk_below BY.out HGB.out) 9, blk_cell (blk_below BY.out HGB.out) 10, blk_cell (blk_below BY.out HGB.out) 11, blk_cell (blk_below BKb.out HZ.out) 0, blk_cell (blk_below BKb.out HZ.out) 1, blk_cell (blk_below BKb.out HZ.out) 2, blk_cell (blk_below BKb.out HZ.out) 3, blk_cell (blk_below BKb.out HZ.out) 4, blk_cell (blk_below BKb.out HZ.out) 5, blk_cell (blk_below BKb.out HZ.out) 6, blk_cell (blk_below BKb.out HZ.out) 7, blk_cell (blk_below BKb.out HZ.out) 8, blk_cell (blk_below BKb.out HZ.out) 9, blk_cell (blk_below BKb.out HZ.out) 10, blk_cell (blk_below BKb.out HZ.out) 11⟩ (fun hHeld => ?_)
 generalize wpb.drew = wq at HZ HGB BG hHeld ⊢
 refine take_ (i := 0) (N := some 59) (v := ?_) (a' := ?_) (Own.fl 5 1) rfl rfl (by kernel_rfl) (fun _ _ _ h => h) (Or.inl ⟨by rfl, ?_⟩) hHeld ?_ ?_; rotate_left; rintro w' ⟨q0, q1, q2, q3, q4, q5, q6, q7, q8, q9, q10, q11, q12, q13, q14, q15, q16, q17, q18, q19, q20, q21, q22, q23⟩; go_simp; with_reducible rfl; rotate_left; simp only [Own.ps]; rfl
 refine take_ (i := 1) (N := some 60) (v := ?_) (a' := ?_) (Own.fl 5 3) rfl rfl (by kernel_rfl) (fun _ _ _ h => h) (Or.inl ⟨by rfl, ?_⟩) hHeld ?_ ?_; rotate_left; rintro w' ⟨q0, q1, q2, q3, q4, q5, q6, q7, q8, q9, q10, q11, q12, q13, q14, q15, q16, q17, q18, q19, q20, q21, q22, q23⟩; go_simp; with_reducible rfl; rotate_left; simp only [Own.ps]; rfl
 refine one_ (i := 2) (N := some 61) (Own.fl 5 7) rfl rfl (by kernel_rfl) (by decide) (fun K hK => ?_)
 refine goes_ Tryz.func8 (by kernel_rfl) rfl #[.agg #[.string a1_0, .int .i64 a1_1, .int .i64 a1_2, .string a1_3, .int .i64 a1_4, .int .i64 a1_5, .int .i64 a1_6, .string a1_7, .int .i64 a1_8, .slice A1_9 l1_9.length c1_9, .int .i64 a1_10, .string a1_11]] (by rfl) rfl rfl Own.ha ?_
 with_reducible refine (laws_toClause.calls k a1_0 a1_1 a1_2 a1_3 a1_4 a1_5 a1_6 a1_7 a1_8 A1_9 c1_9 l1_9 a1_10 a1_11 y0 y1 y2 y3 y4 y5 y6 y7 y8 y9 y10 y11 _ (Kd.C_below P10.out.2 HZ.out) P10.out.1 A4.out).mono ?_
 rintro e wqa ⟨v_, rfl, ho0, hb⟩
 refine ⟨_, rfl, ?_⟩
 replace HZ := Aside0.mk (below_step HZ.out hb)
 replace HGB := Aside0.mk (below_step HGB.out hb)
 replace BG := Aside0.mk (blk_below BG.out hb)
 obtain ⟨Bn0, dn0, rfl⟩ := Kd.R_slice ho0; have Q0 := Aside0.mk (Kd.R_reads' ho0).2; clear ho0 hb
 refine hK.out _ _ ⟨blk_cell (blk_below BY.out HGB.out) 0, blk_cell (blk_below BY.out HGB.out) 1, blk_cell (blk_below BY.out HGB.out) 2, blk_cell (blk_below BY.out HGB.out) 3, blk_cell (blk_below BY.out HGB.out) 4, blk_cell (blk_below BY.out HGB.out) 5, blk_cell (blk_below BY.out HGB.out) 6, blk_cell (blk_below BY.out HGB.out) 7, blk_cell (blk_below BY.out HGB.out) 8, blk_cell (blk_below BY.out HGB.out) 9, blk_cell (blk_below BY.out HGB.out) 10, blk_cell (blk_below BY.out HGB.out) 11, blk_cell (blk_below BKb.out HZ.out) 0, blk_cell (blk_below BKb.out HZ.out) 1, blk_cell (blk_below BKb.out HZ.out) 2, blk_cell (blk_below BKb.out HZ.out) 3, blk_cell (blk_below BKb.out HZ.out) 4, blk_cell (blk_below BKb.out HZ.out) 5, blk_cell (blk_below BKb.out HZ.out) 6, blk_cell (blk_below BKb.out HZ.out) 7, blk_cell (blk_below BKb.out HZ.out) 8, blk_cell (blk_below BKb.out HZ.out) 9, blk_cell (blk_below BKb.out HZ.out) 10, blk_cell (blk_below BKb.out HZ.out) 11⟩ (fun hHeld => ?_)
 clear hK K; refine norm_ (a' := ?_) ?_ ?_; rotate_left; show Act.put _ (some 61) _ = _; simp only [Own.ps]; rfl
 refine one_ (i := 3) (N := some 62) (Own.fl 5 15) rfl rfl (by kernel_rfl) (by decide) (fun K hK => ?_)
 refine goes_ Tryz.func11 (by kernel_rfl) rfl #[.agg #[.string y0, .int .i64 y1, .int .i64 y2, .string y3, .int .i64 y4, .int .i64 y5, .int .i64 y6, .string y7, .int .i64 y8, .slice By y9.length dy, .int .i64 y10, .string y11], .agg #[.string y0, .int .i64 y1, .int .i64 y2, .string y3, .int .i64 y4, .int .i64 y5, .int .i64 y6, .string y7, .int .i64 y8, .slice Bn0 y9.length dn0, .int .i64 y10, .string y11]] (by rfl) rfl rfl Own.ha ?_
 with_reducible refine (laws_eqClause.calls k y0 y1 y2 y3 y4 y5 y6 y7 y8 By dy y9 y10 y11 y0 y1 y2 y3 y4 y5 y6 y7 y8 Bn0 dn0 y9 y10 y11 true _ (Kd.C_below (Kd.R_reads' HY9.out).2.2 HGB.out) (Kd.R_reads' HY9.out).2.1 Q0.out.2 Q0.out.1 A9.out).mono ?_
 rintro e wqb ⟨rfl, hb⟩
 refine ⟨_, rfl, ?_⟩
 replace HZ := Aside0.mk (below_step HZ.out hb)
 replace HGB := Aside0.mk (below_step HGB.out hb)
 replace BG := Aside0.mk (blk_below BG.out hb)
 clear hb Q0
 refine hK.out _ _ ⟨blk_cell (blk_below BY.out HGB.out) 0, blk_cell (blk_below BY.out HGB.out) 1, blk_cell (blk_below BY.out HGB.out) 2, blk_cell (blk_below BY.out HGB.out) 3, blk_cell (blk_below BY.out HGB.out) 4, blk_cell (blk_below BY.out HGB.out) 5, blk_cell (blk_below BY.out HGB.out) 6, blk_cell (blk_below BY.out HGB.out) 7, blk_cell (blk_below BY.out HGB.out) 8, blk_cell (blk_below BY.out HGB.out) 9, blk_cell (blk_below BY.out HGB.out) 10, blk_cell (blk_below BY.out HGB.out) 11, blk_cell (blk_below BKb.out HZ.out) 0, blk_cell (blk_below BKb.out HZ.out) 1, blk_cell (blk_below BKb.out HZ.out) 2, blk_cell (blk_below BKb.out HZ.out) 3, blk_cell (blk_below BKb.out HZ.out) 4, blk_cell (blk_below BKb.out HZ.out) 5, blk_cell (blk_below BKb.out HZ.out) 6, blk_cell (blk_below BKb.out HZ.out) 7, blk_cell (blk_below BKb.out HZ.out) 8, blk_cell (blk_below BKb.out HZ.out) 9, blk_cell (blk_below BKb.out HZ.out) 10, blk_cell (blk_below BKb.out HZ.out) 11⟩ (fun hHeld => ?_)
 clear hK K; refine norm_ (a' := ?_) ?_ ?_; rotate_left; show Act.put _ (some 62) _ = _; simp only [Own.ps]; rfl
 refine pure_ (i := 4) (N := some 63) (v := ?_) (a' := ?_) (Own.fl 5 31) rfl rfl (by kernel_rfl) (fun _ _ _ h => h) (Or.inl ⟨by rfl, ?_⟩) ?_ ?_; rotate_left; intro w'; go_simp; with_reducible rfl; rotate_left; simp only [Own.ps]; rfl
 refine done_ (by kernel_rfl) ?_
 clear hHeld; obtain ⟨ux0, ux1, vx0, vx1⟩ := Own.box2 (blk_below BX.out HGB.out)
 go_upto_region 31 with (first | (go_at_call 12; (with_reducible refine (markKon_calls ((shS_of_R (ok0 := fun k_ => k_ < wy.heap.size) p0 _ (fun _ h_ => h_) HX0.out).same (Same.of_below HGB.out)) ((shK_of_R (ok0 := fun k_ => k_ < wy.heap.size) p1 _ (fun _ h_ => h_) HX1.out).same (Same.of_below HGB.out)) (fun k_ h_ => Nat.lt_of_lt_of_le h_.2.2 HGB.out.size) Bx0 Bx1 p0.length p1.length dx0 dx1 rfl rfl 1 (by omega) (by have := Z3.out; omega)).mono ?_); rintro e wm ⟨r1, rfl, q1, q2, hs⟩; clear ux0 ux1 vx0 vx1; have HQ1 := Aside0.mk (And.intro q1 q2); replace GK := Aside0.mk (Gk.kept (Gk.below GK.out HGB.out) hs.kept (fun _ h_ => by have h1_ := h_.1; have h2_ := LM.out; omega)); replace BY := Aside0.mk (blk_kept (blk_below BY.out HGB.out) hs.kept (fun h_ => by have h1_ := h_.1; have h2_ := LM.out; omega)); replace BG := Aside0.mk (blk_kept BG.out hs.kept (fun h_ => by have h1_ := h_.2.2; have h2_ := GZ.out; omega)); replace HZ := Aside0.mk (hs.lift HZ.out HZ.out.size (fun _ h_ => h_.2.1)); have HSM := Aside0.mk ((Same.of_below HGB.out).trans hs); clear q1 q2 hs HGB HX0 HX1 BX; obtain ⟨uy0, uy1, uy2, uy3, uy4, uy5, uy6, uy7, uy8, uy9, uy10, uy11, vy0, vy1, vy2, vy3, vy4, vy5, vy6, vy7, vy8, vy9, vy10, vy11⟩ := Own.box12 (BY.out); have T1 := Aside0.mk True.intro) | (go_at_call 13; clear T1; (with_reducible refine (markCl1_calls ((shC_of_R (ok0 := fun k_ => k_ < wy.heap.size) _ y9 _ _ (Nat.le_refl _) (fun _ h_ => h_) HY9.out).same HSM.out) y0 y3 y7 y11 y1 y2 y4 y5 y6 y8 y10 _ r1 (Same.refl _ _) (by have := HQ1.out; omega) (by have := HQ1.out; have := Z3.out; omega)).mono ?_); rintro e wn ⟨r2, rfl, q1, q2, hs⟩; clear uy0 uy1 uy2 uy3 uy4 uy5 uy6 uy7 uy8 uy9 uy10 uy11 vy0 vy1 vy2 vy3 vy4 vy5 vy6 vy7 vy8 vy9 vy10 vy11; have cr1 : decide (r2 < 0) = false := decide_eq_false (by have := HQ1.out; omega); replace GK := Aside0.mk (Gk.kept GK.out hs.kept (fun _ h_ => by have h1_ := h_.1; have h2_ := LM.out; omega)); replace BG := Aside0.mk (blk_kept BG.out hs.kept (fun h_ => by have h1_ := h_.2.2; have h2_ := GZ.out; omega)); replace HZ := Aside0.mk (hs.lift HZ.out HZ.out.size (fun _ h_ => h_.2.1)); clear q1 q2 hs HSM HY9 BY HQ1; obtain ⟨ug0, ug1, vg0, vg1⟩ := Own.box2 (BG.out); obtain ⟨us0, us1, vs0, vs1⟩ := Own.box2 (blk_below BS8.out HZ.out); have T2 := Aside0.mk True.intro) | (go_at_call 10; clear T2; (with_reducible refine (laws_eqContract.calls k Ag0 cg0 g0 Ag1 cg1 g1 BS0 dS0 s0 BS1 dS1 s1 true _ (sepS_read (HS0.out.kept (fun k_ a_ b_ => GK.out.same k_ a_ (by have := LM.out; omega)))).2 (sepS_read HS0.out).1 (sepR_read (HS1.out.kept (fun k_ a_ b_ => GK.out.same k_ (by have := LM.out; omega) b_))).2 (sepR_read HS1.out).1 (Kd.C_below SA.out.2 HZ.out) SA.out.1 (Kd.C_below SB.out.2 HZ.out) SB.out.1 A7.out).mono ?_); rintro e wo ⟨rfl, hb⟩; clear ug0 ug1 vg0 vg1 us0 us1 vs0 vs1; replace HZ := Aside0.mk (below_step HZ.out hb); replace GK := Aside0.mk (Gk.below GK.out hb); replace BG := Aside0.mk (blk_below BG.out hb); obtain ⟨ug0, ug1, vg0, vg1⟩ := Own.box2 (BG.out); clear hb; have T3 := Aside0.mk True.intro) | (go_at_call 12; clear T3; (with_reducible refine (markKP_calls HS0.out HS1.out LM.out.1 LM.out.2.1 _ GK.out.same GK.out.size (by have := Z4.out; omega)).mono ?_); rintro e wu ⟨m_, r3, rfl, hh, hk, h0⟩; clear ug0 ug1 vg0 vg1; have HH := Aside0.mk hh; have cr2 : decide (r3 < 0) = false := decide_eq_false (by have := hh.m1; omega); have GM := Aside0.mk (show Gk wu wu wy3.heap.size wg.heap.size from ⟨fun _ _ _ => rfl, Nat.le_trans GK.out.size hk.1⟩); replace HZ := Aside0.mk (below_kept HZ.out HZ.out.size hk h0 (fun k_ h_ => by have h1_ := LM.out; have h2_ := LY.out; omega)); replace BG := Aside0.mk (blk_kept BG.out hk (fun h_ => by have h1_ := h_.2; have h3_ := GZ.out; omega)); clear hh hk h0 GK; obtain ⟨ug0, ug1, vg0, vg1⟩ := Own.box2 (BG.out); have T4 := Aside0.mk True.intro) | (go_at_call 14; clear T4; (with_reducible refine (heldKP_calls HH.out LM.out.1 LM.out.2.1 _ GM.out.same GM.out.size).mono ?_); rintro e wv ⟨rfl, hb⟩; clear ug0 ug1 vg0 vg1; replace HZ := Aside0.mk (below_step HZ.out hb); replace GM := Aside0.mk (Gk.below GM.out hb); replace BG := Aside0.mk (blk_below BG.out hb); clear hb; have T5 := Aside0.mk True.intro))
 (try simp only [Own.ps])
 have HK9 := HH; clear HH
 replace BKa := Aside0.mk (blk_below BKa.out HZ.out)
 replace BKb := Aside0.mk (blk_below BKb.out HZ.out)
 replace P00 := Aside0.mk (pc P00.out HZ.out)
 replace P01 := Aside0.mk (pc P01.out HZ.out)
 replace P10 := Aside0.mk (pc P10.out HZ.out)
 have HQ := HZ; clear HZ
 replace BKa := Aside0.mk (blk_drew BKa.out)
 replace BKb := Aside0.mk (blk_drew BKb.out)
 replace HQ := Aside0.mk (below_drew1 HQ.out)
 replace BG := Aside0.mk (blk_drew BG.out)
 replace GM := Aside0.mk (Gk.below GM.out (below_drew1 (Below.refl _ _)))
 replace P00 := Aside0.mk (pc P00.out (below_drew1 (Below.refl _ _)))
 replace P01 := Aside0.mk (pc P01.out (below_drew1 (Below.refl _ _)))
 replace P10 := Aside0.mk (pc P10.out (below_drew1 (Below.refl _ _)))
 refine start_ (n := 11) (S := fun w' => w'.cell? ⟨ga, 0, none⟩ = some (.slice A0_0 l0_0.length c0_0) ∧ w'.cell? ⟨ga, 1, none⟩ = some (.slice A0_1 l0_1.length c0_1) ∧ w'.cell? ⟨gb, 0, none⟩ = some (.string a1_0) ∧ w'.cell? ⟨gb, 1, none⟩ = some (.int .i64 a1_1) ∧ w'.cell? ⟨gb, 2, none⟩ = some (.int .i64 a1_2) ∧ w'.cell? ⟨gb, 3, none⟩ = some (.string a1_3) ∧ w'.cell? ⟨gb, 4, none⟩ = some (.int .i64 a1_4) ∧ w'.cell? ⟨gb, 5, none⟩ = some (.int .i64 a1_5) ∧ w'.cell? ⟨gb, 6, none⟩ = some (.int .i64 a1_6) ∧ w'.cell? ⟨gb, 7, none⟩ = some (.string a1_7) ∧ w'.cell? ⟨gb, 8, none⟩ = some (.int .i64 a1_8) ∧ w'.cell? ⟨gb, 9, none⟩ = some (.slice A1_9 l1_9.length c1_9) ∧ w'.cell? ⟨gb, 10, none⟩ = some (.int .i64 a1_10) ∧ w'.cell? ⟨gb, 11, none⟩ = some (.string a1_11)) (ds := []) (Own.fl 11 0) (by kernel_rfl) rfl rfl ⟨blk_cell BKa.out 0, blk_cell BKa.out 1, blk_cell BKb.out 0, blk_cell BKb.out 1, blk_cell BKb.out 2, blk_cell BKb.out 3, blk_cell BKb.out 4, blk_cell BKb.out 5, blk_cell BKb.out 6, blk_cell BKb.out 7, blk_cell BKb.out 8, blk_cell BKb.out 9, blk_cell BKb.out 10, blk_cell BKb.out 11⟩ (fun hHeld => ?_); refine with_tabW laws_FnExactAddClause.tab31 laws_FnExactAddClause.bits31 (fun HT_ HW_ => ?_)
 generalize wv.drew = wy_ at BKa BKb HQ BG GM P00 P01 P10 hHeld ⊢
 have HZ := Aside0.mk (Below.refl wy_.heap.size wy_)
 have LA := Aside0.mk (blk_lt BKa.out)
 have LB := Aside0.mk (blk_lt BKb.out)
 have HH := Aside0.mk (fun (w' : World) (ha : w'.heap[ga]? = some (.cells #[.slice A0_0 l0_0.length c0_0, .slice A0_1 l0_1.length c0_1] 25 (0, 0))) (hb : w'.heap[gb]? = some (.cells #[.string a1_0, .int .i64 a1_1, .int .i64 a1_2, .string a1_3, .int .i64 a1_4, .int .i64 a1_5, .int .i64 a1_6, .string a1_7, .int .i64 a1_8, .slice A1_9 l1_9.length c1_9, .int .i64 a1_10, .string a1_11] 30 (0, 0))) => (⟨blk_cell ha 0, blk_cell ha 1, blk_cell hb 0, blk_cell hb 1, blk_cell hb 2, blk_cell hb 3, blk_cell hb 4, blk_cell hb 5, blk_cell hb 6, blk_cell hb 7, blk_cell hb 8, blk_cell hb 9, blk_cell hb 10, blk_cell hb 11⟩ : w'.cell? ⟨ga, 0, none⟩ = some (.slice A0_0 l0_0.length c0_0) ∧ w'.cell? ⟨ga, 1, none⟩ = some (.slice A0_1 l0_1.length c0_1) ∧ w'.cell? ⟨gb, 0, none⟩ = some (.string a1_0) ∧ w'.cell? ⟨gb, 1, none⟩ = some (.int .i64 a1_1) ∧ w'.cell? ⟨gb, 2, none⟩ = some (.int .i64 a1_2) ∧ w'.cell? ⟨gb, 3, none⟩ = some (.string a1_3) ∧ w'.cell? ⟨gb, 4, none⟩ = some (.int .i64 a1_4) ∧ w'.cell? ⟨gb, 5, none⟩ = some (.int .i64 a1_5) ∧ w'.cell? ⟨gb, 6, none⟩ = some (.int .i64 a1_6) ∧ w'.cell? ⟨gb, 7, none⟩ = some (.string a1_7) ∧ w'.cell? ⟨gb, 8, none⟩ = some (.int .i64 a1_8) ∧ w'.cell? ⟨gb, 9, none⟩ = some (.slice A1_9 l1_9.length c1_9) ∧ w'.cell? ⟨gb, 10, none⟩ = some (.int .i64 a1_10) ∧ w'.cell? ⟨gb, 11, none⟩ = some (.string a1_11)))
 refine take_ (i := 0) (N := some 95) (v := ?_) (a' := ?_) (Own.fl 11 1) rfl rfl (take_ofW HT_.out HW_.out (by kernel_rfl)) (fun _ _ _ h => h) (Or.inl ⟨by rfl, ?_⟩) hHeld ?_ ?_; rotate_left; rintro w' ⟨q0, q1, q2, q3, q4, q5, q6, q7, q8, q9, q10, q11, q12, q13⟩; go_simp; with_reducible rfl; rotate_left; simp only [Own.ps]; rfl
 refine take_ (i := 2) (N := some 97) (v := ?_) (a' := ?_) (Own.fl 11 5) rfl rfl (take_ofW HT_.out HW_.out (by kernel_rfl)) (fun _ _ _ h => h) (Or.inl ⟨by rfl, ?_⟩) hHeld ?_ ?_; rotate_left; rintro w' ⟨q0, q1, q2, q3, q4, q5, q6, q7, q8, q9, q10, q11, q12, q13⟩; go_simp; with_reducible rfl; rotate_left; simp only [Own.ps]; rfl
 refine join_ (σ := Value × Value × Value × Value × Value × Nat) 2 (Own.fl 11 511) (fun s_ => [(96, .agg #[s_.1, s_.2.1]), (98, .agg #[.string y0, .int .i64 y1, .int .i64 y2, .string y3, .int .i64 y4, .int .i64 y5, .int .i64 y6, .string y7, .int .i64 y8, s_.2.2.1, .int .i64 y10, .string y11]), (99, .tuple #[.agg #[s_.2.2.2.1, s_.2.2.2.2.1], .bool gf]), (15, .pointer (some ⟨s_.2.2.2.2.2, 0, none⟩)), (94, .tuple #[.agg #[s_.2.2.2.1, s_.2.2.2.2.1], .bool gf]), (100, .agg #[s_.2.2.2.1, s_.2.2.2.2.1]), (101, .bool gf)]) (fun s_ w' => Off Kd.string s_.2.2.2.2.2 w' s_.2.2.2.1 g0 ∧ Off k43 s_.2.2.2.2.2 w' s_.2.2.2.2.1 g1 ∧ w'.heap[s_.2.2.2.2.2]? = some (.cells #[.slice none 0 0, .slice none 0 0] 35 (0, 0)) ∧ wy_.heap.size ≤ s_.2.2.2.2.2 ∧ Below wy_.heap.size wy_ w' ∧ w'.heap[ga]? = some (.cells #[.slice A0_0 l0_0.length c0_0, .slice A0_1 l0_1.length c0_1] 25 (0, 0)) ∧ w'.heap[gb]? = some (.cells #[.string a1_0, .int .i64 a1_1, .int .i64 a1_2, .string a1_3, .int .i64 a1_4, .int .i64 a1_5, .int .i64 a1_6, .string a1_7, .int .i64 a1_8, .slice A1_9 l1_9.length c1_9, .int .i64 a1_10, .string a1_11] 30 (0, 0))) ?_ ?_
 rotate_left
 ·
  intro hCont
  refine two_ (i := 1) (j := 8) (Ni := some 96) (Nj := some 15) (Own.fl 11 7) (Own.fl 11 261) rfl rfl rfl rfl (two_of HT_.out (by kernel_rfl)) (by decide) (by decide) (fun K hK => ?_) (fun K hK => ?_)
  ·
   refine goes_ Tryz.func7 (by kernel_rfl) rfl #[.agg #[.slice A0_0 l0_0.length c0_0, .slice A0_1 l0_1.length c0_1]] (by rfl) rfl rfl Own.ha ?_
   with_reducible refine (laws_toContract.calls k A0_0 c0_0 l0_0 A0_1 c0_1 l0_1 p0 p1 _ (Kd.C_below P00.out.2 HZ.out) P00.out.1 (Kd.C_below P01.out.2 HZ.out) P01.out.1 A3.out).mono ?_
   rintro e wy_c1 ⟨v_, u_, rfl, ho0, ho1, hb⟩
   refine ⟨_, rfl, ?_⟩
   replace BKa := Aside0.mk (blk_below BKa.out hb); replace BKb := Aside0.mk (blk_below BKb.out hb); replace HZ := Aside0.mk (below_step HZ.out hb)
   obtain ⟨BA, dA, rfl⟩ := Kd.R_slice ho0; obtain ⟨EA, fA, rfl⟩ := Kd.R_slice ho1; have PA0 := Aside0.mk (Kd.R_reads' ho0).2; have PA1 := Aside0.mk (Kd.R_reads' ho1).2; clear ho0 ho1 hb
   refine hK.out _ _ (HH.out _ BKa.out BKb.out) (fun hHeld => ?_)
   clear hK K; refine norm_ (a' := ?_) ?_ ?_; rotate_left; show Act.put _ (some 96) _ = _; simp only [Own.ps]; rfl
   refine two_ (i := 3) (j := 8) (Ni := some 98) (Nj := some 15) (Own.fl 11 15) (Own.fl 11 263) rfl rfl rfl rfl (two_of HT_.out (by kernel_rfl)) (by decide) (by decide) (fun K hK => ?_) (fun K hK => ?_)
   ·
    refine goes_ Tryz.func8 (by kernel_rfl) rfl #[.agg #[.string a1_0, .int .i64 a1_1, .int .i64 a1_2, .string a1_3, .int .i64 a1_4, .int .i64 a1_5, .int .i64 a1_6, .string a1_7, .int .i64 a1_8, .slice A1_9 l1_9.length c1_9, .int .i64 a1_10, .string a1_11]] (by rfl) rfl rfl Own.ha ?_
    with_reducible refine (laws_toClause.calls k a1_0 a1_1 a1_2 a1_3 a1_4 a1_5 a1_6 a1_7 a1_8 A1_9 c1_9 l1_9 a1_10 a1_11 y0 y1 y2 y3 y4 y5 y6 y7 y8 y9 y10 y11 _ (Kd.C_below P10.out.2 HZ.out) P10.out.1 A4.out).mono ?_
    rintro e wy_c2 ⟨v_, rfl, ho0, hb⟩
    refine ⟨_, rfl, ?_⟩
    replace BKa := Aside0.mk (blk_below BKa.out hb); replace BKb := Aside0.mk (blk_below BKb.out hb); replace HZ := Aside0.mk (below_step HZ.out hb)
    replace PA0 := Aside0.mk (pc PA0.out hb)
    replace PA1 := Aside0.mk (pc PA1.out hb)
    obtain ⟨BB, dB, rfl⟩ := Kd.R_slice ho0; have PB0 := Aside0.mk (Kd.R_reads' ho0).2; clear ho0 hb
    refine hK.out _ _ (HH.out _ BKa.out BKb.out) (fun hHeld => ?_)
    clear hK K; refine norm_ (a' := ?_) ?_ ?_; rotate_left; show Act.put _ (some 98) _ = _; simp only [Own.ps]; rfl
    refine two_ (i := 4) (j := 8) (Ni := some 99) (Nj := some 15) (Own.fl 11 31) (Own.fl 11 271) rfl rfl rfl rfl (two_of HT_.out (by kernel_rfl)) (by decide) (by decide) (fun K hK => ?_) (fun K hK => ?_)
    ·
     refine goes_ Tryz.func9 (by kernel_rfl) rfl #[.agg #[.slice BA p0.length dA, .slice EA p1.length fA], .agg #[.string y0, .int .i64 y1, .int .i64 y2, .string y3, .int .i64 y4, .int .i64 y5, .int .i64 y6, .string y7, .int .i64 y8, .slice BB y9.length dB, .int .i64 y10, .string y11]] (by rfl) rfl rfl Own.ha ?_
     refine (addA_calls k _ _ p0 _ _ p1 (⟨y0, y1, y2, y3, y4, y5, ⟨y6, y7, y8, y9⟩, y10, y11⟩ : S43) _ _ _ PA0.out.2 PA0.out.1 PA1.out.2 PA1.out.1 PB0.out.2 PB0.out.1 (GG.out.below (below_step HQ.out HZ.out)) g0 g1 gf Z1.out Z2.out A6.out).mono ?_
     rintro e wy_c3 ⟨v_, u_, M_, rfl, ho0, ho1, hm0, hm1, hb⟩
     refine ⟨_, rfl, ?_⟩
     replace BKa := Aside0.mk (blk_below BKa.out hb); replace BKb := Aside0.mk (blk_below BKb.out hb); replace HZ := Aside0.mk (below_step HZ.out hb)
     have V0 := Aside0.mk (off_S ho0 hm1 (Or.inr hm1))
     have V1 := Aside0.mk (off_K ho1 (Nat.le_refl _) (Or.inr (Nat.le_refl _)))
     clear ho0 ho1 hm0 hm1 hb PA0 PA1 PB0
     refine hK.out _ _ (HH.out _ BKa.out BKb.out) (fun hHeld => ?_)
     clear hK K; refine norm_ (a' := ?_) ?_ ?_; rotate_left; show Act.put _ (some 99) _ = _; simp only [Own.ps]; rfl
     refine pure_ (i := 5) (N := some 94) (v := ?_) (a' := ?_) (Own.fl 11 63) rfl rfl (any_of HT_.out (by kernel_rfl)) (fun _ _ _ h => h) (Or.inl ⟨by rfl, ?_⟩) ?_ ?_; rotate_left; intro w'; go_simp; with_reducible rfl; rotate_left; simp only [Own.ps]; rfl
     refine pure_ (i := 6) (N := some 100) (v := ?_) (a' := ?_) (Own.fl 11 127) rfl rfl (any_of HT_.out (by kernel_rfl)) (fun _ _ _ h => h) (Or.inl ⟨by rfl, ?_⟩) ?_ ?_; rotate_left; intro w'; go_simp; with_reducible rfl; rotate_left; simp only [Own.ps]; rfl
     refine pure_ (i := 7) (N := some 101) (v := ?_) (a' := ?_) (Own.fl 11 255) rfl rfl (any_of HT_.out (by kernel_rfl)) (fun _ _ _ h => h) (Or.inl ⟨by rfl, ?_⟩) ?_ ?_; rotate_left; intro w'; go_simp; with_reducible rfl; rotate_left; simp only [Own.ps]; rfl
     refine one_ (i := 8) (N := some 15) (Own.fl 11 511) rfl rfl (one_of HT_.out (by kernel_rfl)) (by decide) (fun K hK => ?_)
     refine box_step ?hg (N := 15) ?hd (cs := #[.slice none 0 0, .slice none 0 0]) (t := 35) ?hr ?_; (case hd => rfl); (case hg => rfl); (case hr => first | (go_simp; done) | (go_simp; rfl))
     intro gh hg wy_c4 hbox hb
     have GS := Aside0.mk (show wy_.heap.size ≤ gh from by rw [hg]; exact HZ.out.size)
     replace V0 := Aside0.mk (Off.below V0.out hb)
     rw [← hg] at V0
     replace V1 := Aside0.mk (Off.below V1.out hb)
     rw [← hg] at V1
     replace BKa := Aside0.mk (blk_below BKa.out hb); replace BKb := Aside0.mk (blk_below BKb.out hb); replace HZ := Aside0.mk (below_step HZ.out hb)
     have BS := Aside0.mk hbox; clear hg hbox hb
     refine hK.out _ _ (HH.out _ BKa.out BKb.out) (fun hHeld => ?_)
     clear hK K; refine norm_ (a' := ?_) ?_ ?_; rotate_left; show Act.put _ (some 15) _ = _; simp only [Own.ps]; rfl
     exact norm_ (by simp only [putAll, Act.put, List.setIfInBounds_toArray, List.set_cons_zero, List.set_cons_succ]) (hCont (.slice BA p0.length dA, .slice EA p1.length fA, .slice BB y9.length dB, v_, u_, gh) _ ⟨V0.out, V1.out, BS.out, GS.out, HZ.out, BKa.out, BKb.out⟩)
    ·
     refine box_step ?hg (N := 15) ?hd (cs := #[.slice none 0 0, .slice none 0 0]) (t := 35) ?hr ?_; (case hd => rfl); (case hg => rfl); (case hr => first | (go_simp; done) | (go_simp; rfl))
     intro gh hg wy_c5 hbox hb
     have GS := Aside0.mk (show wy_.heap.size ≤ gh from by rw [hg]; exact HZ.out.size)
     replace BKa := Aside0.mk (blk_below BKa.out hb); replace BKb := Aside0.mk (blk_below BKb.out hb); replace HZ := Aside0.mk (below_step HZ.out hb)
     replace PA0 := Aside0.mk (pc PA0.out hb)
     replace PA1 := Aside0.mk (pc PA1.out hb)
     replace PB0 := Aside0.mk (pc PB0.out hb)
     have BS := Aside0.mk hbox; clear hg hbox hb
     refine hK.out _ _ (HH.out _ BKa.out BKb.out) (fun hHeld => ?_)
     clear hK K; refine norm_ (a' := ?_) ?_ ?_; rotate_left; show Act.put _ (some 15) _ = _; simp only [Own.ps]; rfl
     refine one_ (i := 4) (N := some 99) (Own.fl 11 287) rfl rfl (one_of HT_.out (by kernel_rfl)) (by decide) (fun K hK => ?_)
     refine goes_ Tryz.func9 (by kernel_rfl) rfl #[.agg #[.slice BA p0.length dA, .slice EA p1.length fA], .agg #[.string y0, .int .i64 y1, .int .i64 y2, .string y3, .int .i64 y4, .int .i64 y5, .int .i64 y6, .string y7, .int .i64 y8, .slice BB y9.length dB, .int .i64 y10, .string y11]] (by rfl) rfl rfl Own.ha ?_
     have LS := Aside0.mk (blk_lt BS.out)
     refine (addA_calls k _ _ p0 _ _ p1 (⟨y0, y1, y2, y3, y4, y5, ⟨y6, y7, y8, y9⟩, y10, y11⟩ : S43) _ _ _ PA0.out.2 PA0.out.1 PA1.out.2 PA1.out.1 PB0.out.2 PB0.out.1 (GG.out.below (below_step HQ.out HZ.out)) g0 g1 gf Z1.out Z2.out A6.out).mono ?_
     rintro e wy_c6 ⟨v_, u_, M_, rfl, ho0, ho1, hm0, hm1, hb⟩
     refine ⟨_, rfl, ?_⟩
     replace BKa := Aside0.mk (blk_below BKa.out hb); replace BKb := Aside0.mk (blk_below BKb.out hb); replace HZ := Aside0.mk (below_step HZ.out hb)
     replace BS := Aside0.mk (blk_below BS.out hb)
     have V0 := Aside0.mk (off_S ho0 hm1 (Or.inl LS.out))
     have V1 := Aside0.mk (off_K ho1 (Nat.le_refl _) (Or.inl (Nat.lt_of_lt_of_le LS.out hm0)))
     clear ho0 ho1 hm0 hm1 hb PA0 PA1 PB0
     refine hK.out _ _ (HH.out _ BKa.out BKb.out) (fun hHeld => ?_)
     clear hK K; refine norm_ (a' := ?_) ?_ ?_; rotate_left; show Act.put _ (some 99) _ = _; simp only [Own.ps]; rfl
     refine pure_ (i := 5) (N := some 94) (v := ?_) (a' := ?_) (Own.fl 11 319) rfl rfl (any_of HT_.out (by kernel_rfl)) (fun _ _ _ h => h) (Or.inl ⟨by rfl, ?_⟩) ?_ ?_; rotate_left; intro w'; go_simp; with_reducible rfl; rotate_left; simp only [Own.ps]; rfl
     refine pure_ (i := 6) (N := some 100) (v := ?_) (a' := ?_) (Own.fl 11 383) rfl rfl (any_of HT_.out (by kernel_rfl)) (fun _ _ _ h => h) (Or.inl ⟨by rfl, ?_⟩) ?_ ?_; rotate_left; intro w'; go_simp; with_reducible rfl; rotate_left; simp only [Own.ps]; rfl
     refine pure_ (i := 7) (N := some 101) (v := ?_) (a' := ?_) (Own.fl 11 511) rfl rfl (any_of HT_.out (by kernel_rfl)) (fun _ _ _ h => h) (Or.inl ⟨by rfl, ?_⟩) ?_ ?_; rotate_left; intro w'; go_simp; with_reducible rfl; rotate_left; simp only [Own.ps]; rfl
     exact norm_ (by simp only [putAll, Act.put, List.setIfInBounds_toArray, List.set_cons_zero, List.set_cons_succ]) (hCont (.slice BA p0.length dA, .slice EA p1.length fA, .slice BB y9.length dB, v_, u_, gh) _ ⟨V0.out, V1.out, BS.out, GS.out, HZ.out, BKa.out, BKb.out⟩)
   ·
    refine box_step ?hg (N := 15) ?hd (cs := #[.slice none 0 0, .slice none 0 0]) (t := 35) ?hr ?_; (case hd => rfl); (case hg => rfl); (case hr => first | (go_simp; done) | (go_simp; rfl))
    intro gh hg wy_c7 hbox hb
    have GS := Aside0.mk (show wy_.heap.size ≤ gh from by rw [hg]; exact HZ.out.size)
    replace BKa := Aside0.mk (blk_below BKa.out hb); replace BKb := Aside0.mk (blk_below BKb.out hb); replace HZ := Aside0.mk (below_step HZ.out hb)
    replace PA0 := Aside0.mk (pc PA0.out hb)
    replace PA1 := Aside0.mk (pc PA1.out hb)
    have BS := Aside0.mk hbox; clear hg hbox hb
    refine hK.out _ _ (HH.out _ BKa.out BKb.out) (fun hHeld => ?_)
    clear hK K; refine norm_ (a' := ?_) ?_ ?_; rotate_left; show Act.put _ (some 15) _ = _; simp only [Own.ps]; rfl
    refine one_ (i := 3) (N := some 98) (Own.fl 11 271) rfl rfl (one_of HT_.out (by kernel_rfl)) (by decide) (fun K hK => ?_)
    refine goes_ Tryz.func8 (by kernel_rfl) rfl #[.agg #[.string a1_0, .int .i64 a1_1, .int .i64 a1_2, .string a1_3, .int .i64 a1_4, .int .i64 a1_5, .int .i64 a1_6, .string a1_7, .int .i64 a1_8, .slice A1_9 l1_9.length c1_9, .int .i64 a1_10, .string a1_11]] (by rfl) rfl rfl Own.ha ?_
    with_reducible refine (laws_toClause.calls k a1_0 a1_1 a1_2 a1_3 a1_4 a1_5 a1_6 a1_7 a1_8 A1_9 c1_9 l1_9 a1_10 a1_11 y0 y1 y2 y3 y4 y5 y6 y7 y8 y9 y10 y11 _ (Kd.C_below P10.out.2 HZ.out) P10.out.1 A4.out).mono ?_
    rintro e wy_c8 ⟨v_, rfl, ho0, hb⟩
    refine ⟨_, rfl, ?_⟩
    replace BKa := Aside0.mk (blk_below BKa.out hb); replace BKb := Aside0.mk (blk_below BKb.out hb); replace HZ := Aside0.mk (below_step HZ.out hb)
    replace PA0 := Aside0.mk (pc PA0.out hb)
    replace PA1 := Aside0.mk (pc PA1.out hb)
    replace BS := Aside0.mk (blk_below BS.out hb)
    obtain ⟨BB, dB, rfl⟩ := Kd.R_slice ho0; have PB0 := Aside0.mk (Kd.R_reads' ho0).2; clear ho0 hb
    refine hK.out _ _ (HH.out _ BKa.out BKb.out) (fun hHeld => ?_)
    clear hK K; refine norm_ (a' := ?_) ?_ ?_; rotate_left; show Act.put _ (some 98) _ = _; simp only [Own.ps]; rfl
    refine one_ (i := 4) (N := some 99) (Own.fl 11 287) rfl rfl (one_of HT_.out (by kernel_rfl)) (by decide) (fun K hK => ?_)
    refine goes_ Tryz.func9 (by kernel_rfl) rfl #[.agg #[.slice BA p0.length dA, .slice EA p1.length fA], .agg #[.string y0, .int .i64 y1, .int .i64 y2, .string y3, .int .i64 y4, .int .i64 y5, .int .i64 y6, .string y7, .int .i64 y8, .slice BB y9.length dB, .int .i64 y10, .string y11]] (by rfl) rfl rfl Own.ha ?_
    have LS := Aside0.mk (blk_lt BS.out)
    refine (addA_calls k _ _ p0 _ _ p1 (⟨y0, y1, y2, y3, y4, y5, ⟨y6, y7, y8, y9⟩, y10, y11⟩ : S43) _ _ _ PA0.out.2 PA0.out.1 PA1.out.2 PA1.out.1 PB0.out.2 PB0.out.1 (GG.out.below (below_step HQ.out HZ.out)) g0 g1 gf Z1.out Z2.out A6.out).mono ?_
    rintro e wy_c9 ⟨v_, u_, M_, rfl, ho0, ho1, hm0, hm1, hb⟩
    refine ⟨_, rfl, ?_⟩
    replace BKa := Aside0.mk (blk_below BKa.out hb); replace BKb := Aside0.mk (blk_below BKb.out hb); replace HZ := Aside0.mk (below_step HZ.out hb)
    replace BS := Aside0.mk (blk_below BS.out hb)
    have V0 := Aside0.mk (off_S ho0 hm1 (Or.inl LS.out))
    have V1 := Aside0.mk (off_K ho1 (Nat.le_refl _) (Or.inl (Nat.lt_of_lt_of_le LS.out hm0)))
    clear ho0 ho1 hm0 hm1 hb PA0 PA1 PB0
    refine hK.out _ _ (HH.out _ BKa.out BKb.out) (fun hHeld => ?_)
    clear hK K; refine norm_ (a' := ?_) ?_ ?_; rotate_left; show Act.put _ (some 99) _ = _; simp only [Own.ps]; rfl
    refine pure_ (i := 5) (N := some 94) (v := ?_) (a' := ?_) (Own.fl 11 319) rfl rfl (any_of HT_.out (by kernel_rfl)) (fun _ _ _ h => h) (Or.inl ⟨by rfl, ?_⟩) ?_ ?_; rotate_left; intro w'; go_simp; with_reducible rfl; rotate_left; simp only [Own.ps]; rfl
    refine pure_ (i := 6) (N := some 100) (v := ?_) (a' := ?_) (Own.fl 11 383) rfl rfl (any_of HT_.out (by kernel_rfl)) (fun _ _ _ h => h) (Or.inl ⟨by rfl, ?_⟩) ?_ ?_; rotate_left; intro w'; go_simp; with_reducible rfl; rotate_left; simp only [Own.ps]; rfl
    refine pure_ (i := 7) (N := some 101) (v := ?_) (a' := ?_) (Own.fl 11 511) rfl rfl (any_of HT_.out (by kernel_rfl)) (fun _ _ _ h => h) (Or.inl ⟨by rfl, ?_⟩) ?_ ?_; rotate_left; intro w'; go_simp; with_reducible rfl; rotate_left; simp only [Own.ps]; rfl
    exact norm_ (by simp only [putAll, Act.put, List.setIfInBounds_toArray, List.set_cons_zero, List.set_cons_succ]) (hCont (.slice BA p0.length dA, .slice EA p1.length fA, .slice BB y9.length dB, v_, u_, gh) _ ⟨V0.out, V1.out, BS.out, GS.out, HZ.out, BKa.out, BKb.out⟩)
  ·
   refine box_step ?hg (N := 15) ?hd (cs := #[.slice none 0 0, .slice none 0 0]) (t := 35) ?hr ?_; (case hd => rfl); (case hg => rfl); (case hr => first | (go_simp; done) | (go_simp; rfl))
   intro gh hg wy_c10 hbox hb
   have GS := Aside0.mk (show wy_.heap.size ≤ gh from by rw [hg]; exact HZ.out.size)
   replace BKa := Aside0.mk (blk_below BKa.out hb); replace BKb := Aside0.mk (blk_below BKb.out hb); replace HZ := Aside0.mk (below_step HZ.out hb)
   have BS := Aside0.mk hbox; clear hg hbox hb
   refine hK.out _ _ (HH.out _ BKa.out BKb.out) (fun hHeld => ?_)
   clear hK K; refine norm_ (a' := ?_) ?_ ?_; rotate_left; show Act.put _ (some 15) _ = _; simp only [Own.ps]; rfl
   refine one_ (i := 1) (N := some 96) (Own.fl 11 263) rfl rfl (one_of HT_.out (by kernel_rfl)) (by decide) (fun K hK => ?_)
   refine goes_ Tryz.func7 (by kernel_rfl) rfl #[.agg #[.slice A0_0 l0_0.length c0_0, .slice A0_1 l0_1.length c0_1]] (by rfl) rfl rfl Own.ha ?_
   with_reducible refine (laws_toContract.calls k A0_0 c0_0 l0_0 A0_1 c0_1 l0_1 p0 p1 _ (Kd.C_below P00.out.2 HZ.out) P00.out.1 (Kd.C_below P01.out.2 HZ.out) P01.out.1 A3.out).mono ?_
   rintro e wy_c11 ⟨v_, u_, rfl, ho0, ho1, hb⟩
   refine ⟨_, rfl, ?_⟩
   replace BKa := Aside0.mk (blk_below BKa.out hb); replace BKb := Aside0.mk (blk_below BKb.out hb); replace HZ := Aside0.mk (below_step HZ.out hb)
   replace BS := Aside0.mk (blk_below BS.out hb)
   obtain ⟨BA, dA, rfl⟩ := Kd.R_slice ho0; obtain ⟨EA, fA, rfl⟩ := Kd.R_slice ho1; have PA0 := Aside0.mk (Kd.R_reads' ho0).2; have PA1 := Aside0.mk (Kd.R_reads' ho1).2; clear ho0 ho1 hb
   refine hK.out _ _ (HH.out _ BKa.out BKb.out) (fun hHeld => ?_)
   clear hK K; refine norm_ (a' := ?_) ?_ ?_; rotate_left; show Act.put _ (some 96) _ = _; simp only [Own.ps]; rfl
   refine one_ (i := 3) (N := some 98) (Own.fl 11 271) rfl rfl (one_of HT_.out (by kernel_rfl)) (by decide) (fun K hK => ?_)
   refine goes_ Tryz.func8 (by kernel_rfl) rfl #[.agg #[.string a1_0, .int .i64 a1_1, .int .i64 a1_2, .string a1_3, .int .i64 a1_4, .int .i64 a1_5, .int .i64 a1_6, .string a1_7, .int .i64 a1_8, .slice A1_9 l1_9.length c1_9, .int .i64 a1_10, .string a1_11]] (by rfl) rfl rfl Own.ha ?_
   with_reducible refine (laws_toClause.calls k a1_0 a1_1 a1_2 a1_3 a1_4 a1_5 a1_6 a1_7 a1_8 A1_9 c1_9 l1_9 a1_10 a1_11 y0 y1 y2 y3 y4 y5 y6 y7 y8 y9 y10 y11 _ (Kd.C_below P10.out.2 HZ.out) P10.out.1 A4.out).mono ?_
   rintro e wy_c12 ⟨v_, rfl, ho0, hb⟩
   refine ⟨_, rfl, ?_⟩
   replace BKa := Aside0.mk (blk_below BKa.out hb); replace BKb := Aside0.mk (blk_below BKb.out hb); replace HZ := Aside0.mk (below_step HZ.out hb)
   replace BS := Aside0.mk (blk_below BS.out hb)
   replace PA0 := Aside0.mk (pc PA0.out hb)
   replace PA1 := Aside0.mk (pc PA1.out hb)
   obtain ⟨BB, dB, rfl⟩ := Kd.R_slice ho0; have PB0 := Aside0.mk (Kd.R_reads' ho0).2; clear ho0 hb
   refine hK.out _ _ (HH.out _ BKa.out BKb.out) (fun hHeld => ?_)
   clear hK K; refine norm_ (a' := ?_) ?_ ?_; rotate_left; show Act.put _ (some 98) _ = _; simp only [Own.ps]; rfl
   refine one_ (i := 4) (N := some 99) (Own.fl 11 287) rfl rfl (one_of HT_.out (by kernel_rfl)) (by decide) (fun K hK => ?_)
   refine goes_ Tryz.func9 (by kernel_rfl) rfl #[.agg #[.slice BA p0.length dA, .slice EA p1.length fA], .agg #[.string y0, .int .i64 y1, .int .i64 y2, .string y3, .int .i64 y4, .int .i64 y5, .int .i64 y6, .string y7, .int .i64 y8, .slice BB y9.length dB, .int .i64 y10, .string y11]] (by rfl) rfl rfl Own.ha ?_
   have LS := Aside0.mk (blk_lt BS.out)
   refine (addA_calls k _ _ p0 _ _ p1 (⟨y0, y1, y2, y3, y4, y5, ⟨y6, y7, y8, y9⟩, y10, y11⟩ : S43) _ _ _ PA0.out.2 PA0.out.1 PA1.out.2 PA1.out.1 PB0.out.2 PB0.out.1 (GG.out.below (below_step HQ.out HZ.out)) g0 g1 gf Z1.out Z2.out A6.out).mono ?_
   rintro e wy_c13 ⟨v_, u_, M_, rfl, ho0, ho1, hm0, hm1, hb⟩
   refine ⟨_, rfl, ?_⟩
   replace BKa := Aside0.mk (blk_below BKa.out hb); replace BKb := Aside0.mk (blk_below BKb.out hb); replace HZ := Aside0.mk (below_step HZ.out hb)
   replace BS := Aside0.mk (blk_below BS.out hb)
   have V0 := Aside0.mk (off_S ho0 hm1 (Or.inl LS.out))
   have V1 := Aside0.mk (off_K ho1 (Nat.le_refl _) (Or.inl (Nat.lt_of_lt_of_le LS.out hm0)))
   clear ho0 ho1 hm0 hm1 hb PA0 PA1 PB0
   refine hK.out _ _ (HH.out _ BKa.out BKb.out) (fun hHeld => ?_)
   clear hK K; refine norm_ (a' := ?_) ?_ ?_; rotate_left; show Act.put _ (some 99) _ = _; simp only [Own.ps]; rfl
   refine pure_ (i := 5) (N := some 94) (v := ?_) (a' := ?_) (Own.fl 11 319) rfl rfl (any_of HT_.out (by kernel_rfl)) (fun _ _ _ h => h) (Or.inl ⟨by rfl, ?_⟩) ?_ ?_; rotate_left; intro w'; go_simp; with_reducible rfl; rotate_left; simp only [Own.ps]; rfl
   refine pure_ (i := 6) (N := some 100) (v := ?_) (a' := ?_) (Own.fl 11 383) rfl rfl (any_of HT_.out (by kernel_rfl)) (fun _ _ _ h => h) (Or.inl ⟨by rfl, ?_⟩) ?_ ?_; rotate_left; intro w'; go_simp; with_reducible rfl; rotate_left; simp only [Own.ps]; rfl
   refine pure_ (i := 7) (N := some 101) (v := ?_) (a' := ?_) (Own.fl 11 511) rfl rfl (any_of HT_.out (by kernel_rfl)) (fun _ _ _ h => h) (Or.inl ⟨by rfl, ?_⟩) ?_ ?_; rotate_left; intro w'; go_simp; with_reducible rfl; rotate_left; simp only [Own.ps]; rfl
   exact norm_ (by simp only [putAll, Act.put, List.setIfInBounds_toArray, List.set_cons_zero, List.set_cons_succ]) (hCont (.slice BA p0.length dA, .slice EA p1.length fA, .slice BB y9.length dB, v_, u_, gh) _ ⟨V0.out, V1.out, BS.out, GS.out, HZ.out, BKa.out, BKb.out⟩)
 rintro ⟨va0, va1, vb0, v0, v1, gh⟩ wy_j ⟨hv0, hv1, hbs, hgs, hz, hka, hkb⟩
 replace hv0 : Off Kd.string gh wy_j v0 g0 := hv0
 replace hv1 : Off k43 gh wy_j v1 g1 := hv1
 replace hbs : wy_j.heap[gh]? = some (.cells #[.slice none 0 0, .slice none 0 0] 35 (0, 0)) := hbs
 replace hgs : wy_.heap.size ≤ gh := hgs
 replace hz : Below wy_.heap.size wy_ wy_j := hz
 replace hka : wy_j.heap[ga]? = some (.cells #[.slice A0_0 l0_0.length c0_0, .slice A0_1 l0_1.length c0_1] 25 (0, 0)) := hka
 replace hkb : wy_j.heap[gb]? = some (.cells #[.string a1_0, .int .i64 a1_1, .int .i64 a1_2, .string a1_3, .int .i64 a1_4, .int .i64 a1_5, .int .i64 a1_6, .string a1_7, .int .i64 a1_8, .slice A1_9 l1_9.length c1_9, .int .i64 a1_10, .string a1_11] 30 (0, 0)) := hkb
 obtain ⟨Bh0, dh0, rfl, _, _⟩ := hv0.of; obtain ⟨Bh1, dh1, rfl, _, _⟩ := hv1.of
 have hna : ga ≠ gh := by have := LA.out; omega
 have hnb : gb ≠ gh := by have := LB.out; omega
 clear BKa BKb HZ
 have BKa := Aside0.mk (blk_far (blk_far hka hna (p := ⟨gh, 0, none⟩) (.slice Bh0 g0.length dh0)) hna (p := ⟨gh, 1, none⟩) (.slice Bh1 g1.length dh1))
 have BKb := Aside0.mk (blk_far (blk_far hkb hnb (p := ⟨gh, 0, none⟩) (.slice Bh0 g0.length dh0)) hnb (p := ⟨gh, 1, none⟩) (.slice Bh1 g1.length dh1))
 refine norm_ (a' := ?_) ?_ ?_
 rotate_left
 ·
  simp only [putAll, Act.put, List.setIfInBounds_toArray, List.set_cons_zero, List.set_cons_succ]
  rfl
 refine one_ (i := 9) (N := none) (Own.fl 11 1023) rfl rfl (one_of HT_.out (by kernel_rfl)) (by decide) (fun K hK => ?_)
 obtain ⟨ys0, ys1, zs0, zs1⟩ := Own.box2 hbs
 refine skip_ (w1 := ((wy_j.setCell ⟨gh, 0, none⟩ (.slice Bh0 g0.length dh0)).setCell ⟨gh, 1, none⟩ (.slice Bh1 g1.length dh1))) (by rfl) rfl ?_ ?_
 ·
  first | (go_simp; done) | (go_simp; rfl)
 refine hK.out _ _ (HH.out _ BKa.out BKb.out) (fun hHeld => ?_)
 clear hK K
 refine pure_ (i := 10) (N := some 16) (v := ?_) (a' := ?_) (Own.fl 11 2047) rfl rfl (any_of HT_.out (by kernel_rfl)) (fun _ _ _ h => h) (Or.inl ⟨by rfl, ?_⟩) ?_ ?_; rotate_left; intro w'; go_simp; with_reducible rfl; rotate_left; simp only [Own.ps]; rfl
 refine done_ (done_of HT_.out (by kernel_rfl)) ?_
 have BS := Aside0.mk (Own.put2 hbs (b0 := .slice Bh0 g0.length dh0) (b1 := .slice Bh1 g1.length dh1))
 have HZ := Aside0.mk (bs2 hz hgs (.slice Bh0 g0.length dh0) (.slice Bh1 g1.length dh1))
 have S0 := Aside0.mk (hv0.read (.slice Bh0 g0.length dh0) (.slice Bh1 g1.length dh1))
 have S1 := Aside0.mk (hv1.read (.slice Bh0 g0.length dh0) (.slice Bh1 g1.length dh1))
 clear hv0 hv1 hbs hgs hz hka hkb hHeld ys0 ys1 zs0 zs1 hna hnb LA LB HT_ HW_ HH
 replace HQ := Aside0.mk (below_step HQ.out HZ.out)
 replace BG := Aside0.mk (blk_below BG.out HZ.out)
 replace GM := Aside0.mk (Gk.below GM.out HZ.out)
 clear HZ BKa BKb P00 P01 P10
 generalize ((wy_j.setCell ⟨gh, 0, none⟩ (.slice Bh0 g0.length dh0)).setCell ⟨gh, 1, none⟩ (.slice Bh1 g1.length dh1)) = w31 at *
 obtain ⟨uh0, uh1, vh0, vh1⟩ := Own.box2 (BS.out); obtain ⟨us0, us1, vs0, vs1⟩ := Own.box2 (blk_below BS8.out HQ.out)
 go_wp2_with (first | (go_at_call 10; (with_reducible refine (laws_eqContract.calls k Bh0 dh0 g0 Bh1 dh1 g1 BS0 dS0 s0 BS1 dS1 s1 true _ S0.out.2 S0.out.1 S1.out.2 S1.out.1 (Kd.C_below SA.out.2 HQ.out) SA.out.1 (Kd.C_below SB.out.2 HQ.out) SB.out.1 A7.out).mono ?_); rintro e w32 ⟨rfl, hb⟩; clear uh0 uh1 vh0 vh1 us0 us1 vs0 vs1; clear S0 S1 BS; replace HQ := Aside0.mk (below_step HQ.out hb); replace GM := Aside0.mk (Gk.below GM.out hb); replace BG := Aside0.mk (blk_below BG.out hb); obtain ⟨ug0, ug1, vg0, vg1⟩ := Own.box2 (BG.out); clear hb; have T1 := Aside0.mk True.intro) | (go_at_call 14; clear T1; (with_reducible refine (heldKP_calls HK9.out LM.out.1 LM.out.2.1 _ GM.out.same GM.out.size).mono ?_); rintro e w35 ⟨rfl, hb⟩; clear ug0 ug1 vg0 vg1; replace HQ := Aside0.mk (below_step HQ.out hb); clear hb; have T2 := Aside0.mk True.intro))
 go_ret
 exact ⟨Own.rr, below_step HB.out HQ.out⟩
end Go.Proofs.YtghcjheaicmpbaaGreatDoor.QFnExactAddClause
