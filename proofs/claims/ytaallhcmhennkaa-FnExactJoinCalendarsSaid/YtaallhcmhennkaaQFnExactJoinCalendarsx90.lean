/- The law FnExactJoinCalendars, walked: it says true where the functions that it calls answer as its mirror asks. No condition. -/
import Derived.Test.YtaallhcmhennkaaQFnExactJoinCalendarsx1
import Derived.Test.YtaallhcmhennkaaQFnExactJoinCalendarsx5
import Derived.Test.YtaallhcmhennkaaQFnExactJoinCalendarsx7
import Derived.Test.YtaallhcmhennkaaQFnExactJoinCalendarsx7
import Derived.Test.YtaallhcmhennkaaQFnExactJoinCalendarsx7
import Derived.Test.YtaallhcmhennkaaQFnExactJoinCalendarsx4
import Derived.Test.YtaallhcmhennkaaQFnExactJoinCalendarsx6
namespace Go.Proofs.Ytaallhcmhennkaa.QFnExactJoinCalendars
open Go.RowKit Go.Proofs.YtaallhcmhennkaaW.PrintWords Go.Proofs.YtaallhcmhennkaaW.PrintLast Go.Proofs.YtaallhcmhennkaaW.PrintMore Go.Proofs.Ytaallhcmhennkaa.Own
set_option linter.unusedVariables false
set_option linter.unusedSimpArgs false
/-- What the law asks of the functions that it calls, in order. -/
def laws_FnExactJoinCalendars.f (k : Nat) (l00 l01 l10 l11 : List Int) : Option Bool :=
  (laws_szCalendar.f l00 l01 1048576).bind fun t => if t < 0 then some true else
  (laws_szCalendar.f l10 l11 t).bind fun u => if u < 0 then some true else
  (laws_toCalendar.f k l00 l01).bind fun x => (laws_toCalendar.f k l10 l11).bind fun y => (spec_JoinCalendars.f k x.1 x.2 y.1 y.2).bind fun s => (impl_JoinCalendars.f k x.1 x.2 y.1 y.2).bind fun g =>
  (laws_eqCalendar.f k g.1 g.2.1 s.1 s.2.1).bind fun e1 => (laws_eqCalendar.f k x.1 x.2 x.1 x.2).bind fun e2 => (laws_eqCalendar.f k y.1 y.2 y.1 y.2).bind fun e3 =>
  (laws_markCalendar.f k x.1 x.2 1).bind fun m1 => (laws_markCalendar.f k y.1 y.2 m1.1).bind fun m2 => (laws_markCalendar.f k g.1 g.2.1 1).bind fun m => (laws_heldCalendar.f k m.2.1 m.2.2 1).bind fun q =>
  if e1 = true ∧ g.2.2 = s.2.2 ∧ e2 = true ∧ e3 = true ∧ 0 ≤ m2.1 ∧ 0 ≤ q ∧ q = m.1 then some true else none
theorem rv {w1 : World} {b : Nat} {ok : Nat → Prop} {v : Value} {xs : List Int} (h : Kd.R (Kd.int .i64) 3 w1 b ok v xs) : Kd.V (Kd.int .i64) 3 w1 0 (fun k => b ≤ k) v xs := Kd.R_V (Kd.R_mono (Kd.R_bound h) (fun k hk => hk.2.1))
theorem vv {w1 : World} {b : Nat} {ok : Nat → Prop} {v : Value} {xs : List Int} (h : Kd.V (Kd.int .i64) 3 w1 b ok v xs) : Kd.V (Kd.int .i64) 3 w1 0 ok v xs := Kd.V_lower h (Nat.zero_le _)
theorem pc {w w1 : World} {A : Option Addr} {n c : Nat} {xs : List Int} (h : n ≤ c ∧ Kd.C (Kd.int .i64) w A n xs) (hb : Below w.heap.size w w1) : n ≤ c ∧ Kd.C (Kd.int .i64) w1 A n xs := ⟨h.1, Kd.C_below h.2 hb⟩
/-- A row of the call's own, in a stretch of the heap, apart from its sister. -/
theorem rw_ {w1 : World} {b lo : Nat} {v u : Value} {xs : List Int} (h : Kd.R (Kd.int .i64) 3 w1 b (fun k => some k ≠ u.ownBlock) v xs) (hb : lo ≤ b) : Kd.R (Kd.int .i64) 3 w1 lo (fun k => (b ≤ k ∧ k < w1.heap.size) ∧ some k ≠ u.ownBlock) v xs := Kd.R_lower (Kd.R_mono (Kd.R_bound h) (fun k hk => ⟨⟨hk.2.1, hk.2.2.1⟩, hk.1⟩)) hb
theorem ro {w1 : World} {b : Nat} {ok : Nat → Prop} {v : Value} {xs : List Int} (h : Kd.R (Kd.int .i64) 3 w1 b ok v xs) : Kd.R (Kd.int .i64) 3 w1 b (fun k => some k = v.ownBlock) v xs := Kd.R_of_own (Kd.own_of_R h) (fun k hk => hk.symm)
theorem rok {w1 : World} {b : Nat} {ok : Nat → Prop} {v : Value} {xs : List Int} (h : Kd.R (Kd.int .i64) 3 w1 b ok v xs) : ∀ k, v.ownBlock = some k → ok k := h.1
theorem apart_ {w1 : World} {b lo hi : Nat} {v u : Value} {xs : List Int} (h : Kd.R (Kd.int .i64) 3 w1 b (fun k => (lo ≤ k ∧ k < hi) ∧ some k ≠ u.ownBlock) v xs) : ∀ k, some k = v.ownBlock → ¬ some k = u.ownBlock := fun k h0 h1 => (h.1 k h0.symm).2 h1
theorem put_f {W : World} {g j : Nat} {o : Obj} (h : W.heap[j]? = some o) (hn : j ≠ g) (v0 v1 : Value) : ((W.setCell ⟨g, 0, none⟩ v0).setCell ⟨g, 1, none⟩ v1).heap[j]? = some o := (Below.heap_setCell _ ⟨g, 1, none⟩ v1 j hn).trans ((Below.heap_setCell W ⟨g, 0, none⟩ v0 j hn).trans h)
def laws_FnExactJoinCalendars.T8 : Bool × List (List Nat × List Nat) := (true, [([], []), ([0], [0]), ([], []), ([2, 1], [2]), ([1, 3, 3], [1, 3]), ([4], [4]), ([5], [5]), ([5], [5]), ([], []), ([8, 6, 4, 0, 1, 2, 3, 4, 5, 6, 8], [6, 8]), ([7, 9, 0, 1, 2, 3, 4, 5, 6, 7, 8, 9], [7])])
def laws_FnExactJoinCalendars.B8 : List Nat := [0, 1, 0, 7, 15, 31, 63, 63, 0, 383, 1023]
theorem laws_FnExactJoinCalendars.tab8 : rtab .any (opsOf Try.f4 8) = laws_FnExactJoinCalendars.T8 := by kernel_rfl
theorem laws_FnExactJoinCalendars.bits8 : waitsOk laws_FnExactJoinCalendars.T8.2 laws_FnExactJoinCalendars.B8 = true := by kernel_rfl
def laws_FnExactJoinCalendars.T31 : Bool × List (List Nat × List Nat) := (true, [([], []), ([0], [0]), ([], []), ([2, 1], [2]), ([1, 3, 3], [1, 3]), ([4], [4]), ([5], [5]), ([5], [5]), ([], []), ([8, 6, 4, 0, 1, 2, 3, 4, 5, 6, 8], [6, 8]), ([7, 9, 0, 1, 2, 3, 4, 5, 6, 7, 8, 9], [7])])
def laws_FnExactJoinCalendars.B31 : List Nat := [0, 1, 0, 7, 15, 31, 63, 63, 0, 383, 1023]
theorem laws_FnExactJoinCalendars.tab31 : rtab .any (opsOf Try.f4 31) = laws_FnExactJoinCalendars.T31 := by kernel_rfl
theorem laws_FnExactJoinCalendars.bits31 : waitsOk laws_FnExactJoinCalendars.T31.2 laws_FnExactJoinCalendars.B31 = true := by kernel_rfl
set_option maxHeartbeats 16000000 in
set_option maxRecDepth 100000 in
theorem laws_FnExactJoinCalendars.calls (k : Nat) (A0_0 : Option Addr) (c0_0 : Nat) (l0_0 : List Int) (A0_1 : Option Addr) (c0_1 : Nat) (l0_1 : List Int) (A1_0 : Option Addr) (c1_0 : Nat) (l1_0 : List Int) (A1_1 : Option Addr) (c1_1 : Nat) (l1_1 : List Int) (r : Bool) (w : World) (hr0_0 : Kd.C (Kd.int .i64) w A0_0 l0_0.length l0_0) (hc0_0 : l0_0.length ≤ c0_0) (hr0_1 : Kd.C (Kd.int .i64) w A0_1 l0_1.length l0_1) (hc0_1 : l0_1.length ≤ c0_1) (hr1_0 : Kd.C (Kd.int .i64) w A1_0 l1_0.length l1_0) (hc1_0 : l1_0.length ≤ c1_0) (hr1_1 : Kd.C (Kd.int .i64) w A1_1 l1_1.length l1_1) (hc1_1 : l1_1.length ≤ c1_1) (h : laws_FnExactJoinCalendars.f k l0_0 l0_1 l1_0 l1_1 = some r) (hr_ : Aside0 (r = true)) :
    Calls Try.prog 4 #[.agg #[.slice A0_0 l0_0.length c0_0, .slice A0_1 l0_1.length c0_1], .agg #[.slice A1_0 l1_0.length c1_0, .slice A1_1 l1_1.length c1_1]] w fun e w' => e = .returned (.bool r) ∧ Below w.heap.size w w' := by
  obtain rfl := hr_.out
  clear hr_
  have P00 := Aside0.mk (And.intro hc0_0 hr0_0)
  have P01 := Aside0.mk (And.intro hc0_1 hr0_1)
  have P10 := Aside0.mk (And.intro hc1_0 hr1_0)
  have P11 := Aside0.mk (And.intro hc1_1 hr1_1)
  have HB := Aside0.mk (Below.refl w.heap.size w)
  clear hr0_0 hc0_0 hr0_1 hc0_1 hr1_0 hc1_0 hr1_1 hc1_1
  unfold laws_FnExactJoinCalendars.f at h
  have hu1 := Try.underlying33
  have hu2 := Try.underlying26
  replace h := Own.bd h
  obtain ⟨t, A1, h⟩ := h
  by_cases ct : t < 0
  · have ct' := decide_eq_true ct
    clear ct h
    go_enter Try.func4, Try.ntmps4
    go_wp2_with (first | ((with_reducible refine gate_dst (N := 2) rfl ?_); refine Own.be (N := 2) (cs := #[.slice A0_0 l0_0.length c0_0, .slice A0_1 l0_1.length c0_1]) (t := 33) ?_; intro ga hg wa hbox hb; have BKa := Aside0.mk hbox; replace HB := Aside0.mk (below_step HB.out hb); clear hb hg hbox; have T1 := Aside0.mk True.intro) | ((with_reducible refine gate_dst (N := 3) rfl ?_); clear T1; refine Own.be (N := 3) (cs := #[.slice A1_0 l1_0.length c1_0, .slice A1_1 l1_1.length c1_1]) (t := 33) ?_; intro gb hg wb hbox hb; have BKb := Aside0.mk hbox; replace HB := Aside0.mk (below_step HB.out hb); replace BKa := Aside0.mk (blk_below BKa.out hb); obtain ⟨ya0, ya1, za0, za1⟩ := Own.box2 BKa.out; clear hb hg hbox; have T2 := Aside0.mk True.intro) | (go_at_call 11; clear T2; (with_reducible refine (laws_szCalendar.calls _ _ l0_0 _ _ l0_1 1048576 t _ (Kd.C_below P00.out.2 HB.out) P00.out.1 (Kd.C_below P01.out.2 HB.out) P01.out.1 A1.out).mono ?_); rintro e w1 ⟨rfl, hb⟩; clear ya0 ya1 za0 za1; replace HB := Aside0.mk (below_step HB.out hb); replace BKa := Aside0.mk (blk_below BKa.out hb); replace BKb := Aside0.mk (blk_below BKb.out hb); obtain ⟨yb0, yb1, zb0, zb1⟩ := Own.box2 BKb.out; clear hb; have T3 := Aside0.mk True.intro))
    go_ret
    exact ⟨Own.rr, HB.out⟩
  rw [if_neg ct] at h
  have ct' := decide_eq_false ct
  clear ct
  replace h := Own.bd h
  obtain ⟨u, A2, h⟩ := h
  by_cases cu : u < 0
  · have cu' := decide_eq_true cu
    clear cu h
    go_enter Try.func4, Try.ntmps4
    go_wp2_with (first | ((with_reducible refine gate_dst (N := 2) rfl ?_); refine Own.be (N := 2) (cs := #[.slice A0_0 l0_0.length c0_0, .slice A0_1 l0_1.length c0_1]) (t := 33) ?_; intro ga hg wa hbox hb; have BKa := Aside0.mk hbox; replace HB := Aside0.mk (below_step HB.out hb); clear hb hg hbox; have T1 := Aside0.mk True.intro) | ((with_reducible refine gate_dst (N := 3) rfl ?_); clear T1; refine Own.be (N := 3) (cs := #[.slice A1_0 l1_0.length c1_0, .slice A1_1 l1_1.length c1_1]) (t := 33) ?_; intro gb hg wb hbox hb; have BKb := Aside0.mk hbox; replace HB := Aside0.mk (below_step HB.out hb); replace BKa := Aside0.mk (blk_below BKa.out hb); obtain ⟨ya0, ya1, za0, za1⟩ := Own.box2 BKa.out; clear hb hg hbox; have T2 := Aside0.mk True.intro) | (go_at_call 11; clear T2; (with_reducible refine (laws_szCalendar.calls _ _ l0_0 _ _ l0_1 1048576 t _ (Kd.C_below P00.out.2 HB.out) P00.out.1 (Kd.C_below P01.out.2 HB.out) P01.out.1 A1.out).mono ?_); rintro e w1 ⟨rfl, hb⟩; clear ya0 ya1 za0 za1; replace HB := Aside0.mk (below_step HB.out hb); replace BKa := Aside0.mk (blk_below BKa.out hb); replace BKb := Aside0.mk (blk_below BKb.out hb); obtain ⟨yb0, yb1, zb0, zb1⟩ := Own.box2 BKb.out; clear hb; have T3 := Aside0.mk True.intro) | (go_at_call 11; clear T3; (with_reducible refine (laws_szCalendar.calls _ _ l1_0 _ _ l1_1 t u _ (Kd.C_below P10.out.2 HB.out) P10.out.1 (Kd.C_below P11.out.2 HB.out) P11.out.1 A2.out).mono ?_); rintro e w2 ⟨rfl, hb⟩; clear yb0 yb1 zb0 zb1; replace HB := Aside0.mk (below_step HB.out hb); replace BKa := Aside0.mk (blk_below BKa.out hb); replace BKb := Aside0.mk (blk_below BKb.out hb); clear hb; have T4 := Aside0.mk True.intro))
    go_ret
    exact ⟨Own.rr, HB.out⟩
  rw [if_neg cu] at h
  have cu' := decide_eq_false cu
  clear cu
  replace h := Own.bd h
  obtain ⟨⟨x0, x1⟩, A3, h⟩ := h
  replace h := Own.bd h
  obtain ⟨⟨y0, y1⟩, A4, h⟩ := h
  replace h := Own.bd h
  obtain ⟨⟨s0, s1, s2⟩, A5, h⟩ := h
  replace h := Own.bd h
  obtain ⟨⟨g0, g1, g2⟩, A6, h⟩ := h
  replace h := Own.bd h
  obtain ⟨e1, A7, h⟩ := h
  replace h := Own.bd h
  obtain ⟨e2, A8, h⟩ := h
  replace h := Own.bd h
  obtain ⟨e3, A9, h⟩ := h
  replace h := Own.bd h
  obtain ⟨⟨m1, m2, m3⟩, A10, h⟩ := h
  replace h := Own.bd h
  obtain ⟨⟨n1, n2, n3⟩, A11, h⟩ := h
  replace h := Own.bd h
  obtain ⟨⟨p1, p2, p3⟩, A12, h⟩ := h
  replace h := Own.bd h
  obtain ⟨q, A13, h⟩ := h
  replace h := Own.ifn h
  obtain ⟨⟨rfl, hg2, rfl, rfl, hm, hq, rfl⟩, h⟩ := h
  simp only at A5 A6 A7 A8 A9 A10 A11 A12 A13 hg2 hm
  subst hg2
  have cq : decide (q < 0) = false := decide_eq_false (by omega)
  have cm : decide (n1 < 0) = false := decide_eq_false (by omega)
  clear h hm hq
  go_enter Try.func4, Try.ntmps4
  go_upto_region 8 with (first | ((with_reducible refine gate_dst (N := 2) rfl ?_); refine Own.be (N := 2) (cs := #[.slice A0_0 l0_0.length c0_0, .slice A0_1 l0_1.length c0_1]) (t := 33) ?_; intro ga hg wa hbox hb; have BKa := Aside0.mk hbox; replace HB := Aside0.mk (below_step HB.out hb); clear hb hg hbox; have T1 := Aside0.mk True.intro) | ((with_reducible refine gate_dst (N := 3) rfl ?_); clear T1; refine Own.be (N := 3) (cs := #[.slice A1_0 l1_0.length c1_0, .slice A1_1 l1_1.length c1_1]) (t := 33) ?_; intro gb hg wb hbox hb; have BKb := Aside0.mk hbox; replace HB := Aside0.mk (below_step HB.out hb); replace BKa := Aside0.mk (blk_below BKa.out hb); obtain ⟨ya0, ya1, za0, za1⟩ := Own.box2 BKa.out; clear hb hg hbox; have T2 := Aside0.mk True.intro) | (go_at_call 11; clear T2; (with_reducible refine (laws_szCalendar.calls _ _ l0_0 _ _ l0_1 1048576 t _ (Kd.C_below P00.out.2 HB.out) P00.out.1 (Kd.C_below P01.out.2 HB.out) P01.out.1 A1.out).mono ?_); rintro e w1 ⟨rfl, hb⟩; clear ya0 ya1 za0 za1; replace HB := Aside0.mk (below_step HB.out hb); replace BKa := Aside0.mk (blk_below BKa.out hb); replace BKb := Aside0.mk (blk_below BKb.out hb); obtain ⟨yb0, yb1, zb0, zb1⟩ := Own.box2 BKb.out; clear hb; have T3 := Aside0.mk True.intro) | (go_at_call 11; clear T3; (with_reducible refine (laws_szCalendar.calls _ _ l1_0 _ _ l1_1 t u _ (Kd.C_below P10.out.2 HB.out) P10.out.1 (Kd.C_below P11.out.2 HB.out) P11.out.1 A2.out).mono ?_); rintro e w2 ⟨rfl, hb⟩; clear yb0 yb1 zb0 zb1; replace HB := Aside0.mk (below_step HB.out hb); replace BKa := Aside0.mk (blk_below BKa.out hb); replace BKb := Aside0.mk (blk_below BKb.out hb); clear hb; have T4 := Aside0.mk True.intro))
  (try simp only [Own.ps])
  replace P00 := Aside0.mk (pc P00.out HB.out)
  replace P01 := Aside0.mk (pc P01.out HB.out)
  replace P10 := Aside0.mk (pc P10.out HB.out)
  replace P11 := Aside0.mk (pc P11.out HB.out)
  replace BKa := Aside0.mk (blk_drew BKa.out)
  replace BKb := Aside0.mk (blk_drew BKb.out)
  replace HB := Aside0.mk (below_drew1 HB.out)
  replace P00 := Aside0.mk (pc P00.out (below_drew1 (Below.refl _ _)))
  replace P01 := Aside0.mk (pc P01.out (below_drew1 (Below.refl _ _)))
  replace P10 := Aside0.mk (pc P10.out (below_drew1 (Below.refl _ _)))
  replace P11 := Aside0.mk (pc P11.out (below_drew1 (Below.refl _ _)))
  refine start_ (n := 11) (S := fun w' => w'.cell? ⟨ga, 0, none⟩ = some (.slice A0_0 l0_0.length c0_0) ∧ w'.cell? ⟨ga, 1, none⟩ = some (.slice A0_1 l0_1.length c0_1) ∧ w'.cell? ⟨gb, 0, none⟩ = some (.slice A1_0 l1_0.length c1_0) ∧ w'.cell? ⟨gb, 1, none⟩ = some (.slice A1_1 l1_1.length c1_1)) (ds := []) #[false, false, false, false, false, false, false, false, false, false, false] (by kernel_rfl) rfl rfl ⟨blk_cell BKa.out 0, blk_cell BKa.out 1, blk_cell BKb.out 0, blk_cell BKb.out 1⟩ (fun hHeld => ?_); refine with_tabW laws_FnExactJoinCalendars.tab8 laws_FnExactJoinCalendars.bits8 (fun HT_ HW_ => ?_)
  generalize w2.drew = wz at BKa BKb HB P00 P01 P10 P11 hHeld ⊢
  have HZ := Aside0.mk (Below.refl wz.heap.size wz)
  have LA := Aside0.mk (blk_lt BKa.out)
  have LB := Aside0.mk (blk_lt BKb.out)
  refine take_ (i := 0) (N := some 28) (v := ?_) (a' := ?_) #[true, false, false, false, false, false, false, false, false, false, false] rfl rfl (take_ofW HT_.out HW_.out (by kernel_rfl)) (fun _ _ _ h => h) (Or.inl ⟨by rfl, ?_⟩) hHeld ?_ ?_
  rotate_left
  ·
   rintro w' ⟨q0, q1, q2, q3⟩
   go_simp
   with_reducible rfl
  rotate_left
  ·
   simp only [Own.ps]
   rfl
  refine take_ (i := 2) (N := some 30) (v := ?_) (a' := ?_) #[true, false, true, false, false, false, false, false, false, false, false] rfl rfl (take_ofW HT_.out HW_.out (by kernel_rfl)) (fun _ _ _ h => h) (Or.inl ⟨by rfl, ?_⟩) hHeld ?_ ?_
  rotate_left
  ·
   rintro w' ⟨q0, q1, q2, q3⟩
   go_simp
   with_reducible rfl
  rotate_left
  ·
   simp only [Own.ps]
   rfl
  refine join_ (σ := Value × Value × Value × Value × Value × Value × Nat) 2 #[true, true, true, true, true, true, true, true, true, false, false] (fun s_ => [(29, .agg #[s_.1, s_.2.1]), (31, .agg #[s_.2.2.1, s_.2.2.2.1]), (32, .tuple #[.agg #[s_.2.2.2.2.1, s_.2.2.2.2.2.1], .bool g2]), (6, .pointer (some ⟨s_.2.2.2.2.2.2, 0, none⟩)), (27, .tuple #[.agg #[s_.2.2.2.2.1, s_.2.2.2.2.2.1], .bool g2]), (33, .agg #[s_.2.2.2.2.1, s_.2.2.2.2.2.1]), (34, .bool g2)]) (fun s_ w' => (w'.cell? ⟨ga, 0, none⟩ = some (.slice A0_0 l0_0.length c0_0) ∧ w'.cell? ⟨ga, 1, none⟩ = some (.slice A0_1 l0_1.length c0_1) ∧ w'.cell? ⟨gb, 0, none⟩ = some (.slice A1_0 l1_0.length c1_0) ∧ w'.cell? ⟨gb, 1, none⟩ = some (.slice A1_1 l1_1.length c1_1)) ∧ Kd.V (Kd.int .i64) 3 w' 0 (fun k_ => k_ ≠ s_.2.2.2.2.2.2) s_.2.2.2.2.1 s0 ∧ Kd.V (Kd.int .i64) 3 w' 0 (fun k_ => k_ ≠ s_.2.2.2.2.2.2) s_.2.2.2.2.2.1 s1 ∧ w'.heap[s_.2.2.2.2.2.2]? = some (.cells #[.slice none 0 0, .slice none 0 0] 26 (0, 0)) ∧ wz.heap.size ≤ s_.2.2.2.2.2.2 ∧ Below wz.heap.size wz w' ∧ w'.heap[ga]? = some (.cells #[.slice A0_0 l0_0.length c0_0, .slice A0_1 l0_1.length c0_1] 33 (0, 0)) ∧ w'.heap[gb]? = some (.cells #[.slice A1_0 l1_0.length c1_0, .slice A1_1 l1_1.length c1_1] 33 (0, 0))) ?_ ?_
  rotate_left
  ·
   intro hCont
   refine two_ (i := 1) (j := 8) (Ni := some 29) (Nj := some 6) #[true, true, true, false, false, false, false, false, false, false, false] #[true, false, true, false, false, false, false, false, true, false, false] rfl rfl rfl rfl (two_of HT_.out (by kernel_rfl)) (by decide) (by decide) (fun K hK => ?_) (fun K hK => ?_)
   ·
    refine goes_ Try.func13 (by kernel_rfl) rfl #[.agg #[.slice A0_0 l0_0.length c0_0, .slice A0_1 l0_1.length c0_1]] (by rfl) rfl rfl Own.ha ?_
    with_reducible refine (laws_toCalendar.calls k _ _ l0_0 _ _ l0_1 x0 x1 _ (Kd.C_below P00.out.2 HZ.out) P00.out.1 (Kd.C_below P01.out.2 HZ.out) P01.out.1 A3.out).mono ?_
    rintro e wzc1 ⟨v_, u_, rfl, ho0, ho1, hb⟩
    refine ⟨_, rfl, ?_⟩
    replace BKa := Aside0.mk (blk_below BKa.out hb); replace BKb := Aside0.mk (blk_below BKb.out hb); replace HZ := Aside0.mk (below_step HZ.out hb)
    obtain ⟨BA, dA, rfl⟩ := Kd.R_slice ho0; obtain ⟨EA, fA, rfl⟩ := Kd.R_slice ho1; have PA0 := Aside0.mk (Kd.R_reads' ho0).2; have PA1 := Aside0.mk (Kd.R_reads' ho1).2; clear ho0 ho1 hb
    refine hK.out _ _ ⟨blk_cell BKa.out 0, blk_cell BKa.out 1, blk_cell BKb.out 0, blk_cell BKb.out 1⟩ (fun hHeld => ?_)
    clear hK K
    refine norm_ (a' := ?_) ?_ ?_
    rotate_left
    ·
     show Act.put _ (some 29) _ = _
     simp only [Own.ps]
     rfl
    refine two_ (i := 3) (j := 8) (Ni := some 31) (Nj := some 6) #[true, true, true, true, false, false, false, false, false, false, false] #[true, true, true, false, false, false, false, false, true, false, false] rfl rfl rfl rfl (two_of HT_.out (by kernel_rfl)) (by decide) (by decide) (fun K hK => ?_) (fun K hK => ?_)
    ·
     refine goes_ Try.func13 (by kernel_rfl) rfl #[.agg #[.slice A1_0 l1_0.length c1_0, .slice A1_1 l1_1.length c1_1]] (by rfl) rfl rfl Own.ha ?_
     with_reducible refine (laws_toCalendar.calls k _ _ l1_0 _ _ l1_1 y0 y1 _ (Kd.C_below P10.out.2 HZ.out) P10.out.1 (Kd.C_below P11.out.2 HZ.out) P11.out.1 A4.out).mono ?_
     rintro e wzc2 ⟨v_, u_, rfl, ho0, ho1, hb⟩
     refine ⟨_, rfl, ?_⟩
     replace BKa := Aside0.mk (blk_below BKa.out hb); replace BKb := Aside0.mk (blk_below BKb.out hb); replace HZ := Aside0.mk (below_step HZ.out hb)
     replace PA0 := Aside0.mk (pc PA0.out hb)
     replace PA1 := Aside0.mk (pc PA1.out hb)
     obtain ⟨BB, dB, rfl⟩ := Kd.R_slice ho0; obtain ⟨EB, fB, rfl⟩ := Kd.R_slice ho1; have PB0 := Aside0.mk (Kd.R_reads' ho0).2; have PB1 := Aside0.mk (Kd.R_reads' ho1).2; clear ho0 ho1 hb
     refine hK.out _ _ ⟨blk_cell BKa.out 0, blk_cell BKa.out 1, blk_cell BKb.out 0, blk_cell BKb.out 1⟩ (fun hHeld => ?_)
     clear hK K
     refine norm_ (a' := ?_) ?_ ?_
     rotate_left
     ·
      show Act.put _ (some 31) _ = _
      simp only [Own.ps]
      rfl
     refine two_ (i := 4) (j := 8) (Ni := some 32) (Nj := some 6) #[true, true, true, true, true, false, false, false, false, false, false] #[true, true, true, true, false, false, false, false, true, false, false] rfl rfl rfl rfl (two_of HT_.out (by kernel_rfl)) (by decide) (by decide) (fun K hK => ?_) (fun K hK => ?_)
     ·
      refine goes_ Try.func12 (by kernel_rfl) rfl #[.agg #[.slice BA x0.length dA, .slice EA x1.length fA], .agg #[.slice BB y0.length dB, .slice EB y1.length fB]] (by rfl) rfl rfl Own.ha ?_
      with_reducible refine (spec_JoinCalendars.calls k _ _ x0 _ _ x1 _ _ y0 _ _ y1 s0 s1 g2 _ PA0.out.2 PA0.out.1 PA1.out.2 PA1.out.1 PB0.out.2 PB0.out.1 PB1.out.2 PB1.out.1 A5.out).mono ?_
      rintro e wzc3 ⟨v_, u_, rfl, ho0, ho1, hb⟩
      refine ⟨_, rfl, ?_⟩
      have V0 := Aside0.mk (vv ho0)
      have V1 := Aside0.mk (vv ho1)
      replace BKa := Aside0.mk (blk_below BKa.out hb); replace BKb := Aside0.mk (blk_below BKb.out hb); replace HZ := Aside0.mk (below_step HZ.out hb)
      clear ho0 ho1 hb PA0 PA1 PB0 PB1
      refine hK.out _ _ ⟨blk_cell BKa.out 0, blk_cell BKa.out 1, blk_cell BKb.out 0, blk_cell BKb.out 1⟩ (fun hHeld => ?_)
      clear hK K
      refine norm_ (a' := ?_) ?_ ?_
      rotate_left
      ·
       show Act.put _ (some 32) _ = _
       simp only [Own.ps]
       rfl
      refine pure_ (i := 5) (N := some 27) (v := ?_) (a' := ?_) #[true, true, true, true, true, true, false, false, false, false, false] rfl rfl (any_of HT_.out (by kernel_rfl)) (fun _ _ _ h => h) (Or.inl ⟨by rfl, ?_⟩) ?_ ?_
      rotate_left
      ·
       intro w'
       go_simp
       with_reducible rfl
      rotate_left
      ·
       simp only [Own.ps]
       rfl
      refine pure_ (i := 6) (N := some 33) (v := ?_) (a' := ?_) #[true, true, true, true, true, true, true, false, false, false, false] rfl rfl (any_of HT_.out (by kernel_rfl)) (fun _ _ _ h => h) (Or.inl ⟨by rfl, ?_⟩) ?_ ?_
      rotate_left
      ·
       intro w'
       go_simp
       with_reducible rfl
      rotate_left
      ·
       simp only [Own.ps]
       rfl
      refine pure_ (i := 7) (N := some 34) (v := ?_) (a' := ?_) #[true, true, true, true, true, true, true, true, false, false, false] rfl rfl (any_of HT_.out (by kernel_rfl)) (fun _ _ _ h => h) (Or.inl ⟨by rfl, ?_⟩) ?_ ?_
      rotate_left
      ·
       intro w'
       go_simp
       with_reducible rfl
      rotate_left
      ·
       simp only [Own.ps]
       rfl
      refine one_ (i := 8) (N := some 6) #[true, true, true, true, true, true, true, true, true, false, false] rfl rfl (one_of HT_.out (by kernel_rfl)) (by decide) (fun K hK => ?_)
      refine box_step ?hg (N := 6) ?hd (cs := #[.slice none 0 0, .slice none 0 0]) (t := 26) ?hr ?_; (case hd => rfl); (case hg => rfl); (case hr => first | (go_simp; done) | (go_simp; rfl))
      intro gs hg wzc4 hbox hb
      have GS := Aside0.mk (show wz.heap.size ≤ gs from by rw [hg]; exact HZ.out.size)
      replace V0 := Aside0.mk (Kd.V_below (Kd.V_mono (Kd.V_elderB V0.out gs (Nat.le_of_eq hg.symm)) (ok' := fun k_ => k_ ≠ gs) (fun _ h_ => h_.2)) hb)
      replace V1 := Aside0.mk (Kd.V_below (Kd.V_mono (Kd.V_elderB V1.out gs (Nat.le_of_eq hg.symm)) (ok' := fun k_ => k_ ≠ gs) (fun _ h_ => h_.2)) hb)
      replace BKa := Aside0.mk (blk_below BKa.out hb); replace BKb := Aside0.mk (blk_below BKb.out hb); replace HZ := Aside0.mk (below_step HZ.out hb)
      have BS := Aside0.mk hbox
      clear hg hbox hb
      refine hK.out _ _ ⟨blk_cell BKa.out 0, blk_cell BKa.out 1, blk_cell BKb.out 0, blk_cell BKb.out 1⟩ (fun hHeld => ?_)
      clear hK K
      refine norm_ (a' := ?_) ?_ ?_
      rotate_left
      ·
       show Act.put _ (some 6) _ = _
       simp only [Own.ps]
       rfl
      exact norm_ (by simp only [putAll, Act.put, List.setIfInBounds_toArray, List.set_cons_zero, List.set_cons_succ]) (hCont (.slice BA x0.length dA, .slice EA x1.length fA, .slice BB y0.length dB, .slice EB y1.length fB, v_, u_, gs) _ ⟨hHeld, V0.out, V1.out, BS.out, GS.out, HZ.out, BKa.out, BKb.out⟩)
     ·
      refine box_step ?hg (N := 6) ?hd (cs := #[.slice none 0 0, .slice none 0 0]) (t := 26) ?hr ?_; (case hd => rfl); (case hg => rfl); (case hr => first | (go_simp; done) | (go_simp; rfl))
      intro gs hg wzc5 hbox hb
      have GS := Aside0.mk (show wz.heap.size ≤ gs from by rw [hg]; exact HZ.out.size)
      replace BKa := Aside0.mk (blk_below BKa.out hb); replace BKb := Aside0.mk (blk_below BKb.out hb); replace HZ := Aside0.mk (below_step HZ.out hb)
      replace PA0 := Aside0.mk (pc PA0.out hb)
      replace PA1 := Aside0.mk (pc PA1.out hb)
      replace PB0 := Aside0.mk (pc PB0.out hb)
      replace PB1 := Aside0.mk (pc PB1.out hb)
      have BS := Aside0.mk hbox
      clear hg hbox hb
      refine hK.out _ _ ⟨blk_cell BKa.out 0, blk_cell BKa.out 1, blk_cell BKb.out 0, blk_cell BKb.out 1⟩ (fun hHeld => ?_)
      clear hK K
      refine norm_ (a' := ?_) ?_ ?_
      rotate_left
      ·
       show Act.put _ (some 6) _ = _
       simp only [Own.ps]
       rfl
      refine one_ (i := 4) (N := some 32) #[true, true, true, true, true, false, false, false, true, false, false] rfl rfl (one_of HT_.out (by kernel_rfl)) (by decide) (fun K hK => ?_)
      refine goes_ Try.func12 (by kernel_rfl) rfl #[.agg #[.slice BA x0.length dA, .slice EA x1.length fA], .agg #[.slice BB y0.length dB, .slice EB y1.length fB]] (by rfl) rfl rfl Own.ha ?_
      with_reducible refine (spec_JoinCalendars.calls k _ _ x0 _ _ x1 _ _ y0 _ _ y1 s0 s1 g2 _ PA0.out.2 PA0.out.1 PA1.out.2 PA1.out.1 PB0.out.2 PB0.out.1 PB1.out.2 PB1.out.1 A5.out).mono ?_
      rintro e wzc6 ⟨v_, u_, rfl, ho0, ho1, hb⟩
      refine ⟨_, rfl, ?_⟩
      have V0 := Aside0.mk (Kd.V_mono (vv ho0) (ok' := fun k_ => k_ ≠ gs) (fun k_ h_ => by have h1_ := blk_lt BS.out; omega))
      have V1 := Aside0.mk (Kd.V_mono (vv ho1) (ok' := fun k_ => k_ ≠ gs) (fun k_ h_ => by have h1_ := blk_lt BS.out; omega))
      replace BKa := Aside0.mk (blk_below BKa.out hb); replace BKb := Aside0.mk (blk_below BKb.out hb); replace HZ := Aside0.mk (below_step HZ.out hb)
      replace BS := Aside0.mk (blk_below BS.out hb)
      clear ho0 ho1 hb PA0 PA1 PB0 PB1
      refine hK.out _ _ ⟨blk_cell BKa.out 0, blk_cell BKa.out 1, blk_cell BKb.out 0, blk_cell BKb.out 1⟩ (fun hHeld => ?_)
      clear hK K
      refine norm_ (a' := ?_) ?_ ?_
      rotate_left
      ·
       show Act.put _ (some 32) _ = _
       simp only [Own.ps]
       rfl
      refine pure_ (i := 5) (N := some 27) (v := ?_) (a' := ?_) #[true, true, true, true, true, true, false, false, true, false, false] rfl rfl (any_of HT_.out (by kernel_rfl)) (fun _ _ _ h => h) (Or.inl ⟨by rfl, ?_⟩) ?_ ?_
      rotate_left
      ·
       intro w'
       go_simp
       with_reducible rfl
      rotate_left
      ·
       simp only [Own.ps]
       rfl
      refine pure_ (i := 6) (N := some 33) (v := ?_) (a' := ?_) #[true, true, true, true, true, true, true, false, true, false, false] rfl rfl (any_of HT_.out (by kernel_rfl)) (fun _ _ _ h => h) (Or.inl ⟨by rfl, ?_⟩) ?_ ?_
      rotate_left
      ·
       intro w'
       go_simp
       with_reducible rfl
      rotate_left
      ·
       simp only [Own.ps]
       rfl
      refine pure_ (i := 7) (N := some 34) (v := ?_) (a' := ?_) #[true, true, true, true, true, true, true, true, true, false, false] rfl rfl (any_of HT_.out (by kernel_rfl)) (fun _ _ _ h => h) (Or.inl ⟨by rfl, ?_⟩) ?_ ?_
      rotate_left
      ·
       intro w'
       go_simp
       with_reducible rfl
      rotate_left
      ·
       simp only [Own.ps]
       rfl
      exact norm_ (by simp only [putAll, Act.put, List.setIfInBounds_toArray, List.set_cons_zero, List.set_cons_succ]) (hCont (.slice BA x0.length dA, .slice EA x1.length fA, .slice BB y0.length dB, .slice EB y1.length fB, v_, u_, gs) _ ⟨hHeld, V0.out, V1.out, BS.out, GS.out, HZ.out, BKa.out, BKb.out⟩)
    ·
     refine box_step ?hg (N := 6) ?hd (cs := #[.slice none 0 0, .slice none 0 0]) (t := 26) ?hr ?_; (case hd => rfl); (case hg => rfl); (case hr => first | (go_simp; done) | (go_simp; rfl))
     intro gs hg wzc7 hbox hb
     have GS := Aside0.mk (show wz.heap.size ≤ gs from by rw [hg]; exact HZ.out.size)
     replace BKa := Aside0.mk (blk_below BKa.out hb); replace BKb := Aside0.mk (blk_below BKb.out hb); replace HZ := Aside0.mk (below_step HZ.out hb)
     replace PA0 := Aside0.mk (pc PA0.out hb)
     replace PA1 := Aside0.mk (pc PA1.out hb)
     have BS := Aside0.mk hbox
     clear hg hbox hb
     refine hK.out _ _ ⟨blk_cell BKa.out 0, blk_cell BKa.out 1, blk_cell BKb.out 0, blk_cell BKb.out 1⟩ (fun hHeld => ?_)
     clear hK K
     refine norm_ (a' := ?_) ?_ ?_
     rotate_left
     ·
      show Act.put _ (some 6) _ = _
      simp only [Own.ps]
      rfl
     refine one_ (i := 3) (N := some 31) #[true, true, true, true, false, false, false, false, true, false, false] rfl rfl (one_of HT_.out (by kernel_rfl)) (by decide) (fun K hK => ?_)
     refine goes_ Try.func13 (by kernel_rfl) rfl #[.agg #[.slice A1_0 l1_0.length c1_0, .slice A1_1 l1_1.length c1_1]] (by rfl) rfl rfl Own.ha ?_
     with_reducible refine (laws_toCalendar.calls k _ _ l1_0 _ _ l1_1 y0 y1 _ (Kd.C_below P10.out.2 HZ.out) P10.out.1 (Kd.C_below P11.out.2 HZ.out) P11.out.1 A4.out).mono ?_
     rintro e wzc8 ⟨v_, u_, rfl, ho0, ho1, hb⟩
     refine ⟨_, rfl, ?_⟩
     replace BKa := Aside0.mk (blk_below BKa.out hb); replace BKb := Aside0.mk (blk_below BKb.out hb); replace HZ := Aside0.mk (below_step HZ.out hb)
     replace PA0 := Aside0.mk (pc PA0.out hb)
     replace PA1 := Aside0.mk (pc PA1.out hb)
     replace BS := Aside0.mk (blk_below BS.out hb)
     obtain ⟨BB, dB, rfl⟩ := Kd.R_slice ho0; obtain ⟨EB, fB, rfl⟩ := Kd.R_slice ho1; have PB0 := Aside0.mk (Kd.R_reads' ho0).2; have PB1 := Aside0.mk (Kd.R_reads' ho1).2; clear ho0 ho1 hb
     refine hK.out _ _ ⟨blk_cell BKa.out 0, blk_cell BKa.out 1, blk_cell BKb.out 0, blk_cell BKb.out 1⟩ (fun hHeld => ?_)
     clear hK K
     refine norm_ (a' := ?_) ?_ ?_
     rotate_left
     ·
      show Act.put _ (some 31) _ = _
      simp only [Own.ps]
      rfl
     refine one_ (i := 4) (N := some 32) #[true, true, true, true, true, false, false, false, true, false, false] rfl rfl (one_of HT_.out (by kernel_rfl)) (by decide) (fun K hK => ?_)
     refine goes_ Try.func12 (by kernel_rfl) rfl #[.agg #[.slice BA x0.length dA, .slice EA x1.length fA], .agg #[.slice BB y0.length dB, .slice EB y1.length fB]] (by rfl) rfl rfl Own.ha ?_
     with_reducible refine (spec_JoinCalendars.calls k _ _ x0 _ _ x1 _ _ y0 _ _ y1 s0 s1 g2 _ PA0.out.2 PA0.out.1 PA1.out.2 PA1.out.1 PB0.out.2 PB0.out.1 PB1.out.2 PB1.out.1 A5.out).mono ?_
     rintro e wzc9 ⟨v_, u_, rfl, ho0, ho1, hb⟩
     refine ⟨_, rfl, ?_⟩
     have V0 := Aside0.mk (Kd.V_mono (vv ho0) (ok' := fun k_ => k_ ≠ gs) (fun k_ h_ => by have h1_ := blk_lt BS.out; omega))
     have V1 := Aside0.mk (Kd.V_mono (vv ho1) (ok' := fun k_ => k_ ≠ gs) (fun k_ h_ => by have h1_ := blk_lt BS.out; omega))
     replace BKa := Aside0.mk (blk_below BKa.out hb); replace BKb := Aside0.mk (blk_below BKb.out hb); replace HZ := Aside0.mk (below_step HZ.out hb)
     replace BS := Aside0.mk (blk_below BS.out hb)
     clear ho0 ho1 hb PA0 PA1 PB0 PB1
     refine hK.out _ _ ⟨blk_cell BKa.out 0, blk_cell BKa.out 1, blk_cell BKb.out 0, blk_cell BKb.out 1⟩ (fun hHeld => ?_)
     clear hK K
     refine norm_ (a' := ?_) ?_ ?_
     rotate_left
     ·
      show Act.put _ (some 32) _ = _
      simp only [Own.ps]
      rfl
     refine pure_ (i := 5) (N := some 27) (v := ?_) (a' := ?_) #[true, true, true, true, true, true, false, false, true, false, false] rfl rfl (any_of HT_.out (by kernel_rfl)) (fun _ _ _ h => h) (Or.inl ⟨by rfl, ?_⟩) ?_ ?_
     rotate_left
     ·
      intro w'
      go_simp
      with_reducible rfl
     rotate_left
     ·
      simp only [Own.ps]
      rfl
     refine pure_ (i := 6) (N := some 33) (v := ?_) (a' := ?_) #[true, true, true, true, true, true, true, false, true, false, false] rfl rfl (any_of HT_.out (by kernel_rfl)) (fun _ _ _ h => h) (Or.inl ⟨by rfl, ?_⟩) ?_ ?_
     rotate_left
     ·
      intro w'
      go_simp
      with_reducible rfl
     rotate_left
     ·
      simp only [Own.ps]
      rfl
     refine pure_ (i := 7) (N := some 34) (v := ?_) (a' := ?_) #[true, true, true, true, true, true, true, true, true, false, false] rfl rfl (any_of HT_.out (by kernel_rfl)) (fun _ _ _ h => h) (Or.inl ⟨by rfl, ?_⟩) ?_ ?_
     rotate_left
     ·
      intro w'
      go_simp
      with_reducible rfl
     rotate_left
     ·
      simp only [Own.ps]
      rfl
     exact norm_ (by simp only [putAll, Act.put, List.setIfInBounds_toArray, List.set_cons_zero, List.set_cons_succ]) (hCont (.slice BA x0.length dA, .slice EA x1.length fA, .slice BB y0.length dB, .slice EB y1.length fB, v_, u_, gs) _ ⟨hHeld, V0.out, V1.out, BS.out, GS.out, HZ.out, BKa.out, BKb.out⟩)
   ·
    refine box_step ?hg (N := 6) ?hd (cs := #[.slice none 0 0, .slice none 0 0]) (t := 26) ?hr ?_; (case hd => rfl); (case hg => rfl); (case hr => first | (go_simp; done) | (go_simp; rfl))
    intro gs hg wzc10 hbox hb
    have GS := Aside0.mk (show wz.heap.size ≤ gs from by rw [hg]; exact HZ.out.size)
    replace BKa := Aside0.mk (blk_below BKa.out hb); replace BKb := Aside0.mk (blk_below BKb.out hb); replace HZ := Aside0.mk (below_step HZ.out hb)
    have BS := Aside0.mk hbox
    clear hg hbox hb
    refine hK.out _ _ ⟨blk_cell BKa.out 0, blk_cell BKa.out 1, blk_cell BKb.out 0, blk_cell BKb.out 1⟩ (fun hHeld => ?_)
    clear hK K
    refine norm_ (a' := ?_) ?_ ?_
    rotate_left
    ·
     show Act.put _ (some 6) _ = _
     simp only [Own.ps]
     rfl
    refine one_ (i := 1) (N := some 29) #[true, true, true, false, false, false, false, false, true, false, false] rfl rfl (one_of HT_.out (by kernel_rfl)) (by decide) (fun K hK => ?_)
    refine goes_ Try.func13 (by kernel_rfl) rfl #[.agg #[.slice A0_0 l0_0.length c0_0, .slice A0_1 l0_1.length c0_1]] (by rfl) rfl rfl Own.ha ?_
    with_reducible refine (laws_toCalendar.calls k _ _ l0_0 _ _ l0_1 x0 x1 _ (Kd.C_below P00.out.2 HZ.out) P00.out.1 (Kd.C_below P01.out.2 HZ.out) P01.out.1 A3.out).mono ?_
    rintro e wzc11 ⟨v_, u_, rfl, ho0, ho1, hb⟩
    refine ⟨_, rfl, ?_⟩
    replace BKa := Aside0.mk (blk_below BKa.out hb); replace BKb := Aside0.mk (blk_below BKb.out hb); replace HZ := Aside0.mk (below_step HZ.out hb)
    replace BS := Aside0.mk (blk_below BS.out hb)
    obtain ⟨BA, dA, rfl⟩ := Kd.R_slice ho0; obtain ⟨EA, fA, rfl⟩ := Kd.R_slice ho1; have PA0 := Aside0.mk (Kd.R_reads' ho0).2; have PA1 := Aside0.mk (Kd.R_reads' ho1).2; clear ho0 ho1 hb
    refine hK.out _ _ ⟨blk_cell BKa.out 0, blk_cell BKa.out 1, blk_cell BKb.out 0, blk_cell BKb.out 1⟩ (fun hHeld => ?_)
    clear hK K
    refine norm_ (a' := ?_) ?_ ?_
    rotate_left
    ·
     show Act.put _ (some 29) _ = _
     simp only [Own.ps]
     rfl
    refine one_ (i := 3) (N := some 31) #[true, true, true, true, false, false, false, false, true, false, false] rfl rfl (one_of HT_.out (by kernel_rfl)) (by decide) (fun K hK => ?_)
    refine goes_ Try.func13 (by kernel_rfl) rfl #[.agg #[.slice A1_0 l1_0.length c1_0, .slice A1_1 l1_1.length c1_1]] (by rfl) rfl rfl Own.ha ?_
    with_reducible refine (laws_toCalendar.calls k _ _ l1_0 _ _ l1_1 y0 y1 _ (Kd.C_below P10.out.2 HZ.out) P10.out.1 (Kd.C_below P11.out.2 HZ.out) P11.out.1 A4.out).mono ?_
    rintro e wzc12 ⟨v_, u_, rfl, ho0, ho1, hb⟩
    refine ⟨_, rfl, ?_⟩
    replace BKa := Aside0.mk (blk_below BKa.out hb); replace BKb := Aside0.mk (blk_below BKb.out hb); replace HZ := Aside0.mk (below_step HZ.out hb)
    replace BS := Aside0.mk (blk_below BS.out hb)
    replace PA0 := Aside0.mk (pc PA0.out hb)
    replace PA1 := Aside0.mk (pc PA1.out hb)
    obtain ⟨BB, dB, rfl⟩ := Kd.R_slice ho0; obtain ⟨EB, fB, rfl⟩ := Kd.R_slice ho1; have PB0 := Aside0.mk (Kd.R_reads' ho0).2; have PB1 := Aside0.mk (Kd.R_reads' ho1).2; clear ho0 ho1 hb
    refine hK.out _ _ ⟨blk_cell BKa.out 0, blk_cell BKa.out 1, blk_cell BKb.out 0, blk_cell BKb.out 1⟩ (fun hHeld => ?_)
    clear hK K
    refine norm_ (a' := ?_) ?_ ?_
    rotate_left
    ·
     show Act.put _ (some 31) _ = _
     simp only [Own.ps]
     rfl
    refine one_ (i := 4) (N := some 32) #[true, true, true, true, true, false, false, false, true, false, false] rfl rfl (one_of HT_.out (by kernel_rfl)) (by decide) (fun K hK => ?_)
    refine goes_ Try.func12 (by kernel_rfl) rfl #[.agg #[.slice BA x0.length dA, .slice EA x1.length fA], .agg #[.slice BB y0.length dB, .slice EB y1.length fB]] (by rfl) rfl rfl Own.ha ?_
    with_reducible refine (spec_JoinCalendars.calls k _ _ x0 _ _ x1 _ _ y0 _ _ y1 s0 s1 g2 _ PA0.out.2 PA0.out.1 PA1.out.2 PA1.out.1 PB0.out.2 PB0.out.1 PB1.out.2 PB1.out.1 A5.out).mono ?_
    rintro e wzc13 ⟨v_, u_, rfl, ho0, ho1, hb⟩
    refine ⟨_, rfl, ?_⟩
    have V0 := Aside0.mk (Kd.V_mono (vv ho0) (ok' := fun k_ => k_ ≠ gs) (fun k_ h_ => by have h1_ := blk_lt BS.out; omega))
    have V1 := Aside0.mk (Kd.V_mono (vv ho1) (ok' := fun k_ => k_ ≠ gs) (fun k_ h_ => by have h1_ := blk_lt BS.out; omega))
    replace BKa := Aside0.mk (blk_below BKa.out hb); replace BKb := Aside0.mk (blk_below BKb.out hb); replace HZ := Aside0.mk (below_step HZ.out hb)
    replace BS := Aside0.mk (blk_below BS.out hb)
    clear ho0 ho1 hb PA0 PA1 PB0 PB1
    refine hK.out _ _ ⟨blk_cell BKa.out 0, blk_cell BKa.out 1, blk_cell BKb.out 0, blk_cell BKb.out 1⟩ (fun hHeld => ?_)
    clear hK K
    refine norm_ (a' := ?_) ?_ ?_
    rotate_left
    ·
     show Act.put _ (some 32) _ = _
     simp only [Own.ps]
     rfl
    refine pure_ (i := 5) (N := some 27) (v := ?_) (a' := ?_) #[true, true, true, true, true, true, false, false, true, false, false] rfl rfl (any_of HT_.out (by kernel_rfl)) (fun _ _ _ h => h) (Or.inl ⟨by rfl, ?_⟩) ?_ ?_
    rotate_left
    ·
     intro w'
     go_simp
     with_reducible rfl
    rotate_left
    ·
     simp only [Own.ps]
     rfl
    refine pure_ (i := 6) (N := some 33) (v := ?_) (a' := ?_) #[true, true, true, true, true, true, true, false, true, false, false] rfl rfl (any_of HT_.out (by kernel_rfl)) (fun _ _ _ h => h) (Or.inl ⟨by rfl, ?_⟩) ?_ ?_
    rotate_left
    ·
     intro w'
     go_simp
     with_reducible rfl
    rotate_left
    ·
     simp only [Own.ps]
     rfl
    refine pure_ (i := 7) (N := some 34) (v := ?_) (a' := ?_) #[true, true, true, true, true, true, true, true, true, false, false] rfl rfl (any_of HT_.out (by kernel_rfl)) (fun _ _ _ h => h) (Or.inl ⟨by rfl, ?_⟩) ?_ ?_
    rotate_left
    ·
     intro w'
     go_simp
     with_reducible rfl
    rotate_left
    ·
     simp only [Own.ps]
     rfl
    exact norm_ (by simp only [putAll, Act.put, List.setIfInBounds_toArray, List.set_cons_zero, List.set_cons_succ]) (hCont (.slice BA x0.length dA, .slice EA x1.length fA, .slice BB y0.length dB, .slice EB y1.length fB, v_, u_, gs) _ ⟨hHeld, V0.out, V1.out, BS.out, GS.out, HZ.out, BKa.out, BKb.out⟩)
  rintro ⟨va0, va1, vb0, vb1, v0, v1, gs⟩ wzj ⟨hS_, hv0, hv1, hbs, hgs, hz, hka, hkb⟩
  replace hv0 : Kd.V (Kd.int .i64) 3 wzj 0 (fun k_ => k_ ≠ gs) v0 s0 := hv0
  replace hv1 : Kd.V (Kd.int .i64) 3 wzj 0 (fun k_ => k_ ≠ gs) v1 s1 := hv1
  replace hbs : wzj.heap[gs]? = some (.cells #[.slice none 0 0, .slice none 0 0] 26 (0, 0)) := hbs
  replace hgs : wz.heap.size ≤ gs := hgs
  replace hz : Below wz.heap.size wz wzj := hz
  replace hka : wzj.heap[ga]? = some (.cells #[.slice A0_0 l0_0.length c0_0, .slice A0_1 l0_1.length c0_1] 33 (0, 0)) := hka
  replace hkb : wzj.heap[gb]? = some (.cells #[.slice A1_0 l1_0.length c1_0, .slice A1_1 l1_1.length c1_1] 33 (0, 0)) := hkb
  obtain ⟨BS0, dS0, rfl⟩ := Kd.V_slice hv0
  obtain ⟨BS1, dS1, rfl⟩ := Kd.V_slice hv1
  have hna : ga ≠ gs := by have := LA.out; omega
  have hnb : gb ≠ gs := by have := LB.out; omega
  clear BKa BKb HZ
  have BKa := Aside0.mk (put_f hka hna (.slice BS0 s0.length dS0) (.slice BS1 s1.length dS1))
  have BKb := Aside0.mk (put_f hkb hnb (.slice BS0 s0.length dS0) (.slice BS1 s1.length dS1))
  refine norm_ (a' := ?_) ?_ ?_
  rotate_left
  ·
   simp only [putAll, Act.put, List.setIfInBounds_toArray, List.set_cons_zero, List.set_cons_succ]
   rfl
  refine one_ (i := 9) (N := none) #[true, true, true, true, true, true, true, true, true, true, false] rfl rfl (one_of HT_.out (by kernel_rfl)) (by decide) (fun K hK => ?_)
  obtain ⟨ys0, ys1, zs0, zs1⟩ := Own.box2 hbs
  refine skip_ (w1 := ((wzj.setCell ⟨gs, 0, none⟩ (.slice BS0 s0.length dS0)).setCell ⟨gs, 1, none⟩ (.slice BS1 s1.length dS1))) (by rfl) rfl ?_ ?_
  ·
   first | (go_simp; done) | (go_simp; rfl)
  refine hK.out _ _ ⟨blk_cell BKa.out 0, blk_cell BKa.out 1, blk_cell BKb.out 0, blk_cell BKb.out 1⟩ (fun hHeld => ?_)
  clear hK K
  refine pure_ (i := 10) (N := some 7) (v := ?_) (a' := ?_) #[true, true, true, true, true, true, true, true, true, true, true] rfl rfl (any_of HT_.out (by kernel_rfl)) (fun _ _ _ h => h) (Or.inl ⟨by rfl, ?_⟩) ?_ ?_
  rotate_left
  ·
   intro w'
   go_simp
   with_reducible rfl
  rotate_left
  ·
   simp only [Own.ps]
   rfl
  refine done_ (done_of HT_.out (by kernel_rfl)) ?_
  have BS := Aside0.mk (put2 hbs (b0 := .slice BS0 s0.length dS0) (b1 := .slice BS1 s1.length dS1))
  have HZ := Aside0.mk (below_set (below_set hz hgs (j := 0) (v := .slice BS0 s0.length dS0)) hgs (j := 1) (v := .slice BS1 s1.length dS1))
  have S0 := Aside0.mk (Kd.V_reads' (Kd.V_far (p := ⟨gs, 1, none⟩) (Kd.V_far (p := ⟨gs, 0, none⟩) hv0 (fun _ h_ => h_) (.slice BS0 s0.length dS0)) (fun _ h_ => h_) (.slice BS1 s1.length dS1))).2
  have S1 := Aside0.mk (Kd.V_reads' (Kd.V_far (p := ⟨gs, 1, none⟩) (Kd.V_far (p := ⟨gs, 0, none⟩) hv1 (fun _ h_ => h_) (.slice BS0 s0.length dS0)) (fun _ h_ => h_) (.slice BS1 s1.length dS1))).2
  clear hv0 hv1 hbs hgs hz hka hkb hS_ hHeld ys0 ys1 zs0 zs1 hna hnb LA LB HT_ HW_
  replace HB := Aside0.mk (below_step HB.out HZ.out)
  replace P00 := Aside0.mk (pc P00.out HZ.out)
  replace P01 := Aside0.mk (pc P01.out HZ.out)
  replace P10 := Aside0.mk (pc P10.out HZ.out)
  replace P11 := Aside0.mk (pc P11.out HZ.out)
  clear HZ
  generalize ((wzj.setCell ⟨gs, 0, none⟩ (.slice BS0 s0.length dS0)).setCell ⟨gs, 1, none⟩ (.slice BS1 s1.length dS1)) = w8 at *
  have HZ := Aside0.mk (Below.refl w8.heap.size w8)
  clear T4
  have BS8 := BS
  have SA := S0
  have SB := S1
  clear BS S0 S1
  obtain ⟨ya0, ya1, za0, za1⟩ := Own.box2 BKa.out
  have NN := Aside0.mk (show w8.heap.size ≤ w8.heap.size from Nat.le_refl _)
  go_upto_region 14 with (first | (go_at_call 13; (with_reducible refine (laws_toCalendar.calls k _ _ l0_0 _ _ l0_1 x0 x1 _ P00.out.2 P00.out.1 P01.out.2 P01.out.1 A3.out).mono ?_); rintro e wx ⟨v_, u_, rfl, ho0, ho1, hb⟩; clear ya0 ya1 za0 za1; replace NN := Aside0.mk (show w8.heap.size ≤ wx.heap.size ∧ (w8.heap.size ≤ w8.heap.size) from ⟨hb.size, NN.out⟩); replace NN := Aside0.mk (show w8.heap.size ≤ w8.heap.size ∧ (w8.heap.size ≤ wx.heap.size ∧ (w8.heap.size ≤ w8.heap.size)) from ⟨HZ.out.size, NN.out⟩); obtain ⟨Bx0, dx0, rfl⟩ := Kd.R_slice ho0; obtain ⟨Bx1, dx1, rfl⟩ := Kd.R_slice ho1; have HX0 := Aside0.mk (rw_ (v := (.slice Bx0 x0.length dx0)) (u := (.slice Bx1 x1.length dx1)) ho0 HZ.out.size); have HX1 := Aside0.mk (rw_ (v := (.slice Bx1 x1.length dx1)) (u := (.slice Bx0 x0.length dx0)) ho1 HZ.out.size); replace HZ := Aside0.mk (below_step HZ.out hb); clear ho0 ho1 hb; have T1 := Aside0.mk True.intro) | ((with_reducible refine gate_dst (N := 8) rfl ?_); clear T1; refine Own.be (N := 8) (cs := #[.slice none 0 0, .slice none 0 0]) (t := 26) ?_; intro gx hg wx2 hbox hb; replace NN := Aside0.mk (show gx = wx.heap.size ∧ (w8.heap.size ≤ w8.heap.size ∧ (w8.heap.size ≤ wx.heap.size ∧ (w8.heap.size ≤ w8.heap.size))) from ⟨hg, NN.out⟩); replace NN := Aside0.mk (show wx.heap.size ≤ wx2.heap.size ∧ (gx = wx.heap.size ∧ (w8.heap.size ≤ w8.heap.size ∧ (w8.heap.size ≤ wx.heap.size ∧ (w8.heap.size ≤ w8.heap.size)))) from ⟨hb.size, NN.out⟩); replace NN := Aside0.mk (show gx < wx2.heap.size ∧ (wx.heap.size ≤ wx2.heap.size ∧ (gx = wx.heap.size ∧ (w8.heap.size ≤ w8.heap.size ∧ (w8.heap.size ≤ wx.heap.size ∧ (w8.heap.size ≤ w8.heap.size))))) from ⟨blk_lt hbox, NN.out⟩); replace HZ := Aside0.mk (below_step HZ.out hb); replace HX0 := Aside0.mk (Kd.R_below HX0.out hb); replace HX1 := Aside0.mk (Kd.R_below HX1.out hb); have BX := Aside0.mk hbox; obtain ⟨yn0, yn1, zn0, zn1⟩ := Own.box2 hbox; clear hbox hb hg; have T2 := Aside0.mk True.intro) | ((with_reducible refine gate_store (t := 26) (p := 8) rfl ?_); clear T2; refine store_event (t := 26) (p := 8) (v := ?vo_x) (w1 := ((wx2.setCell ⟨gx, 0, none⟩ (.slice Bx0 x0.length dx0)).setCell ⟨gx, 1, none⟩ (.slice Bx1 x1.length dx1))) ?hg ?ho ?hn ?hr ?_; (case ho => rfl); (case hg => rfl); (case hn => rfl); (case hr => first | (go_simp; done) | (go_simp; rfl)); clear yn0 yn1 zn0 zn1; intro wx3 hw; have hsz : wx3.heap.size = wx2.heap.size := (by rw [hw]; simp [World.setCell]); have n0_ := (Kd.R_far (p := ⟨gx, 1, none⟩) (Kd.R_far (p := ⟨gx, 0, none⟩) HX0.out (fun k_ h_ => by have h9_ := NN.out; have h8_ := h_.1; show k_ ≠ gx; omega) (.slice Bx0 x0.length dx0)) (fun k_ h_ => by have h9_ := NN.out; have h8_ := h_.1; show k_ ≠ gx; omega) (.slice Bx1 x1.length dx1)); have n1_ := (Kd.R_far (p := ⟨gx, 1, none⟩) (Kd.R_far (p := ⟨gx, 0, none⟩) HX1.out (fun k_ h_ => by have h9_ := NN.out; have h8_ := h_.1; show k_ ≠ gx; omega) (.slice Bx0 x0.length dx0)) (fun k_ h_ => by have h9_ := NN.out; have h8_ := h_.1; show k_ ≠ gx; omega) (.slice Bx1 x1.length dx1)); have nb_ := put2 BX.out (b0 := (.slice Bx0 x0.length dx0)) (b1 := (.slice Bx1 x1.length dx1)); have nz_ := below_set (below_set HZ.out (j := 0) (v := (.slice Bx0 x0.length dx0)) (g := gx) (by have h9_ := NN.out; omega)) (j := 1) (v := (.slice Bx1 x1.length dx1)) (g := gx) (by have h9_ := NN.out; omega); rw [← hw] at nb_ nz_ n0_ n1_; replace HX0 := Aside0.mk n0_; replace HX1 := Aside0.mk n1_; replace BX := Aside0.mk nb_; replace HZ := Aside0.mk nz_; replace NN := Aside0.mk (show wx3.heap.size = wx2.heap.size ∧ (gx < wx2.heap.size ∧ (wx.heap.size ≤ wx2.heap.size ∧ (gx = wx.heap.size ∧ (w8.heap.size ≤ w8.heap.size ∧ (w8.heap.size ≤ wx.heap.size ∧ (w8.heap.size ≤ w8.heap.size)))))) from ⟨hsz, NN.out⟩); clear hw hsz nb_ nz_ n0_ n1_; obtain ⟨yb0, yb1, zb0, zb1⟩ := Own.box2 (blk_below BKb.out HZ.out); have T3 := Aside0.mk True.intro) | (go_at_call 13; clear T3; (with_reducible refine (laws_toCalendar.calls k _ _ l1_0 _ _ l1_1 y0 y1 _ (pc P10.out HZ.out).2 P10.out.1 (pc P11.out HZ.out).2 P11.out.1 A4.out).mono ?_); rintro e wy ⟨v_, u_, rfl, ho0, ho1, hb⟩; clear yb0 yb1 zb0 zb1; replace NN := Aside0.mk (show wx3.heap.size ≤ wy.heap.size ∧ (wx3.heap.size = wx2.heap.size ∧ (gx < wx2.heap.size ∧ (wx.heap.size ≤ wx2.heap.size ∧ (gx = wx.heap.size ∧ (w8.heap.size ≤ w8.heap.size ∧ (w8.heap.size ≤ wx.heap.size ∧ (w8.heap.size ≤ w8.heap.size))))))) from ⟨hb.size, NN.out⟩); replace NN := Aside0.mk (show w8.heap.size ≤ wx3.heap.size ∧ (wx3.heap.size ≤ wy.heap.size ∧ (wx3.heap.size = wx2.heap.size ∧ (gx < wx2.heap.size ∧ (wx.heap.size ≤ wx2.heap.size ∧ (gx = wx.heap.size ∧ (w8.heap.size ≤ w8.heap.size ∧ (w8.heap.size ≤ wx.heap.size ∧ (w8.heap.size ≤ w8.heap.size)))))))) from ⟨HZ.out.size, NN.out⟩); obtain ⟨By0, dy0, rfl⟩ := Kd.R_slice ho0; obtain ⟨By1, dy1, rfl⟩ := Kd.R_slice ho1; have HY0 := Aside0.mk (rw_ (v := (.slice By0 y0.length dy0)) (u := (.slice By1 y1.length dy1)) ho0 HZ.out.size); have HY1 := Aside0.mk (rw_ (v := (.slice By1 y1.length dy1)) (u := (.slice By0 y0.length dy0)) ho1 HZ.out.size); replace HZ := Aside0.mk (below_step HZ.out hb); replace HX0 := Aside0.mk (Kd.R_below HX0.out hb); replace HX1 := Aside0.mk (Kd.R_below HX1.out hb); replace BX := Aside0.mk (blk_below BX.out hb); clear ho0 ho1 hb; have T4 := Aside0.mk True.intro) | ((with_reducible refine gate_dst (N := 9) rfl ?_); clear T4; refine Own.be (N := 9) (cs := #[.slice none 0 0, .slice none 0 0]) (t := 26) ?_; intro gy hg wy2 hbox hb; replace NN := Aside0.mk (show gy = wy.heap.size ∧ (w8.heap.size ≤ wx3.heap.size ∧ (wx3.heap.size ≤ wy.heap.size ∧ (wx3.heap.size = wx2.heap.size ∧ (gx < wx2.heap.size ∧ (wx.heap.size ≤ wx2.heap.size ∧ (gx = wx.heap.size ∧ (w8.heap.size ≤ w8.heap.size ∧ (w8.heap.size ≤ wx.heap.size ∧ (w8.heap.size ≤ w8.heap.size))))))))) from ⟨hg, NN.out⟩); replace NN := Aside0.mk (show wy.heap.size ≤ wy2.heap.size ∧ (gy = wy.heap.size ∧ (w8.heap.size ≤ wx3.heap.size ∧ (wx3.heap.size ≤ wy.heap.size ∧ (wx3.heap.size = wx2.heap.size ∧ (gx < wx2.heap.size ∧ (wx.heap.size ≤ wx2.heap.size ∧ (gx = wx.heap.size ∧ (w8.heap.size ≤ w8.heap.size ∧ (w8.heap.size ≤ wx.heap.size ∧ (w8.heap.size ≤ w8.heap.size)))))))))) from ⟨hb.size, NN.out⟩); replace NN := Aside0.mk (show gy < wy2.heap.size ∧ (wy.heap.size ≤ wy2.heap.size ∧ (gy = wy.heap.size ∧ (w8.heap.size ≤ wx3.heap.size ∧ (wx3.heap.size ≤ wy.heap.size ∧ (wx3.heap.size = wx2.heap.size ∧ (gx < wx2.heap.size ∧ (wx.heap.size ≤ wx2.heap.size ∧ (gx = wx.heap.size ∧ (w8.heap.size ≤ w8.heap.size ∧ (w8.heap.size ≤ wx.heap.size ∧ (w8.heap.size ≤ w8.heap.size))))))))))) from ⟨blk_lt hbox, NN.out⟩); replace HZ := Aside0.mk (below_step HZ.out hb); replace HX0 := Aside0.mk (Kd.R_below HX0.out hb); replace HX1 := Aside0.mk (Kd.R_below HX1.out hb); replace BX := Aside0.mk (blk_below BX.out hb); replace HY0 := Aside0.mk (Kd.R_below HY0.out hb); replace HY1 := Aside0.mk (Kd.R_below HY1.out hb); have BY := Aside0.mk hbox; obtain ⟨yn0, yn1, zn0, zn1⟩ := Own.box2 hbox; clear hbox hb hg; have T5 := Aside0.mk True.intro) | ((with_reducible refine gate_store (t := 26) (p := 9) rfl ?_); clear T5; refine store_event (t := 26) (p := 9) (v := ?vo_y) (w1 := ((wy2.setCell ⟨gy, 0, none⟩ (.slice By0 y0.length dy0)).setCell ⟨gy, 1, none⟩ (.slice By1 y1.length dy1))) ?hg ?ho ?hn ?hr ?_; (case ho => rfl); (case hg => rfl); (case hn => rfl); (case hr => first | (go_simp; done) | (go_simp; rfl)); clear yn0 yn1 zn0 zn1; intro wy3 hw; have hsz : wy3.heap.size = wy2.heap.size := (by rw [hw]; simp [World.setCell]); have n0_ := (Kd.R_far (p := ⟨gy, 1, none⟩) (Kd.R_far (p := ⟨gy, 0, none⟩) HX0.out (fun k_ h_ => by have h9_ := NN.out; have h8_ := h_.1; show k_ ≠ gy; omega) (.slice By0 y0.length dy0)) (fun k_ h_ => by have h9_ := NN.out; have h8_ := h_.1; show k_ ≠ gy; omega) (.slice By1 y1.length dy1)); have n1_ := (Kd.R_far (p := ⟨gy, 1, none⟩) (Kd.R_far (p := ⟨gy, 0, none⟩) HX1.out (fun k_ h_ => by have h9_ := NN.out; have h8_ := h_.1; show k_ ≠ gy; omega) (.slice By0 y0.length dy0)) (fun k_ h_ => by have h9_ := NN.out; have h8_ := h_.1; show k_ ≠ gy; omega) (.slice By1 y1.length dy1)); have n2_ := (put_f (g := gy) BX.out (by have h9_ := NN.out; omega) (.slice By0 y0.length dy0) (.slice By1 y1.length dy1)); have n3_ := (Kd.R_far (p := ⟨gy, 1, none⟩) (Kd.R_far (p := ⟨gy, 0, none⟩) HY0.out (fun k_ h_ => by have h9_ := NN.out; have h8_ := h_.1; show k_ ≠ gy; omega) (.slice By0 y0.length dy0)) (fun k_ h_ => by have h9_ := NN.out; have h8_ := h_.1; show k_ ≠ gy; omega) (.slice By1 y1.length dy1)); have n4_ := (Kd.R_far (p := ⟨gy, 1, none⟩) (Kd.R_far (p := ⟨gy, 0, none⟩) HY1.out (fun k_ h_ => by have h9_ := NN.out; have h8_ := h_.1; show k_ ≠ gy; omega) (.slice By0 y0.length dy0)) (fun k_ h_ => by have h9_ := NN.out; have h8_ := h_.1; show k_ ≠ gy; omega) (.slice By1 y1.length dy1)); have nb_ := put2 BY.out (b0 := (.slice By0 y0.length dy0)) (b1 := (.slice By1 y1.length dy1)); have nz_ := below_set (below_set HZ.out (j := 0) (v := (.slice By0 y0.length dy0)) (g := gy) (by have h9_ := NN.out; omega)) (j := 1) (v := (.slice By1 y1.length dy1)) (g := gy) (by have h9_ := NN.out; omega); rw [← hw] at nb_ nz_ n0_ n1_ n2_ n3_ n4_; replace HX0 := Aside0.mk n0_; replace HX1 := Aside0.mk n1_; replace BX := Aside0.mk n2_; replace HY0 := Aside0.mk n3_; replace HY1 := Aside0.mk n4_; replace BY := Aside0.mk nb_; replace HZ := Aside0.mk nz_; replace NN := Aside0.mk (show wy3.heap.size = wy2.heap.size ∧ (gy < wy2.heap.size ∧ (wy.heap.size ≤ wy2.heap.size ∧ (gy = wy.heap.size ∧ (w8.heap.size ≤ wx3.heap.size ∧ (wx3.heap.size ≤ wy.heap.size ∧ (wx3.heap.size = wx2.heap.size ∧ (gx < wx2.heap.size ∧ (wx.heap.size ≤ wx2.heap.size ∧ (gx = wx.heap.size ∧ (w8.heap.size ≤ w8.heap.size ∧ (w8.heap.size ≤ wx.heap.size ∧ (w8.heap.size ≤ w8.heap.size)))))))))))) from ⟨hsz, NN.out⟩); clear hw hsz nb_ nz_ n0_ n1_ n2_ n3_ n4_; obtain ⟨yx0, yx1, zx0, zx1⟩ := Own.box2 BX.out; obtain ⟨yy0, yy1, zy0, zy1⟩ := Own.box2 BY.out; have T6 := Aside0.mk True.intro) | (go_at_call 14; clear T6; (with_reducible refine (impl_JoinCalendars.calls k _ _ x0 _ _ x1 _ _ y0 _ _ y1 g0 g1 g2 _ (Kd.R_reads' HX0.out).2.2 (Kd.R_reads' HX0.out).2.1 (Kd.R_reads' HX1.out).2.2 (Kd.R_reads' HX1.out).2.1 (Kd.R_reads' HY0.out).2.2 (Kd.R_reads' HY0.out).2.1 (Kd.R_reads' HY1.out).2.2 (Kd.R_reads' HY1.out).2.1 A6.out).mono ?_); rintro e wg ⟨v_, u_, rfl, ho0, ho1, hb⟩; clear yx0 yx1 zx0 zx1 yy0 yy1 zy0 zy1; replace NN := Aside0.mk (show wy3.heap.size ≤ wg.heap.size ∧ (wy3.heap.size = wy2.heap.size ∧ (gy < wy2.heap.size ∧ (wy.heap.size ≤ wy2.heap.size ∧ (gy = wy.heap.size ∧ (w8.heap.size ≤ wx3.heap.size ∧ (wx3.heap.size ≤ wy.heap.size ∧ (wx3.heap.size = wx2.heap.size ∧ (gx < wx2.heap.size ∧ (wx.heap.size ≤ wx2.heap.size ∧ (gx = wx.heap.size ∧ (w8.heap.size ≤ w8.heap.size ∧ (w8.heap.size ≤ wx.heap.size ∧ (w8.heap.size ≤ w8.heap.size))))))))))))) from ⟨hb.size, NN.out⟩); replace NN := Aside0.mk (show w8.heap.size ≤ wy3.heap.size ∧ (wy3.heap.size ≤ wg.heap.size ∧ (wy3.heap.size = wy2.heap.size ∧ (gy < wy2.heap.size ∧ (wy.heap.size ≤ wy2.heap.size ∧ (gy = wy.heap.size ∧ (w8.heap.size ≤ wx3.heap.size ∧ (wx3.heap.size ≤ wy.heap.size ∧ (wx3.heap.size = wx2.heap.size ∧ (gx < wx2.heap.size ∧ (wx.heap.size ≤ wx2.heap.size ∧ (gx = wx.heap.size ∧ (w8.heap.size ≤ w8.heap.size ∧ (w8.heap.size ≤ wx.heap.size ∧ (w8.heap.size ≤ w8.heap.size)))))))))))))) from ⟨HZ.out.size, NN.out⟩); obtain ⟨Bg0, dg0, rfl⟩ := Kd.R_slice ho0; obtain ⟨Bg1, dg1, rfl⟩ := Kd.R_slice ho1; have HG0 := Aside0.mk (rw_ (v := (.slice Bg0 g0.length dg0)) (u := (.slice Bg1 g1.length dg1)) ho0 HZ.out.size); have HG1 := Aside0.mk (rw_ (v := (.slice Bg1 g1.length dg1)) (u := (.slice Bg0 g0.length dg0)) ho1 HZ.out.size); replace HZ := Aside0.mk (below_step HZ.out hb); replace HX0 := Aside0.mk (Kd.R_below HX0.out hb); replace HX1 := Aside0.mk (Kd.R_below HX1.out hb); replace BX := Aside0.mk (blk_below BX.out hb); replace HY0 := Aside0.mk (Kd.R_below HY0.out hb); replace HY1 := Aside0.mk (Kd.R_below HY1.out hb); replace BY := Aside0.mk (blk_below BY.out hb); clear ho0 ho1 hb; have T7 := Aside0.mk True.intro) | ((with_reducible refine gate_dst (N := 10) rfl ?_); clear T7; refine Own.be (N := 10) (cs := #[.slice none 0 0, .slice none 0 0]) (t := 26) ?_; intro gg hg wg2 hbox hb; replace NN := Aside0.mk (show gg = wg.heap.size ∧ (w8.heap.size ≤ wy3.heap.size ∧ (wy3.heap.size ≤ wg.heap.size ∧ (wy3.heap.size = wy2.heap.size ∧ (gy < wy2.heap.size ∧ (wy.heap.size ≤ wy2.heap.size ∧ (gy = wy.heap.size ∧ (w8.heap.size ≤ wx3.heap.size ∧ (wx3.heap.size ≤ wy.heap.size ∧ (wx3.heap.size = wx2.heap.size ∧ (gx < wx2.heap.size ∧ (wx.heap.size ≤ wx2.heap.size ∧ (gx = wx.heap.size ∧ (w8.heap.size ≤ w8.heap.size ∧ (w8.heap.size ≤ wx.heap.size ∧ (w8.heap.size ≤ w8.heap.size))))))))))))))) from ⟨hg, NN.out⟩); replace NN := Aside0.mk (show wg.heap.size ≤ wg2.heap.size ∧ (gg = wg.heap.size ∧ (w8.heap.size ≤ wy3.heap.size ∧ (wy3.heap.size ≤ wg.heap.size ∧ (wy3.heap.size = wy2.heap.size ∧ (gy < wy2.heap.size ∧ (wy.heap.size ≤ wy2.heap.size ∧ (gy = wy.heap.size ∧ (w8.heap.size ≤ wx3.heap.size ∧ (wx3.heap.size ≤ wy.heap.size ∧ (wx3.heap.size = wx2.heap.size ∧ (gx < wx2.heap.size ∧ (wx.heap.size ≤ wx2.heap.size ∧ (gx = wx.heap.size ∧ (w8.heap.size ≤ w8.heap.size ∧ (w8.heap.size ≤ wx.heap.size ∧ (w8.heap.size ≤ w8.heap.size)))))))))))))))) from ⟨hb.size, NN.out⟩); replace NN := Aside0.mk (show gg < wg2.heap.size ∧ (wg.heap.size ≤ wg2.heap.size ∧ (gg = wg.heap.size ∧ (w8.heap.size ≤ wy3.heap.size ∧ (wy3.heap.size ≤ wg.heap.size ∧ (wy3.heap.size = wy2.heap.size ∧ (gy < wy2.heap.size ∧ (wy.heap.size ≤ wy2.heap.size ∧ (gy = wy.heap.size ∧ (w8.heap.size ≤ wx3.heap.size ∧ (wx3.heap.size ≤ wy.heap.size ∧ (wx3.heap.size = wx2.heap.size ∧ (gx < wx2.heap.size ∧ (wx.heap.size ≤ wx2.heap.size ∧ (gx = wx.heap.size ∧ (w8.heap.size ≤ w8.heap.size ∧ (w8.heap.size ≤ wx.heap.size ∧ (w8.heap.size ≤ w8.heap.size))))))))))))))))) from ⟨blk_lt hbox, NN.out⟩); replace HZ := Aside0.mk (below_step HZ.out hb); replace HX0 := Aside0.mk (Kd.R_below HX0.out hb); replace HX1 := Aside0.mk (Kd.R_below HX1.out hb); replace BX := Aside0.mk (blk_below BX.out hb); replace HY0 := Aside0.mk (Kd.R_below HY0.out hb); replace HY1 := Aside0.mk (Kd.R_below HY1.out hb); replace BY := Aside0.mk (blk_below BY.out hb); replace HG0 := Aside0.mk (Kd.R_below HG0.out hb); replace HG1 := Aside0.mk (Kd.R_below HG1.out hb); have BG := Aside0.mk hbox; obtain ⟨yn0, yn1, zn0, zn1⟩ := Own.box2 hbox; clear hbox hb hg; have T8 := Aside0.mk True.intro) | ((with_reducible refine gate_store (t := 26) (p := 10) rfl ?_); clear T8; refine store_event (t := 26) (p := 10) (v := ?vo_g) (w1 := ((wg2.setCell ⟨gg, 0, none⟩ (.slice Bg0 g0.length dg0)).setCell ⟨gg, 1, none⟩ (.slice Bg1 g1.length dg1))) ?hg ?ho ?hn ?hr ?_; (case ho => rfl); (case hg => rfl); (case hn => rfl); (case hr => first | (go_simp; done) | (go_simp; rfl)); clear yn0 yn1 zn0 zn1; intro wg3 hw; have hsz : wg3.heap.size = wg2.heap.size := (by rw [hw]; simp [World.setCell]); have n0_ := (Kd.R_far (p := ⟨gg, 1, none⟩) (Kd.R_far (p := ⟨gg, 0, none⟩) HX0.out (fun k_ h_ => by have h9_ := NN.out; have h8_ := h_.1; show k_ ≠ gg; omega) (.slice Bg0 g0.length dg0)) (fun k_ h_ => by have h9_ := NN.out; have h8_ := h_.1; show k_ ≠ gg; omega) (.slice Bg1 g1.length dg1)); have n1_ := (Kd.R_far (p := ⟨gg, 1, none⟩) (Kd.R_far (p := ⟨gg, 0, none⟩) HX1.out (fun k_ h_ => by have h9_ := NN.out; have h8_ := h_.1; show k_ ≠ gg; omega) (.slice Bg0 g0.length dg0)) (fun k_ h_ => by have h9_ := NN.out; have h8_ := h_.1; show k_ ≠ gg; omega) (.slice Bg1 g1.length dg1)); have n2_ := (put_f (g := gg) BX.out (by have h9_ := NN.out; omega) (.slice Bg0 g0.length dg0) (.slice Bg1 g1.length dg1)); have n3_ := (Kd.R_far (p := ⟨gg, 1, none⟩) (Kd.R_far (p := ⟨gg, 0, none⟩) HY0.out (fun k_ h_ => by have h9_ := NN.out; have h8_ := h_.1; show k_ ≠ gg; omega) (.slice Bg0 g0.length dg0)) (fun k_ h_ => by have h9_ := NN.out; have h8_ := h_.1; show k_ ≠ gg; omega) (.slice Bg1 g1.length dg1)); have n4_ := (Kd.R_far (p := ⟨gg, 1, none⟩) (Kd.R_far (p := ⟨gg, 0, none⟩) HY1.out (fun k_ h_ => by have h9_ := NN.out; have h8_ := h_.1; show k_ ≠ gg; omega) (.slice Bg0 g0.length dg0)) (fun k_ h_ => by have h9_ := NN.out; have h8_ := h_.1; show k_ ≠ gg; omega) (.slice Bg1 g1.length dg1)); have n5_ := (put_f (g := gg) BY.out (by have h9_ := NN.out; omega) (.slice Bg0 g0.length dg0) (.slice Bg1 g1.length dg1)); have n6_ := (Kd.R_far (p := ⟨gg, 1, none⟩) (Kd.R_far (p := ⟨gg, 0, none⟩) HG0.out (fun k_ h_ => by have h9_ := NN.out; have h8_ := h_.1; show k_ ≠ gg; omega) (.slice Bg0 g0.length dg0)) (fun k_ h_ => by have h9_ := NN.out; have h8_ := h_.1; show k_ ≠ gg; omega) (.slice Bg1 g1.length dg1)); have n7_ := (Kd.R_far (p := ⟨gg, 1, none⟩) (Kd.R_far (p := ⟨gg, 0, none⟩) HG1.out (fun k_ h_ => by have h9_ := NN.out; have h8_ := h_.1; show k_ ≠ gg; omega) (.slice Bg0 g0.length dg0)) (fun k_ h_ => by have h9_ := NN.out; have h8_ := h_.1; show k_ ≠ gg; omega) (.slice Bg1 g1.length dg1)); have nb_ := put2 BG.out (b0 := (.slice Bg0 g0.length dg0)) (b1 := (.slice Bg1 g1.length dg1)); have nz_ := below_set (below_set HZ.out (j := 0) (v := (.slice Bg0 g0.length dg0)) (g := gg) (by have h9_ := NN.out; omega)) (j := 1) (v := (.slice Bg1 g1.length dg1)) (g := gg) (by have h9_ := NN.out; omega); rw [← hw] at nb_ nz_ n0_ n1_ n2_ n3_ n4_ n5_ n6_ n7_; replace HX0 := Aside0.mk n0_; replace HX1 := Aside0.mk n1_; replace BX := Aside0.mk n2_; replace HY0 := Aside0.mk n3_; replace HY1 := Aside0.mk n4_; replace BY := Aside0.mk n5_; replace HG0 := Aside0.mk n6_; replace HG1 := Aside0.mk n7_; replace BG := Aside0.mk nb_; replace HZ := Aside0.mk nz_; replace NN := Aside0.mk (show wg3.heap.size = wg2.heap.size ∧ (gg < wg2.heap.size ∧ (wg.heap.size ≤ wg2.heap.size ∧ (gg = wg.heap.size ∧ (w8.heap.size ≤ wy3.heap.size ∧ (wy3.heap.size ≤ wg.heap.size ∧ (wy3.heap.size = wy2.heap.size ∧ (gy < wy2.heap.size ∧ (wy.heap.size ≤ wy2.heap.size ∧ (gy = wy.heap.size ∧ (w8.heap.size ≤ wx3.heap.size ∧ (wx3.heap.size ≤ wy.heap.size ∧ (wx3.heap.size = wx2.heap.size ∧ (gx < wx2.heap.size ∧ (wx.heap.size ≤ wx2.heap.size ∧ (gx = wx.heap.size ∧ (w8.heap.size ≤ w8.heap.size ∧ (w8.heap.size ≤ wx.heap.size ∧ (w8.heap.size ≤ w8.heap.size)))))))))))))))))) from ⟨hsz, NN.out⟩); clear hw hsz nb_ nz_ n0_ n1_ n2_ n3_ n4_ n5_ n6_ n7_; obtain ⟨yg0, yg1, zg0, zg1⟩ := Own.box2 BG.out; obtain ⟨ys0, ys1, zs0, zs1⟩ := Own.box2 (blk_below BS8.out HZ.out); have T9 := Aside0.mk True.intro) | (go_at_call 15; clear T9; (with_reducible refine (laws_eqCalendar.calls k _ _ g0 _ _ g1 _ _ s0 _ _ s1 true _ (Kd.R_reads' HG0.out).2.2 (Kd.R_reads' HG0.out).2.1 (Kd.R_reads' HG1.out).2.2 (Kd.R_reads' HG1.out).2.1 (pc SA.out HZ.out).2 SA.out.1 (pc SB.out HZ.out).2 SB.out.1 A7.out).mono ?_); rintro e w12 ⟨rfl, hb⟩; clear yg0 yg1 zg0 zg1 ys0 ys1 zs0 zs1; replace HZ := Aside0.mk (below_step HZ.out hb); replace HX0 := Aside0.mk (Kd.R_below HX0.out hb); replace HX1 := Aside0.mk (Kd.R_below HX1.out hb); replace BX := Aside0.mk (blk_below BX.out hb); replace HY0 := Aside0.mk (Kd.R_below HY0.out hb); replace HY1 := Aside0.mk (Kd.R_below HY1.out hb); replace BY := Aside0.mk (blk_below BY.out hb); replace HG0 := Aside0.mk (Kd.R_below HG0.out hb); replace HG1 := Aside0.mk (Kd.R_below HG1.out hb); replace BG := Aside0.mk (blk_below BG.out hb); clear hb; have T10 := Aside0.mk True.intro))
  (try simp only [Own.ps])
  replace HX0 := Aside0.mk (Kd.R_drew HX0.out)
  replace HX1 := Aside0.mk (Kd.R_drew HX1.out)
  replace BX := Aside0.mk (blk_drew BX.out)
  replace HY0 := Aside0.mk (Kd.R_drew HY0.out)
  replace HY1 := Aside0.mk (Kd.R_drew HY1.out)
  replace BY := Aside0.mk (blk_drew BY.out)
  replace HG0 := Aside0.mk (Kd.R_drew HG0.out)
  replace HG1 := Aside0.mk (Kd.R_drew HG1.out)
  replace BG := Aside0.mk (blk_drew BG.out)
  replace HZ := Aside0.mk (below_drew1 HZ.out)
  refine start_ (n := 5) (S := fun w' => w'.cell? ⟨gx, 0, none⟩ = some (.slice Bx0 x0.length dx0) ∧ w'.cell? ⟨gx, 1, none⟩ = some (.slice Bx1 x1.length dx1) ∧ w'.cell? ⟨ga, 0, none⟩ = some (.slice A0_0 l0_0.length c0_0) ∧ w'.cell? ⟨ga, 1, none⟩ = some (.slice A0_1 l0_1.length c0_1)) (ds := []) #[false, false, false, false, false] (by kernel_rfl) rfl rfl ⟨blk_cell BX.out 0, blk_cell BX.out 1, blk_cell (blk_below BKa.out HZ.out) 0, blk_cell (blk_below BKa.out HZ.out) 1⟩ (fun hHeld => ?_)
  generalize w12.drew = wp at HX0 HX1 BX HY0 HY1 BY HG0 HG1 BG HZ hHeld ⊢
  refine take_ (i := 0) (N := some 54) (v := ?_) (a' := ?_) #[true, false, false, false, false] rfl rfl (by kernel_rfl) (fun _ _ _ h => h) (Or.inl ⟨by rfl, ?_⟩) hHeld ?_ ?_
  rotate_left
  ·
   rintro w' ⟨q0, q1, q2, q3⟩
   go_simp
   with_reducible rfl
  rotate_left
  ·
   simp only [Own.ps]
   rfl
  refine take_ (i := 1) (N := some 55) (v := ?_) (a' := ?_) #[true, true, false, false, false] rfl rfl (by kernel_rfl) (fun _ _ _ h => h) (Or.inl ⟨by rfl, ?_⟩) hHeld ?_ ?_
  rotate_left
  ·
   rintro w' ⟨q0, q1, q2, q3⟩
   go_simp
   with_reducible rfl
  rotate_left
  ·
   simp only [Own.ps]
   rfl
  refine one_ (i := 2) (N := some 56) #[true, true, true, false, false] rfl rfl (by kernel_rfl) (by decide) (fun K hK => ?_)
  refine goes_ Try.func13 (by kernel_rfl) rfl #[.agg #[.slice A0_0 l0_0.length c0_0, .slice A0_1 l0_1.length c0_1]] (by rfl) rfl rfl Own.ha ?_
  with_reducible refine (laws_toCalendar.calls k _ _ l0_0 _ _ l0_1 x0 x1 _ (pc P00.out HZ.out).2 P00.out.1 (pc P01.out HZ.out).2 P01.out.1 A3.out).mono ?_
  rintro e wpa ⟨v_, u_, rfl, ho0, ho1, hb⟩
  refine ⟨_, rfl, ?_⟩
  replace HZ := Aside0.mk (below_step HZ.out hb)
  replace HX0 := Aside0.mk (Kd.R_below HX0.out hb)
  replace HX1 := Aside0.mk (Kd.R_below HX1.out hb)
  replace BX := Aside0.mk (blk_below BX.out hb)
  replace HY0 := Aside0.mk (Kd.R_below HY0.out hb)
  replace HY1 := Aside0.mk (Kd.R_below HY1.out hb)
  replace BY := Aside0.mk (blk_below BY.out hb)
  replace HG0 := Aside0.mk (Kd.R_below HG0.out hb)
  replace HG1 := Aside0.mk (Kd.R_below HG1.out hb)
  replace BG := Aside0.mk (blk_below BG.out hb)
  obtain ⟨Bn0, dn0, rfl⟩ := Kd.R_slice ho0; obtain ⟨Bn1, dn1, rfl⟩ := Kd.R_slice ho1; have Q0 := Aside0.mk (Kd.R_reads' ho0).2; have Q1 := Aside0.mk (Kd.R_reads' ho1).2; clear ho0 ho1 hb
  refine hK.out _ _ ⟨blk_cell BX.out 0, blk_cell BX.out 1, blk_cell (blk_below BKa.out HZ.out) 0, blk_cell (blk_below BKa.out HZ.out) 1⟩ (fun hHeld => ?_)
  clear hK K
  refine norm_ (a' := ?_) ?_ ?_
  rotate_left
  ·
   show Act.put _ (some 56) _ = _
   simp only [Own.ps]
   rfl
  refine one_ (i := 3) (N := some 57) #[true, true, true, true, false] rfl rfl (by kernel_rfl) (by decide) (fun K hK => ?_)
  refine goes_ Try.func15 (by kernel_rfl) rfl #[.agg #[(.slice Bx0 x0.length dx0), (.slice Bx1 x1.length dx1)], .agg #[.slice Bn0 x0.length dn0, .slice Bn1 x1.length dn1]] (by rfl) rfl rfl Own.ha ?_
  with_reducible refine (laws_eqCalendar.calls k _ _ x0 _ _ x1 _ _ x0 _ _ x1 true _ (Kd.R_reads' HX0.out).2.2 (Kd.R_reads' HX0.out).2.1 (Kd.R_reads' HX1.out).2.2 (Kd.R_reads' HX1.out).2.1 Q0.out.2 Q0.out.1 Q1.out.2 Q1.out.1 A8.out).mono ?_
  rintro e wpb ⟨rfl, hb⟩
  refine ⟨_, rfl, ?_⟩
  replace HZ := Aside0.mk (below_step HZ.out hb)
  replace HX0 := Aside0.mk (Kd.R_below HX0.out hb)
  replace HX1 := Aside0.mk (Kd.R_below HX1.out hb)
  replace BX := Aside0.mk (blk_below BX.out hb)
  replace HY0 := Aside0.mk (Kd.R_below HY0.out hb)
  replace HY1 := Aside0.mk (Kd.R_below HY1.out hb)
  replace BY := Aside0.mk (blk_below BY.out hb)
  replace HG0 := Aside0.mk (Kd.R_below HG0.out hb)
  replace HG1 := Aside0.mk (Kd.R_below HG1.out hb)
  replace BG := Aside0.mk (blk_below BG.out hb)
  clear hb Q0 Q1
  refine hK.out _ _ ⟨blk_cell BX.out 0, blk_cell BX.out 1, blk_cell (blk_below BKa.out HZ.out) 0, blk_cell (blk_below BKa.out HZ.out) 1⟩ (fun hHeld => ?_)
  clear hK K
  refine norm_ (a' := ?_) ?_ ?_
  rotate_left
  ·
   show Act.put _ (some 57) _ = _
   simp only [Own.ps]
   rfl
  refine pure_ (i := 4) (N := some 58) (v := ?_) (a' := ?_) #[true, true, true, true, true] rfl rfl (by kernel_rfl) (fun _ _ _ h => h) (Or.inl ⟨by rfl, ?_⟩) ?_ ?_
  rotate_left
  ·
   intro w'
   go_simp
   with_reducible rfl
  rotate_left
  ·
   simp only [Own.ps]
   rfl
  refine done_ (by kernel_rfl) ?_
  clear hHeld
  go_upto_region 16 with (fail)
  (try simp only [Own.ps])
  replace HX0 := Aside0.mk (Kd.R_drew HX0.out)
  replace HX1 := Aside0.mk (Kd.R_drew HX1.out)
  replace BX := Aside0.mk (blk_drew BX.out)
  replace HY0 := Aside0.mk (Kd.R_drew HY0.out)
  replace HY1 := Aside0.mk (Kd.R_drew HY1.out)
  replace BY := Aside0.mk (blk_drew BY.out)
  replace HG0 := Aside0.mk (Kd.R_drew HG0.out)
  replace HG1 := Aside0.mk (Kd.R_drew HG1.out)
  replace BG := Aside0.mk (blk_drew BG.out)
  replace HZ := Aside0.mk (below_drew1 HZ.out)
  refine start_ (n := 5) (S := fun w' => w'.cell? ⟨gy, 0, none⟩ = some (.slice By0 y0.length dy0) ∧ w'.cell? ⟨gy, 1, none⟩ = some (.slice By1 y1.length dy1) ∧ w'.cell? ⟨gb, 0, none⟩ = some (.slice A1_0 l1_0.length c1_0) ∧ w'.cell? ⟨gb, 1, none⟩ = some (.slice A1_1 l1_1.length c1_1)) (ds := []) #[false, false, false, false, false] (by kernel_rfl) rfl rfl ⟨blk_cell BY.out 0, blk_cell BY.out 1, blk_cell (blk_below BKb.out HZ.out) 0, blk_cell (blk_below BKb.out HZ.out) 1⟩ (fun hHeld => ?_)
  generalize wpb.drew = wq at HX0 HX1 BX HY0 HY1 BY HG0 HG1 BG HZ hHeld ⊢
  refine take_ (i := 0) (N := some 59) (v := ?_) (a' := ?_) #[true, false, false, false, false] rfl rfl (by kernel_rfl) (fun _ _ _ h => h) (Or.inl ⟨by rfl, ?_⟩) hHeld ?_ ?_
  rotate_left
  ·
   rintro w' ⟨q0, q1, q2, q3⟩
   go_simp
   with_reducible rfl
  rotate_left
  ·
   simp only [Own.ps]
   rfl
  refine take_ (i := 1) (N := some 60) (v := ?_) (a' := ?_) #[true, true, false, false, false] rfl rfl (by kernel_rfl) (fun _ _ _ h => h) (Or.inl ⟨by rfl, ?_⟩) hHeld ?_ ?_
  rotate_left
  ·
   rintro w' ⟨q0, q1, q2, q3⟩
   go_simp
   with_reducible rfl
  rotate_left
  ·
   simp only [Own.ps]
   rfl
  refine one_ (i := 2) (N := some 61) #[true, true, true, false, false] rfl rfl (by kernel_rfl) (by decide) (fun K hK => ?_)
  refine goes_ Try.func13 (by kernel_rfl) rfl #[.agg #[.slice A1_0 l1_0.length c1_0, .slice A1_1 l1_1.length c1_1]] (by rfl) rfl rfl Own.ha ?_
  with_reducible refine (laws_toCalendar.calls k _ _ l1_0 _ _ l1_1 y0 y1 _ (pc P10.out HZ.out).2 P10.out.1 (pc P11.out HZ.out).2 P11.out.1 A4.out).mono ?_
  rintro e wqa ⟨v_, u_, rfl, ho0, ho1, hb⟩
  refine ⟨_, rfl, ?_⟩
  replace HZ := Aside0.mk (below_step HZ.out hb)
  replace HX0 := Aside0.mk (Kd.R_below HX0.out hb)
  replace HX1 := Aside0.mk (Kd.R_below HX1.out hb)
  replace BX := Aside0.mk (blk_below BX.out hb)
  replace HY0 := Aside0.mk (Kd.R_below HY0.out hb)
  replace HY1 := Aside0.mk (Kd.R_below HY1.out hb)
  replace BY := Aside0.mk (blk_below BY.out hb)
  replace HG0 := Aside0.mk (Kd.R_below HG0.out hb)
  replace HG1 := Aside0.mk (Kd.R_below HG1.out hb)
  replace BG := Aside0.mk (blk_below BG.out hb)
  obtain ⟨Bn0, dn0, rfl⟩ := Kd.R_slice ho0; obtain ⟨Bn1, dn1, rfl⟩ := Kd.R_slice ho1; have Q0 := Aside0.mk (Kd.R_reads' ho0).2; have Q1 := Aside0.mk (Kd.R_reads' ho1).2; clear ho0 ho1 hb
  refine hK.out _ _ ⟨blk_cell BY.out 0, blk_cell BY.out 1, blk_cell (blk_below BKb.out HZ.out) 0, blk_cell (blk_below BKb.out HZ.out) 1⟩ (fun hHeld => ?_)
  clear hK K
  refine norm_ (a' := ?_) ?_ ?_
  rotate_left
  ·
   show Act.put _ (some 61) _ = _
   simp only [Own.ps]
   rfl
  refine one_ (i := 3) (N := some 62) #[true, true, true, true, false] rfl rfl (by kernel_rfl) (by decide) (fun K hK => ?_)
  refine goes_ Try.func15 (by kernel_rfl) rfl #[.agg #[(.slice By0 y0.length dy0), (.slice By1 y1.length dy1)], .agg #[.slice Bn0 y0.length dn0, .slice Bn1 y1.length dn1]] (by rfl) rfl rfl Own.ha ?_
  with_reducible refine (laws_eqCalendar.calls k _ _ y0 _ _ y1 _ _ y0 _ _ y1 true _ (Kd.R_reads' HY0.out).2.2 (Kd.R_reads' HY0.out).2.1 (Kd.R_reads' HY1.out).2.2 (Kd.R_reads' HY1.out).2.1 Q0.out.2 Q0.out.1 Q1.out.2 Q1.out.1 A9.out).mono ?_
  rintro e wqb ⟨rfl, hb⟩
  refine ⟨_, rfl, ?_⟩
  replace HZ := Aside0.mk (below_step HZ.out hb)
  replace HX0 := Aside0.mk (Kd.R_below HX0.out hb)
  replace HX1 := Aside0.mk (Kd.R_below HX1.out hb)
  replace BX := Aside0.mk (blk_below BX.out hb)
  replace HY0 := Aside0.mk (Kd.R_below HY0.out hb)
  replace HY1 := Aside0.mk (Kd.R_below HY1.out hb)
  replace BY := Aside0.mk (blk_below BY.out hb)
  replace HG0 := Aside0.mk (Kd.R_below HG0.out hb)
  replace HG1 := Aside0.mk (Kd.R_below HG1.out hb)
  replace BG := Aside0.mk (blk_below BG.out hb)
  clear hb Q0 Q1
  refine hK.out _ _ ⟨blk_cell BY.out 0, blk_cell BY.out 1, blk_cell (blk_below BKb.out HZ.out) 0, blk_cell (blk_below BKb.out HZ.out) 1⟩ (fun hHeld => ?_)
  clear hK K
  refine norm_ (a' := ?_) ?_ ?_
  rotate_left
  ·
   show Act.put _ (some 62) _ = _
   simp only [Own.ps]
   rfl
  refine pure_ (i := 4) (N := some 63) (v := ?_) (a' := ?_) #[true, true, true, true, true] rfl rfl (by kernel_rfl) (fun _ _ _ h => h) (Or.inl ⟨by rfl, ?_⟩) ?_ ?_
  rotate_left
  ·
   intro w'
   go_simp
   with_reducible rfl
  rotate_left
  ·
   simp only [Own.ps]
   rfl
  refine done_ (by kernel_rfl) ?_
  clear hHeld
  obtain ⟨yx0, yx1, zx0, zx1⟩ := Own.box2 BX.out
  go_upto_region 31 with (first | (go_at_call 16; (with_reducible refine (laws_markCalendar.calls k (fun k_ => some k_ = ((.slice Bx0 x0.length dx0) : Value).ownBlock) _ x0 (fun k_ => some k_ = ((.slice Bx1 x1.length dx1) : Value).ownBlock) _ x1 1 m1 m2 m3 w8 _ HZ.out (ro HX0.out) (apart_ HX0.out) (ro HX1.out) (apart_ HX1.out) A10.out).mono ?_); rintro e w19 ⟨rfl, hr0, hr1, hB, hk⟩; clear yx0 yx1 zx0 zx1; replace HY0 := Aside0.mk (Kd.R_kept HY0.out hk (fun k_ h_ hs_ => by have h9_ := NN.out; have h8_ := h_.1; rcases hs_ with hs_ | hs_; exact (by have h7_ := (rok HX0.out k_ hs_.symm).1; omega); exact (by have h7_ := (rok HX1.out k_ hs_.symm).1; omega))); replace HY1 := Aside0.mk (Kd.R_kept HY1.out hk (fun k_ h_ hs_ => by have h9_ := NN.out; have h8_ := h_.1; rcases hs_ with hs_ | hs_; exact (by have h7_ := (rok HX0.out k_ hs_.symm).1; omega); exact (by have h7_ := (rok HX1.out k_ hs_.symm).1; omega))); replace BY := Aside0.mk (blk_kept BY.out hk (fun hs_ => by have h9_ := NN.out; rcases hs_ with hs_ | hs_; exact (by have h7_ := (rok HX0.out _ hs_.symm).1; omega); exact (by have h7_ := (rok HX1.out _ hs_.symm).1; omega))); replace HG0 := Aside0.mk (Kd.R_kept HG0.out hk (fun k_ h_ hs_ => by have h9_ := NN.out; have h8_ := h_.1; rcases hs_ with hs_ | hs_; exact (by have h7_ := (rok HX0.out k_ hs_.symm).1; omega); exact (by have h7_ := (rok HX1.out k_ hs_.symm).1; omega))); replace HG1 := Aside0.mk (Kd.R_kept HG1.out hk (fun k_ h_ hs_ => by have h9_ := NN.out; have h8_ := h_.1; rcases hs_ with hs_ | hs_; exact (by have h7_ := (rok HX0.out k_ hs_.symm).1; omega); exact (by have h7_ := (rok HX1.out k_ hs_.symm).1; omega))); replace BG := Aside0.mk (blk_kept BG.out hk (fun hs_ => by have h9_ := NN.out; rcases hs_ with hs_ | hs_; exact (by have h7_ := (rok HX0.out _ hs_.symm).1; omega); exact (by have h7_ := (rok HX1.out _ hs_.symm).1; omega))); replace HZ := Aside0.mk hB; clear hr0 hr1 hB hk HX0 HX1; clear BX; obtain ⟨yy0, yy1, zy0, zy1⟩ := Own.box2 BY.out; have T1 := Aside0.mk True.intro) | (go_at_call 16; clear T1; (with_reducible refine (laws_markCalendar.calls k (fun k_ => some k_ = ((.slice By0 y0.length dy0) : Value).ownBlock) _ y0 (fun k_ => some k_ = ((.slice By1 y1.length dy1) : Value).ownBlock) _ y1 m1 n1 n2 n3 w8 _ HZ.out (ro HY0.out) (apart_ HY0.out) (ro HY1.out) (apart_ HY1.out) A11.out).mono ?_); rintro e w20 ⟨rfl, hr0, hr1, hB, hk⟩; clear yy0 yy1 zy0 zy1; replace HG0 := Aside0.mk (Kd.R_kept HG0.out hk (fun k_ h_ hs_ => by have h9_ := NN.out; have h8_ := h_.1; rcases hs_ with hs_ | hs_; exact (by have h7_ := (rok HY0.out k_ hs_.symm).1; omega); exact (by have h7_ := (rok HY1.out k_ hs_.symm).1; omega))); replace HG1 := Aside0.mk (Kd.R_kept HG1.out hk (fun k_ h_ hs_ => by have h9_ := NN.out; have h8_ := h_.1; rcases hs_ with hs_ | hs_; exact (by have h7_ := (rok HY0.out k_ hs_.symm).1; omega); exact (by have h7_ := (rok HY1.out k_ hs_.symm).1; omega))); replace BG := Aside0.mk (blk_kept BG.out hk (fun hs_ => by have h9_ := NN.out; rcases hs_ with hs_ | hs_; exact (by have h7_ := (rok HY0.out _ hs_.symm).1; omega); exact (by have h7_ := (rok HY1.out _ hs_.symm).1; omega))); replace HZ := Aside0.mk hB; clear hr0 hr1 hB hk HY0 HY1; clear BY; obtain ⟨yg0, yg1, zg0, zg1⟩ := Own.box2 BG.out; obtain ⟨ys0, ys1, zs0, zs1⟩ := Own.box2 (blk_below BS8.out HZ.out); have T2 := Aside0.mk True.intro) | (go_at_call 15; clear T2; (with_reducible refine (laws_eqCalendar.calls k _ _ g0 _ _ g1 _ _ s0 _ _ s1 true _ (Kd.R_reads' HG0.out).2.2 (Kd.R_reads' HG0.out).2.1 (Kd.R_reads' HG1.out).2.2 (Kd.R_reads' HG1.out).2.1 (pc SA.out HZ.out).2 SA.out.1 (pc SB.out HZ.out).2 SB.out.1 A7.out).mono ?_); rintro e w21 ⟨rfl, hb⟩; clear yg0 yg1 zg0 zg1 ys0 ys1 zs0 zs1; replace HZ := Aside0.mk (below_step HZ.out hb); replace HG0 := Aside0.mk (Kd.R_below HG0.out hb); replace HG1 := Aside0.mk (Kd.R_below HG1.out hb); replace BG := Aside0.mk (blk_below BG.out hb); clear hb; obtain ⟨yg0, yg1, zg0, zg1⟩ := Own.box2 BG.out; have T3 := Aside0.mk True.intro) | (go_at_call 16; clear T3; (with_reducible refine (laws_markCalendar.calls k (fun k_ => some k_ = ((.slice Bg0 g0.length dg0) : Value).ownBlock) _ g0 (fun k_ => some k_ = ((.slice Bg1 g1.length dg1) : Value).ownBlock) _ g1 1 q p2 p3 w8 _ HZ.out (ro HG0.out) (apart_ HG0.out) (ro HG1.out) (apart_ HG1.out) A12.out).mono ?_); rintro e w24 ⟨rfl, hr0, hr1, hB, hk⟩; clear yg0 yg1 zg0 zg1; replace BG := Aside0.mk (blk_kept BG.out hk (fun hs_ => by have h9_ := NN.out; rcases hs_ with hs_ | hs_; exact (by have h7_ := (rok HG0.out _ hs_.symm).1; omega); exact (by have h7_ := (rok HG1.out _ hs_.symm).1; omega))); have CG0 := Aside0.mk (Kd.R_reads' hr0); have CG1 := Aside0.mk (Kd.R_reads' hr1); replace HZ := Aside0.mk hB; clear hr0 hr1 hB hk HG0 HG1; obtain ⟨yg0, yg1, zg0, zg1⟩ := Own.box2 BG.out; have T4 := Aside0.mk True.intro) | (go_at_call 17; clear T4; have hc := laws_heldCalendar.calls k _ _ p2 _ _ p3 1 q _ CG0.out.2.2 (show p2.length ≤ _ from by rw [← CG0.out.1]; exact CG0.out.2.1) CG1.out.2.2 (show p3.length ≤ _ from by rw [← CG1.out.1]; exact CG1.out.2.1) A13.out; rw [← CG0.out.1, ← CG1.out.1] at hc; (with_reducible refine hc.mono ?_); rintro e w26 ⟨rfl, hb⟩; clear hc; clear yg0 yg1 zg0 zg1; replace HZ := Aside0.mk (below_step HZ.out hb); replace BG := Aside0.mk (blk_below BG.out hb); replace CG0 := Aside0.mk (show _ ∧ _ ∧ _ from ⟨CG0.out.1, CG0.out.2.1, Kd.C_below CG0.out.2.2 hb⟩); replace CG1 := Aside0.mk (show _ ∧ _ ∧ _ from ⟨CG1.out.1, CG1.out.2.1, Kd.C_below CG1.out.2.2 hb⟩); clear hb; have T5 := Aside0.mk True.intro))
  (try simp only [Own.ps])
  replace BKa := Aside0.mk (blk_below BKa.out HZ.out)
  replace BKb := Aside0.mk (blk_below BKb.out HZ.out)
  replace P00 := Aside0.mk (pc P00.out HZ.out)
  replace P01 := Aside0.mk (pc P01.out HZ.out)
  replace P10 := Aside0.mk (pc P10.out HZ.out)
  replace P11 := Aside0.mk (pc P11.out HZ.out)
  have HQ := HZ
  clear HZ
  have CH0 := Aside0.mk CG0.out.1
  have CH1 := Aside0.mk CG1.out.1
  have CI0 := Aside0.mk CG0.out.2
  have CI1 := Aside0.mk CG1.out.2
  clear CG0 CG1
  replace CI0 := Aside0.mk (show _ ∧ _ from ⟨CI0.out.1, Kd.C_drew CI0.out.2⟩)
  replace CI1 := Aside0.mk (show _ ∧ _ from ⟨CI1.out.1, Kd.C_drew CI1.out.2⟩)
  replace BKa := Aside0.mk (blk_drew BKa.out)
  replace BKb := Aside0.mk (blk_drew BKb.out)
  replace HQ := Aside0.mk (below_drew1 HQ.out)
  replace BG := Aside0.mk (blk_drew BG.out)
  replace P00 := Aside0.mk (pc P00.out (below_drew1 (Below.refl _ _)))
  replace P01 := Aside0.mk (pc P01.out (below_drew1 (Below.refl _ _)))
  replace P10 := Aside0.mk (pc P10.out (below_drew1 (Below.refl _ _)))
  replace P11 := Aside0.mk (pc P11.out (below_drew1 (Below.refl _ _)))
  replace CI0 := Aside0.mk (CI0.out)
  replace CI1 := Aside0.mk (CI1.out)
  refine start_ (n := 11) (S := fun w' => w'.cell? ⟨ga, 0, none⟩ = some (.slice A0_0 l0_0.length c0_0) ∧ w'.cell? ⟨ga, 1, none⟩ = some (.slice A0_1 l0_1.length c0_1) ∧ w'.cell? ⟨gb, 0, none⟩ = some (.slice A1_0 l1_0.length c1_0) ∧ w'.cell? ⟨gb, 1, none⟩ = some (.slice A1_1 l1_1.length c1_1)) (ds := []) #[false, false, false, false, false, false, false, false, false, false, false] (by kernel_rfl) rfl rfl ⟨blk_cell BKa.out 0, blk_cell BKa.out 1, blk_cell BKb.out 0, blk_cell BKb.out 1⟩ (fun hHeld => ?_); refine with_tabW laws_FnExactJoinCalendars.tab31 laws_FnExactJoinCalendars.bits31 (fun HT_ HW_ => ?_)
  generalize w26.drew = wy_ at BKa BKb HQ BG P00 P01 P10 P11 CI0 CI1 hHeld ⊢
  have HZ := Aside0.mk (Below.refl wy_.heap.size wy_)
  have LA := Aside0.mk (blk_lt BKa.out)
  have LB := Aside0.mk (blk_lt BKb.out)
  refine take_ (i := 0) (N := some 95) (v := ?_) (a' := ?_) #[true, false, false, false, false, false, false, false, false, false, false] rfl rfl (take_ofW HT_.out HW_.out (by kernel_rfl)) (fun _ _ _ h => h) (Or.inl ⟨by rfl, ?_⟩) hHeld ?_ ?_
  rotate_left
  ·
   rintro w' ⟨q0, q1, q2, q3⟩
   go_simp
   with_reducible rfl
  rotate_left
  ·
   simp only [Own.ps]
   rfl
  refine take_ (i := 2) (N := some 97) (v := ?_) (a' := ?_) #[true, false, true, false, false, false, false, false, false, false, false] rfl rfl (take_ofW HT_.out HW_.out (by kernel_rfl)) (fun _ _ _ h => h) (Or.inl ⟨by rfl, ?_⟩) hHeld ?_ ?_
  rotate_left
  ·
   rintro w' ⟨q0, q1, q2, q3⟩
   go_simp
   with_reducible rfl
  rotate_left
  ·
   simp only [Own.ps]
   rfl
  refine join_ (σ := Value × Value × Value × Value × Value × Value × Nat) 2 #[true, true, true, true, true, true, true, true, true, false, false] (fun s_ => [(96, .agg #[s_.1, s_.2.1]), (98, .agg #[s_.2.2.1, s_.2.2.2.1]), (99, .tuple #[.agg #[s_.2.2.2.2.1, s_.2.2.2.2.2.1], .bool g2]), (15, .pointer (some ⟨s_.2.2.2.2.2.2, 0, none⟩)), (94, .tuple #[.agg #[s_.2.2.2.2.1, s_.2.2.2.2.2.1], .bool g2]), (100, .agg #[s_.2.2.2.2.1, s_.2.2.2.2.2.1]), (101, .bool g2)]) (fun s_ w' => (w'.cell? ⟨ga, 0, none⟩ = some (.slice A0_0 l0_0.length c0_0) ∧ w'.cell? ⟨ga, 1, none⟩ = some (.slice A0_1 l0_1.length c0_1) ∧ w'.cell? ⟨gb, 0, none⟩ = some (.slice A1_0 l1_0.length c1_0) ∧ w'.cell? ⟨gb, 1, none⟩ = some (.slice A1_1 l1_1.length c1_1)) ∧ Kd.V (Kd.int .i64) 3 w' 0 (fun k_ => k_ ≠ s_.2.2.2.2.2.2) s_.2.2.2.2.1 g0 ∧ Kd.V (Kd.int .i64) 3 w' 0 (fun k_ => k_ ≠ s_.2.2.2.2.2.2) s_.2.2.2.2.2.1 g1 ∧ w'.heap[s_.2.2.2.2.2.2]? = some (.cells #[.slice none 0 0, .slice none 0 0] 26 (0, 0)) ∧ wy_.heap.size ≤ s_.2.2.2.2.2.2 ∧ Below wy_.heap.size wy_ w' ∧ w'.heap[ga]? = some (.cells #[.slice A0_0 l0_0.length c0_0, .slice A0_1 l0_1.length c0_1] 33 (0, 0)) ∧ w'.heap[gb]? = some (.cells #[.slice A1_0 l1_0.length c1_0, .slice A1_1 l1_1.length c1_1] 33 (0, 0))) ?_ ?_
  rotate_left
  ·
   intro hCont
   refine two_ (i := 1) (j := 8) (Ni := some 96) (Nj := some 15) #[true, true, true, false, false, false, false, false, false, false, false] #[true, false, true, false, false, false, false, false, true, false, false] rfl rfl rfl rfl (two_of HT_.out (by kernel_rfl)) (by decide) (by decide) (fun K hK => ?_) (fun K hK => ?_)
   ·
    refine goes_ Try.func13 (by kernel_rfl) rfl #[.agg #[.slice A0_0 l0_0.length c0_0, .slice A0_1 l0_1.length c0_1]] (by rfl) rfl rfl Own.ha ?_
    with_reducible refine (laws_toCalendar.calls k _ _ l0_0 _ _ l0_1 x0 x1 _ (Kd.C_below P00.out.2 HZ.out) P00.out.1 (Kd.C_below P01.out.2 HZ.out) P01.out.1 A3.out).mono ?_
    rintro e wy_c1 ⟨v_, u_, rfl, ho0, ho1, hb⟩
    refine ⟨_, rfl, ?_⟩
    replace BKa := Aside0.mk (blk_below BKa.out hb); replace BKb := Aside0.mk (blk_below BKb.out hb); replace HZ := Aside0.mk (below_step HZ.out hb)
    obtain ⟨BA, dA, rfl⟩ := Kd.R_slice ho0; obtain ⟨EA, fA, rfl⟩ := Kd.R_slice ho1; have PA0 := Aside0.mk (Kd.R_reads' ho0).2; have PA1 := Aside0.mk (Kd.R_reads' ho1).2; clear ho0 ho1 hb
    refine hK.out _ _ ⟨blk_cell BKa.out 0, blk_cell BKa.out 1, blk_cell BKb.out 0, blk_cell BKb.out 1⟩ (fun hHeld => ?_)
    clear hK K
    refine norm_ (a' := ?_) ?_ ?_
    rotate_left
    ·
     show Act.put _ (some 96) _ = _
     simp only [Own.ps]
     rfl
    refine two_ (i := 3) (j := 8) (Ni := some 98) (Nj := some 15) #[true, true, true, true, false, false, false, false, false, false, false] #[true, true, true, false, false, false, false, false, true, false, false] rfl rfl rfl rfl (two_of HT_.out (by kernel_rfl)) (by decide) (by decide) (fun K hK => ?_) (fun K hK => ?_)
    ·
     refine goes_ Try.func13 (by kernel_rfl) rfl #[.agg #[.slice A1_0 l1_0.length c1_0, .slice A1_1 l1_1.length c1_1]] (by rfl) rfl rfl Own.ha ?_
     with_reducible refine (laws_toCalendar.calls k _ _ l1_0 _ _ l1_1 y0 y1 _ (Kd.C_below P10.out.2 HZ.out) P10.out.1 (Kd.C_below P11.out.2 HZ.out) P11.out.1 A4.out).mono ?_
     rintro e wy_c2 ⟨v_, u_, rfl, ho0, ho1, hb⟩
     refine ⟨_, rfl, ?_⟩
     replace BKa := Aside0.mk (blk_below BKa.out hb); replace BKb := Aside0.mk (blk_below BKb.out hb); replace HZ := Aside0.mk (below_step HZ.out hb)
     replace PA0 := Aside0.mk (pc PA0.out hb)
     replace PA1 := Aside0.mk (pc PA1.out hb)
     obtain ⟨BB, dB, rfl⟩ := Kd.R_slice ho0; obtain ⟨EB, fB, rfl⟩ := Kd.R_slice ho1; have PB0 := Aside0.mk (Kd.R_reads' ho0).2; have PB1 := Aside0.mk (Kd.R_reads' ho1).2; clear ho0 ho1 hb
     refine hK.out _ _ ⟨blk_cell BKa.out 0, blk_cell BKa.out 1, blk_cell BKb.out 0, blk_cell BKb.out 1⟩ (fun hHeld => ?_)
     clear hK K
     refine norm_ (a' := ?_) ?_ ?_
     rotate_left
     ·
      show Act.put _ (some 98) _ = _
      simp only [Own.ps]
      rfl
     refine two_ (i := 4) (j := 8) (Ni := some 99) (Nj := some 15) #[true, true, true, true, true, false, false, false, false, false, false] #[true, true, true, true, false, false, false, false, true, false, false] rfl rfl rfl rfl (two_of HT_.out (by kernel_rfl)) (by decide) (by decide) (fun K hK => ?_) (fun K hK => ?_)
     ·
      refine goes_ Try.func14 (by kernel_rfl) rfl #[.agg #[.slice BA x0.length dA, .slice EA x1.length fA], .agg #[.slice BB y0.length dB, .slice EB y1.length fB]] (by rfl) rfl rfl Own.ha ?_
      with_reducible refine (impl_JoinCalendars.calls k _ _ x0 _ _ x1 _ _ y0 _ _ y1 g0 g1 g2 _ PA0.out.2 PA0.out.1 PA1.out.2 PA1.out.1 PB0.out.2 PB0.out.1 PB1.out.2 PB1.out.1 A6.out).mono ?_
      rintro e wy_c3 ⟨v_, u_, rfl, ho0, ho1, hb⟩
      refine ⟨_, rfl, ?_⟩
      have V0 := Aside0.mk (rv ho0)
      have V1 := Aside0.mk (rv ho1)
      replace BKa := Aside0.mk (blk_below BKa.out hb); replace BKb := Aside0.mk (blk_below BKb.out hb); replace HZ := Aside0.mk (below_step HZ.out hb)
      clear ho0 ho1 hb PA0 PA1 PB0 PB1
      refine hK.out _ _ ⟨blk_cell BKa.out 0, blk_cell BKa.out 1, blk_cell BKb.out 0, blk_cell BKb.out 1⟩ (fun hHeld => ?_)
      clear hK K
      refine norm_ (a' := ?_) ?_ ?_
      rotate_left
      ·
       show Act.put _ (some 99) _ = _
       simp only [Own.ps]
       rfl
      refine pure_ (i := 5) (N := some 94) (v := ?_) (a' := ?_) #[true, true, true, true, true, true, false, false, false, false, false] rfl rfl (any_of HT_.out (by kernel_rfl)) (fun _ _ _ h => h) (Or.inl ⟨by rfl, ?_⟩) ?_ ?_
      rotate_left
      ·
       intro w'
       go_simp
       with_reducible rfl
      rotate_left
      ·
       simp only [Own.ps]
       rfl
      refine pure_ (i := 6) (N := some 100) (v := ?_) (a' := ?_) #[true, true, true, true, true, true, true, false, false, false, false] rfl rfl (any_of HT_.out (by kernel_rfl)) (fun _ _ _ h => h) (Or.inl ⟨by rfl, ?_⟩) ?_ ?_
      rotate_left
      ·
       intro w'
       go_simp
       with_reducible rfl
      rotate_left
      ·
       simp only [Own.ps]
       rfl
      refine pure_ (i := 7) (N := some 101) (v := ?_) (a' := ?_) #[true, true, true, true, true, true, true, true, false, false, false] rfl rfl (any_of HT_.out (by kernel_rfl)) (fun _ _ _ h => h) (Or.inl ⟨by rfl, ?_⟩) ?_ ?_
      rotate_left
      ·
       intro w'
       go_simp
       with_reducible rfl
      rotate_left
      ·
       simp only [Own.ps]
       rfl
      refine one_ (i := 8) (N := some 15) #[true, true, true, true, true, true, true, true, true, false, false] rfl rfl (one_of HT_.out (by kernel_rfl)) (by decide) (fun K hK => ?_)
      refine box_step ?hg (N := 15) ?hd (cs := #[.slice none 0 0, .slice none 0 0]) (t := 26) ?hr ?_; (case hd => rfl); (case hg => rfl); (case hr => first | (go_simp; done) | (go_simp; rfl))
      intro gh hg wy_c4 hbox hb
      have GS := Aside0.mk (show wy_.heap.size ≤ gh from by rw [hg]; exact HZ.out.size)
      replace V0 := Aside0.mk (Kd.V_below (Kd.V_mono (Kd.V_elderB V0.out gh (Nat.le_of_eq hg.symm)) (ok' := fun k_ => k_ ≠ gh) (fun _ h_ => h_.2)) hb)
      replace V1 := Aside0.mk (Kd.V_below (Kd.V_mono (Kd.V_elderB V1.out gh (Nat.le_of_eq hg.symm)) (ok' := fun k_ => k_ ≠ gh) (fun _ h_ => h_.2)) hb)
      replace BKa := Aside0.mk (blk_below BKa.out hb); replace BKb := Aside0.mk (blk_below BKb.out hb); replace HZ := Aside0.mk (below_step HZ.out hb)
      have BS := Aside0.mk hbox
      clear hg hbox hb
      refine hK.out _ _ ⟨blk_cell BKa.out 0, blk_cell BKa.out 1, blk_cell BKb.out 0, blk_cell BKb.out 1⟩ (fun hHeld => ?_)
      clear hK K
      refine norm_ (a' := ?_) ?_ ?_
      rotate_left
      ·
       show Act.put _ (some 15) _ = _
       simp only [Own.ps]
       rfl
      exact norm_ (by simp only [putAll, Act.put, List.setIfInBounds_toArray, List.set_cons_zero, List.set_cons_succ]) (hCont (.slice BA x0.length dA, .slice EA x1.length fA, .slice BB y0.length dB, .slice EB y1.length fB, v_, u_, gh) _ ⟨hHeld, V0.out, V1.out, BS.out, GS.out, HZ.out, BKa.out, BKb.out⟩)
     ·
      refine box_step ?hg (N := 15) ?hd (cs := #[.slice none 0 0, .slice none 0 0]) (t := 26) ?hr ?_; (case hd => rfl); (case hg => rfl); (case hr => first | (go_simp; done) | (go_simp; rfl))
      intro gh hg wy_c5 hbox hb
      have GS := Aside0.mk (show wy_.heap.size ≤ gh from by rw [hg]; exact HZ.out.size)
      replace BKa := Aside0.mk (blk_below BKa.out hb); replace BKb := Aside0.mk (blk_below BKb.out hb); replace HZ := Aside0.mk (below_step HZ.out hb)
      replace PA0 := Aside0.mk (pc PA0.out hb)
      replace PA1 := Aside0.mk (pc PA1.out hb)
      replace PB0 := Aside0.mk (pc PB0.out hb)
      replace PB1 := Aside0.mk (pc PB1.out hb)
      have BS := Aside0.mk hbox
      clear hg hbox hb
      refine hK.out _ _ ⟨blk_cell BKa.out 0, blk_cell BKa.out 1, blk_cell BKb.out 0, blk_cell BKb.out 1⟩ (fun hHeld => ?_)
      clear hK K
      refine norm_ (a' := ?_) ?_ ?_
      rotate_left
      ·
       show Act.put _ (some 15) _ = _
       simp only [Own.ps]
       rfl
      refine one_ (i := 4) (N := some 99) #[true, true, true, true, true, false, false, false, true, false, false] rfl rfl (one_of HT_.out (by kernel_rfl)) (by decide) (fun K hK => ?_)
      refine goes_ Try.func14 (by kernel_rfl) rfl #[.agg #[.slice BA x0.length dA, .slice EA x1.length fA], .agg #[.slice BB y0.length dB, .slice EB y1.length fB]] (by rfl) rfl rfl Own.ha ?_
      with_reducible refine (impl_JoinCalendars.calls k _ _ x0 _ _ x1 _ _ y0 _ _ y1 g0 g1 g2 _ PA0.out.2 PA0.out.1 PA1.out.2 PA1.out.1 PB0.out.2 PB0.out.1 PB1.out.2 PB1.out.1 A6.out).mono ?_
      rintro e wy_c6 ⟨v_, u_, rfl, ho0, ho1, hb⟩
      refine ⟨_, rfl, ?_⟩
      have V0 := Aside0.mk (Kd.V_mono (rv ho0) (ok' := fun k_ => k_ ≠ gh) (fun k_ h_ => by have h1_ := blk_lt BS.out; omega))
      have V1 := Aside0.mk (Kd.V_mono (rv ho1) (ok' := fun k_ => k_ ≠ gh) (fun k_ h_ => by have h1_ := blk_lt BS.out; omega))
      replace BKa := Aside0.mk (blk_below BKa.out hb); replace BKb := Aside0.mk (blk_below BKb.out hb); replace HZ := Aside0.mk (below_step HZ.out hb)
      replace BS := Aside0.mk (blk_below BS.out hb)
      clear ho0 ho1 hb PA0 PA1 PB0 PB1
      refine hK.out _ _ ⟨blk_cell BKa.out 0, blk_cell BKa.out 1, blk_cell BKb.out 0, blk_cell BKb.out 1⟩ (fun hHeld => ?_)
      clear hK K
      refine norm_ (a' := ?_) ?_ ?_
      rotate_left
      ·
       show Act.put _ (some 99) _ = _
       simp only [Own.ps]
       rfl
      refine pure_ (i := 5) (N := some 94) (v := ?_) (a' := ?_) #[true, true, true, true, true, true, false, false, true, false, false] rfl rfl (any_of HT_.out (by kernel_rfl)) (fun _ _ _ h => h) (Or.inl ⟨by rfl, ?_⟩) ?_ ?_
      rotate_left
      ·
       intro w'
       go_simp
       with_reducible rfl
      rotate_left
      ·
       simp only [Own.ps]
       rfl
      refine pure_ (i := 6) (N := some 100) (v := ?_) (a' := ?_) #[true, true, true, true, true, true, true, false, true, false, false] rfl rfl (any_of HT_.out (by kernel_rfl)) (fun _ _ _ h => h) (Or.inl ⟨by rfl, ?_⟩) ?_ ?_
      rotate_left
      ·
       intro w'
       go_simp
       with_reducible rfl
      rotate_left
      ·
       simp only [Own.ps]
       rfl
      refine pure_ (i := 7) (N := some 101) (v := ?_) (a' := ?_) #[true, true, true, true, true, true, true, true, true, false, false] rfl rfl (any_of HT_.out (by kernel_rfl)) (fun _ _ _ h => h) (Or.inl ⟨by rfl, ?_⟩) ?_ ?_
      rotate_left
      ·
       intro w'
       go_simp
       with_reducible rfl
      rotate_left
      ·
       simp only [Own.ps]
       rfl
      exact norm_ (by simp only [putAll, Act.put, List.setIfInBounds_toArray, List.set_cons_zero, List.set_cons_succ]) (hCont (.slice BA x0.length dA, .slice EA x1.length fA, .slice BB y0.length dB, .slice EB y1.length fB, v_, u_, gh) _ ⟨hHeld, V0.out, V1.out, BS.out, GS.out, HZ.out, BKa.out, BKb.out⟩)
    ·
     refine box_step ?hg (N := 15) ?hd (cs := #[.slice none 0 0, .slice none 0 0]) (t := 26) ?hr ?_; (case hd => rfl); (case hg => rfl); (case hr => first | (go_simp; done) | (go_simp; rfl))
     intro gh hg wy_c7 hbox hb
     have GS := Aside0.mk (show wy_.heap.size ≤ gh from by rw [hg]; exact HZ.out.size)
     replace BKa := Aside0.mk (blk_below BKa.out hb); replace BKb := Aside0.mk (blk_below BKb.out hb); replace HZ := Aside0.mk (below_step HZ.out hb)
     replace PA0 := Aside0.mk (pc PA0.out hb)
     replace PA1 := Aside0.mk (pc PA1.out hb)
     have BS := Aside0.mk hbox
     clear hg hbox hb
     refine hK.out _ _ ⟨blk_cell BKa.out 0, blk_cell BKa.out 1, blk_cell BKb.out 0, blk_cell BKb.out 1⟩ (fun hHeld => ?_)
     clear hK K
     refine norm_ (a' := ?_) ?_ ?_
     rotate_left
     ·
      show Act.put _ (some 15) _ = _
      simp only [Own.ps]
      rfl
     refine one_ (i := 3) (N := some 98) #[true, true, true, true, false, false, false, false, true, false, false] rfl rfl (one_of HT_.out (by kernel_rfl)) (by decide) (fun K hK => ?_)
     refine goes_ Try.func13 (by kernel_rfl) rfl #[.agg #[.slice A1_0 l1_0.length c1_0, .slice A1_1 l1_1.length c1_1]] (by rfl) rfl rfl Own.ha ?_
     with_reducible refine (laws_toCalendar.calls k _ _ l1_0 _ _ l1_1 y0 y1 _ (Kd.C_below P10.out.2 HZ.out) P10.out.1 (Kd.C_below P11.out.2 HZ.out) P11.out.1 A4.out).mono ?_
     rintro e wy_c8 ⟨v_, u_, rfl, ho0, ho1, hb⟩
     refine ⟨_, rfl, ?_⟩
     replace BKa := Aside0.mk (blk_below BKa.out hb); replace BKb := Aside0.mk (blk_below BKb.out hb); replace HZ := Aside0.mk (below_step HZ.out hb)
     replace PA0 := Aside0.mk (pc PA0.out hb)
     replace PA1 := Aside0.mk (pc PA1.out hb)
     replace BS := Aside0.mk (blk_below BS.out hb)
     obtain ⟨BB, dB, rfl⟩ := Kd.R_slice ho0; obtain ⟨EB, fB, rfl⟩ := Kd.R_slice ho1; have PB0 := Aside0.mk (Kd.R_reads' ho0).2; have PB1 := Aside0.mk (Kd.R_reads' ho1).2; clear ho0 ho1 hb
     refine hK.out _ _ ⟨blk_cell BKa.out 0, blk_cell BKa.out 1, blk_cell BKb.out 0, blk_cell BKb.out 1⟩ (fun hHeld => ?_)
     clear hK K
     refine norm_ (a' := ?_) ?_ ?_
     rotate_left
     ·
      show Act.put _ (some 98) _ = _
      simp only [Own.ps]
      rfl
     refine one_ (i := 4) (N := some 99) #[true, true, true, true, true, false, false, false, true, false, false] rfl rfl (one_of HT_.out (by kernel_rfl)) (by decide) (fun K hK => ?_)
     refine goes_ Try.func14 (by kernel_rfl) rfl #[.agg #[.slice BA x0.length dA, .slice EA x1.length fA], .agg #[.slice BB y0.length dB, .slice EB y1.length fB]] (by rfl) rfl rfl Own.ha ?_
     with_reducible refine (impl_JoinCalendars.calls k _ _ x0 _ _ x1 _ _ y0 _ _ y1 g0 g1 g2 _ PA0.out.2 PA0.out.1 PA1.out.2 PA1.out.1 PB0.out.2 PB0.out.1 PB1.out.2 PB1.out.1 A6.out).mono ?_
     rintro e wy_c9 ⟨v_, u_, rfl, ho0, ho1, hb⟩
     refine ⟨_, rfl, ?_⟩
     have V0 := Aside0.mk (Kd.V_mono (rv ho0) (ok' := fun k_ => k_ ≠ gh) (fun k_ h_ => by have h1_ := blk_lt BS.out; omega))
     have V1 := Aside0.mk (Kd.V_mono (rv ho1) (ok' := fun k_ => k_ ≠ gh) (fun k_ h_ => by have h1_ := blk_lt BS.out; omega))
     replace BKa := Aside0.mk (blk_below BKa.out hb); replace BKb := Aside0.mk (blk_below BKb.out hb); replace HZ := Aside0.mk (below_step HZ.out hb)
     replace BS := Aside0.mk (blk_below BS.out hb)
     clear ho0 ho1 hb PA0 PA1 PB0 PB1
     refine hK.out _ _ ⟨blk_cell BKa.out 0, blk_cell BKa.out 1, blk_cell BKb.out 0, blk_cell BKb.out 1⟩ (fun hHeld => ?_)
     clear hK K
     refine norm_ (a' := ?_) ?_ ?_
     rotate_left
     ·
      show Act.put _ (some 99) _ = _
      simp only [Own.ps]
      rfl
     refine pure_ (i := 5) (N := some 94) (v := ?_) (a' := ?_) #[true, true, true, true, true, true, false, false, true, false, false] rfl rfl (any_of HT_.out (by kernel_rfl)) (fun _ _ _ h => h) (Or.inl ⟨by rfl, ?_⟩) ?_ ?_
     rotate_left
     ·
      intro w'
      go_simp
      with_reducible rfl
     rotate_left
     ·
      simp only [Own.ps]
      rfl
     refine pure_ (i := 6) (N := some 100) (v := ?_) (a' := ?_) #[true, true, true, true, true, true, true, false, true, false, false] rfl rfl (any_of HT_.out (by kernel_rfl)) (fun _ _ _ h => h) (Or.inl ⟨by rfl, ?_⟩) ?_ ?_
     rotate_left
     ·
      intro w'
      go_simp
      with_reducible rfl
     rotate_left
     ·
      simp only [Own.ps]
      rfl
     refine pure_ (i := 7) (N := some 101) (v := ?_) (a' := ?_) #[true, true, true, true, true, true, true, true, true, false, false] rfl rfl (any_of HT_.out (by kernel_rfl)) (fun _ _ _ h => h) (Or.inl ⟨by rfl, ?_⟩) ?_ ?_
     rotate_left
     ·
      intro w'
      go_simp
      with_reducible rfl
     rotate_left
     ·
      simp only [Own.ps]
      rfl
     exact norm_ (by simp only [putAll, Act.put, List.setIfInBounds_toArray, List.set_cons_zero, List.set_cons_succ]) (hCont (.slice BA x0.length dA, .slice EA x1.length fA, .slice BB y0.length dB, .slice EB y1.length fB, v_, u_, gh) _ ⟨hHeld, V0.out, V1.out, BS.out, GS.out, HZ.out, BKa.out, BKb.out⟩)
   ·
    refine box_step ?hg (N := 15) ?hd (cs := #[.slice none 0 0, .slice none 0 0]) (t := 26) ?hr ?_; (case hd => rfl); (case hg => rfl); (case hr => first | (go_simp; done) | (go_simp; rfl))
    intro gh hg wy_c10 hbox hb
    have GS := Aside0.mk (show wy_.heap.size ≤ gh from by rw [hg]; exact HZ.out.size)
    replace BKa := Aside0.mk (blk_below BKa.out hb); replace BKb := Aside0.mk (blk_below BKb.out hb); replace HZ := Aside0.mk (below_step HZ.out hb)
    have BS := Aside0.mk hbox
    clear hg hbox hb
    refine hK.out _ _ ⟨blk_cell BKa.out 0, blk_cell BKa.out 1, blk_cell BKb.out 0, blk_cell BKb.out 1⟩ (fun hHeld => ?_)
    clear hK K
    refine norm_ (a' := ?_) ?_ ?_
    rotate_left
    ·
     show Act.put _ (some 15) _ = _
     simp only [Own.ps]
     rfl
    refine one_ (i := 1) (N := some 96) #[true, true, true, false, false, false, false, false, true, false, false] rfl rfl (one_of HT_.out (by kernel_rfl)) (by decide) (fun K hK => ?_)
    refine goes_ Try.func13 (by kernel_rfl) rfl #[.agg #[.slice A0_0 l0_0.length c0_0, .slice A0_1 l0_1.length c0_1]] (by rfl) rfl rfl Own.ha ?_
    with_reducible refine (laws_toCalendar.calls k _ _ l0_0 _ _ l0_1 x0 x1 _ (Kd.C_below P00.out.2 HZ.out) P00.out.1 (Kd.C_below P01.out.2 HZ.out) P01.out.1 A3.out).mono ?_
    rintro e wy_c11 ⟨v_, u_, rfl, ho0, ho1, hb⟩
    refine ⟨_, rfl, ?_⟩
    replace BKa := Aside0.mk (blk_below BKa.out hb); replace BKb := Aside0.mk (blk_below BKb.out hb); replace HZ := Aside0.mk (below_step HZ.out hb)
    replace BS := Aside0.mk (blk_below BS.out hb)
    obtain ⟨BA, dA, rfl⟩ := Kd.R_slice ho0; obtain ⟨EA, fA, rfl⟩ := Kd.R_slice ho1; have PA0 := Aside0.mk (Kd.R_reads' ho0).2; have PA1 := Aside0.mk (Kd.R_reads' ho1).2; clear ho0 ho1 hb
    refine hK.out _ _ ⟨blk_cell BKa.out 0, blk_cell BKa.out 1, blk_cell BKb.out 0, blk_cell BKb.out 1⟩ (fun hHeld => ?_)
    clear hK K
    refine norm_ (a' := ?_) ?_ ?_
    rotate_left
    ·
     show Act.put _ (some 96) _ = _
     simp only [Own.ps]
     rfl
    refine one_ (i := 3) (N := some 98) #[true, true, true, true, false, false, false, false, true, false, false] rfl rfl (one_of HT_.out (by kernel_rfl)) (by decide) (fun K hK => ?_)
    refine goes_ Try.func13 (by kernel_rfl) rfl #[.agg #[.slice A1_0 l1_0.length c1_0, .slice A1_1 l1_1.length c1_1]] (by rfl) rfl rfl Own.ha ?_
    with_reducible refine (laws_toCalendar.calls k _ _ l1_0 _ _ l1_1 y0 y1 _ (Kd.C_below P10.out.2 HZ.out) P10.out.1 (Kd.C_below P11.out.2 HZ.out) P11.out.1 A4.out).mono ?_
    rintro e wy_c12 ⟨v_, u_, rfl, ho0, ho1, hb⟩
    refine ⟨_, rfl, ?_⟩
    replace BKa := Aside0.mk (blk_below BKa.out hb); replace BKb := Aside0.mk (blk_below BKb.out hb); replace HZ := Aside0.mk (below_step HZ.out hb)
    replace BS := Aside0.mk (blk_below BS.out hb)
    replace PA0 := Aside0.mk (pc PA0.out hb)
    replace PA1 := Aside0.mk (pc PA1.out hb)
    obtain ⟨BB, dB, rfl⟩ := Kd.R_slice ho0; obtain ⟨EB, fB, rfl⟩ := Kd.R_slice ho1; have PB0 := Aside0.mk (Kd.R_reads' ho0).2; have PB1 := Aside0.mk (Kd.R_reads' ho1).2; clear ho0 ho1 hb
    refine hK.out _ _ ⟨blk_cell BKa.out 0, blk_cell BKa.out 1, blk_cell BKb.out 0, blk_cell BKb.out 1⟩ (fun hHeld => ?_)
    clear hK K
    refine norm_ (a' := ?_) ?_ ?_
    rotate_left
    ·
     show Act.put _ (some 98) _ = _
     simp only [Own.ps]
     rfl
    refine one_ (i := 4) (N := some 99) #[true, true, true, true, true, false, false, false, true, false, false] rfl rfl (one_of HT_.out (by kernel_rfl)) (by decide) (fun K hK => ?_)
    refine goes_ Try.func14 (by kernel_rfl) rfl #[.agg #[.slice BA x0.length dA, .slice EA x1.length fA], .agg #[.slice BB y0.length dB, .slice EB y1.length fB]] (by rfl) rfl rfl Own.ha ?_
    with_reducible refine (impl_JoinCalendars.calls k _ _ x0 _ _ x1 _ _ y0 _ _ y1 g0 g1 g2 _ PA0.out.2 PA0.out.1 PA1.out.2 PA1.out.1 PB0.out.2 PB0.out.1 PB1.out.2 PB1.out.1 A6.out).mono ?_
    rintro e wy_c13 ⟨v_, u_, rfl, ho0, ho1, hb⟩
    refine ⟨_, rfl, ?_⟩
    have V0 := Aside0.mk (Kd.V_mono (rv ho0) (ok' := fun k_ => k_ ≠ gh) (fun k_ h_ => by have h1_ := blk_lt BS.out; omega))
    have V1 := Aside0.mk (Kd.V_mono (rv ho1) (ok' := fun k_ => k_ ≠ gh) (fun k_ h_ => by have h1_ := blk_lt BS.out; omega))
    replace BKa := Aside0.mk (blk_below BKa.out hb); replace BKb := Aside0.mk (blk_below BKb.out hb); replace HZ := Aside0.mk (below_step HZ.out hb)
    replace BS := Aside0.mk (blk_below BS.out hb)
    clear ho0 ho1 hb PA0 PA1 PB0 PB1
    refine hK.out _ _ ⟨blk_cell BKa.out 0, blk_cell BKa.out 1, blk_cell BKb.out 0, blk_cell BKb.out 1⟩ (fun hHeld => ?_)
    clear hK K
    refine norm_ (a' := ?_) ?_ ?_
    rotate_left
    ·
     show Act.put _ (some 99) _ = _
     simp only [Own.ps]
     rfl
    refine pure_ (i := 5) (N := some 94) (v := ?_) (a' := ?_) #[true, true, true, true, true, true, false, false, true, false, false] rfl rfl (any_of HT_.out (by kernel_rfl)) (fun _ _ _ h => h) (Or.inl ⟨by rfl, ?_⟩) ?_ ?_
    rotate_left
    ·
     intro w'
     go_simp
     with_reducible rfl
    rotate_left
    ·
     simp only [Own.ps]
     rfl
    refine pure_ (i := 6) (N := some 100) (v := ?_) (a' := ?_) #[true, true, true, true, true, true, true, false, true, false, false] rfl rfl (any_of HT_.out (by kernel_rfl)) (fun _ _ _ h => h) (Or.inl ⟨by rfl, ?_⟩) ?_ ?_
    rotate_left
    ·
     intro w'
     go_simp
     with_reducible rfl
    rotate_left
    ·
     simp only [Own.ps]
     rfl
    refine pure_ (i := 7) (N := some 101) (v := ?_) (a' := ?_) #[true, true, true, true, true, true, true, true, true, false, false] rfl rfl (any_of HT_.out (by kernel_rfl)) (fun _ _ _ h => h) (Or.inl ⟨by rfl, ?_⟩) ?_ ?_
    rotate_left
    ·
     intro w'
     go_simp
     with_reducible rfl
    rotate_left
    ·
     simp only [Own.ps]
     rfl
    exact norm_ (by simp only [putAll, Act.put, List.setIfInBounds_toArray, List.set_cons_zero, List.set_cons_succ]) (hCont (.slice BA x0.length dA, .slice EA x1.length fA, .slice BB y0.length dB, .slice EB y1.length fB, v_, u_, gh) _ ⟨hHeld, V0.out, V1.out, BS.out, GS.out, HZ.out, BKa.out, BKb.out⟩)
  rintro ⟨va0, va1, vb0, vb1, v0, v1, gh⟩ wy_j ⟨hS_, hv0, hv1, hbs, hgs, hz, hka, hkb⟩
  replace hv0 : Kd.V (Kd.int .i64) 3 wy_j 0 (fun k_ => k_ ≠ gh) v0 g0 := hv0
  replace hv1 : Kd.V (Kd.int .i64) 3 wy_j 0 (fun k_ => k_ ≠ gh) v1 g1 := hv1
  replace hbs : wy_j.heap[gh]? = some (.cells #[.slice none 0 0, .slice none 0 0] 26 (0, 0)) := hbs
  replace hgs : wy_.heap.size ≤ gh := hgs
  replace hz : Below wy_.heap.size wy_ wy_j := hz
  replace hka : wy_j.heap[ga]? = some (.cells #[.slice A0_0 l0_0.length c0_0, .slice A0_1 l0_1.length c0_1] 33 (0, 0)) := hka
  replace hkb : wy_j.heap[gb]? = some (.cells #[.slice A1_0 l1_0.length c1_0, .slice A1_1 l1_1.length c1_1] 33 (0, 0)) := hkb
  obtain ⟨Bh0, dh0, rfl⟩ := Kd.V_slice hv0
  obtain ⟨Bh1, dh1, rfl⟩ := Kd.V_slice hv1
  have hna : ga ≠ gh := by have := LA.out; omega
  have hnb : gb ≠ gh := by have := LB.out; omega
  clear BKa BKb HZ
  have BKa := Aside0.mk (put_f hka hna (.slice Bh0 g0.length dh0) (.slice Bh1 g1.length dh1))
  have BKb := Aside0.mk (put_f hkb hnb (.slice Bh0 g0.length dh0) (.slice Bh1 g1.length dh1))
  refine norm_ (a' := ?_) ?_ ?_
  rotate_left
  ·
   simp only [putAll, Act.put, List.setIfInBounds_toArray, List.set_cons_zero, List.set_cons_succ]
   rfl
  refine one_ (i := 9) (N := none) #[true, true, true, true, true, true, true, true, true, true, false] rfl rfl (one_of HT_.out (by kernel_rfl)) (by decide) (fun K hK => ?_)
  obtain ⟨ys0, ys1, zs0, zs1⟩ := Own.box2 hbs
  refine skip_ (w1 := ((wy_j.setCell ⟨gh, 0, none⟩ (.slice Bh0 g0.length dh0)).setCell ⟨gh, 1, none⟩ (.slice Bh1 g1.length dh1))) (by rfl) rfl ?_ ?_
  ·
   first | (go_simp; done) | (go_simp; rfl)
  refine hK.out _ _ ⟨blk_cell BKa.out 0, blk_cell BKa.out 1, blk_cell BKb.out 0, blk_cell BKb.out 1⟩ (fun hHeld => ?_)
  clear hK K
  refine pure_ (i := 10) (N := some 16) (v := ?_) (a' := ?_) #[true, true, true, true, true, true, true, true, true, true, true] rfl rfl (any_of HT_.out (by kernel_rfl)) (fun _ _ _ h => h) (Or.inl ⟨by rfl, ?_⟩) ?_ ?_
  rotate_left
  ·
   intro w'
   go_simp
   with_reducible rfl
  rotate_left
  ·
   simp only [Own.ps]
   rfl
  refine done_ (done_of HT_.out (by kernel_rfl)) ?_
  have BS := Aside0.mk (put2 hbs (b0 := .slice Bh0 g0.length dh0) (b1 := .slice Bh1 g1.length dh1))
  have HZ := Aside0.mk (below_set (below_set hz hgs (j := 0) (v := .slice Bh0 g0.length dh0)) hgs (j := 1) (v := .slice Bh1 g1.length dh1))
  have S0 := Aside0.mk (Kd.V_reads' (Kd.V_far (p := ⟨gh, 1, none⟩) (Kd.V_far (p := ⟨gh, 0, none⟩) hv0 (fun _ h_ => h_) (.slice Bh0 g0.length dh0)) (fun _ h_ => h_) (.slice Bh1 g1.length dh1))).2
  have S1 := Aside0.mk (Kd.V_reads' (Kd.V_far (p := ⟨gh, 1, none⟩) (Kd.V_far (p := ⟨gh, 0, none⟩) hv1 (fun _ h_ => h_) (.slice Bh0 g0.length dh0)) (fun _ h_ => h_) (.slice Bh1 g1.length dh1))).2
  clear hv0 hv1 hbs hgs hz hka hkb hS_ hHeld ys0 ys1 zs0 zs1 hna hnb LA LB HT_ HW_
  replace HQ := Aside0.mk (below_step HQ.out HZ.out)
  replace BG := Aside0.mk (blk_below BG.out HZ.out)
  replace CI0 := Aside0.mk (show _ ∧ _ from ⟨CI0.out.1, Kd.C_below CI0.out.2 HZ.out⟩)
  replace CI1 := Aside0.mk (show _ ∧ _ from ⟨CI1.out.1, Kd.C_below CI1.out.2 HZ.out⟩)
  clear HZ BKa BKb P00 P01 P10 P11
  generalize ((wy_j.setCell ⟨gh, 0, none⟩ (.slice Bh0 g0.length dh0)).setCell ⟨gh, 1, none⟩ (.slice Bh1 g1.length dh1)) = w31 at *
  obtain ⟨yh0, yh1, zh0, zh1⟩ := Own.box2 BS.out
  obtain ⟨ys0, ys1, zs0, zs1⟩ := Own.box2 (blk_below BS8.out HQ.out)
  go_wp2_with (first | (go_at_call 15; (with_reducible refine (laws_eqCalendar.calls k _ _ g0 _ _ g1 _ _ s0 _ _ s1 true _ S0.out.2 S0.out.1 S1.out.2 S1.out.1 (pc SA.out HQ.out).2 SA.out.1 (pc SB.out HQ.out).2 SB.out.1 A7.out).mono ?_); rintro e w32 ⟨rfl, hb⟩; clear yh0 yh1 zh0 zh1 ys0 ys1 zs0 zs1 S0 S1 BS; replace HQ := Aside0.mk (below_step HQ.out hb); replace BG := Aside0.mk (blk_below BG.out hb); replace CI0 := Aside0.mk (show _ ∧ _ from ⟨CI0.out.1, Kd.C_below CI0.out.2 hb⟩); replace CI1 := Aside0.mk (show _ ∧ _ from ⟨CI1.out.1, Kd.C_below CI1.out.2 hb⟩); clear hb; obtain ⟨yg0, yg1, zg0, zg1⟩ := Own.box2 BG.out; have T1 := Aside0.mk True.intro) | (go_at_call 17; clear T1; have hc := laws_heldCalendar.calls k _ _ p2 _ _ p3 1 q _ CI0.out.2 (show p2.length ≤ _ from by rw [← CH0.out]; exact CI0.out.1) CI1.out.2 (show p3.length ≤ _ from by rw [← CH1.out]; exact CI1.out.1) A13.out; rw [← CH0.out, ← CH1.out] at hc; (with_reducible refine hc.mono ?_); rintro e w35 ⟨rfl, hb⟩; clear hc; clear yg0 yg1 zg0 zg1; replace HQ := Aside0.mk (below_step HQ.out hb); clear hb; have T2 := Aside0.mk True.intro))
  go_ret
  exact ⟨Own.rr, below_step HB.out HQ.out⟩
end Go.Proofs.Ytaallhcmhennkaa.QFnExactJoinCalendars
