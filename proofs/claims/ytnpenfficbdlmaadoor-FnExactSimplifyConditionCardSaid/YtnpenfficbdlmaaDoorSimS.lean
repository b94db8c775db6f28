/- spec.l5Simple and spec.SimplifyCondition, walked by hand. No condition. -/
import Derived.Test.YtnpenfficbdlmaaDoorQFnExactSimplifyConditionx4
import Derived.Test.YtnpenfficbdlmaaDoorQFnExactSimplifyConditionx5
import Derived.Test.YtnpenfficbdlmaaDoorQFnExactSimplifyConditionx2
namespace Go.Proofs.YtnpenfficbdlmaaDoor.QFnExactSimplifyCondition
open Go.RowKit Go.Proofs.YtnpenfficbdlmaaDoorW.PrintWords Go.Proofs.YtnpenfficbdlmaaDoorW.PrintLast Go.Proofs.YtnpenfficbdlmaaDoorW.PrintMore Go.Proofs.YtnpenfficbdlmaaDoor.Own
set_option linter.unusedVariables false
set_option linter.unusedSimpArgs false
abbrev SC := S28
def spec_l5Simple.f : Nat → Int → ByteArray → Int → List SC → Option SC
  | 0, _, _, _, _ => none
  | k + 1, op, nm, day, l =>
    if op = 3 then (if day = 0 then some ⟨1, ⟨#[]⟩, 0, []⟩ else (spec_l5Own.f k op nm day l).bind fun r => some ⟨r.1, r.2.1, r.2.2.1, r.2.2.2⟩)
    else if op = 4 then (if 0 < l.length then (spec_l5Simple.f k (rd_T28 l 0).f0 (rd_T28 l 0).f1 (rd_T28 l 0).f2 (rd_T28 l 0).f3).bind fun p => if p.f0 = 4 then (if 0 < p.f3.length then some (rd_T28 p.f3 0) else none) else some ⟨4, ⟨#[]⟩, 0, [p]⟩ else none)
    else if op = 5 ∨ op = 6 then (if 1 < l.length then (spec_l5Simple.f k (rd_T28 l 0).f0 (rd_T28 l 0).f1 (rd_T28 l 0).f2 (rd_T28 l 0).f3).bind fun a => (spec_l5Simple.f k (rd_T28 l 1).f0 (rd_T28 l 1).f1 (rd_T28 l 1).f2 (rd_T28 l 1).f3).bind fun b => (spec_l5Pair.f k op a.f0 a.f1 a.f2 a.f3 b.f0 b.f1 b.f2 b.f3).bind fun r => some ⟨r.1, r.2.1, r.2.2.1, r.2.2.2⟩ else none)
    else (spec_l5Own.f k op nm day l).bind fun r => some ⟨r.1, r.2.1, r.2.2.1, r.2.2.2⟩
theorem v4 {W : World} {lo g : Nat} {v : Value} {xs : List SC} (h : Kd.V k28 28 W 0 (fun k => lo ≤ k) v xs) (hg : g < lo) (a b c d : Value) : Kd.V k28 28 ((((W.setCell ⟨g, 0, none⟩ a).setCell ⟨g, 1, none⟩ b).setCell ⟨g, 2, none⟩ c).setCell ⟨g, 3, none⟩ d) 0 (fun k => lo ≤ k) v xs := by
  have hk : ∀ k, lo ≤ k → k ≠ g := fun k hk => by omega
  exact Kd.V_far (p := ⟨g, 3, none⟩) (Kd.V_far (p := ⟨g, 2, none⟩) (Kd.V_far (p := ⟨g, 1, none⟩) (Kd.V_far (p := ⟨g, 0, none⟩) h hk a) hk b) hk c) hk d
theorem r_v {W w : World} {b lo : Nat} {ok : Nat → Prop} {v : Value} {xs : List SC} (h : Kd.R k28 28 W b ok v xs) (hb : lo ≤ b) : Kd.V k28 28 W 0 (fun k => lo ≤ k) v xs := Kd.R_V (Kd.R_mono (Kd.R_bound h) (fun k hk => Nat.le_trans hb hk.2.1))
theorem v_lo {W : World} {lo lo' b b' : Nat} {v : Value} {xs : List SC} (h : Kd.V k28 28 W b (fun k => lo ≤ k) v xs) (hb : lo' ≤ lo) : Kd.V k28 28 W b' (fun k => lo' ≤ k) v xs := Kd.V_map h (fun _ hf => Kd.F_mono hf (fun k hk => Nat.le_trans hb hk))
/-- What a simplification leaves. -/
def Res (w w' : World) (e : Ending) (r : SC) : Prop := ∃ v, e = .returned (.agg #[.int .i64 r.f0, .string r.f1, .int .i64 r.f2, v]) ∧ Kd.V k28 28 w' 0 (fun k => w.heap.size ≤ k) v r.f3 ∧ Below w.heap.size w w'
theorem v4b {W : World} {g : Nat} {b : Nat} {ok : Nat → Prop} {v : Value} {xs : List SC} (h : Kd.V k28 28 W b ok v xs) (hk : ∀ k, ok k → k ≠ g) (a b' c d : Value) : Kd.V k28 28 ((((W.setCell ⟨g, 0, none⟩ a).setCell ⟨g, 1, none⟩ b').setCell ⟨g, 2, none⟩ c).setCell ⟨g, 3, none⟩ d) b ok v xs :=
  Kd.V_far (p := ⟨g, 3, none⟩) (Kd.V_far (p := ⟨g, 2, none⟩) (Kd.V_far (p := ⟨g, 1, none⟩) (Kd.V_far (p := ⟨g, 0, none⟩) h hk a) hk b') hk c) hk d
theorem put4f {W : World} {g j : Nat} {o : Obj} (h : W.heap[j]? = some o) (hn : j ≠ g) (a b c d : Value) : ((((W.setCell ⟨g, 0, none⟩ a).setCell ⟨g, 1, none⟩ b).setCell ⟨g, 2, none⟩ c).setCell ⟨g, 3, none⟩ d).heap[j]? = some o := by
  rw [Below.heap_setCell _ ⟨g, 3, none⟩ _ j hn, Below.heap_setCell _ ⟨g, 2, none⟩ _ j hn, Below.heap_setCell _ ⟨g, 1, none⟩ _ j hn, Below.heap_setCell _ ⟨g, 0, none⟩ _ j hn]
  exact h
theorem at0 {w : World} {A : Option Addr} {n : Nat} {xs : List SC} (h : Kd.C k28 w A n xs) (hn : 0 < n) : ∃ ad A3 c3, A = some ad ∧ w.cell? ad = some (.int .i64 (rd_T28 xs 0).f0) ∧ w.cell? ⟨ad.block, ad.off + 1, none⟩ = some (.string (rd_T28 xs 0).f1) ∧ w.cell? ⟨ad.block, ad.off + 2, none⟩ = some (.int .i64 (rd_T28 xs 0).f2) ∧ w.cell? ⟨ad.block, ad.off + 3, none⟩ = some (.slice A3 (rd_T28 xs 0).f3.length c3) ∧ (rd_T28 xs 0).f3.length ≤ c3 ∧ k28.C w A3 (rd_T28 xs 0).f3.length (rd_T28 xs 0).f3 := by
  obtain ⟨ad, A3, c3, e, h0, h1, h2, h3, h4, h5⟩ := at_T28 h 0 (by omega) (by omega)
  rw [show ((0 : Int)).toNat = 0 from rfl, show 0 * 4 = 0 from rfl, Addr.add_zero'] at h0 h1 h2 h3
  exact ⟨ad, A3, c3, e, h0, h1, h2, h3, h4, h5⟩
theorem add_none_ (b o n : Nat) : (⟨b, o, none⟩ : Addr).add n = ⟨b, o + n, none⟩ := by unfold Addr.add; split <;> simp_all
theorem at1 {w : World} {A : Option Addr} {n : Nat} {xs : List SC} (h : Kd.C k28 w A n xs) (hn : 1 < n) : ∃ ad A3 c3, A = some ad ∧ w.cell? ⟨ad.block, ad.off + 4, none⟩ = some (.int .i64 (rd_T28 xs 1).f0) ∧ w.cell? ⟨ad.block, ad.off + 4 + 1, none⟩ = some (.string (rd_T28 xs 1).f1) ∧ w.cell? ⟨ad.block, ad.off + 4 + 2, none⟩ = some (.int .i64 (rd_T28 xs 1).f2) ∧ w.cell? ⟨ad.block, ad.off + 4 + 3, none⟩ = some (.slice A3 (rd_T28 xs 1).f3.length c3) ∧ (rd_T28 xs 1).f3.length ≤ c3 ∧ k28.C w A3 (rd_T28 xs 1).f3.length (rd_T28 xs 1).f3 := by
  obtain ⟨ad, A3, c3, e, h0, h1, h2, h3, h4, h5⟩ := at_T28 h 1 (by omega) (by omega)
  obtain ⟨ad', A', c', e', k0, _⟩ := at0 h (by omega)
  rw [e] at e'
  injection e' with e'
  subst e'
  have ea : ad.add ((1 : Int).toNat * 4) = ⟨ad.block, ad.off + 4, none⟩ := by
    cases ad with
    | mk b o s =>
      cases s with
      | none => exact add_none_ b o 4
      | some _ => simp [World.cell?] at k0; split at k0 <;> simp_all
  rw [ea] at h0 h1 h2 h3
  exact ⟨ad, A3, c3, e, h0, h1, h2, h3, h4, h5⟩
theorem vat0 {w : World} {A : Option Addr} {n c b : Nat} {ok : Nat → Prop} {xs : List SC} (h : Kd.V k28 28 w b ok (.slice A n c) xs) (hn : 0 < n) : ∃ ad A3 c3, A = some ad ∧ w.cell? ad = some (.int .i64 (rd_T28 xs 0).f0) ∧ w.cell? ⟨ad.block, ad.off + 1, none⟩ = some (.string (rd_T28 xs 0).f1) ∧ w.cell? ⟨ad.block, ad.off + 2, none⟩ = some (.int .i64 (rd_T28 xs 0).f2) ∧ w.cell? ⟨ad.block, ad.off + 3, none⟩ = some (.slice A3 (rd_T28 xs 0).f3.length c3) ∧ Kd.V k28 28 w 0 ok (.slice A3 (rd_T28 xs 0).f3.length c3) (rd_T28 xs 0).f3 := by
  have hr := Kd.V_reads' h
  obtain ⟨ad, A3, c3, e, h0, h1, h2, h3, h4, h5⟩ := at0 hr.2.2 (by rw [← hr.1]; exact hn)
  subst e
  obtain ⟨cs, _, hF, hc⟩ := Kd.V_get h z28 0 (by omega) (by omega)
  obtain ⟨A4, c4, rfl, l4, f4⟩ := k28_openF hF
  have e3 := hc 3 _ rfl
  have e4 : w.cell? (ad.add 3) = some (.slice A3 (rd_T28 xs 0).f3.length c3) := by
    cases ad with
    | mk b o s =>
      cases s with
      | none => exact h3
      | some _ => simp [World.cell?] at h0; split at h0 <;> simp_all
  have e5 : some (Value.slice A4 (rd_T28 xs 0).f3.length c4) = some (.slice A3 (rd_T28 xs 0).f3.length c3) := e3.symm.trans e4
  injection e5 with e5
  injection e5 with e6 e7 e8
  subst e6 e8
  exact ⟨ad, A4, c4, rfl, h0, h1, h2, h3, A4, c4, rfl, l4, f4⟩
set_option maxHeartbeats 8000000 in
set_option maxRecDepth 100000 in
theorem l5s_first (k : Nat) (op : Int) (nm : ByteArray) (day : Int) (A : Option Addr) (c : Nat) (l : List SC) (w : World) (hr : Kd.C k28 w A l.length l) (hc : l.length ≤ c) (e3 : op = 3) (e0 : day = 0) :
    Calls Tryd.prog 19 #[.agg #[.int .i64 op, .string nm, .int .i64 day, .slice A l.length c]] w fun e w' => Res w w' e ⟨1, ⟨#[]⟩, 0, []⟩ := by
  have hu1 := Tryd.underlying28
  have HR := Aside0.mk hr
  have HC := Aside0.mk hc
  have HB := Aside0.mk (Below.refl w.heap.size w)
  clear hr hc
  have c3 : decide (op = 3) = true := decide_eq_true e3
  have d3 : (op == 3) = true := beq_iff_eq.mpr e3
  have c0 : decide (day = 0) = true := decide_eq_true e0
  have d0 : (day == 0) = true := beq_iff_eq.mpr e0
  clear e3 e0
  go_enter Tryd.func19, Tryd.ntmps19
  go_wp2_with (first | ((with_reducible refine gate_dst (N := 1) rfl ?_); refine Own.be (N := 1) (cs := #[.int .i64 op, .string nm, .int .i64 day, .slice A l.length c]) (t := 28) ?_; intro g1 hg w2 hbox hb; have BK1 := Aside0.mk hbox; have G1 := Own.gs hg; replace HB := Own.bs hb; clear hb hbox hg) | ((with_reducible refine gate_dst (N := 2) rfl ?_); refine Own.be (N := 2) (cs := #[.int .i64 0, .string (⟨#[]⟩ : ByteArray), .int .i64 0, .slice none 0 0]) (t := 28) ?_; intro g2 hg w3 hbox hb; have BK2 := Aside0.mk hbox; have G2 := Own.gs hg; have NB := Own.nl hg BK1.out; replace BK1 := Own.bb BK1.out hb; replace HB := Own.bs hb; have L1 := Aside0.mk (blk_lt BK1.out); have L2 := Aside0.mk (blk_lt hbox); clear hb hbox hg; obtain ⟨y0, y1, y2, y3, z0, z1, z2, z3⟩ := Own.box4 BK1.out; obtain ⟨u0, u1, u2, u3, x0, x1, x2, x3⟩ := Own.box4 BK2.out))
  refine bodyPost_ret (results_cell_row rfl _ _ g2 28 #[.int .i64 1, .string (⟨#[]⟩ : ByteArray), .int .i64 0, .slice none 0 0] (0, 0) _ rfl (by with_reducible exact Own.put4 BK2.out) Tryd.underlying28 rfl (by kernel_rfl)) rfl ?_
  exact ⟨_, Own.rr, v_lo (v4 (Kd.V_nil _ _ _ _ _) L2.out _ _ _ _) (Nat.le_trans G2.out (Nat.le_of_lt L2.out)), below_set (below_set (below_set (below_set HB.out G2.out) G2.out) G2.out) G2.out⟩
set_option maxHeartbeats 8000000 in
set_option maxRecDepth 100000 in
theorem l5s_day (k : Nat) (op : Int) (nm : ByteArray) (day : Int) (A : Option Addr) (c : Nat) (l : List SC) (w : World) (hr : Kd.C k28 w A l.length l) (hc : l.length ≤ c) (e3 : op = 3) (e0 : day ≠ 0) (r : Int × ByteArray × Int × List SC) (h : spec_l5Own.f k op nm day l = some r) :
    Calls Tryd.prog 19 #[.agg #[.int .i64 op, .string nm, .int .i64 day, .slice A l.length c]] w fun e w' => Res w w' e ⟨r.1, r.2.1, r.2.2.1, r.2.2.2⟩ := by
  have hu1 := Tryd.underlying28
  have HR := Aside0.mk hr
  have HC := Aside0.mk hc
  have HB := Aside0.mk (Below.refl w.heap.size w)
  clear hr hc
  obtain ⟨r1, r2, r3, r4⟩ := r
  have c3 : decide (op = 3) = true := decide_eq_true e3
  have d3 : (op == 3) = true := beq_iff_eq.mpr e3
  clear e3
  have c0 : decide (day = 0) = false := decide_eq_false e0
  have c1 : (day == 0) = false := beq_eq_false_iff_ne.mpr e0
  clear e0
  have HO := Aside0.mk h
  clear h
  go_enter Tryd.func19, Tryd.ntmps19
  go_wp2_with (first | ((with_reducible refine gate_dst (N := 1) rfl ?_); refine Own.be (N := 1) (cs := #[.int .i64 op, .string nm, .int .i64 day, .slice A l.length c]) (t := 28) ?_; intro g1 hg w2 hbox hb; have BK1 := Aside0.mk hbox; have G1 := Own.gs hg; replace HB := Own.bs hb; clear hb hbox hg) | ((with_reducible refine gate_dst (N := 2) rfl ?_); refine Own.be (N := 2) (cs := #[.int .i64 0, .string (⟨#[]⟩ : ByteArray), .int .i64 0, .slice none 0 0]) (t := 28) ?_; intro g2 hg w3 hbox hb; have BK2 := Aside0.mk hbox; have G2 := Own.gs hg; have NB := Own.nl hg BK1.out; replace BK1 := Own.bb BK1.out hb; replace HB := Own.bs hb; have L1 := Aside0.mk (blk_lt BK1.out); have L2 := Aside0.mk (blk_lt hbox); clear hb hbox hg; obtain ⟨y0, y1, y2, y3, z0, z1, z2, z3⟩ := Own.box4 BK1.out; obtain ⟨u0, u1, u2, u3, x0, x1, x2, x3⟩ := Own.box4 BK2.out) | (go_at_call 34; (with_reducible refine (spec_l5Own.calls k op nm day A c l r1 r2 r3 r4 _ (Kd.C_below HR.out HB.out) HC.out HO.out).mono ?_); rintro e w5 ⟨v_, rfl, ho, hb⟩; clear y0 y1 y2 y3 z0 z1 z2 z3 u0 u1 u2 u3 x0 x1 x2 x3; have HV := Aside0.mk (r_v (w := w) ho (Nat.le_refl _)); have HZ := Aside0.mk (Nat.le_refl w3.heap.size); replace HB := Aside0.mk (below_step HB.out hb); obtain ⟨Av, cv, rfl⟩ := Kd.R_slice ho; clear ho; replace BK1 := Aside0.mk (blk_below BK1.out hb); replace BK2 := Aside0.mk (blk_below BK2.out hb); obtain ⟨y0, y1, y2, y3, z0, z1, z2, z3⟩ := Own.box4 BK1.out; obtain ⟨u0, u1, u2, u3, x0, x1, x2, x3⟩ := Own.box4 BK2.out; clear hb))
  refine bodyPost_ret (results_cell_row rfl _ _ g2 28 #[.int .i64 r1, .string r2, .int .i64 r3, .slice Av r4.length cv] (0, 0) _ rfl (by with_reducible exact Own.put4 BK2.out) Tryd.underlying28 rfl (by kernel_rfl)) rfl ?_
  exact ⟨_, Own.rr, v_lo (v4 (HV.out) L2.out _ _ _ _) (Nat.le_trans G2.out (Nat.le_of_lt L2.out)), below_set (below_set (below_set (below_set HB.out G2.out) G2.out) G2.out) G2.out⟩
set_option maxHeartbeats 8000000 in
set_option maxRecDepth 100000 in
theorem l5s_leaf (k : Nat) (op : Int) (nm : ByteArray) (day : Int) (A : Option Addr) (c : Nat) (l : List SC) (w : World) (hr : Kd.C k28 w A l.length l) (hc : l.length ≤ c) (e3 : op ≠ 3) (e4 : op ≠ 4) (e5 : op ≠ 5) (e6 : op ≠ 6) (r : Int × ByteArray × Int × List SC) (h : spec_l5Own.f k op nm day l = some r) :
    Calls Tryd.prog 19 #[.agg #[.int .i64 op, .string nm, .int .i64 day, .slice A l.length c]] w fun e w' => Res w w' e ⟨r.1, r.2.1, r.2.2.1, r.2.2.2⟩ := by
  have hu1 := Tryd.underlying28
  have HR := Aside0.mk hr
  have HC := Aside0.mk hc
  have HB := Aside0.mk (Below.refl w.heap.size w)
  clear hr hc
  obtain ⟨r1, r2, r3, r4⟩ := r
  have c3 : decide (op = 3) = false := decide_eq_false e3
  have d3 : (op == 3) = false := beq_eq_false_iff_ne.mpr e3
  have c4 : decide (op = 4) = false := decide_eq_false e4
  have d4 : (op == 4) = false := beq_eq_false_iff_ne.mpr e4
  have c5 : decide (op = 5) = false := decide_eq_false e5
  have d5 : (op == 5) = false := beq_eq_false_iff_ne.mpr e5
  have c6 : decide (op = 6) = false := decide_eq_false e6
  have d6 : (op == 6) = false := beq_eq_false_iff_ne.mpr e6
  clear e3 e4 e5 e6
  have HO := Aside0.mk h
  clear h
  go_enter Tryd.func19, Tryd.ntmps19
  go_wp2_with (first | ((with_reducible refine gate_dst (N := 1) rfl ?_); refine Own.be (N := 1) (cs := #[.int .i64 op, .string nm, .int .i64 day, .slice A l.length c]) (t := 28) ?_; intro g1 hg w2 hbox hb; have BK1 := Aside0.mk hbox; have G1 := Own.gs hg; replace HB := Own.bs hb; clear hb hbox hg) | ((with_reducible refine gate_dst (N := 2) rfl ?_); refine Own.be (N := 2) (cs := #[.int .i64 0, .string (⟨#[]⟩ : ByteArray), .int .i64 0, .slice none 0 0]) (t := 28) ?_; intro g2 hg w3 hbox hb; have BK2 := Aside0.mk hbox; have G2 := Own.gs hg; have NB := Own.nl hg BK1.out; replace BK1 := Own.bb BK1.out hb; replace HB := Own.bs hb; have L1 := Aside0.mk (blk_lt BK1.out); have L2 := Aside0.mk (blk_lt hbox); clear hb hbox hg; obtain ⟨y0, y1, y2, y3, z0, z1, z2, z3⟩ := Own.box4 BK1.out; obtain ⟨u0, u1, u2, u3, x0, x1, x2, x3⟩ := Own.box4 BK2.out) | (go_at_call 34; (with_reducible refine (spec_l5Own.calls k op nm day A c l r1 r2 r3 r4 _ (Kd.C_below HR.out HB.out) HC.out HO.out).mono ?_); rintro e w5 ⟨v_, rfl, ho, hb⟩; clear y0 y1 y2 y3 z0 z1 z2 z3 u0 u1 u2 u3 x0 x1 x2 x3; have HV := Aside0.mk (r_v (w := w) ho (Nat.le_refl _)); have HZ := Aside0.mk (Nat.le_refl w3.heap.size); replace HB := Aside0.mk (below_step HB.out hb); obtain ⟨Av, cv, rfl⟩ := Kd.R_slice ho; clear ho; replace BK1 := Aside0.mk (blk_below BK1.out hb); replace BK2 := Aside0.mk (blk_below BK2.out hb); obtain ⟨y0, y1, y2, y3, z0, z1, z2, z3⟩ := Own.box4 BK1.out; obtain ⟨u0, u1, u2, u3, x0, x1, x2, x3⟩ := Own.box4 BK2.out; clear hb))
  refine bodyPost_ret (results_cell_row rfl _ _ g2 28 #[.int .i64 r1, .string r2, .int .i64 r3, .slice Av r4.length cv] (0, 0) _ rfl (by with_reducible exact Own.put4 BK2.out) Tryd.underlying28 rfl (by kernel_rfl)) rfl ?_
  exact ⟨_, Own.rr, v_lo (v4 (HV.out) L2.out _ _ _ _) (Nat.le_trans G2.out (Nat.le_of_lt L2.out)), below_set (below_set (below_set (below_set HB.out G2.out) G2.out) G2.out) G2.out⟩
set_option maxHeartbeats 8000000 in
set_option maxRecDepth 100000 in
theorem l5s_nn (k : Nat) (op : Int) (nm : ByteArray) (day : Int) (A : Option Addr) (c : Nat) (l : List SC) (w : World) (hr : Kd.C k28 w A l.length l) (hc : l.length ≤ c) (IH : ∀ (op : Int) (nm : ByteArray) (day : Int) (A : Option Addr) (c : Nat) (l : List SC) (r : SC) (w : World), Kd.C k28 w A l.length l → l.length ≤ c → spec_l5Simple.f k op nm day l = some r → Calls Tryd.prog 19 #[.agg #[.int .i64 op, .string nm, .int .i64 day, .slice A l.length c]] w fun e w' => Res w w' e r) (e4 : op = 4) (hn : 0 < l.length) (p : SC) (h : spec_l5Simple.f k (rd_T28 l 0).f0 (rd_T28 l 0).f1 (rd_T28 l 0).f2 (rd_T28 l 0).f3 = some p) (ep : p.f0 = 4) (hp : 0 < p.f3.length) :
    Calls Tryd.prog 19 #[.agg #[.int .i64 op, .string nm, .int .i64 day, .slice A l.length c]] w fun e w' => Res w w' e (rd_T28 p.f3 0) := by
  have hu1 := Tryd.underlying28
  have HR := Aside0.mk hr
  have HC := Aside0.mk hc
  have HB := Aside0.mk (Below.refl w.heap.size w)
  clear hr hc
  have c4 : decide (op = 4) = true := decide_eq_true e4
  have d4 : (op == 4) = true := beq_iff_eq.mpr e4
  have c3 : decide (op = 3) = false := decide_eq_false (by omega)
  have d3 : (op == 3) = false := beq_eq_false_iff_ne.mpr (by omega)
  have hn1 : (0 < l.length) = True := eq_true hn
  have hn2 : ((0 : Int) < (l.length : Int)) = True := eq_true (by omega)
  obtain ⟨ad, A3, c3, e_, hx0, hx1, hx2, hx3, hl_, hi_⟩ := at0 HR.out hn
  cases e_
  generalize hxx : rd_T28 l 0 = x at hx0 hx1 hx2 hx3 hl_ hi_
  have H3 := Aside0.mk (And.intro hl_ hi_)
  clear hl_ hi_
  rw [hxx] at h
  have HO := Aside0.mk h
  have HI := Aside0.mk IH
  have cp : decide (p.f0 = 4) = true := decide_eq_true ep
  have dp : (p.f0 == 4) = true := beq_iff_eq.mpr ep
  have hp1 : (0 < p.f3.length) = True := eq_true hp
  have hp2 : ((0 : Int) < (p.f3.length : Int)) = True := eq_true (by omega)
  have HP := Aside0.mk hp
  clear ep hp
  clear h IH e4 hxx
  replace hx0 := Aside0.mk hx0; replace hx1 := Aside0.mk hx1; replace hx2 := Aside0.mk hx2; replace hx3 := Aside0.mk hx3
  go_enter Tryd.func19, Tryd.ntmps19
  go_wp2_with (first | ((with_reducible refine gate_dst (N := 1) rfl ?_); refine Own.be (N := 1) (cs := #[.int .i64 op, .string nm, .int .i64 day, .slice (some ad) l.length c]) (t := 28) ?_; intro g1 hg w2 hbox hb; have BK1 := Aside0.mk hbox; have G1 := Own.gs hg; replace HB := Own.bs hb; clear hb hbox hg) | ((with_reducible refine gate_dst (N := 2) rfl ?_); refine Own.be (N := 2) (cs := #[.int .i64 0, .string (⟨#[]⟩ : ByteArray), .int .i64 0, .slice none 0 0]) (t := 28) ?_; intro g2 hg w3 hbox hb; have BK2 := Aside0.mk hbox; have G2 := Own.gs hg; have NB := Own.nl hg BK1.out; replace BK1 := Own.bb BK1.out hb; replace HB := Own.bs hb; have L1 := Aside0.mk (blk_lt BK1.out); have L2 := Aside0.mk (blk_lt hbox); clear hb hbox hg; obtain ⟨y0, y1, y2, y3, z0, z1, z2, z3⟩ := Own.box4 BK1.out; obtain ⟨u0, u1, u2, u3, x0, x1, x2, x3⟩ := Own.box4 BK2.out; have m0 := Own.up HB.out hx0.out; have m1 := Own.up HB.out hx1.out; have m2 := Own.up HB.out hx2.out; have m3 := Own.up HB.out hx3.out) | (go_at_call 19; (with_reducible refine (HI.out x.f0 x.f1 x.f2 A3 c3 x.f3 p _ (Kd.C_below H3.out.2 HB.out) H3.out.1 HO.out).mono ?_); rintro e w5 ⟨v_, rfl, hv, hb⟩; clear y0 y1 y2 y3 z0 z1 z2 z3 u0 u1 u2 u3 x0 x1 x2 x3; clear m0 m1 m2 m3; have HV := Aside0.mk (v_lo (lo' := w3.heap.size) (b' := 0) hv (Nat.le_refl _)); obtain ⟨Av, cv, rfl⟩ := Kd.V_slice hv; have HZ := Aside0.mk hb.size; replace HB := Aside0.mk (below_step HB.out hb); clear hv; replace BK1 := Aside0.mk (blk_below BK1.out hb); replace BK2 := Aside0.mk (blk_below BK2.out hb); obtain ⟨y0, y1, y2, y3, z0, z1, z2, z3⟩ := Own.box4 BK1.out; obtain ⟨u0, u1, u2, u3, x0, x1, x2, x3⟩ := Own.box4 BK2.out; clear hb) | ((with_reducible refine gate_dst (N := 3) rfl ?_); refine Own.be (N := 3) (cs := #[.int .i64 0, .string (⟨#[]⟩ : ByteArray), .int .i64 0, .slice none 0 0]) (t := 28) ?_; intro g3 hg w6 hbox hb; have G3 := Aside0.mk (show w3.heap.size ≤ g3 from by rw [hg]; exact HZ.out); have N3 := Own.nl hg BK2.out; have GW3 := Own.gs hg; replace BK1 := Aside0.mk (blk_below BK1.out hb); replace BK2 := Aside0.mk (blk_below BK2.out hb); have HV6 := Aside0.mk (Kd.V_below (Kd.V_elderB HV.out g3 (Nat.le_of_eq hg.symm)) hb); replace HB := Aside0.mk (below_step HB.out hb); clear y0 y1 y2 y3 z0 z1 z2 z3 u0 u1 u2 u3 x0 x1 x2 x3; have B3 := Aside0.mk hbox; obtain ⟨y0, y1, y2, y3, z0, z1, z2, z3⟩ := Own.box4 hbox; clear hb hbox hg HV) | ((with_reducible refine gate_store (t := 28) (p := 3) rfl ?_); refine store_event (t := 28) (p := 3) (v := ?vo_) (w1 := ((((w6.setCell ⟨g3, 0, none⟩ (.int .i64 p.f0)).setCell ⟨g3, 1, none⟩ (.string p.f1)).setCell ⟨g3, 2, none⟩ (.int .i64 p.f2)).setCell ⟨g3, 3, none⟩ (.slice Av p.f3.length cv))) ?hg ?ho ?hn ?hr ?_; (case ho => rfl); (case hg => rfl); (case hn => rfl); (case hr => first | (go_simp; done) | (go_simp; rfl)); intro w7 hw; have HV := Aside0.mk (by rw [hw]; exact v4b HV6.out (fun _ h_ => h_.2) _ _ _ _ : Kd.V k28 28 w7 0 (fun k => w3.heap.size ≤ k ∧ k ≠ g3) (.slice Av p.f3.length cv) p.f3); replace B3 := Aside0.mk (by rw [hw]; exact Own.put4 B3.out : w7.heap[g3]? = some (.cells #[.int .i64 p.f0, .string p.f1, .int .i64 p.f2, .slice Av p.f3.length cv] 28 (0, 0))); replace BK2 := Aside0.mk (by rw [hw]; exact put4f BK2.out N3.out _ _ _ _ : w7.heap[g2]? = some (.cells #[.int .i64 0, .string (⟨#[]⟩ : ByteArray), .int .i64 0, .slice none 0 0] 28 (0, 0))); replace HB := Aside0.mk (by rw [hw]; exact below_set (below_set (below_set (below_set HB.out GW3.out) GW3.out) GW3.out) GW3.out : Below w.heap.size w w7); clear hw HV6 y0 y1 y2 y3 z0 z1 z2 z3; obtain ⟨y0, y1, y2, y3, z0, z1, z2, z3⟩ := Own.box4 B3.out; obtain ⟨u0, u1, u2, u3, x0, x1, x2, x3⟩ := Own.box4 BK2.out; obtain ⟨ad2, A4, c4, e_, k0, k1, k2, k3, hV4⟩ := vat0 HV.out HP.out; cases e_))
  refine bodyPost_ret (results_cell_row rfl _ _ g2 28 #[.int .i64 (rd_T28 p.f3 0).f0, .string (rd_T28 p.f3 0).f1, .int .i64 (rd_T28 p.f3 0).f2, .slice A4 (rd_T28 p.f3 0).f3.length c4] (0, 0) _ rfl (by with_reducible exact Own.put4 BK2.out) Tryd.underlying28 rfl (by kernel_rfl)) rfl ?_
  exact ⟨_, Own.rr, v_lo (v4 (Kd.V_mono hV4 (fun _ h_ => h_.1)) L2.out _ _ _ _) (Nat.le_trans G2.out (Nat.le_of_lt L2.out)), below_set (below_set (below_set (below_set HB.out G2.out) G2.out) G2.out) G2.out⟩
set_option maxHeartbeats 8000000 in
set_option maxRecDepth 100000 in
theorem l5s_not (k : Nat) (op : Int) (nm : ByteArray) (day : Int) (A : Option Addr) (c : Nat) (l : List SC) (w : World) (hr : Kd.C k28 w A l.length l) (hc : l.length ≤ c) (IH : ∀ (op : Int) (nm : ByteArray) (day : Int) (A : Option Addr) (c : Nat) (l : List SC) (r : SC) (w : World), Kd.C k28 w A l.length l → l.length ≤ c → spec_l5Simple.f k op nm day l = some r → Calls Tryd.prog 19 #[.agg #[.int .i64 op, .string nm, .int .i64 day, .slice A l.length c]] w fun e w' => Res w w' e r) (e4 : op = 4) (hn : 0 < l.length) (p : SC) (h : spec_l5Simple.f k (rd_T28 l 0).f0 (rd_T28 l 0).f1 (rd_T28 l 0).f2 (rd_T28 l 0).f3 = some p) (ep : p.f0 ≠ 4) :
    Calls Tryd.prog 19 #[.agg #[.int .i64 op, .string nm, .int .i64 day, .slice A l.length c]] w fun e w' => Res w w' e ⟨4, ⟨#[]⟩, 0, [p]⟩ := by
  have hu1 := Tryd.underlying28
  have HR := Aside0.mk hr
  have HC := Aside0.mk hc
  have HB := Aside0.mk (Below.refl w.heap.size w)
  clear hr hc
  have c4 : decide (op = 4) = true := decide_eq_true e4
  have d4 : (op == 4) = true := beq_iff_eq.mpr e4
  have c3 : decide (op = 3) = false := decide_eq_false (by omega)
  have d3 : (op == 3) = false := beq_eq_false_iff_ne.mpr (by omega)
  have hn1 : (0 < l.length) = True := eq_true hn
  have hn2 : ((0 : Int) < (l.length : Int)) = True := eq_true (by omega)
  obtain ⟨ad, A3, c3, e_, hx0, hx1, hx2, hx3, hl_, hi_⟩ := at0 HR.out hn
  cases e_
  generalize hxx : rd_T28 l 0 = x at hx0 hx1 hx2 hx3 hl_ hi_
  have H3 := Aside0.mk (And.intro hl_ hi_)
  clear hl_ hi_
  rw [hxx] at h
  have HO := Aside0.mk h
  have HI := Aside0.mk IH
  have cp : decide (p.f0 = 4) = false := decide_eq_false ep
  have dp : (p.f0 == 4) = false := beq_eq_false_iff_ne.mpr ep
  clear ep
  clear h IH e4 hxx
  replace hx0 := Aside0.mk hx0; replace hx1 := Aside0.mk hx1; replace hx2 := Aside0.mk hx2; replace hx3 := Aside0.mk hx3
  go_enter Tryd.func19, Tryd.ntmps19
  go_wp2_with (first | ((with_reducible refine gate_dst (N := 1) rfl ?_); refine Own.be (N := 1) (cs := #[.int .i64 op, .string nm, .int .i64 day, .slice (some ad) l.length c]) (t := 28) ?_; intro g1 hg w2 hbox hb; have BK1 := Aside0.mk hbox; have G1 := Own.gs hg; replace HB := Own.bs hb; clear hb hbox hg) | ((with_reducible refine gate_dst (N := 2) rfl ?_); refine Own.be (N := 2) (cs := #[.int .i64 0, .string (⟨#[]⟩ : ByteArray), .int .i64 0, .slice none 0 0]) (t := 28) ?_; intro g2 hg w3 hbox hb; have BK2 := Aside0.mk hbox; have G2 := Own.gs hg; have NB := Own.nl hg BK1.out; replace BK1 := Own.bb BK1.out hb; replace HB := Own.bs hb; have L1 := Aside0.mk (blk_lt BK1.out); have L2 := Aside0.mk (blk_lt hbox); clear hb hbox hg; obtain ⟨y0, y1, y2, y3, z0, z1, z2, z3⟩ := Own.box4 BK1.out; obtain ⟨u0, u1, u2, u3, x0, x1, x2, x3⟩ := Own.box4 BK2.out; have m0 := Own.up HB.out hx0.out; have m1 := Own.up HB.out hx1.out; have m2 := Own.up HB.out hx2.out; have m3 := Own.up HB.out hx3.out) | (go_at_call 19; (with_reducible refine (HI.out x.f0 x.f1 x.f2 A3 c3 x.f3 p _ (Kd.C_below H3.out.2 HB.out) H3.out.1 HO.out).mono ?_); rintro e w5 ⟨v_, rfl, hv, hb⟩; clear y0 y1 y2 y3 z0 z1 z2 z3 u0 u1 u2 u3 x0 x1 x2 x3; clear m0 m1 m2 m3; have HV := Aside0.mk (v_lo (lo' := w3.heap.size) (b' := 0) hv (Nat.le_refl _)); obtain ⟨Av, cv, rfl⟩ := Kd.V_slice hv; have HZ := Aside0.mk hb.size; replace HB := Aside0.mk (below_step HB.out hb); clear hv; replace BK1 := Aside0.mk (blk_below BK1.out hb); replace BK2 := Aside0.mk (blk_below BK2.out hb); obtain ⟨y0, y1, y2, y3, z0, z1, z2, z3⟩ := Own.box4 BK1.out; obtain ⟨u0, u1, u2, u3, x0, x1, x2, x3⟩ := Own.box4 BK2.out; clear hb) | ((with_reducible refine gate_dst (N := 3) rfl ?_); refine Own.be (N := 3) (cs := #[.int .i64 0, .string (⟨#[]⟩ : ByteArray), .int .i64 0, .slice none 0 0]) (t := 28) ?_; intro g3 hg w6 hbox hb; have G3 := Aside0.mk (show w3.heap.size ≤ g3 from by rw [hg]; exact HZ.out); have N3 := Own.nl hg BK2.out; have GW3 := Own.gs hg; replace BK1 := Aside0.mk (blk_below BK1.out hb); replace BK2 := Aside0.mk (blk_below BK2.out hb); have HV6 := Aside0.mk (Kd.V_below (Kd.V_elderB HV.out g3 (Nat.le_of_eq hg.symm)) hb); replace HB := Aside0.mk (below_step HB.out hb); clear y0 y1 y2 y3 z0 z1 z2 z3 u0 u1 u2 u3 x0 x1 x2 x3; have B3 := Aside0.mk hbox; obtain ⟨y0, y1, y2, y3, z0, z1, z2, z3⟩ := Own.box4 hbox; clear hb hbox hg HV) | ((with_reducible refine gate_store (t := 28) (p := 3) rfl ?_); refine store_event (t := 28) (p := 3) (v := ?vo_) (w1 := ((((w6.setCell ⟨g3, 0, none⟩ (.int .i64 p.f0)).setCell ⟨g3, 1, none⟩ (.string p.f1)).setCell ⟨g3, 2, none⟩ (.int .i64 p.f2)).setCell ⟨g3, 3, none⟩ (.slice Av p.f3.length cv))) ?hg ?ho ?hn ?hr ?_; (case ho => rfl); (case hg => rfl); (case hn => rfl); (case hr => first | (go_simp; done) | (go_simp; rfl)); intro w7 hw; have HV := Aside0.mk (by rw [hw]; exact v4b HV6.out (fun _ h_ => h_.2) _ _ _ _ : Kd.V k28 28 w7 0 (fun k => w3.heap.size ≤ k ∧ k ≠ g3) (.slice Av p.f3.length cv) p.f3); replace B3 := Aside0.mk (by rw [hw]; exact Own.put4 B3.out : w7.heap[g3]? = some (.cells #[.int .i64 p.f0, .string p.f1, .int .i64 p.f2, .slice Av p.f3.length cv] 28 (0, 0))); replace BK2 := Aside0.mk (by rw [hw]; exact put4f BK2.out N3.out _ _ _ _ : w7.heap[g2]? = some (.cells #[.int .i64 0, .string (⟨#[]⟩ : ByteArray), .int .i64 0, .slice none 0 0] 28 (0, 0))); replace HB := Aside0.mk (by rw [hw]; exact below_set (below_set (below_set (below_set HB.out GW3.out) GW3.out) GW3.out) GW3.out : Below w.heap.size w w7); clear hw HV6 y0 y1 y2 y3 z0 z1 z2 z3; obtain ⟨y0, y1, y2, y3, z0, z1, z2, z3⟩ := Own.box4 B3.out; obtain ⟨u0, u1, u2, u3, x0, x1, x2, x3⟩ := Own.box4 BK2.out) | ((with_reducible refine gate_dst (N := 27) rfl ?_); refine Kd.N_lit k28 _ 28 ?hg (N' := 27) ?hd (xs := ([p] : List SC)) (inner := [.int .i64 p.f0, .string p.f1, .int .i64 p.f2, .slice Av p.f3.length cv]) (ok := fun k_ => w3.heap.size ≤ k_) (okp := fun k_ => w3.heap.size ≤ k_) ?hr ?hp (fun _ hk => hk) (show w3.heap.size ≤ w7.heap.size from Nat.le_trans G3.out (Nat.le_of_lt (blk_lt B3.out))) (Below.refl _ _) (Nat.le_refl _) (by simp) ?_; (case hd => rfl); (case hg => rfl); (case hr => first | (go_simp; done) | (go_simp; rfl)); (case hp => exact (Reps.c4 (show Kd.FK k28 _ _ p [.int .i64 p.f0, .string p.f1, .int .i64 p.f2, .slice Av p.f3.length cv] from k28_mkF _ _ p (Kd.V_reads' HV.out).2.1 (Kd.V_F (Kd.V_mono HV.out (fun _ h_ => h_.1)))) (Reps.none _ _))); intro v8 w8 ho hb hg_ hnew_; obtain ⟨A8, c8, rfl⟩ := Kd.N_slice ho; have HV8 := Aside0.mk (Kd.N_V (base' := 0) ho); replace BK2 := Aside0.mk (blk_below BK2.out hb); replace HB := Aside0.mk (below_step HB.out hb); clear y0 y1 y2 y3 z0 z1 z2 z3 u0 u1 u2 u3 x0 x1 x2 x3; obtain ⟨u0, u1, u2, u3, x0, x1, x2, x3⟩ := Own.box4 BK2.out; clear ho hb hg_ hnew_))
  refine bodyPost_ret (results_cell_row rfl _ _ g2 28 #[.int .i64 4, .string (⟨#[]⟩ : ByteArray), .int .i64 0, .slice A8 1 c8] (0, 0) _ rfl (by with_reducible exact Own.put4 BK2.out) Tryd.underlying28 rfl (by kernel_rfl)) rfl ?_
  exact ⟨_, Own.rr, v_lo (v4 (HV8.out) L2.out _ _ _ _) (Nat.le_trans G2.out (Nat.le_of_lt L2.out)), below_set (below_set (below_set (below_set HB.out G2.out) G2.out) G2.out) G2.out⟩
def sp_T12 : Bool × List (List Nat × List Nat) := (true, [([], []), ([0], [0]), ([], []), ([2], [2]), ([3], [3]), ([4], [4]), ([5], [5]), ([], []), ([7], [7]), ([8], [8]), ([9], [9]), ([10, 6], [10]), ([1, 6, 11, 11], [1, 6, 11]), ([12, 12, 0, 1, 2, 3, 4, 5, 6, 7, 8, 9, 10, 11, 12], [12])])
def sp_B12 : List Nat := [0, 1, 0, 4, 12, 28, 60, 0, 128, 384, 896, 1920, 4095, 8191]
theorem sp_tab12 : rtab .any (opsOf Tryd.f19 12) = sp_T12 := by kernel_rfl
theorem sp_bits12 : waitsOk sp_T12.2 sp_B12 = true := by kernel_rfl
set_option maxHeartbeats 8000000 in
set_option maxRecDepth 100000 in
theorem l5s_and (k : Nat) (op : Int) (nm : ByteArray) (day : Int) (A : Option Addr) (c : Nat) (l : List SC) (w : World) (hr : Kd.C k28 w A l.length l) (hc : l.length ≤ c) (IH : ∀ (op : Int) (nm : ByteArray) (day : Int) (A : Option Addr) (c : Nat) (l : List SC) (r : SC) (w : World), Kd.C k28 w A l.length l → l.length ≤ c → spec_l5Simple.f k op nm day l = some r → Calls Tryd.prog 19 #[.agg #[.int .i64 op, .string nm, .int .i64 day, .slice A l.length c]] w fun e w' => Res w w' e r) (e0 : op = 5) (hn1 : 1 < l.length) (a b : SC) (ha : spec_l5Simple.f k (rd_T28 l 0).f0 (rd_T28 l 0).f1 (rd_T28 l 0).f2 (rd_T28 l 0).f3 = some a) (hb : spec_l5Simple.f k (rd_T28 l 1).f0 (rd_T28 l 1).f1 (rd_T28 l 1).f2 (rd_T28 l 1).f3 = some b) (r : Int × ByteArray × Int × List SC) (h : spec_l5Pair.f k op a.f0 a.f1 a.f2 a.f3 b.f0 b.f1 b.f2 b.f3 = some r) :
    Calls Tryd.prog 19 #[.agg #[.int .i64 op, .string nm, .int .i64 day, .slice A l.length c]] w fun e w' => Res w w' e ⟨r.1, r.2.1, r.2.2.1, r.2.2.2⟩ := by
  have hu1 := Tryd.underlying28
  have HR := Aside0.mk hr
  have HC := Aside0.mk hc
  have HB := Aside0.mk (Below.refl w.heap.size w)
  clear hr hc
  obtain ⟨r1, r2, r3, r4⟩ := r
  have c3 : decide (op = 3) = false := decide_eq_false (by omega)
  have d3 : (op == 3) = false := beq_eq_false_iff_ne.mpr (by omega)
  have c4 : decide (op = 4) = false := decide_eq_false (by omega)
  have d4 : (op == 4) = false := beq_eq_false_iff_ne.mpr (by omega)
  have c5 : decide (op = 5) = true := decide_eq_true (by omega)
  have d5 : (op == 5) = true := beq_iff_eq.mpr (by omega)
  have hn : 0 < l.length := by omega
  have hq1 : (0 < l.length) = True := eq_true hn
  have hq2 : ((0 : Int) < (l.length : Int)) = True := eq_true (by omega)
  have hq3 : (1 < l.length) = True := eq_true hn1
  have hq4 : ((1 : Int) < (l.length : Int)) = True := eq_true (by omega)
  obtain ⟨ad, A3, c3, e_, hx0, hx1, hx2, hx3, hl_, hi_⟩ := at0 HR.out hn
  cases e_
  generalize hxx : rd_T28 l 0 = x at hx0 hx1 hx2 hx3 hl_ hi_
  have H3 := Aside0.mk (And.intro hl_ hi_)
  clear hl_ hi_
  obtain ⟨ad', A4, c4, e_, hy0, hy1, hy2, hy3, hl_, hi_⟩ := at1 HR.out hn1
  cases e_
  generalize hxy : rd_T28 l 1 = y at hy0 hy1 hy2 hy3 hl_ hi_
  have H4 := Aside0.mk (And.intro hl_ hi_)
  clear hl_ hi_
  rw [hxx] at ha
  rw [hxy] at hb
  have HA := Aside0.mk ha
  have HBb := Aside0.mk hb
  have HO := Aside0.mk h
  have HI := Aside0.mk IH
  clear h ha hb IH e0 hxx hxy
  replace hx0 := Aside0.mk hx0
  replace hx1 := Aside0.mk hx1
  replace hx2 := Aside0.mk hx2
  replace hx3 := Aside0.mk hx3
  replace hy0 := Aside0.mk hy0
  replace hy1 := Aside0.mk hy1
  replace hy2 := Aside0.mk hy2
  replace hy3 := Aside0.mk hy3
  go_enter Tryd.func19, Tryd.ntmps19
  go_upto_region 12 with (first | ((with_reducible refine gate_dst (N := 1) rfl ?_); refine Own.be (N := 1) (cs := #[.int .i64 op, .string nm, .int .i64 day, .slice (some ad) l.length c]) (t := 28) ?_; intro g1 hg w2 hbox hb; have BK1 := Aside0.mk hbox; have G1 := Own.gs hg; replace HB := Own.bs hb; clear hb hbox hg) | ((with_reducible refine gate_dst (N := 2) rfl ?_); refine Own.be (N := 2) (cs := #[.int .i64 0, .string (⟨#[]⟩ : ByteArray), .int .i64 0, .slice none 0 0]) (t := 28) ?_; intro g2 hg w3 hbox hb; have BK2 := Aside0.mk hbox; have G2 := Own.gs hg; have NB := Own.nl hg BK1.out; replace BK1 := Own.bb BK1.out hb; replace HB := Own.bs hb; have L1 := Aside0.mk (blk_lt BK1.out); have L2 := Aside0.mk (blk_lt hbox); clear hb hbox hg; obtain ⟨y0, y1, y2, y3, z0, z1, z2, z3⟩ := Own.box4 BK1.out; obtain ⟨u0, u1, u2, u3, x0, x1, x2, x3⟩ := Own.box4 BK2.out))
  (try simp only [Own.ps])
  clear y0 y1 y2 y3 z0 z1 z2 z3 u0 u1 u2 u3 x0 x1 x2 x3
  replace BK1 := Aside0.mk (blk_drew BK1.out)
  replace BK2 := Aside0.mk (blk_drew BK2.out)
  replace HB := Aside0.mk (below_drew1 HB.out)
  have HZ := Aside0.mk (show w3.heap.size ≤ w3.drew.heap.size from Nat.le_refl _)
  refine start_ (n := 14) (S := fun w' => w'.cell? ⟨g1, 0, none⟩ = some (.int .i64 op) ∧ w'.cell? ⟨g1, 3, none⟩ = some (.slice (some ad) l.length c) ∧ w'.cell? ad = some (.int .i64 x.f0) ∧ w'.cell? ⟨ad.block, ad.off + 1, none⟩ = some (.string x.f1) ∧ w'.cell? ⟨ad.block, ad.off + 2, none⟩ = some (.int .i64 x.f2) ∧ w'.cell? ⟨ad.block, ad.off + 3, none⟩ = some (.slice A3 x.f3.length c3) ∧ w'.cell? ⟨ad.block, ad.off + 4, none⟩ = some (.int .i64 y.f0) ∧ w'.cell? ⟨ad.block, ad.off + 4 + 1, none⟩ = some (.string y.f1) ∧ w'.cell? ⟨ad.block, ad.off + 4 + 2, none⟩ = some (.int .i64 y.f2) ∧ w'.cell? ⟨ad.block, ad.off + 4 + 3, none⟩ = some (.slice A4 y.f3.length c4)) (ds := [13]) #[false, false, false, false, false, false, false, false, false, false, false, false, false, false] (by kernel_rfl) rfl rfl ⟨blk_cell BK1.out 0, blk_cell BK1.out 3, Own.up HB.out hx0.out, Own.up HB.out hx1.out, Own.up HB.out hx2.out, Own.up HB.out hx3.out, Own.up HB.out hy0.out, Own.up HB.out hy1.out, Own.up HB.out hy2.out, Own.up HB.out hy3.out⟩ (fun hHeld => ?_); refine with_tabW sp_tab12 sp_bits12 (fun HT_ HW_ => ?_)
  generalize w3.drew = w4 at BK1 BK2 HB HZ hHeld ⊢
  refine pure_ (i := 0) (N := some 32) (v := ?_) (a' := ?_) #[true, false, false, false, false, false, false, false, false, false, false, false, false, false] rfl rfl (any_of HT_.out (by kernel_rfl)) (fun _ _ _ h => h) (Or.inl ⟨by rfl, ?_⟩) ?_ ?_
  rotate_left
  ·
   intro w'
   go_simp
   with_reducible rfl
  rotate_left
  ·
   simp only [Own.ps]
   rfl
  refine take_ (i := 1) (N := some 33) (v := ?_) (a' := ?_) #[true, true, false, false, false, false, false, false, false, false, false, false, false, false] rfl rfl (take_ofW HT_.out HW_.out (by kernel_rfl)) (fun _ _ _ h => h) (Or.inl ⟨by rfl, ?_⟩) hHeld ?_ ?_
  rotate_left
  ·
   rintro w' ⟨q0, q1, q2, q3, q4, q5, q6, q7, q8, q9⟩
   go_simp
   with_reducible rfl
  rotate_left
  ·
   simp only [Own.ps]
   rfl
  refine pure_ (i := 2) (N := some 34) (v := ?_) (a' := ?_) #[true, true, true, false, false, false, false, false, false, false, false, false, false, false] rfl rfl (any_of HT_.out (by kernel_rfl)) (fun _ _ _ h => h) (Or.inl ⟨by rfl, ?_⟩) ?_ ?_
  rotate_left
  ·
   intro w'
   go_simp
   with_reducible rfl
  rotate_left
  ·
   simp only [Own.ps]
   rfl
  refine take_ (i := 3) (N := some 35) (v := ?_) (a' := ?_) #[true, true, true, true, false, false, false, false, false, false, false, false, false, false] rfl rfl (take_ofW HT_.out HW_.out (by kernel_rfl)) (fun _ _ _ h => h) (Or.inl ⟨by rfl, ?_⟩) hHeld ?_ ?_
  rotate_left
  ·
   rintro w' ⟨q0, q1, q2, q3, q4, q5, q6, q7, q8, q9⟩
   go_simp
   with_reducible rfl
  rotate_left
  ·
   simp only [Own.ps]
   rfl
  refine pure_ (i := 4) (N := some 36) (v := ?_) (a' := ?_) #[true, true, true, true, true, false, false, false, false, false, false, false, false, false] rfl rfl (any_of HT_.out (by kernel_rfl)) (fun _ _ _ h => h) (Or.inl ⟨by rfl, ?_⟩) ?_ ?_
  rotate_left
  ·
   intro w'
   go_simp
   with_reducible rfl
  rotate_left
  ·
   simp only [Own.ps]
   rfl
  refine take_ (i := 5) (N := some 37) (v := ?_) (a' := ?_) #[true, true, true, true, true, true, false, false, false, false, false, false, false, false] rfl rfl (take_ofW HT_.out HW_.out (by kernel_rfl)) (fun _ _ _ h => h) (Or.inl ⟨by rfl, ?_⟩) hHeld ?_ ?_
  rotate_left
  ·
   rintro w' ⟨q0, q1, q2, q3, q4, q5, q6, q7, q8, q9⟩
   go_simp
   with_reducible rfl
  rotate_left
  ·
   simp only [Own.ps]
   rfl
  refine pure_ (i := 7) (N := some 39) (v := ?_) (a' := ?_) #[true, true, true, true, true, true, false, true, false, false, false, false, false, false] rfl rfl (any_of HT_.out (by kernel_rfl)) (fun _ _ _ h => h) (Or.inl ⟨by rfl, ?_⟩) ?_ ?_
  rotate_left
  ·
   intro w'
   go_simp
   with_reducible rfl
  rotate_left
  ·
   simp only [Own.ps]
   rfl
  refine take_ (i := 8) (N := some 40) (v := ?_) (a' := ?_) #[true, true, true, true, true, true, false, true, true, false, false, false, false, false] rfl rfl (take_ofW HT_.out HW_.out (by kernel_rfl)) (fun _ _ _ h => h) (Or.inl ⟨by rfl, ?_⟩) hHeld ?_ ?_
  rotate_left
  ·
   rintro w' ⟨q0, q1, q2, q3, q4, q5, q6, q7, q8, q9⟩
   go_simp
   with_reducible rfl
  rotate_left
  ·
   simp only [Own.ps]
   rfl
  refine pure_ (i := 9) (N := some 41) (v := ?_) (a' := ?_) #[true, true, true, true, true, true, false, true, true, true, false, false, false, false] rfl rfl (any_of HT_.out (by kernel_rfl)) (fun _ _ _ h => h) (Or.inl ⟨by rfl, ?_⟩) ?_ ?_
  rotate_left
  ·
   intro w'
   go_simp
   with_reducible rfl
  rotate_left
  ·
   simp only [Own.ps]
   rfl
  refine take_ (i := 10) (N := some 42) (v := ?_) (a' := ?_) #[true, true, true, true, true, true, false, true, true, true, true, false, false, false] rfl rfl (take_ofW HT_.out HW_.out (by kernel_rfl)) (fun _ _ _ h => h) (Or.inl ⟨by rfl, ?_⟩) hHeld ?_ ?_
  rotate_left
  ·
   rintro w' ⟨q0, q1, q2, q3, q4, q5, q6, q7, q8, q9⟩
   go_simp
   with_reducible rfl
  rotate_left
  ·
   simp only [Own.ps]
   rfl
  refine one_ (i := 6) (N := some 38) #[true, true, true, true, true, true, true, true, true, true, true, false, false, false] rfl rfl (one_of HT_.out (by kernel_rfl)) (by decide) (fun K hK => ?_)
  refine goes_ Tryd.func19 (by kernel_rfl) rfl #[.agg #[.int .i64 x.f0, .string x.f1, .int .i64 x.f2, .slice A3 x.f3.length c3]] (by rfl) rfl rfl Own.ha ?_
  with_reducible refine (HI.out x.f0 x.f1 x.f2 A3 c3 x.f3 a _ (Kd.C_below H3.out.2 HB.out) H3.out.1 HA.out).mono ?_
  rintro e w5 ⟨v_, rfl, hv, hb⟩
  refine ⟨_, rfl, ?_⟩
  have HVa := Aside0.mk (v_lo (lo' := w3.heap.size) (b' := 0) hv HZ.out)
  obtain ⟨Aa, ca, rfl⟩ := Kd.V_slice hv
  replace HZ := Aside0.mk (Nat.le_trans HZ.out hb.size); replace HB := Aside0.mk (below_step HB.out hb); replace BK1 := Aside0.mk (blk_below BK1.out hb); replace BK2 := Aside0.mk (blk_below BK2.out hb); clear hv hb
  refine hK.out _ _ ⟨blk_cell BK1.out 0, blk_cell BK1.out 3, Own.up HB.out hx0.out, Own.up HB.out hx1.out, Own.up HB.out hx2.out, Own.up HB.out hx3.out, Own.up HB.out hy0.out, Own.up HB.out hy1.out, Own.up HB.out hy2.out, Own.up HB.out hy3.out⟩ (fun hHeld => ?_)
  clear hK K
  refine norm_ (a' := ?_) ?_ ?_
  rotate_left
  ·
   show Act.put _ (some 38) _ = _
   simp only [Own.ps]
   rfl
  refine one_ (i := 11) (N := some 43) #[true, true, true, true, true, true, true, true, true, true, true, true, false, false] rfl rfl (one_of HT_.out (by kernel_rfl)) (by decide) (fun K hK => ?_)
  refine goes_ Tryd.func19 (by kernel_rfl) rfl #[.agg #[.int .i64 y.f0, .string y.f1, .int .i64 y.f2, .slice A4 y.f3.length c4]] (by rfl) rfl rfl Own.ha ?_
  with_reducible refine (HI.out y.f0 y.f1 y.f2 A4 c4 y.f3 b _ (Kd.C_below H4.out.2 HB.out) H4.out.1 HBb.out).mono ?_
  rintro e w6 ⟨v_, rfl, hv, hb⟩
  refine ⟨_, rfl, ?_⟩
  have HVb := Aside0.mk (v_lo (lo' := w3.heap.size) (b' := 0) hv HZ.out)
  obtain ⟨Ab, cb, rfl⟩ := Kd.V_slice hv
  replace HVa := Aside0.mk (Kd.V_below HVa.out hb)
  replace HZ := Aside0.mk (Nat.le_trans HZ.out hb.size); replace HB := Aside0.mk (below_step HB.out hb); replace BK1 := Aside0.mk (blk_below BK1.out hb); replace BK2 := Aside0.mk (blk_below BK2.out hb); clear hv hb
  refine hK.out _ _ ⟨blk_cell BK1.out 0, blk_cell BK1.out 3, Own.up HB.out hx0.out, Own.up HB.out hx1.out, Own.up HB.out hx2.out, Own.up HB.out hx3.out, Own.up HB.out hy0.out, Own.up HB.out hy1.out, Own.up HB.out hy2.out, Own.up HB.out hy3.out⟩ (fun hHeld => ?_)
  clear hK K
  refine norm_ (a' := ?_) ?_ ?_
  rotate_left
  ·
   show Act.put _ (some 43) _ = _
   simp only [Own.ps]
   rfl
  refine one_ (i := 12) (N := some 44) #[true, true, true, true, true, true, true, true, true, true, true, true, true, false] rfl rfl (one_of HT_.out (by kernel_rfl)) (by decide) (fun K hK => ?_)
  refine goes_ Tryd.func33 (by kernel_rfl) rfl #[.int .i64 op, .agg #[.int .i64 a.f0, .string a.f1, .int .i64 a.f2, .slice Aa a.f3.length ca], .agg #[.int .i64 b.f0, .string b.f1, .int .i64 b.f2, .slice Ab b.f3.length cb]] (by rfl) rfl rfl Own.ha ?_
  with_reducible refine (spec_l5Pair.calls k op a.f0 a.f1 a.f2 (fun k_ => w3.heap.size ≤ k_) Aa ca a.f3 b.f0 b.f1 b.f2 (fun k_ => w3.heap.size ≤ k_) Ab cb b.f3 r1 r2 r3 r4 w6 (v_lo HVa.out (Nat.le_refl _)) (v_lo HVb.out (Nat.le_refl _)) HO.out).mono ?_
  rintro e w7 ⟨v_, rfl, hv, hb⟩
  refine ⟨_, rfl, ?_⟩
  have HV := Aside0.mk (v_lo (lo' := w3.heap.size) (b' := 0) (Kd.V_mono (ok' := fun k => w3.heap.size ≤ k) hv (fun k_ h_ => by have := HZ.out; omega)) (Nat.le_refl _))
  obtain ⟨Ar, cr, rfl⟩ := Kd.V_slice hv
  replace HB := Aside0.mk (below_step HB.out hb); replace BK1 := Aside0.mk (blk_below BK1.out hb); replace BK2 := Aside0.mk (blk_below BK2.out hb); clear hv hb HVa HVb
  refine hK.out _ _ ⟨blk_cell BK1.out 0, blk_cell BK1.out 3, Own.up HB.out hx0.out, Own.up HB.out hx1.out, Own.up HB.out hx2.out, Own.up HB.out hx3.out, Own.up HB.out hy0.out, Own.up HB.out hy1.out, Own.up HB.out hy2.out, Own.up HB.out hy3.out⟩ (fun hHeld => ?_)
  clear hK K
  refine norm_ (a' := ?_) ?_ ?_
  rotate_left
  ·
   show Act.put _ (some 44) _ = _
   simp only [Own.ps]
   rfl
  refine last_ (i := 13) (N := none) #[true, true, true, true, true, true, true, true, true, true, true, true, true, true] rfl rfl (one_of HT_.out (by kernel_rfl)) (by decide) (fun K hK => ?_)
  obtain ⟨u0, u1, u2, u3, x0, x1, x2, x3⟩ := Own.box4 BK2.out
  refine skip_ (w1 := ((((w7.setCell ⟨g2, 0, none⟩ (.int .i64 r1)).setCell ⟨g2, 1, none⟩ (.string r2)).setCell ⟨g2, 2, none⟩ (.int .i64 r3)).setCell ⟨g2, 3, none⟩ (.slice Ar r4.length cr))) (by rfl) rfl ?_ ?_
  ·
    first | (go_simp; done) | (go_simp; rfl)
  refine hK.out _ _ ?_
  clear hK K
  refine done_ (done_of HT_.out (by kernel_rfl)) ?_
  go_wp2
  refine bodyPost_ret (results_cell_row rfl _ _ g2 28 #[.int .i64 r1, .string r2, .int .i64 r3, .slice Ar r4.length cr] (0, 0) _ rfl (by with_reducible exact Own.put4 BK2.out) Tryd.underlying28 rfl (by kernel_rfl)) rfl ?_
  exact ⟨_, Own.rr, v_lo (v4 (HV.out) L2.out _ _ _ _) (Nat.le_trans G2.out (Nat.le_of_lt L2.out)), below_set (below_set (below_set (below_set HB.out G2.out) G2.out) G2.out) G2.out⟩
set_option maxHeartbeats 8000000 in
set_option maxRecDepth 100000 in
theorem l5s_or (k : Nat) (op : Int) (nm : ByteArray) (day : Int) (A : Option Addr) (c : Nat) (l : List SC) (w : World) (hr : Kd.C k28 w A l.length l) (hc : l.length ≤ c) (IH : ∀ (op : Int) (nm : ByteArray) (day : Int) (A : Option Addr) (c : Nat) (l : List SC) (r : SC) (w : World), Kd.C k28 w A l.length l → l.length ≤ c → spec_l5Simple.f k op nm day l = some r → Calls Tryd.prog 19 #[.agg #[.int .i64 op, .string nm, .int .i64 day, .slice A l.length c]] w fun e w' => Res w w' e r) (e0 : op = 6) (hn1 : 1 < l.length) (a b : SC) (ha : spec_l5Simple.f k (rd_T28 l 0).f0 (rd_T28 l 0).f1 (rd_T28 l 0).f2 (rd_T28 l 0).f3 = some a) (hb : spec_l5Simple.f k (rd_T28 l 1).f0 (rd_T28 l 1).f1 (rd_T28 l 1).f2 (rd_T28 l 1).f3 = some b) (r : Int × ByteArray × Int × List SC) (h : spec_l5Pair.f k op a.f0 a.f1 a.f2 a.f3 b.f0 b.f1 b.f2 b.f3 = some r) :
    Calls Tryd.prog 19 #[.agg #[.int .i64 op, .string nm, .int .i64 day, .slice A l.length c]] w fun e w' => Res w w' e ⟨r.1, r.2.1, r.2.2.1, r.2.2.2⟩ := by
  have hu1 := Tryd.underlying28
  have HR := Aside0.mk hr
  have HC := Aside0.mk hc
  have HB := Aside0.mk (Below.refl w.heap.size w)
  clear hr hc
  obtain ⟨r1, r2, r3, r4⟩ := r
  have c3 : decide (op = 3) = false := decide_eq_false (by omega)
  have d3 : (op == 3) = false := beq_eq_false_iff_ne.mpr (by omega)
  have c4 : decide (op = 4) = false := decide_eq_false (by omega)
  have d4 : (op == 4) = false := beq_eq_false_iff_ne.mpr (by omega)
  have c5 : decide (op = 5) = false := decide_eq_false (by omega)
  have d5 : (op == 5) = false := beq_eq_false_iff_ne.mpr (by omega)
  have c6 : decide (op = 6) = true := decide_eq_true (by omega)
  have d6 : (op == 6) = true := beq_iff_eq.mpr (by omega)
  have hn : 0 < l.length := by omega
  have hq1 : (0 < l.length) = True := eq_true hn
  have hq2 : ((0 : Int) < (l.length : Int)) = True := eq_true (by omega)
  have hq3 : (1 < l.length) = True := eq_true hn1
  have hq4 : ((1 : Int) < (l.length : Int)) = True := eq_true (by omega)
  obtain ⟨ad, A3, c3, e_, hx0, hx1, hx2, hx3, hl_, hi_⟩ := at0 HR.out hn
  cases e_
  generalize hxx : rd_T28 l 0 = x at hx0 hx1 hx2 hx3 hl_ hi_
  have H3 := Aside0.mk (And.intro hl_ hi_)
  clear hl_ hi_
  obtain ⟨ad', A4, c4, e_, hy0, hy1, hy2, hy3, hl_, hi_⟩ := at1 HR.out hn1
  cases e_
  generalize hxy : rd_T28 l 1 = y at hy0 hy1 hy2 hy3 hl_ hi_
  have H4 := Aside0.mk (And.intro hl_ hi_)
  clear hl_ hi_
  rw [hxx] at ha
  rw [hxy] at hb
  have HA := Aside0.mk ha
  have HBb := Aside0.mk hb
  have HO := Aside0.mk h
  have HI := Aside0.mk IH
  clear h ha hb IH e0 hxx hxy
  replace hx0 := Aside0.mk hx0
  replace hx1 := Aside0.mk hx1
  replace hx2 := Aside0.mk hx2
  replace hx3 := Aside0.mk hx3
  replace hy0 := Aside0.mk hy0
  replace hy1 := Aside0.mk hy1
  replace hy2 := Aside0.mk hy2
  replace hy3 := Aside0.mk hy3
  go_enter Tryd.func19, Tryd.ntmps19
  go_upto_region 12 with (first | ((with_reducible refine gate_dst (N := 1) rfl ?_); refine Own.be (N := 1) (cs := #[.int .i64 op, .string nm, .int .i64 day, .slice (some ad) l.length c]) (t := 28) ?_; intro g1 hg w2 hbox hb; have BK1 := Aside0.mk hbox; have G1 := Own.gs hg; replace HB := Own.bs hb; clear hb hbox hg) | ((with_reducible refine gate_dst (N := 2) rfl ?_); refine Own.be (N := 2) (cs := #[.int .i64 0, .string (⟨#[]⟩ : ByteArray), .int .i64 0, .slice none 0 0]) (t := 28) ?_; intro g2 hg w3 hbox hb; have BK2 := Aside0.mk hbox; have G2 := Own.gs hg; have NB := Own.nl hg BK1.out; replace BK1 := Own.bb BK1.out hb; replace HB := Own.bs hb; have L1 := Aside0.mk (blk_lt BK1.out); have L2 := Aside0.mk (blk_lt hbox); clear hb hbox hg; obtain ⟨y0, y1, y2, y3, z0, z1, z2, z3⟩ := Own.box4 BK1.out; obtain ⟨u0, u1, u2, u3, x0, x1, x2, x3⟩ := Own.box4 BK2.out))
  (try simp only [Own.ps])
  clear y0 y1 y2 y3 z0 z1 z2 z3 u0 u1 u2 u3 x0 x1 x2 x3
  replace BK1 := Aside0.mk (blk_drew BK1.out)
  replace BK2 := Aside0.mk (blk_drew BK2.out)
  replace HB := Aside0.mk (below_drew1 HB.out)
  have HZ := Aside0.mk (show w3.heap.size ≤ w3.drew.heap.size from Nat.le_refl _)
  refine start_ (n := 14) (S := fun w' => w'.cell? ⟨g1, 0, none⟩ = some (.int .i64 op) ∧ w'.cell? ⟨g1, 3, none⟩ = some (.slice (some ad) l.length c) ∧ w'.cell? ad = some (.int .i64 x.f0) ∧ w'.cell? ⟨ad.block, ad.off + 1, none⟩ = some (.string x.f1) ∧ w'.cell? ⟨ad.block, ad.off + 2, none⟩ = some (.int .i64 x.f2) ∧ w'.cell? ⟨ad.block, ad.off + 3, none⟩ = some (.slice A3 x.f3.length c3) ∧ w'.cell? ⟨ad.block, ad.off + 4, none⟩ = some (.int .i64 y.f0) ∧ w'.cell? ⟨ad.block, ad.off + 4 + 1, none⟩ = some (.string y.f1) ∧ w'.cell? ⟨ad.block, ad.off + 4 + 2, none⟩ = some (.int .i64 y.f2) ∧ w'.cell? ⟨ad.block, ad.off + 4 + 3, none⟩ = some (.slice A4 y.f3.length c4)) (ds := [13]) #[false, false, false, false, false, false, false, false, false, false, false, false, false, false] (by kernel_rfl) rfl rfl ⟨blk_cell BK1.out 0, blk_cell BK1.out 3, Own.up HB.out hx0.out, Own.up HB.out hx1.out, Own.up HB.out hx2.out, Own.up HB.out hx3.out, Own.up HB.out hy0.out, Own.up HB.out hy1.out, Own.up HB.out hy2.out, Own.up HB.out hy3.out⟩ (fun hHeld => ?_); refine with_tabW sp_tab12 sp_bits12 (fun HT_ HW_ => ?_)
  generalize w3.drew = w4 at BK1 BK2 HB HZ hHeld ⊢
  refine pure_ (i := 0) (N := some 32) (v := ?_) (a' := ?_) #[true, false, false, false, false, false, false, false, false, false, false, false, false, false] rfl rfl (any_of HT_.out (by kernel_rfl)) (fun _ _ _ h => h) (Or.inl ⟨by rfl, ?_⟩) ?_ ?_
  rotate_left
  ·
   intro w'
   go_simp
   with_reducible rfl
  rotate_left
  ·
   simp only [Own.ps]
   rfl
  refine take_ (i := 1) (N := some 33) (v := ?_) (a' := ?_) #[true, true, false, false, false, false, false, false, false, false, false, false, false, false] rfl rfl (take_ofW HT_.out HW_.out (by kernel_rfl)) (fun _ _ _ h => h) (Or.inl ⟨by rfl, ?_⟩) hHeld ?_ ?_
  rotate_left
  ·
   rintro w' ⟨q0, q1, q2, q3, q4, q5, q6, q7, q8, q9⟩
   go_simp
   with_reducible rfl
  rotate_left
  ·
   simp only [Own.ps]
   rfl
  refine pure_ (i := 2) (N := some 34) (v := ?_) (a' := ?_) #[true, true, true, false, false, false, false, false, false, false, false, false, false, false] rfl rfl (any_of HT_.out (by kernel_rfl)) (fun _ _ _ h => h) (Or.inl ⟨by rfl, ?_⟩) ?_ ?_
  rotate_left
  ·
   intro w'
   go_simp
   with_reducible rfl
  rotate_left
  ·
   simp only [Own.ps]
   rfl
  refine take_ (i := 3) (N := some 35) (v := ?_) (a' := ?_) #[true, true, true, true, false, false, false, false, false, false, false, false, false, false] rfl rfl (take_ofW HT_.out HW_.out (by kernel_rfl)) (fun _ _ _ h => h) (Or.inl ⟨by rfl, ?_⟩) hHeld ?_ ?_
  rotate_left
  ·
   rintro w' ⟨q0, q1, q2, q3, q4, q5, q6, q7, q8, q9⟩
   go_simp
   with_reducible rfl
  rotate_left
  ·
   simp only [Own.ps]
   rfl
  refine pure_ (i := 4) (N := some 36) (v := ?_) (a' := ?_) #[true, true, true, true, true, false, false, false, false, false, false, false, false, false] rfl rfl (any_of HT_.out (by kernel_rfl)) (fun _ _ _ h => h) (Or.inl ⟨by rfl, ?_⟩) ?_ ?_
  rotate_left
  ·
   intro w'
   go_simp
   with_reducible rfl
  rotate_left
  ·
   simp only [Own.ps]
   rfl
  refine take_ (i := 5) (N := some 37) (v := ?_) (a' := ?_) #[true, true, true, true, true, true, false, false, false, false, false, false, false, false] rfl rfl (take_ofW HT_.out HW_.out (by kernel_rfl)) (fun _ _ _ h => h) (Or.inl ⟨by rfl, ?_⟩) hHeld ?_ ?_
  rotate_left
  ·
   rintro w' ⟨q0, q1, q2, q3, q4, q5, q6, q7, q8, q9⟩
   go_simp
   with_reducible rfl
  rotate_left
  ·
   simp only [Own.ps]
   rfl
  refine pure_ (i := 7) (N := some 39) (v := ?_) (a' := ?_) #[true, true, true, true, true, true, false, true, false, false, false, false, false, false] rfl rfl (any_of HT_.out (by kernel_rfl)) (fun _ _ _ h => h) (Or.inl ⟨by rfl, ?_⟩) ?_ ?_
  rotate_left
  ·
   intro w'
   go_simp
   with_reducible rfl
  rotate_left
  ·
   simp only [Own.ps]
   rfl
  refine take_ (i := 8) (N := some 40) (v := ?_) (a' := ?_) #[true, true, true, true, true, true, false, true, true, false, false, false, false, false] rfl rfl (take_ofW HT_.out HW_.out (by kernel_rfl)) (fun _ _ _ h => h) (Or.inl ⟨by rfl, ?_⟩) hHeld ?_ ?_
  rotate_left
  ·
   rintro w' ⟨q0, q1, q2, q3, q4, q5, q6, q7, q8, q9⟩
   go_simp
   with_reducible rfl
  rotate_left
  ·
   simp only [Own.ps]
   rfl
  refine pure_ (i := 9) (N := some 41) (v := ?_) (a' := ?_) #[true, true, true, true, true, true, false, true, true, true, false, false, false, false] rfl rfl (any_of HT_.out (by kernel_rfl)) (fun _ _ _ h => h) (Or.inl ⟨by rfl, ?_⟩) ?_ ?_
  rotate_left
  ·
   intro w'
   go_simp
   with_reducible rfl
  rotate_left
  ·
   simp only [Own.ps]
   rfl
  refine take_ (i := 10) (N := some 42) (v := ?_) (a' := ?_) #[true, true, true, true, true, true, false, true, true, true, true, false, false, false] rfl rfl (take_ofW HT_.out HW_.out (by kernel_rfl)) (fun _ _ _ h => h) (Or.inl ⟨by rfl, ?_⟩) hHeld ?_ ?_
  rotate_left
  ·
   rintro w' ⟨q0, q1, q2, q3, q4, q5, q6, q7, q8, q9⟩
   go_simp
   with_reducible rfl
  rotate_left
  ·
   simp only [Own.ps]
   rfl
  refine one_ (i := 6) (N := some 38) #[true, true, true, true, true, true, true, true, true, true, true, false, false, false] rfl rfl (one_of HT_.out (by kernel_rfl)) (by decide) (fun K hK => ?_)
  refine goes_ Tryd.func19 (by kernel_rfl) rfl #[.agg #[.int .i64 x.f0, .string x.f1, .int .i64 x.f2, .slice A3 x.f3.length c3]] (by rfl) rfl rfl Own.ha ?_
  with_reducible refine (HI.out x.f0 x.f1 x.f2 A3 c3 x.f3 a _ (Kd.C_below H3.out.2 HB.out) H3.out.1 HA.out).mono ?_
  rintro e w5 ⟨v_, rfl, hv, hb⟩
  refine ⟨_, rfl, ?_⟩
  have HVa := Aside0.mk (v_lo (lo' := w3.heap.size) (b' := 0) hv HZ.out)
  obtain ⟨Aa, ca, rfl⟩ := Kd.V_slice hv
  replace HZ := Aside0.mk (Nat.le_trans HZ.out hb.size); replace HB := Aside0.mk (below_step HB.out hb); replace BK1 := Aside0.mk (blk_below BK1.out hb); replace BK2 := Aside0.mk (blk_below BK2.out hb); clear hv hb
  refine hK.out _ _ ⟨blk_cell BK1.out 0, blk_cell BK1.out 3, Own.up HB.out hx0.out, Own.up HB.out hx1.out, Own.up HB.out hx2.out, Own.up HB.out hx3.out, Own.up HB.out hy0.out, Own.up HB.out hy1.out, Own.up HB.out hy2.out, Own.up HB.out hy3.out⟩ (fun hHeld => ?_)
  clear hK K
  refine norm_ (a' := ?_) ?_ ?_
  rotate_left
  ·
   show Act.put _ (some 38) _ = _
   simp only [Own.ps]
   rfl
  refine one_ (i := 11) (N := some 43) #[true, true, true, true, true, true, true, true, true, true, true, true, false, false] rfl rfl (one_of HT_.out (by kernel_rfl)) (by decide) (fun K hK => ?_)
  refine goes_ Tryd.func19 (by kernel_rfl) rfl #[.agg #[.int .i64 y.f0, .string y.f1, .int .i64 y.f2, .slice A4 y.f3.length c4]] (by rfl) rfl rfl Own.ha ?_
  with_reducible refine (HI.out y.f0 y.f1 y.f2 A4 c4 y.f3 b _ (Kd.C_below H4.out.2 HB.out) H4.out.1 HBb.out).mono ?_
  rintro e w6 ⟨v_, rfl, hv, hb⟩
  refine ⟨_, rfl, ?_⟩
  have HVb := Aside0.mk (v_lo (lo' := w3.heap.size) (b' := 0) hv HZ.out)
  obtain ⟨Ab, cb, rfl⟩ := Kd.V_slice hv
  replace HVa := Aside0.mk (Kd.V_below HVa.out hb)
  replace HZ := Aside0.mk (Nat.le_trans HZ.out hb.size); replace HB := Aside0.mk (below_step HB.out hb); replace BK1 := Aside0.mk (blk_below BK1.out hb); replace BK2 := Aside0.mk (blk_below BK2.out hb); clear hv hb
  refine hK.out _ _ ⟨blk_cell BK1.out 0, blk_cell BK1.out 3, Own.up HB.out hx0.out, Own.up HB.out hx1.out, Own.up HB.out hx2.out, Own.up HB.out hx3.out, Own.up HB.out hy0.out, Own.up HB.out hy1.out, Own.up HB.out hy2.out, Own.up HB.out hy3.out⟩ (fun hHeld => ?_)
  clear hK K
  refine norm_ (a' := ?_) ?_ ?_
  rotate_left
  ·
   show Act.put _ (some 43) _ = _
   simp only [Own.ps]
   rfl
  refine one_ (i := 12) (N := some 44) #[true, true, true, true, true, true, true, true, true, true, true, true, true, false] rfl rfl (one_of HT_.out (by kernel_rfl)) (by decide) (fun K hK => ?_)
  refine goes_ Tryd.func33 (by kernel_rfl) rfl #[.int .i64 op, .agg #[.int .i64 a.f0, .string a.f1, .int .i64 a.f2, .slice Aa a.f3.length ca], .agg #[.int .i64 b.f0, .string b.f1, .int .i64 b.f2, .slice Ab b.f3.length cb]] (by rfl) rfl rfl Own.ha ?_
  with_reducible refine (spec_l5Pair.calls k op a.f0 a.f1 a.f2 (fun k_ => w3.heap.size ≤ k_) Aa ca a.f3 b.f0 b.f1 b.f2 (fun k_ => w3.heap.size ≤ k_) Ab cb b.f3 r1 r2 r3 r4 w6 (v_lo HVa.out (Nat.le_refl _)) (v_lo HVb.out (Nat.le_refl _)) HO.out).mono ?_
  rintro e w7 ⟨v_, rfl, hv, hb⟩
  refine ⟨_, rfl, ?_⟩
  have HV := Aside0.mk (v_lo (lo' := w3.heap.size) (b' := 0) (Kd.V_mono (ok' := fun k => w3.heap.size ≤ k) hv (fun k_ h_ => by have := HZ.out; omega)) (Nat.le_refl _))
  obtain ⟨Ar, cr, rfl⟩ := Kd.V_slice hv
  replace HB := Aside0.mk (below_step HB.out hb); replace BK1 := Aside0.mk (blk_below BK1.out hb); replace BK2 := Aside0.mk (blk_below BK2.out hb); clear hv hb HVa HVb
  refine hK.out _ _ ⟨blk_cell BK1.out 0, blk_cell BK1.out 3, Own.up HB.out hx0.out, Own.up HB.out hx1.out, Own.up HB.out hx2.out, Own.up HB.out hx3.out, Own.up HB.out hy0.out, Own.up HB.out hy1.out, Own.up HB.out hy2.out, Own.up HB.out hy3.out⟩ (fun hHeld => ?_)
  clear hK K
  refine norm_ (a' := ?_) ?_ ?_
  rotate_left
  ·
   show Act.put _ (some 44) _ = _
   simp only [Own.ps]
   rfl
  refine last_ (i := 13) (N := none) #[true, true, true, true, true, true, true, true, true, true, true, true, true, true] rfl rfl (one_of HT_.out (by kernel_rfl)) (by decide) (fun K hK => ?_)
  obtain ⟨u0, u1, u2, u3, x0, x1, x2, x3⟩ := Own.box4 BK2.out
  refine skip_ (w1 := ((((w7.setCell ⟨g2, 0, none⟩ (.int .i64 r1)).setCell ⟨g2, 1, none⟩ (.string r2)).setCell ⟨g2, 2, none⟩ (.int .i64 r3)).setCell ⟨g2, 3, none⟩ (.slice Ar r4.length cr))) (by rfl) rfl ?_ ?_
  ·
    first | (go_simp; done) | (go_simp; rfl)
  refine hK.out _ _ ?_
  clear hK K
  refine done_ (done_of HT_.out (by kernel_rfl)) ?_
  go_wp2
  refine bodyPost_ret (results_cell_row rfl _ _ g2 28 #[.int .i64 r1, .string r2, .int .i64 r3, .slice Ar r4.length cr] (0, 0) _ rfl (by with_reducible exact Own.put4 BK2.out) Tryd.underlying28 rfl (by kernel_rfl)) rfl ?_
  exact ⟨_, Own.rr, v_lo (v4 (HV.out) L2.out _ _ _ _) (Nat.le_trans G2.out (Nat.le_of_lt L2.out)), below_set (below_set (below_set (below_set HB.out G2.out) G2.out) G2.out) G2.out⟩
theorem l5S_calls (k : Nat) : ∀ (op : Int) (nm : ByteArray) (day : Int) (A : Option Addr) (c : Nat) (l : List SC) (r : SC) (w : World), Kd.C k28 w A l.length l → l.length ≤ c → spec_l5Simple.f k op nm day l = some r →
    Calls Tryd.prog 19 #[.agg #[.int .i64 op, .string nm, .int .i64 day, .slice A l.length c]] w fun e w' => Res w w' e r := by
  induction k with
  | zero => intro op nm day A c l r w _ _ h; cases h
  | succ k IH =>
    intro op nm day A c l r w hr hc h
    simp only [spec_l5Simple.f] at h
    by_cases e3 : op = 3
    · rw [if_pos e3] at h
      by_cases e0 : day = 0
      · rw [if_pos e0] at h
        obtain rfl := Option.some.inj h
        exact l5s_first k op nm day A c l w hr hc e3 e0
      · rw [if_neg e0] at h
        obtain ⟨q, hq, hr'⟩ := Option.bind_eq_some_iff.1 h
        obtain rfl := Option.some.inj hr'
        exact l5s_day k op nm day A c l w hr hc e3 e0 q hq
    rw [if_neg e3] at h
    by_cases e4 : op = 4
    · rw [if_pos e4] at h
      obtain ⟨hn, h⟩ := Own.ifn h
      obtain ⟨p, hp, h⟩ := Option.bind_eq_some_iff.1 h
      by_cases ep : p.f0 = 4
      · rw [if_pos ep] at h
        obtain ⟨hp3, h⟩ := Own.ifn h
        obtain rfl := Option.some.inj h
        exact l5s_nn k op nm day A c l w hr hc IH e4 hn p hp ep hp3
      · rw [if_neg ep] at h
        obtain rfl := Option.some.inj h
        exact l5s_not k op nm day A c l w hr hc IH e4 hn p hp ep
    rw [if_neg e4] at h
    by_cases e56 : op = 5 ∨ op = 6
    · rw [if_pos e56] at h
      obtain ⟨hn, h⟩ := Own.ifn h
      obtain ⟨a, ha, h⟩ := Option.bind_eq_some_iff.1 h
      obtain ⟨b, hb, h⟩ := Option.bind_eq_some_iff.1 h
      obtain ⟨q, hq, h⟩ := Option.bind_eq_some_iff.1 h
      obtain rfl := Option.some.inj h
      rcases e56 with e5 | e6
      · exact l5s_and k op nm day A c l w hr hc IH e5 hn a b ha hb q hq
      · exact l5s_or k op nm day A c l w hr hc IH e6 hn a b ha hb q hq
    · rw [if_neg e56] at h
      obtain ⟨q, hq, hr'⟩ := Option.bind_eq_some_iff.1 h
      obtain rfl := Option.some.inj hr'
      exact l5s_leaf k op nm day A c l w hr hc e3 e4 (fun e => e56 (.inl e)) (fun e => e56 (.inr e)) q hq
/-- spec.SimplifyCondition. -/
def spec_Simp.f (k : Nat) (op : Int) (nm : ByteArray) (day : Int) (l : List SC) : Option (SC × Bool) := (spec_l5Good.f k op nm day l).bind fun g => if g = true then (spec_l5Simple.f k op nm day l).bind fun r => some (r, true) else some (⟨0, ⟨#[]⟩, 0, []⟩, false)
def Res2 (w w' : World) (e : Ending) (r : SC) (b : Bool) : Prop := ∃ v, e = .returned (.tuple #[.agg #[.int .i64 r.f0, .string r.f1, .int .i64 r.f2, v], .bool b]) ∧ Kd.V k28 28 w' 0 (fun k => w.heap.size ≤ k) v r.f3 ∧ Below w.heap.size w w'
set_option maxHeartbeats 8000000 in
set_option maxRecDepth 100000 in
theorem spS_no (k : Nat) (op : Int) (nm : ByteArray) (day : Int) (A : Option Addr) (c : Nat) (l : List SC) (w : World) (hr : Kd.C k28 w A l.length l) (hc : l.length ≤ c) (h : spec_l5Good.f k op nm day l = some false) :
    Calls Tryd.prog 6 #[.agg #[.int .i64 op, .string nm, .int .i64 day, .slice A l.length c]] w fun e w' => Res2 w w' e ⟨0, ⟨#[]⟩, 0, []⟩ false := by
  have hu1 := Tryd.underlying28
  have HR := Aside0.mk hr
  have HC := Aside0.mk hc
  have HB := Aside0.mk (Below.refl w.heap.size w)
  clear hr hc
  have HG := Aside0.mk h
  clear h
  go_enter Tryd.func6, Tryd.ntmps6
  go_wp2_with (first | ((with_reducible refine gate_dst (N := 1) rfl ?_); refine Own.be (N := 1) (cs := #[.int .i64 op, .string nm, .int .i64 day, .slice A l.length c]) (t := 28) ?_; intro g1 hg w2 hbox hb; have BK1 := Aside0.mk hbox; have G1 := Own.gs hg; replace HB := Own.bs hb; clear hb hbox hg) | ((with_reducible refine gate_dst (N := 2) rfl ?_); refine Own.be (N := 2) (cs := #[.int .i64 0, .string (⟨#[]⟩ : ByteArray), .int .i64 0, .slice none 0 0]) (t := 28) ?_; intro g2 hg w3 hbox hb; have BK2 := Aside0.mk hbox; have G2 := Own.gs hg; have NB := Own.nl hg BK1.out; replace BK1 := Own.bb BK1.out hb; replace HB := Own.bs hb; have L1 := Aside0.mk (blk_lt BK1.out); have L2 := Aside0.mk (blk_lt hbox); clear hb hbox hg; obtain ⟨y0, y1, y2, y3, z0, z1, z2, z3⟩ := Own.box4 BK1.out; obtain ⟨u0, u1, u2, u3, x0, x1, x2, x3⟩ := Own.box4 BK2.out) | (go_at_call 18; (with_reducible refine (spec_l5Good.calls k op nm day A c l false _ (Kd.C_below HR.out HB.out) HC.out HG.out).mono ?_); rintro e w4 ⟨rfl, hb⟩; clear y0 y1 y2 y3 z0 z1 z2 z3 u0 u1 u2 u3 x0 x1 x2 x3; have HZ := Aside0.mk hb.size; replace HB := Aside0.mk (below_step HB.out hb); replace BK1 := Aside0.mk (blk_below BK1.out hb); replace BK2 := Aside0.mk (blk_below BK2.out hb); obtain ⟨y0, y1, y2, y3, z0, z1, z2, z3⟩ := Own.box4 BK1.out; obtain ⟨u0, u1, u2, u3, x0, x1, x2, x3⟩ := Own.box4 BK2.out; clear hb))
  refine bodyPost_ret (results_ct rfl _ _ g2 28 #[.int .i64 0, .string (⟨#[]⟩ : ByteArray), .int .i64 0, .slice none 0 0] (0, 0) _ rfl (by with_reducible exact Own.put4 BK2.out) Tryd.underlying28 rfl (by kernel_rfl)) rfl ?_
  exact ⟨_, Own.rr, v_lo (v4 (Kd.V_nil _ _ _ _ _) L2.out _ _ _ _) (Nat.le_trans G2.out (Nat.le_of_lt L2.out)), below_set (below_set (below_set (below_set HB.out G2.out) G2.out) G2.out) G2.out⟩
set_option maxHeartbeats 8000000 in
set_option maxRecDepth 100000 in
theorem spS_yes (k : Nat) (op : Int) (nm : ByteArray) (day : Int) (A : Option Addr) (c : Nat) (l : List SC) (w : World) (hr : Kd.C k28 w A l.length l) (hc : l.length ≤ c) (h : spec_l5Good.f k op nm day l = some true) (r : SC) (h2 : spec_l5Simple.f k op nm day l = some r) :
    Calls Tryd.prog 6 #[.agg #[.int .i64 op, .string nm, .int .i64 day, .slice A l.length c]] w fun e w' => Res2 w w' e r true := by
  have hu1 := Tryd.underlying28
  have HR := Aside0.mk hr
  have HC := Aside0.mk hc
  have HB := Aside0.mk (Below.refl w.heap.size w)
  clear hr hc
  have HG := Aside0.mk h
  have HO := Aside0.mk h2
  clear h h2
  go_enter Tryd.func6, Tryd.ntmps6
  go_wp2_with (first | ((with_reducible refine gate_dst (N := 1) rfl ?_); refine Own.be (N := 1) (cs := #[.int .i64 op, .string nm, .int .i64 day, .slice A l.length c]) (t := 28) ?_; intro g1 hg w2 hbox hb; have BK1 := Aside0.mk hbox; have G1 := Own.gs hg; replace HB := Own.bs hb; clear hb hbox hg) | ((with_reducible refine gate_dst (N := 2) rfl ?_); refine Own.be (N := 2) (cs := #[.int .i64 0, .string (⟨#[]⟩ : ByteArray), .int .i64 0, .slice none 0 0]) (t := 28) ?_; intro g2 hg w3 hbox hb; have BK2 := Aside0.mk hbox; have G2 := Own.gs hg; have NB := Own.nl hg BK1.out; replace BK1 := Own.bb BK1.out hb; replace HB := Own.bs hb; have L1 := Aside0.mk (blk_lt BK1.out); have L2 := Aside0.mk (blk_lt hbox); clear hb hbox hg; obtain ⟨y0, y1, y2, y3, z0, z1, z2, z3⟩ := Own.box4 BK1.out; obtain ⟨u0, u1, u2, u3, x0, x1, x2, x3⟩ := Own.box4 BK2.out) | (go_at_call 18; (with_reducible refine (spec_l5Good.calls k op nm day A c l true _ (Kd.C_below HR.out HB.out) HC.out HG.out).mono ?_); rintro e w4 ⟨rfl, hb⟩; clear y0 y1 y2 y3 z0 z1 z2 z3 u0 u1 u2 u3 x0 x1 x2 x3; have HZ := Aside0.mk hb.size; replace HB := Aside0.mk (below_step HB.out hb); replace BK1 := Aside0.mk (blk_below BK1.out hb); replace BK2 := Aside0.mk (blk_below BK2.out hb); obtain ⟨y0, y1, y2, y3, z0, z1, z2, z3⟩ := Own.box4 BK1.out; obtain ⟨u0, u1, u2, u3, x0, x1, x2, x3⟩ := Own.box4 BK2.out; clear hb) | (go_at_call 19; (with_reducible refine (l5S_calls k op nm day A c l r _ (Kd.C_below HR.out HB.out) HC.out HO.out).mono ?_); rintro e w5 ⟨v_, rfl, hv, hb⟩; clear y0 y1 y2 y3 z0 z1 z2 z3 u0 u1 u2 u3 x0 x1 x2 x3; have HV := Aside0.mk (v_lo (lo' := w3.heap.size) (b' := 0) hv HZ.out); obtain ⟨Av, cv, rfl⟩ := Kd.V_slice hv; replace HB := Aside0.mk (below_step HB.out hb); clear hv; replace BK1 := Aside0.mk (blk_below BK1.out hb); replace BK2 := Aside0.mk (blk_below BK2.out hb); obtain ⟨y0, y1, y2, y3, z0, z1, z2, z3⟩ := Own.box4 BK1.out; obtain ⟨u0, u1, u2, u3, x0, x1, x2, x3⟩ := Own.box4 BK2.out; clear hb))
  refine bodyPost_ret (results_ct rfl _ _ g2 28 #[.int .i64 r.f0, .string r.f1, .int .i64 r.f2, .slice Av r.f3.length cv] (0, 0) _ rfl (by with_reducible exact Own.put4 BK2.out) Tryd.underlying28 rfl (by kernel_rfl)) rfl ?_
  exact ⟨_, Own.rr, v_lo (v4 (HV.out) L2.out _ _ _ _) (Nat.le_trans G2.out (Nat.le_of_lt L2.out)), below_set (below_set (below_set (below_set HB.out G2.out) G2.out) G2.out) G2.out⟩
theorem spS_calls (k : Nat) (op : Int) (nm : ByteArray) (day : Int) (A : Option Addr) (c : Nat) (l : List SC) (r : SC) (b : Bool) (w : World) (hr : Kd.C k28 w A l.length l) (hc : l.length ≤ c) (h : spec_Simp.f k op nm day l = some (r, b)) :
    Calls Tryd.prog 6 #[.agg #[.int .i64 op, .string nm, .int .i64 day, .slice A l.length c]] w fun e w' => Res2 w w' e r b := by
  unfold spec_Simp.f at h
  obtain ⟨g, hg, h⟩ := Option.bind_eq_some_iff.1 h
  cases g with
  | true =>
    rw [if_pos rfl] at h
    obtain ⟨r', h2, h⟩ := Option.bind_eq_some_iff.1 h
    obtain ⟨rfl, rfl⟩ := Prod.mk.inj (Option.some.inj h)
    exact spS_yes k op nm day A c l w hr hc hg _ h2
  | false =>
    rw [if_neg (by decide)] at h
    obtain ⟨rfl, rfl⟩ := Prod.mk.inj (Option.some.inj h)
    exact spS_no k op nm day A c l w hr hc hg
end Go.Proofs.YtnpenfficbdlmaaDoor.QFnExactSimplifyCondition
