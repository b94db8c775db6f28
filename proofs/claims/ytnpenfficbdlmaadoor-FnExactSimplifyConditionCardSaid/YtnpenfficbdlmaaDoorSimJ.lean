/- impl.SimplifyCondition, walked by hand. No condition. -/
import Derived.Test.YtnpenfficbdlmaaDoorSimI
import Derived.Test.YtnpenfficbdlmaaDoorQFnExactSimplifyConditionx8
namespace Go.Proofs.YtnpenfficbdlmaaDoor.Own
open Go.RowKit Go.Proofs.YtnpenfficbdlmaaDoor.QFnExactSimplifyCondition Go.Proofs.YtnpenfficbdlmaaDoorW.PrintWords Go.Proofs.YtnpenfficbdlmaaDoorW.PrintLast Go.Proofs.YtnpenfficbdlmaaDoorW.PrintMore
set_option linter.unusedVariables false
set_option linter.unusedSimpArgs false
theorem simpI_calls (k : Nat) : ∀ (x r : SC) (A : Option Addr) (c : Nat) (w : World), szL x.f3 ≤ 100000000 → Kd.C k28 w A x.f3.length x.f3 → x.f3.length ≤ c → impl_simp.f k x = some r → Calls Tryd.prog 23 #[.agg #[.int .i64 x.f0, .string x.f1, .int .i64 x.f2, .slice A x.f3.length c]] w fun e w' => Sim w w' e r := by
  induction k with
  | zero => intro x r A c w _ _ _ h; cases h
  | succ k ih =>
    intro x r A c w hs hr hc h
    simp only [impl_simp.f] at h
    obtain ⟨res, hres, hsr⟩ := Option.bind_eq_some_iff.1 h
    exact simp_step k ih x.f0 x.f1 x.f2 A c x.f3 r w hs hr hc res hres hsr
theorem simpI4_calls (k : Nat) (op : Int) (nm : ByteArray) (day : Int) (A : Option Addr) (c : Nat) (l : List SC) (r : SC) (w : World) (hr : Kd.C k28 w A l.length l) (hc : l.length ≤ c) (hs : szL l ≤ 100000000) (h : impl_simp.f k ⟨op, nm, day, l⟩ = some r) : Calls Tryd.prog 23 #[.agg #[.int .i64 op, .string nm, .int .i64 day, .slice A l.length c]] w fun e w' => Sim w w' e r := simpI_calls k ⟨op, nm, day, l⟩ r A c w hs hr hc h
def impl_Simp.f (k : Nat) (op : Int) (nm : ByteArray) (day : Int) (l : List SC) : Option (SC × Bool) := (impl_IsValidCondition.f k op nm day l).bind fun g => if g = true then (impl_simp.f k ⟨op, nm, day, l⟩).bind fun r => some (r, true) else some (⟨0, ⟨#[]⟩, 0, []⟩, false)
def Sim2 (w w' : World) (e : Ending) (r : SC) (b : Bool) : Prop := ∃ v, e = .returned (.tuple #[.agg #[.int .i64 r.f0, .string r.f1, .int .i64 r.f2, v], .bool b]) ∧ Sep w' w.heap.size w'.heap.size v r.f3 ∧ Below w.heap.size w w'
set_option maxHeartbeats 8000000 in
set_option maxRecDepth 100000 in
theorem spI_no (k : Nat) (op : Int) (nm : ByteArray) (day : Int) (A : Option Addr) (c : Nat) (l : List SC) (w : World) (hr : Kd.C k28 w A l.length l) (hc : l.length ≤ c) (hG : Own.Glob w) (h : impl_IsValidCondition.f k op nm day l = some false) :
    Calls Tryd.prog 8 #[.agg #[.int .i64 op, .string nm, .int .i64 day, .slice A l.length c]] w fun e w' => Sim2 w w' e ⟨0, ⟨#[]⟩, 0, []⟩ false := by
  have hu1 := Tryd.underlying28
  have HR := Aside0.mk hr
  have HC := Aside0.mk hc
  have HB := Aside0.mk (Below.refl w.heap.size w)
  have HGl := Aside0.mk hG
  clear hr hc hG
  have HV := Aside0.mk h
  clear h
  go_enter Tryd.func8, Tryd.ntmps8
  go_wp2_with (first | ((with_reducible refine gate_dst (N := 1) rfl ?_); refine Own.be (N := 1) (cs := #[.int .i64 op, .string nm, .int .i64 day, .slice A l.length c]) (t := 28) ?_; intro g1 hg w2 hbox hb; have BK1 := Aside0.mk hbox; have G1 := Own.gs hg; replace HB := Own.bs hb; clear hb hbox hg) | ((with_reducible refine gate_dst (N := 2) rfl ?_); refine Own.be (N := 2) (cs := #[.int .i64 0, .string (⟨#[]⟩ : ByteArray), .int .i64 0, .slice none 0 0]) (t := 28) ?_; intro g2 hg w3 hbox hb; have BK2 := Aside0.mk hbox; have G2 := Own.gs hg; have NB := Own.nl hg BK1.out; replace BK1 := Own.bb BK1.out hb; replace HB := Own.bs hb; have L1 := Aside0.mk (blk_lt BK1.out); have L2 := Aside0.mk (blk_lt hbox); clear hb hbox hg; obtain ⟨y0, y1, y2, y3, z0, z1, z2, z3⟩ := Own.box4 BK1.out; obtain ⟨u0, u1, u2, u3, x0, x1, x2, x3⟩ := Own.box4 BK2.out) | (go_at_call 21; (with_reducible refine (impl_IsValidCondition.calls k op nm day A c l false _ (Kd.C_below HR.out HB.out) HC.out (HGl.out.below HB.out) HV.out).mono ?_); rintro e w4 ⟨rfl, hb⟩; clear y0 y1 y2 y3 z0 z1 z2 z3 u0 u1 u2 u3 x0 x1 x2 x3; have HZ := Aside0.mk hb.size; replace HB := Aside0.mk (below_step HB.out hb); replace BK1 := Aside0.mk (blk_below BK1.out hb); replace BK2 := Aside0.mk (blk_below BK2.out hb); obtain ⟨y0, y1, y2, y3, z0, z1, z2, z3⟩ := Own.box4 BK1.out; obtain ⟨u0, u1, u2, u3, x0, x1, x2, x3⟩ := Own.box4 BK2.out; clear hb))
  refine bodyPost_ret (results_ct rfl _ _ g2 28 #[.int .i64 0, .string (⟨#[]⟩ : ByteArray), .int .i64 0, .slice none 0 0] (0, 0) _ rfl (by with_reducible exact Own.put4 BK2.out) Tryd.underlying28 rfl (by kernel_rfl)) rfl ?_
  exact ⟨_, Own.rr, sep4 (Sep.nil w3.heap.size w4.heap.size HZ.out none 0) L2.out (Nat.le_trans G2.out (Nat.le_of_lt L2.out)) (Nat.le_refl _) _ _ _ _, below_set (below_set (below_set (below_set HB.out G2.out) G2.out) G2.out) G2.out⟩

set_option maxHeartbeats 8000000 in
set_option maxRecDepth 100000 in
theorem spI_yes (k : Nat) (op : Int) (nm : ByteArray) (day : Int) (A : Option Addr) (c : Nat) (l : List SC) (w : World) (hr : Kd.C k28 w A l.length l) (hc : l.length ≤ c) (hG : Own.Glob w) (h : impl_IsValidCondition.f k op nm day l = some true) (hsz : szL l ≤ 100000000) (r : SC) (h2 : impl_simp.f k ⟨op, nm, day, l⟩ = some r) (hrs : szL r.f3 ≤ 100000000) :
    Calls Tryd.prog 8 #[.agg #[.int .i64 op, .string nm, .int .i64 day, .slice A l.length c]] w fun e w' => Sim2 w w' e r true := by
  have hu1 := Tryd.underlying28
  have HR := Aside0.mk hr
  have HC := Aside0.mk hc
  have HB := Aside0.mk (Below.refl w.heap.size w)
  have HGl := Aside0.mk hG
  clear hr hc hG
  have HV := Aside0.mk h
  have HS := Aside0.mk h2
  have HSZ := Aside0.mk hsz
  have HRS := Aside0.mk hrs
  clear h h2 hsz hrs
  go_enter Tryd.func8, Tryd.ntmps8
  go_wp2_with (first | ((with_reducible refine gate_dst (N := 1) rfl ?_); refine Own.be (N := 1) (cs := #[.int .i64 op, .string nm, .int .i64 day, .slice A l.length c]) (t := 28) ?_; intro g1 hg w2 hbox hb; have BK1 := Aside0.mk hbox; have G1 := Own.gs hg; replace HB := Own.bs hb; clear hb hbox hg) | ((with_reducible refine gate_dst (N := 2) rfl ?_); refine Own.be (N := 2) (cs := #[.int .i64 0, .string (⟨#[]⟩ : ByteArray), .int .i64 0, .slice none 0 0]) (t := 28) ?_; intro g2 hg w3 hbox hb; have BK2 := Aside0.mk hbox; have G2 := Own.gs hg; have NB := Own.nl hg BK1.out; replace BK1 := Own.bb BK1.out hb; replace HB := Own.bs hb; have L1 := Aside0.mk (blk_lt BK1.out); have L2 := Aside0.mk (blk_lt hbox); clear hb hbox hg; obtain ⟨y0, y1, y2, y3, z0, z1, z2, z3⟩ := Own.box4 BK1.out; obtain ⟨u0, u1, u2, u3, x0, x1, x2, x3⟩ := Own.box4 BK2.out) | (go_at_call 21; (with_reducible refine (impl_IsValidCondition.calls k op nm day A c l true _ (Kd.C_below HR.out HB.out) HC.out (HGl.out.below HB.out) HV.out).mono ?_); rintro e w4 ⟨rfl, hb⟩; clear y0 y1 y2 y3 z0 z1 z2 z3 u0 u1 u2 u3 x0 x1 x2 x3; have HZ := Aside0.mk hb.size; replace HB := Aside0.mk (below_step HB.out hb); replace BK1 := Aside0.mk (blk_below BK1.out hb); replace BK2 := Aside0.mk (blk_below BK2.out hb); obtain ⟨y0, y1, y2, y3, z0, z1, z2, z3⟩ := Own.box4 BK1.out; obtain ⟨u0, u1, u2, u3, x0, x1, x2, x3⟩ := Own.box4 BK2.out; clear hb) | (go_at_call 23; (with_reducible refine (simpI4_calls k op nm day A c l r _ (Kd.C_below HR.out HB.out) HC.out HSZ.out HS.out).mono ?_); rintro e w5 ⟨v_, rfl, hs, hb⟩; clear y0 y1 y2 y3 z0 z1 z2 z3 u0 u1 u2 u3 x0 x1 x2 x3; obtain ⟨Av, cv, rfl, hlv, hcv⟩ := hs.C; have HV5 := Aside0.mk (And.intro hlv hcv); replace HZ := Aside0.mk (Nat.le_trans HZ.out hb.size); replace HB := Aside0.mk (below_step HB.out hb); clear hs hlv hcv; replace BK1 := Aside0.mk (blk_below BK1.out hb); replace BK2 := Aside0.mk (blk_below BK2.out hb); obtain ⟨y0, y1, y2, y3, z0, z1, z2, z3⟩ := Own.box4 BK1.out; obtain ⟨u0, u1, u2, u3, x0, x1, x2, x3⟩ := Own.box4 BK2.out; clear hb) | (go_at_call 22; (with_reducible refine (ownS_calls _ r.f0 r.f1 r.f2 Av cv r.f3 w5 rfl HRS.out HV5.out.2 HV5.out.1).mono ?_); rintro e w6 ⟨v_, rfl, hs, hb⟩; clear y0 y1 y2 y3 z0 z1 z2 z3 u0 u1 u2 u3 x0 x1 x2 x3; obtain ⟨Ao, co, rfl, _, _⟩ := hs.C; have HO := Aside0.mk hs; replace HB := Aside0.mk (below_step HB.out hb); clear hs; replace BK1 := Aside0.mk (blk_below BK1.out hb); replace BK2 := Aside0.mk (blk_below BK2.out hb); obtain ⟨y0, y1, y2, y3, z0, z1, z2, z3⟩ := Own.box4 BK1.out; obtain ⟨u0, u1, u2, u3, x0, x1, x2, x3⟩ := Own.box4 BK2.out; clear hb))
  refine bodyPost_ret (results_ct rfl _ _ g2 28 #[.int .i64 r.f0, .string r.f1, .int .i64 r.f2, .slice Ao r.f3.length co] (0, 0) _ rfl (by with_reducible exact Own.put4 BK2.out) Tryd.underlying28 rfl (by kernel_rfl)) rfl ?_
  exact ⟨_, Own.rr, sep4 HO.out (Nat.lt_of_lt_of_le L2.out HZ.out) (Nat.le_trans G2.out (Nat.le_trans (Nat.le_of_lt L2.out) HZ.out)) (Nat.le_refl _) _ _ _ _, below_set (below_set (below_set (below_set HB.out G2.out) G2.out) G2.out) G2.out⟩

theorem spI_calls (k : Nat) (op : Int) (nm : ByteArray) (day : Int) (A : Option Addr) (c : Nat) (l : List SC) (r : SC) (b : Bool) (w : World) (hr : Kd.C k28 w A l.length l) (hc : l.length ≤ c) (hG : Own.Glob w) (hsz : szL l ≤ 100000000) (hrs : szL r.f3 ≤ 100000000) (h : impl_Simp.f k op nm day l = some (r, b)) :
    Calls Tryd.prog 8 #[.agg #[.int .i64 op, .string nm, .int .i64 day, .slice A l.length c]] w fun e w' => Sim2 w w' e r b := by
  unfold impl_Simp.f at h
  obtain ⟨g, hg, h⟩ := Option.bind_eq_some_iff.1 h
  cases g with
  | true =>
    rw [if_pos rfl] at h
    obtain ⟨r', h2, h⟩ := Option.bind_eq_some_iff.1 h
    obtain ⟨rfl, rfl⟩ := Prod.mk.inj (Option.some.inj h)
    exact spI_yes k op nm day A c l w hr hc hG hg hsz _ h2 hrs
  | false =>
    rw [if_neg (by decide)] at h
    obtain ⟨rfl, rfl⟩ := Prod.mk.inj (Option.some.inj h)
    exact spI_no k op nm day A c l w hr hc hG hg
end Go.Proofs.YtnpenfficbdlmaaDoor.Own
