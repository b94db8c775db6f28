/- Functions over clauses that take function values which read their caller's variables. No condition. -/
import Derived.Test.YtdfbfcgjcfbmpaaGreatDoorQFnExactClausesOfx16
import Derived.Test.YtdfbfcgjcfbmpaaGreatDoorQFnExactClausesOfx11
namespace Go.Proofs.YtdfbfcgjcfbmpaaGreatDoor.QFnExactClausesOf
open Go.RowKit Go.Proofs.YtdfbfcgjcfbmpaaGreatDoorW.PrintWords Go.Proofs.YtdfbfcgjcfbmpaaGreatDoorW.PrintLast Go.Proofs.YtdfbfcgjcfbmpaaGreatDoorW.PrintMore Go.Proofs.YtdfbfcgjcfbmpaaGreatDoor.Own
set_option linter.unusedVariables false
set_option linter.unusedSimpArgs false
/-- The numbers below n of which a test holds. -/
def selQ (Q : Nat → Bool) : Nat → List Int
  | 0 => []
  | n + 1 => selQ Q n ++ (if Q n = true then [(n : Int)] else [])
theorem selQ_len (Q : Nat → Bool) (n : Nat) : (selQ Q n).length ≤ n := by
  induction n with
  | zero => simp [selQ]
  | succ n ih => simp only [selQ, List.length_append]; split <;> simp <;> omega
set_option maxHeartbeats 8000000 in
set_option maxRecDepth 100000 in
theorem clausesWith_calls (Q : Nat → Bool) (g : FuncId) (fn : Func) (fs : Array Value) (hf : Tryz.prog.funcs[g]? = some fn) (hn : (fn.name == "runtime.NumGoroutine") = false) (hbd : fn.body.isSome = true) (A0 : Option Addr) (c0 : Nat) (p : List ByteArray) (A1 : Option Addr) (c1 : Nat) (l : List S51) (w : World) (hL : l.length ≤ 1048576)
    (HQ : ∀ (i : Nat) (W : World), i < l.length → Below w.heap.size w W → Calls Tryz.prog g (#[.int .i64 (i : Int)] ++ fs) W fun e W' => e = .returned (.bool (Q i)) ∧ Below W.heap.size W W') :
    Calls Tryz.prog 37 #[.agg #[.slice A0 p.length c0, .slice A1 l.length c1], .func (.func g) #[] fs] w fun e w' => ∃ v : Value, e = .returned v ∧ Kd.R (Kd.int .i64) 3 w' w.heap.size (fun _ => True) v (selQ Q l.length) ∧ Below w.heap.size w w' := by
  have hu2 := Tryz.underlying32
  have HQ' := Aside0.mk HQ
  have HF := Aside0.mk hf
  have HN := Aside0.mk hn
  have HD := Aside0.mk hbd
  have HLen := Aside0.mk hL
  have HB := Aside0.mk (Below.refl w.heap.size w)
  clear HQ hf hn hbd hL
  have info3 : (Tryz.prog.info? 3).map (fun i => (i.zero, i.size, i.bytes)) = some (some (.int .i64 0), 1, 8) := by kernel_rfl
  go_enter Tryz.func37, Tryz.ntmps37
  go_wp2_with (first | ((with_reducible refine gate_dst (N := 2) rfl ?_); refine Own.be (N := 2) (cs := #[.slice A0 p.length c0, .slice A1 l.length c1]) (t := 32) ?_; intro gc hg w3 hbox hb; replace HB := Own.bs hb; have BC := Aside0.mk hbox; clear hbox hb hg) | ((with_reducible refine gate_dst (N := 7) rfl ?_); refine Kd.R_lit (Kd.int .i64) _ 3 ?hg (N := 7) ?hd (xs := ([] : List Int)) (inner := []) (ok := fun _ => True) (okp := fun _ => True) ?hr ?hp (fun _ hk => hk) trivial (Below.refl _ _) (Nat.le_refl _) (by simp) ?_; (case hd => rfl); (case hg => rfl); (case hr => first | (go_simp; done) | (go_simp; rfl)); (case hp => exact (Reps.none _ _)); intro v7 w4 ho hb hg_ hnew_; clear hg_ hnew_; have HO := Aside0.mk (Kd.R_lower ho HB.out.size); replace BC := Own.bb BC.out hb; replace HB := Own.bs hb; obtain ⟨y0, y1, z0, z1⟩ := Own.box2 BC.out; clear hb ho))
  go_loopg [5, 11] (l.length + 1) (fun kq v5 v11 w' => ∃ (i : Nat), v11 = .int .i64 (i : Int) ∧ Aside0 (i + kq = l.length + 1 ∧ i ≤ l.length) ∧ Aside0 (Kd.R (Kd.int .i64) 3 w' w.heap.size (fun _ => True) v5 (selQ Q i)) ∧ Aside0 (Below w.heap.size w w'))
  case atStart => exact ⟨0, rfl, ⟨by omega⟩, HO, HB⟩
  case round =>
    try clear y0 y1 z0 z1
    clear HB HO BC
    obtain ⟨i, rfl, HK, HO, HB⟩ := hrel
    by_cases c5 : i < l.length
    · have Hi := Aside0.mk c5
      have c6 : decide ((i : Int) < (l.length : Int)) = true := decide_eq_true (by omega)
      have c7 : decide (i < l.length) = true := decide_eq_true c5
      have c8 := eq_true c5
      have w1 : wrap64 ((i : Int) + 1) = ((i + 1 : Nat) : Int) := by have := HLen.out; unfold wrap64; omega
      clear c5
      cases hQ : Q i with
      | true =>
        have HPt := Aside0.mk hQ
        have HS := Aside0.mk (show selQ Q (i + 1) = selQ Q i ++ [(i : Int)] from by simp [selQ, hQ])
        have HLn := Aside0.mk (selQ_len Q i)
        clear hQ
        go_wp2_with (first | ((with_reducible refine Own.gateT_ (t := 14) rfl ?_); refine Own.goesF_ (some 16) rfl rfl HF.out HN.out HD.out fs #[.int .i64 (i : Int)] rfl (by (try simp only [List.map_toArray, List.map_cons, List.map_nil]); first | done | rfl) ?_; refine (HQ'.out i _ Hi.out HB.out).mono ?_; rintro e w7 ⟨he_, hb⟩; rw [HPt.out] at he_; subst he_; refine ⟨_, rfl, ?_⟩; replace HO := Aside0.mk (Kd.R_below HO.out hb); replace HB := Own.bs hb; clear hb) | ((with_reducible refine gate_builtin (b := .append) (xs := #[.tmp 17, .tmp 19]) rfl ?_); at_builtin; refine Kd.R_append (Kd.int .i64) (w0 := w) w.heap.size rfl (.tmp 17) (.tmp 19) 27 3 (.int .i64 0) 8 rfl Tryz.underlying27 info3 rfl (by decide) (by omega) u5 (selQ Q i) (i : Int) [.int .i64 (i : Int)] (fun _ => True) (fun _ => False) rfl rfl ?aP (fun _ hk => hk.elim) ?aF ?aO ?aB ?aS ?aL ?_; (case aP => exact rfl); (case aB => exact HB.out); (case aF => exact (fun _ _ => trivial)); (case aO => exact HO.out); (case aS => exact HB.out.size); (case aL => have := HLn.out; have := HLen.out; have := Hi.out; omega); intro v20 w8 ho hb hg hat; rw [← HS.out] at ho; replace HO := Aside0.mk ho; replace HB := Aside0.mk hb; clear ho hb hg hat))
        go_roundg (gk - 1)
        case measure => have := HK.out; have := Hi.out; omega
        case rel => exact ⟨i + 1, by rw [w1], ⟨by have := HK.out; have := Hi.out; omega⟩, HO, HB⟩
      | false =>
        have HPt := Aside0.mk hQ
        have HS := Aside0.mk (show selQ Q i = selQ Q (i + 1) from by simp [selQ, hQ])
        clear hQ
        go_wp2_with (first | ((with_reducible refine Own.gateT_ (t := 14) rfl ?_); refine Own.goesF_ (some 16) rfl rfl HF.out HN.out HD.out fs #[.int .i64 (i : Int)] rfl (by (try simp only [List.map_toArray, List.map_cons, List.map_nil]); first | done | rfl) ?_; refine (HQ'.out i _ Hi.out HB.out).mono ?_; rintro e w7 ⟨he_, hb⟩; rw [HPt.out] at he_; subst he_; refine ⟨_, rfl, ?_⟩; replace HO := Aside0.mk (Kd.R_below HO.out hb); replace HB := Own.bs hb; clear hb))
        go_roundg (gk - 1)
        case measure => have := HK.out; have := Hi.out; omega
        case rel => exact ⟨i + 1, by rw [w1], ⟨by have := HK.out; have := Hi.out; omega⟩, ⟨by rw [← HS.out]; exact HO.out⟩, HB⟩
    · have c6 : decide ((i : Int) < (l.length : Int)) = false := decide_eq_false (by omega)
      have c7 : decide (i < l.length) = false := decide_eq_false c5
      have c8 := eq_false c5
      have hz : i = l.length := by have := HK.out; omega
      have HO' := Aside0.mk (show Kd.R (Kd.int .i64) 3 wr w.heap.size (fun _ => True) u5 (selQ Q l.length) from by rw [← hz]; exact HO.out)
      clear HO c5 hz
      go_wp2
      go_ret
      exact ⟨_, Own.rr, HO'.out, HB.out⟩
def cofB (l : List S51) (a1 a2 : Int) (i : Nat) : Bool := ((rd_T51 l (i : Int)).f2 == a1) && ((a2 == 0) || ((rd_T51 l (i : Int)).f1 == a2))
set_option maxHeartbeats 8000000 in
set_option maxRecDepth 100000 in
theorem cofLit_calls (i : Nat) (gc gp gk : Nat) (A0 : Option Addr) (m0 c0 : Nat) (A1 : Option Addr) (c1 : Nat) (l : List S51) (a1 a2 : Int) (h1 : i < l.length) (w : World) (hr : Kd.C k51 w A1 l.length l) (hgc : w.heap[gc]? = some (.cells #[.slice A0 m0 c0, .slice A1 l.length c1] 32 (0, 0))) (hgp : w.heap[gp]? = some (.cells #[.int .i64 a1] 3 (0, 0))) (hgk : w.heap[gk]? = some (.cells #[.int .i64 a2] 3 (0, 0))) :
    Calls Tryz.prog 59 (#[.int .i64 (i : Int)] ++ #[.pointer (some ⟨gc, 0, none⟩), .pointer (some ⟨gp, 0, none⟩), .pointer (some ⟨gk, 0, none⟩)]) w fun e w' => e = .returned (.bool (cofB l a1 a2 i)) ∧ Below w.heap.size w w' := by
  have hu1 := Tryz.underlying51
  have hu2 := Tryz.underlying32
  have HB := Aside0.mk (Below.refl w.heap.size w)
  have p5 : 0 ≤ (i : Int) := by omega
  have q5 : (i : Int) < l.length := by omega
  obtain ⟨ad, A9, c9, ea, hx0, hx1, hx2, hx3, hx4, hx5, hx6, hx7, hx8, hx9, hx10, hx11, hl9, hi9⟩ := at_T51 hr (i : Int) p5 q5
  cases ea
  simp only [Int.toNat_natCast] at hx1 hx2
  clear hx0 hx3 hx4 hx5 hx6 hx7 hx8 hx9 hx10 hx11 hl9 hi9 hr
  obtain ⟨b0, b1, b2, b3⟩ := Own.box2 hgc
  have bp := (blk_cell hgp 0).trans rfl
  have bk := (blk_cell hgk 0).trans rfl
  clear hgc hgp hgk
  have c7 := eq_true h1
  have c8 : decide (i < l.length) = true := decide_eq_true h1
  replace p5 := eq_true p5
  replace q5 := eq_true q5
  clear h1
  have HV : Aside0 (cofB l a1 a2 i = (((rd_T51 l (i : Int)).f2 == a1) && ((a2 == 0) || ((rd_T51 l (i : Int)).f1 == a2)))) := ⟨rfl⟩
  rw [HV.out]
  clear HV
  generalize (rd_T51 l (i : Int)).f2 = x2 at *
  generalize (rd_T51 l (i : Int)).f1 = x1 at *
  cases e1 : (x2 == a1) <;> cases e2 : (a2 == 0) <;> cases e3 : (x1 == a2)
  all_goals (go_enter Tryz.func59, Tryz.ntmps59; go_wp2; go_quiet (fail); go_wp2; go_ret; exact ⟨by first | rfl | (simp; done) | (simp [*]; done), Own.bl⟩)
def impl_ClausesOf.f (k : Nat) (p : List ByteArray) (l : List S51) (a1 a2 : Int) : Option (List Int × Bool) :=
  (impl_IsValidContract.f k p l).bind fun t => if t = true then (impl_within.f a1 0 (wrap64 ((p.length : Int) - 1))).bind fun b1 => (if b1 = true then (impl_within.f a2 0 4).bind fun b2 => (if b2 = true then (if l.length ≤ 1048576 then some (selQ (cofB l a1 a2) l.length, true) else none) else some ([], false)) else some ([], false)) else some ([], false)
set_option maxHeartbeats 8000000 in
set_option maxRecDepth 100000 in
theorem impl_ClausesOf.calls (k : Nat) (A0_0 : Option Addr) (c0_0 : Nat) (l0_0 : List ByteArray) (A0_1 : Option Addr) (c0_1 : Nat) (l0_1 : List (S51)) (a1 a2 : Int) (r1 : List Int) (r2 : Bool) (w : World) (hr0_0 : Kd.C Kd.string w A0_0 l0_0.length l0_0) (hc0_0 : l0_0.length ≤ c0_0) (hr0_1 : Kd.C k51 w A0_1 l0_1.length l0_1) (hc0_1 : l0_1.length ≤ c0_1) (hG : Own.Glob w) (h : impl_ClausesOf.f k l0_0 l0_1 a1 a2 = some (r1, r2)) :
    Calls Tryz.prog 27 #[.agg #[.slice A0_0 l0_0.length c0_0, .slice A0_1 l0_1.length c0_1], .int .i64 a1, .int .i64 a2] w fun e w' => ∃ v0_ : Value, e = .returned (.tuple #[v0_, .bool r2]) ∧ Kd.R (Kd.int .i64) 3 w' w.heap.size (fun _ => True) v0_ r1 ∧ Below w.heap.size w w' := by
  have hu2 := Tryz.underlying32
  have HR0 := Aside0.mk hr0_0
  have HC0 := Aside0.mk hc0_0
  have HR1 := Aside0.mk hr0_1
  have HC1 := Aside0.mk hc0_1
  have HG := Aside0.mk hG
  have HB := Aside0.mk (Below.refl w.heap.size w)
  have T0 := Aside0.mk True.intro
  clear hr0_0 hc0_0 hr0_1 hc0_1 hG
  unfold impl_ClausesOf.f at h
  replace h := Own.bd h
  obtain ⟨t, A1, h⟩ := h
  cases t with
  | false =>
    rw [if_neg (by decide)] at h
    simp only [Option.some.injEq, Prod.mk.injEq] at h
    obtain ⟨rfl, rfl⟩ := h
    go_enter Tryz.func27, Tryz.ntmps27
    go_wp2_with (first | ((with_reducible refine gate_dst (N := 3) rfl ?_); refine Own.be (N := 3) (cs := #[.slice A0_0 l0_0.length c0_0, .slice A0_1 l0_1.length c0_1]) (t := 32) ?_; intro gc hg w3 hbox hb; replace HB := Own.bs hb; have BC := Aside0.mk hbox; clear hbox hb hg) | ((with_reducible refine gate_dst (N := 4) rfl ?_); refine Own.be (N := 4) (cs := #[.int .i64 a1]) (t := 3) ?_; intro gp hg w4 hbox hb; replace HB := Own.bs hb; replace BC := Own.bb BC.out hb; have BP := Aside0.mk hbox; clear hbox hb hg) | ((with_reducible refine gate_dst (N := 5) rfl ?_); refine Own.be (N := 5) (cs := #[.int .i64 a2]) (t := 3) ?_; intro gk hg w5 hbox hb; replace HB := Own.bs hb; replace BC := Own.bb BC.out hb; replace BP := Own.bb BP.out hb; have BQ := Aside0.mk hbox; obtain ⟨y0, y1, z0, z1⟩ := Own.box2 BC.out; have y2 := (blk_cell BP.out 0).trans rfl; have y3 := (blk_cell BQ.out 0).trans rfl; clear hbox hb hg) | (go_at_call 36; clear T0; (with_reducible refine (impl_IsValidContract.calls k _ _ l0_0 _ _ l0_1 _ _ (Kd.C_below HR0.out HB.out) HC0.out (Kd.C_below HR1.out HB.out) HC1.out (Own.gl HG.out HB.out) A1.out).mono ?_); rintro e w6 ⟨rfl, hb⟩; clear y0 y1 z0 z1 y2 y3; replace BC := Own.bb BC.out hb; replace BP := Own.bb BP.out hb; replace BQ := Own.bb BQ.out hb; replace HB := Own.bs hb; obtain ⟨y0, y1, z0, z1⟩ := Own.box2 BC.out; have y2 := (blk_cell BP.out 0).trans rfl; have y3 := (blk_cell BQ.out 0).trans rfl; clear hb; have T1 := Aside0.mk True.intro))
    go_ret2
    exact ⟨_, Own.rr, Kd.R_nil _ _ _ _ _, HB.out⟩
  | true =>
    rw [if_pos rfl] at h
    replace h := Own.bd h
    obtain ⟨b1, A2, h⟩ := h
    cases b1 with
    | false =>
      rw [if_neg (by decide)] at h
      simp only [Option.some.injEq, Prod.mk.injEq] at h
      obtain ⟨rfl, rfl⟩ := h
      go_enter Tryz.func27, Tryz.ntmps27
      go_wp2_with (first | ((with_reducible refine gate_dst (N := 3) rfl ?_); refine Own.be (N := 3) (cs := #[.slice A0_0 l0_0.length c0_0, .slice A0_1 l0_1.length c0_1]) (t := 32) ?_; intro gc hg w3 hbox hb; replace HB := Own.bs hb; have BC := Aside0.mk hbox; clear hbox hb hg) | ((with_reducible refine gate_dst (N := 4) rfl ?_); refine Own.be (N := 4) (cs := #[.int .i64 a1]) (t := 3) ?_; intro gp hg w4 hbox hb; replace HB := Own.bs hb; replace BC := Own.bb BC.out hb; have BP := Aside0.mk hbox; clear hbox hb hg) | ((with_reducible refine gate_dst (N := 5) rfl ?_); refine Own.be (N := 5) (cs := #[.int .i64 a2]) (t := 3) ?_; intro gk hg w5 hbox hb; replace HB := Own.bs hb; replace BC := Own.bb BC.out hb; replace BP := Own.bb BP.out hb; have BQ := Aside0.mk hbox; obtain ⟨y0, y1, z0, z1⟩ := Own.box2 BC.out; have y2 := (blk_cell BP.out 0).trans rfl; have y3 := (blk_cell BQ.out 0).trans rfl; clear hbox hb hg) | (go_at_call 36; clear T0; (with_reducible refine (impl_IsValidContract.calls k _ _ l0_0 _ _ l0_1 _ _ (Kd.C_below HR0.out HB.out) HC0.out (Kd.C_below HR1.out HB.out) HC1.out (Own.gl HG.out HB.out) A1.out).mono ?_); rintro e w6 ⟨rfl, hb⟩; clear y0 y1 z0 z1 y2 y3; replace BC := Own.bb BC.out hb; replace BP := Own.bb BP.out hb; replace BQ := Own.bb BQ.out hb; replace HB := Own.bs hb; obtain ⟨y0, y1, z0, z1⟩ := Own.box2 BC.out; have y2 := (blk_cell BP.out 0).trans rfl; have y3 := (blk_cell BQ.out 0).trans rfl; clear hb; have T1 := Aside0.mk True.intro) | (go_at_call 58; clear T1; (with_reducible refine (impl_within.calls _ _ _ _ _ A2.out).mono ?_); rintro e w7 ⟨rfl, hd⟩; have hb := Drawn0.below hd; clear y0 y1 z0 z1 y2 y3; replace BC := Own.bb BC.out hb; replace BP := Own.bb BP.out hb; replace BQ := Own.bb BQ.out hb; replace HB := Own.bs hb; obtain ⟨y0, y1, z0, z1⟩ := Own.box2 BC.out; have y2 := (blk_cell BP.out 0).trans rfl; have y3 := (blk_cell BQ.out 0).trans rfl; clear hb; have T2 := Aside0.mk True.intro))
      go_ret2
      exact ⟨_, Own.rr, Kd.R_nil _ _ _ _ _, HB.out⟩
    | true =>
      rw [if_pos rfl] at h
      replace h := Own.bd h
      obtain ⟨b2, A3, h⟩ := h
      cases b2 with
      | false =>
        rw [if_neg (by decide)] at h
        simp only [Option.some.injEq, Prod.mk.injEq] at h
        obtain ⟨rfl, rfl⟩ := h
        go_enter Tryz.func27, Tryz.ntmps27
        go_wp2_with (first | ((with_reducible refine gate_dst (N := 3) rfl ?_); refine Own.be (N := 3) (cs := #[.slice A0_0 l0_0.length c0_0, .slice A0_1 l0_1.length c0_1]) (t := 32) ?_; intro gc hg w3 hbox hb; replace HB := Own.bs hb; have BC := Aside0.mk hbox; clear hbox hb hg) | ((with_reducible refine gate_dst (N := 4) rfl ?_); refine Own.be (N := 4) (cs := #[.int .i64 a1]) (t := 3) ?_; intro gp hg w4 hbox hb; replace HB := Own.bs hb; replace BC := Own.bb BC.out hb; have BP := Aside0.mk hbox; clear hbox hb hg) | ((with_reducible refine gate_dst (N := 5) rfl ?_); refine Own.be (N := 5) (cs := #[.int .i64 a2]) (t := 3) ?_; intro gk hg w5 hbox hb; replace HB := Own.bs hb; replace BC := Own.bb BC.out hb; replace BP := Own.bb BP.out hb; have BQ := Aside0.mk hbox; obtain ⟨y0, y1, z0, z1⟩ := Own.box2 BC.out; have y2 := (blk_cell BP.out 0).trans rfl; have y3 := (blk_cell BQ.out 0).trans rfl; clear hbox hb hg) | (go_at_call 36; clear T0; (with_reducible refine (impl_IsValidContract.calls k _ _ l0_0 _ _ l0_1 _ _ (Kd.C_below HR0.out HB.out) HC0.out (Kd.C_below HR1.out HB.out) HC1.out (Own.gl HG.out HB.out) A1.out).mono ?_); rintro e w6 ⟨rfl, hb⟩; clear y0 y1 z0 z1 y2 y3; replace BC := Own.bb BC.out hb; replace BP := Own.bb BP.out hb; replace BQ := Own.bb BQ.out hb; replace HB := Own.bs hb; obtain ⟨y0, y1, z0, z1⟩ := Own.box2 BC.out; have y2 := (blk_cell BP.out 0).trans rfl; have y3 := (blk_cell BQ.out 0).trans rfl; clear hb; have T1 := Aside0.mk True.intro) | (go_at_call 58; clear T1; (with_reducible refine (impl_within.calls _ _ _ _ _ A2.out).mono ?_); rintro e w7 ⟨rfl, hd⟩; have hb := Drawn0.below hd; clear y0 y1 z0 z1 y2 y3; replace BC := Own.bb BC.out hb; replace BP := Own.bb BP.out hb; replace BQ := Own.bb BQ.out hb; replace HB := Own.bs hb; obtain ⟨y0, y1, z0, z1⟩ := Own.box2 BC.out; have y2 := (blk_cell BP.out 0).trans rfl; have y3 := (blk_cell BQ.out 0).trans rfl; clear hb; have T2 := Aside0.mk True.intro) | (go_at_call 58; clear T2; (with_reducible refine (impl_within.calls _ _ _ _ _ A3.out).mono ?_); rintro e w8 ⟨rfl, hd⟩; have hb := Drawn0.below hd; clear y0 y1 z0 z1 y2 y3; replace BC := Own.bb BC.out hb; replace BP := Own.bb BP.out hb; replace BQ := Own.bb BQ.out hb; replace HB := Own.bs hb; obtain ⟨y0, y1, z0, z1⟩ := Own.box2 BC.out; have y2 := (blk_cell BP.out 0).trans rfl; have y3 := (blk_cell BQ.out 0).trans rfl; clear hb; have T3 := Aside0.mk True.intro))
        go_ret2
        exact ⟨_, Own.rr, Kd.R_nil _ _ _ _ _, HB.out⟩
      | true =>
        rw [if_pos rfl] at h
        replace h := Own.ifn h
        obtain ⟨hL, h⟩ := h
        simp only [Option.some.injEq, Prod.mk.injEq] at h
        obtain ⟨rfl, rfl⟩ := h
        have HL := Aside0.mk hL
        clear hL
        go_enter Tryz.func27, Tryz.ntmps27
        go_wp2_with (first | ((with_reducible refine gate_dst (N := 3) rfl ?_); refine Own.be (N := 3) (cs := #[.slice A0_0 l0_0.length c0_0, .slice A0_1 l0_1.length c0_1]) (t := 32) ?_; intro gc hg w3 hbox hb; replace HB := Own.bs hb; have BC := Aside0.mk hbox; clear hbox hb hg) | ((with_reducible refine gate_dst (N := 4) rfl ?_); refine Own.be (N := 4) (cs := #[.int .i64 a1]) (t := 3) ?_; intro gp hg w4 hbox hb; replace HB := Own.bs hb; replace BC := Own.bb BC.out hb; have BP := Aside0.mk hbox; clear hbox hb hg) | ((with_reducible refine gate_dst (N := 5) rfl ?_); refine Own.be (N := 5) (cs := #[.int .i64 a2]) (t := 3) ?_; intro gk hg w5 hbox hb; replace HB := Own.bs hb; replace BC := Own.bb BC.out hb; replace BP := Own.bb BP.out hb; have BQ := Aside0.mk hbox; obtain ⟨y0, y1, z0, z1⟩ := Own.box2 BC.out; have y2 := (blk_cell BP.out 0).trans rfl; have y3 := (blk_cell BQ.out 0).trans rfl; clear hbox hb hg) | (go_at_call 36; clear T0; (with_reducible refine (impl_IsValidContract.calls k _ _ l0_0 _ _ l0_1 _ _ (Kd.C_below HR0.out HB.out) HC0.out (Kd.C_below HR1.out HB.out) HC1.out (Own.gl HG.out HB.out) A1.out).mono ?_); rintro e w6 ⟨rfl, hb⟩; clear y0 y1 z0 z1 y2 y3; replace BC := Own.bb BC.out hb; replace BP := Own.bb BP.out hb; replace BQ := Own.bb BQ.out hb; replace HB := Own.bs hb; obtain ⟨y0, y1, z0, z1⟩ := Own.box2 BC.out; have y2 := (blk_cell BP.out 0).trans rfl; have y3 := (blk_cell BQ.out 0).trans rfl; clear hb; have T1 := Aside0.mk True.intro) | (go_at_call 58; clear T1; (with_reducible refine (impl_within.calls _ _ _ _ _ A2.out).mono ?_); rintro e w7 ⟨rfl, hd⟩; have hb := Drawn0.below hd; clear y0 y1 z0 z1 y2 y3; replace BC := Own.bb BC.out hb; replace BP := Own.bb BP.out hb; replace BQ := Own.bb BQ.out hb; replace HB := Own.bs hb; obtain ⟨y0, y1, z0, z1⟩ := Own.box2 BC.out; have y2 := (blk_cell BP.out 0).trans rfl; have y3 := (blk_cell BQ.out 0).trans rfl; clear hb; have T2 := Aside0.mk True.intro) | (go_at_call 58; clear T2; (with_reducible refine (impl_within.calls _ _ _ _ _ A3.out).mono ?_); rintro e w8 ⟨rfl, hd⟩; have hb := Drawn0.below hd; clear y0 y1 z0 z1 y2 y3; replace BC := Own.bb BC.out hb; replace BP := Own.bb BP.out hb; replace BQ := Own.bb BQ.out hb; replace HB := Own.bs hb; obtain ⟨y0, y1, z0, z1⟩ := Own.box2 BC.out; have y2 := (blk_cell BP.out 0).trans rfl; have y3 := (blk_cell BQ.out 0).trans rfl; clear hb; have T3 := Aside0.mk True.intro) | (go_at_call 37; (with_reducible refine (clausesWith_calls (cofB l0_1 a1 a2) _ Tryz.f59 _ Tryz.func59 (by kernel_rfl) rfl _ _ l0_0 _ _ l0_1 _ HL.out (fun i W hi hW => cofLit_calls i gc gp gk A0_0 l0_0.length c0_0 A0_1 c0_1 l0_1 a1 a2 hi W (Kd.C_below HR1.out (below_step HB.out hW)) (blk_below BC.out hW) (blk_below BP.out hW) (blk_below BQ.out hW))).mono ?_); rintro e w9 ⟨v9, rfl, ho, hb⟩; have HO := Aside0.mk (Kd.R_lower ho HB.out.size); replace HB := Own.bs hb; clear ho hb))
        go_ret2
        exact ⟨_, Own.rr, HO.out, HB.out⟩
end Go.Proofs.YtdfbfcgjcfbmpaaGreatDoor.QFnExactClausesOf
