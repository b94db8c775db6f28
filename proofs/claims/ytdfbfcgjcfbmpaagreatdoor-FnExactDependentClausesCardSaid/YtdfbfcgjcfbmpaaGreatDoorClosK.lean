/- Functions over clauses that take function values which read their caller's variables. No condition. -/
import Derived.Test.YtdfbfcgjcfbmpaaGreatDoorQFnExactDependentClausesx14
import Derived.Test.YtdfbfcgjcfbmpaaGreatDoorQFnExactDependentClausesx9
namespace Go.Proofs.YtdfbfcgjcfbmpaaGreatDoor.QFnExactDependentClauses
open Go.RowKit Go.Proofs.YtdfbfcgjcfbmpaaGreatDoorW.PrintWords Go.Proofs.YtdfbfcgjcfbmpaaGreatDoorW.PrintLast Go.Proofs.YtdfbfcgjcfbmpaaGreatDoorW.PrintMore Go.Proofs.YtdfbfcgjcfbmpaaGreatDoor.Own
set_option linter.unusedVariables false
set_option linter.unusedSimpArgs false
/-- The first clause of which a test holds; -1 if there is none. -/
def firstK (P : S51 → Bool) : List S51 → Nat → Int
  | [], _ => -1
  | x :: l, i => if P x = true then (i : Int) else firstK P l (i + 1)
theorem rdK_nat (l : List S51) (i : Nat) (h : i < l.length) : rd_T51 l (i : Int) = l[i] := by
  unfold rd_T51
  rw [Int.toNat_natCast, List.getD_eq_getElem?_getD, List.getElem?_eq_getElem h]
  rfl
theorem firstK_at (P : S51 → Bool) (l : List S51) (i : Nat) (h : i < l.length) : firstK P (l.drop i) i = if P (rd_T51 l (i : Int)) = true then (i : Int) else firstK P (l.drop (i + 1)) (i + 1) := by
  rw [rdK_nat l i h, List.drop_eq_getElem_cons h]
  rfl
set_option maxHeartbeats 8000000 in
set_option maxRecDepth 100000 in
theorem indexK_calls (P : S51 → Bool) (g : FuncId) (fn : Func) (fs : Array Value) (hf : Tryz.prog.funcs[g]? = some fn) (hn : (fn.name == "runtime.NumGoroutine") = false) (hbd : fn.body.isSome = true) (A : Option Addr) (c : Nat) (l : List S51) (w : World) (hr : Kd.C k51 w A l.length l) (hc : l.length ≤ c) (hL : l.length ≤ 1048576)
    (HP : ∀ (x : S51) (A9 : Option Addr) (c9 : Nat) (W : World), Below w.heap.size w W → Calls Tryz.prog g (#[.agg #[.string x.f0, .int .i64 x.f1, .int .i64 x.f2, .string x.f3, .int .i64 x.f4, .int .i64 x.f5, .int .i64 x.f6.f0, .string x.f6.f1, .int .i64 x.f6.f2, .slice A9 x.f6.f3.length c9, .int .i64 x.f7, .string x.f8]] ++ fs) W fun e W' => e = .returned (.bool (P x)) ∧ Below W.heap.size W W') :
    Calls Tryz.prog 80 #[.slice A l.length c, .func (.func g) #[] fs] w fun e w' => e = .returned (.int .i64 (firstK P l 0)) ∧ Below w.heap.size w w' := by
  have hu := Tryz.underlying51
  have HR := Aside0.mk hr
  have HP' := Aside0.mk HP
  have HF := Aside0.mk hf
  have HN := Aside0.mk hn
  have HD := Aside0.mk hbd
  have HLen := Aside0.mk hL
  have HB := Aside0.mk (Below.refl w.heap.size w)
  clear hr HP hf hn hbd hL
  go_enter Tryz.func80, Tryz.ntmps80
  go_wp2
  go_loopg [8] (l.length + 1) (fun kq v8 w' => ∃ (i : Nat), v8 = .int .i64 (i : Int) ∧ Aside0 (i + kq = l.length + 1) ∧ Aside0 (firstK P (l.drop i) i = firstK P l 0) ∧ Aside0 (Below w.heap.size w w'))
  case atStart => exact ⟨0, rfl, ⟨by omega⟩, ⟨by rw [List.drop_zero]⟩, HB⟩
  case round =>
    clear HB
    obtain ⟨i, rfl, HK, HE, HB⟩ := hrel
    by_cases c5 : i < l.length
    · have Hi := Aside0.mk c5
      have hfi := firstK_at P l i c5
      rw [HE.out] at hfi
      clear HE
      have c6 : decide ((i : Int) < (l.length : Int)) = true := decide_eq_true (by omega)
      have c7 : decide (i < l.length) = true := decide_eq_true c5
      have c8 := eq_true c5
      have p5 : 0 ≤ (i : Int) := by omega
      have q5 : (i : Int) < l.length := by omega
      obtain ⟨ad, A9, c9, ea, hx0, hx1, hx2, hx3, hx4, hx5, hx6, hx7, hx8, hx9, hx10, hx11, hl9, hi9⟩ := at_T51 HR.out (i : Int) p5 q5
      cases ea
      replace hx0 := Own.up HB.out hx0
      replace hx1 := Own.up HB.out hx1
      replace hx2 := Own.up HB.out hx2
      replace hx3 := Own.up HB.out hx3
      replace hx4 := Own.up HB.out hx4
      replace hx5 := Own.up HB.out hx5
      replace hx6 := Own.up HB.out hx6
      replace hx7 := Own.up HB.out hx7
      replace hx8 := Own.up HB.out hx8
      replace hx9 := Own.up HB.out hx9
      replace hx10 := Own.up HB.out hx10
      replace hx11 := Own.up HB.out hx11
      simp only [Int.toNat_natCast] at hx0 hx1 hx2 hx3 hx4 hx5 hx6 hx7 hx8 hx9 hx10 hx11
      clear hl9 hi9 c5
      replace p5 := eq_true p5
      replace q5 := eq_true q5
      have w1 : wrap64 ((i : Int) + 1) = ((i + 1 : Nat) : Int) := by have := HLen.out; have := Hi.out; unfold wrap64; omega
      cases hP : P (rd_T51 l (i : Int)) with
      | true =>
        rw [hP, if_pos rfl] at hfi
        have HE := Aside0.mk hfi
        have HPt := Aside0.mk hP
        clear hfi hP
        go_wp2_with (first | ((with_reducible refine Own.gateT_ (t := 11) rfl ?_); refine Own.goesF_ (some 16) rfl rfl HF.out HN.out HD.out fs #[.agg #[.string (rd_T51 l (i : Int)).f0, .int .i64 (rd_T51 l (i : Int)).f1, .int .i64 (rd_T51 l (i : Int)).f2, .string (rd_T51 l (i : Int)).f3, .int .i64 (rd_T51 l (i : Int)).f4, .int .i64 (rd_T51 l (i : Int)).f5, .int .i64 (rd_T51 l (i : Int)).f6.f0, .string (rd_T51 l (i : Int)).f6.f1, .int .i64 (rd_T51 l (i : Int)).f6.f2, .slice A9 (rd_T51 l (i : Int)).f6.f3.length c9, .int .i64 (rd_T51 l (i : Int)).f7, .string (rd_T51 l (i : Int)).f8]] rfl (by (try simp only [List.map_toArray, List.map_cons, List.map_nil]); first | done | rfl) ?_; refine (HP'.out (rd_T51 l (i : Int)) A9 c9 _ HB.out).mono ?_; rintro e w7 ⟨he_, hb⟩; rw [HPt.out] at he_; subst he_; refine ⟨_, rfl, ?_⟩; replace HB := Own.bs hb; clear hb))
        go_ret
        exact ⟨by first | (rw [HE.out]; done) | (rw [HE.out]; rfl), HB.out⟩
      | false =>
        rw [hP, if_neg (by decide)] at hfi
        have HE := Aside0.mk hfi
        have HPt := Aside0.mk hP
        clear hfi hP
        go_wp2_with (first | ((with_reducible refine Own.gateT_ (t := 11) rfl ?_); refine Own.goesF_ (some 16) rfl rfl HF.out HN.out HD.out fs #[.agg #[.string (rd_T51 l (i : Int)).f0, .int .i64 (rd_T51 l (i : Int)).f1, .int .i64 (rd_T51 l (i : Int)).f2, .string (rd_T51 l (i : Int)).f3, .int .i64 (rd_T51 l (i : Int)).f4, .int .i64 (rd_T51 l (i : Int)).f5, .int .i64 (rd_T51 l (i : Int)).f6.f0, .string (rd_T51 l (i : Int)).f6.f1, .int .i64 (rd_T51 l (i : Int)).f6.f2, .slice A9 (rd_T51 l (i : Int)).f6.f3.length c9, .int .i64 (rd_T51 l (i : Int)).f7, .string (rd_T51 l (i : Int)).f8]] rfl (by (try simp only [List.map_toArray, List.map_cons, List.map_nil]); first | done | rfl) ?_; refine (HP'.out (rd_T51 l (i : Int)) A9 c9 _ HB.out).mono ?_; rintro e w7 ⟨he_, hb⟩; rw [HPt.out] at he_; subst he_; refine ⟨_, rfl, ?_⟩; replace HB := Own.bs hb; clear hb))
        go_roundg (gk - 1)
        case measure => have := HK.out; have := Hi.out; omega
        case rel => exact ⟨i + 1, by rw [w1], ⟨by have := HK.out; have := Hi.out; omega⟩, ⟨HE.out.symm⟩, HB⟩
    · have c6 : decide ((i : Int) < (l.length : Int)) = false := decide_eq_false (by omega)
      have c7 : decide (i < l.length) = false := decide_eq_false c5
      have c8 := eq_false c5
      have he := HE.out
      rw [List.drop_eq_nil_of_le (by omega)] at he
      have HE' := Aside0.mk he
      clear he HE c5
      go_wp2
      go_ret
      exact ⟨by rw [← HE'.out]; rfl, HB.out⟩
set_option maxHeartbeats 8000000 in
set_option maxRecDepth 100000 in
theorem containsK_calls (P : S51 → Bool) (g : FuncId) (fn : Func) (fs : Array Value) (hf : Tryz.prog.funcs[g]? = some fn) (hn : (fn.name == "runtime.NumGoroutine") = false) (hbd : fn.body.isSome = true) (A : Option Addr) (c : Nat) (l : List S51) (w : World) (hr : Kd.C k51 w A l.length l) (hc : l.length ≤ c) (hL : l.length ≤ 1048576)
    (HP : ∀ (x : S51) (A9 : Option Addr) (c9 : Nat) (W : World), Below w.heap.size w W → Calls Tryz.prog g (#[.agg #[.string x.f0, .int .i64 x.f1, .int .i64 x.f2, .string x.f3, .int .i64 x.f4, .int .i64 x.f5, .int .i64 x.f6.f0, .string x.f6.f1, .int .i64 x.f6.f2, .slice A9 x.f6.f3.length c9, .int .i64 x.f7, .string x.f8]] ++ fs) W fun e W' => e = .returned (.bool (P x)) ∧ Below W.heap.size W W') :
    Calls Tryz.prog 69 #[.slice A l.length c, .func (.func g) #[] fs] w fun e w' => e = .returned (.bool (decide (0 ≤ firstK P l 0))) ∧ Below w.heap.size w w' := by
  have HC := Aside0.mk (indexK_calls P g fn fs hf hn hbd A c l w hr hc hL HP)
  clear hf hn hbd hr hc hL HP
  go_enter Tryz.func69, Tryz.ntmps69
  go_wp2_with (first | (go_at_call 80; (with_reducible refine HC.out.mono ?_); rintro e w5 ⟨rfl, hb⟩; have HB := Aside0.mk hb; clear hb))
  go_ret
  exact ⟨by first | rfl | (simp; done), HB.out⟩
/-- Is a clause the repair of another one? -/
def depK (l : List S51) (i : Int) : Bool := decide (0 ≤ firstK (fun x => x.f8.toList == (rd_T51 l i).f0.toList) l 0)
set_option maxHeartbeats 8000000 in
set_option maxRecDepth 100000 in
theorem depLit_calls (x : S51) (A9 : Option Addr) (c9 : Nat) (gc gi : Nat) (A0 : Option Addr) (m0 c0 : Nat) (A1 : Option Addr) (c1 : Nat) (l : List S51) (i : Int) (h0 : 0 ≤ i) (h1 : i < l.length) (w : World) (hr : Kd.C k51 w A1 l.length l) (hgc : w.heap[gc]? = some (.cells #[.slice A0 m0 c0, .slice A1 l.length c1] 32 (0, 0))) (hgi : w.heap[gi]? = some (.cells #[.int .i64 i] 3 (0, 0))) :
    Calls Tryz.prog 70 (#[.agg #[.string x.f0, .int .i64 x.f1, .int .i64 x.f2, .string x.f3, .int .i64 x.f4, .int .i64 x.f5, .int .i64 x.f6.f0, .string x.f6.f1, .int .i64 x.f6.f2, .slice A9 x.f6.f3.length c9, .int .i64 x.f7, .string x.f8]] ++ #[.pointer (some ⟨gc, 0, none⟩), .pointer (some ⟨gi, 0, none⟩)]) w fun e w' => e = .returned (.bool (x.f8.toList == (rd_T51 l i).f0.toList)) ∧ Below w.heap.size w w' := by
  have hu1 := Tryz.underlying51
  have hu2 := Tryz.underlying32
  have HR := Aside0.mk hr
  have HC := Aside0.mk hgc
  have HI := Aside0.mk hgi
  have HB := Aside0.mk (Below.refl w.heap.size w)
  have p5 := h0
  have q5 : i < l.length := h1
  clear hr hgc hgi h0 h1
  go_enter Tryz.func70, Tryz.ntmps70
  go_wp2_with (first | ((with_reducible refine gate_dst (N := 3) rfl ?_); refine Own.be (N := 3) (cs := #[.string x.f0, .int .i64 x.f1, .int .i64 x.f2, .string x.f3, .int .i64 x.f4, .int .i64 x.f5, .int .i64 x.f6.f0, .string x.f6.f1, .int .i64 x.f6.f2, .slice A9 x.f6.f3.length c9, .int .i64 x.f7, .string x.f8]) (t := 51) ?_; intro gb hg w3 hbox hb; replace HB := Own.bs hb; replace HC := Own.bb HC.out hb; replace HI := Own.bb HI.out hb; obtain ⟨y0, y1, y2, y3, y4, y5, y6, y7, y8, y9, y10, y11, z0, z1, z2, z3, z4, z5, z6, z7, z8, z9, z10, z11⟩ := Own.box12 hbox; obtain ⟨b0, b1, b2, b3⟩ := Own.box2 HC.out; have bi := (blk_cell HI.out 0).trans rfl; obtain ⟨ad, E9, e9, ea, hx0, hx1, hx2, hx3, hx4, hx5, hx6, hx7, hx8, hx9, hx10, hx11, hl9, hi9⟩ := at_T51 HR.out i p5 q5; cases ea; replace hx0 := Own.up HB.out hx0; clear hx1 hx2 hx3 hx4 hx5 hx6 hx7 hx8 hx9 hx10 hx11 hl9 hi9 hbox hb hg; replace p5 := eq_true p5; replace q5 := eq_true q5))
  go_quiet (fail)
  go_wp2
  go_ret
  exact ⟨by first | rfl | (simp; done), Own.bl⟩
set_option maxHeartbeats 8000000 in
set_option maxRecDepth 100000 in
theorem impl_isDependent.calls_ (A0 : Option Addr) (c0 : Nat) (p : List ByteArray) (A1 : Option Addr) (c1 : Nat) (l : List S51) (i : Int) (h0 : 0 ≤ i) (h1 : i < l.length) (hL : l.length ≤ 1048576) (w : World) (hr : Kd.C k51 w A1 l.length l) (hc : l.length ≤ c1) :
    Calls Tryz.prog 39 #[.agg #[.slice A0 p.length c0, .slice A1 l.length c1], .int .i64 i] w fun e w' => e = .returned (.bool (depK l i)) ∧ Below w.heap.size w w' := by
  have hu2 := Tryz.underlying32
  have HR := Aside0.mk hr
  have HC := Aside0.mk hc
  have H0 := Aside0.mk h0
  have H1 := Aside0.mk h1
  have HL := Aside0.mk hL
  have HB := Aside0.mk (Below.refl w.heap.size w)
  clear hr hc h0 h1 hL
  go_enter Tryz.func39, Tryz.ntmps39
  go_wp2_with (first | ((with_reducible refine gate_dst (N := 2) rfl ?_); refine Own.be (N := 2) (cs := #[.slice A0 p.length c0, .slice A1 l.length c1]) (t := 32) ?_; intro gc hg w3 hbox hb; replace HB := Own.bs hb; have BC := Aside0.mk hbox; clear hbox hb hg) | ((with_reducible refine gate_dst (N := 3) rfl ?_); refine Own.be (N := 3) (cs := #[.int .i64 i]) (t := 3) ?_; intro gi hg w4 hbox hb; replace HB := Own.bs hb; replace BC := Own.bb BC.out hb; have BI := Aside0.mk hbox; obtain ⟨y0, y1, z0, z1⟩ := Own.box2 BC.out; clear hbox hb hg) | (go_at_call 69; (with_reducible refine (containsK_calls _ _ Tryz.f70 _ Tryz.func70 (by kernel_rfl) rfl A1 c1 l _ (Kd.C_below HR.out HB.out) HC.out HL.out (fun x A9 c9 W hW => depLit_calls x A9 c9 gc gi A0 p.length c0 A1 c1 l i H0.out H1.out W (Kd.C_below HR.out (below_step HB.out hW)) (blk_below BC.out hW) (blk_below BI.out hW))).mono ?_); rintro e w5 ⟨rfl, hb⟩; replace HB := Own.bs hb; clear hb))
  go_ret
  exact ⟨Own.rr, HB.out⟩
/-- The numbers below n of which a test holds. -/
def selQ (Q : Nat → Bool) : Nat → List Int
  | 0 => []
  | n + 1 => selQ Q n ++ (if Q n = true then [(n : Int)] else [])
theorem selQ_len (Q : Nat → Bool) (n : Nat) : (selQ Q n).length ≤ n := by
  induction n with
  | zero => simp [selQ]
  | succ n ih => simp only [selQ, List.length_append]; split <;> simp <;> omega
set_option maxHeartbeats 8000000 in
set_option maxRecDepth 100000 in
theorem clausesWith_calls (Q : Nat → Bool) (g : FuncId) (fn : Func) (fs : Array Value) (hf : Tryz.prog.funcs[g]? = some fn) (hn : (fn.name == "runtime.NumGoroutine") = false) (hbd : fn.body.isSome = true) (A0 : Option Addr) (c0 : Nat) (p : List ByteArray) (A1 : Option Addr) (c1 : Nat) (l : List S51) (w : World) (hL : l.length ≤ 1048576)
    (HQ : ∀ (i : Nat) (W : World), i < l.length → Below w.heap.size w W → Calls Tryz.prog g (#[.int .i64 (i : Int)] ++ fs) W fun e W' => e = .returned (.bool (Q i)) ∧ Below W.heap.size W W') :
    Calls Tryz.prog 37 #[.agg #[.slice A0 p.length c0, .slice A1 l.length c1], .func (.func g) #[] fs] w fun e w' => ∃ v : Value, e = .returned v ∧ Kd.R (Kd.int .i64) 3 w' w.heap.size (fun _ => True) v (selQ Q l.length) ∧ Below w.heap.size w w' := by
  have hu2 := Tryz.underlying32
  have HQ' := Aside0.mk HQ
  have HF := Aside0.mk hf
  have HN := Aside0.mk hn
  have HD := Aside0.mk hbd
  have HLen := Aside0.mk hL
  have HB := Aside0.mk (Below.refl w.heap.size w)
  clear HQ hf hn hbd hL
  have info3 : (Tryz.prog.info? 3).map (fun i => (i.zero, i.size, i.bytes)) = some (some (.int .i64 0), 1, 8) := by kernel_rfl
  go_enter Tryz.func37, Tryz.ntmps37
  go_wp2_with (first | ((with_reducible refine gate_dst (N := 2) rfl ?_); refine Own.be (N := 2) (cs := #[.slice A0 p.length c0, .slice A1 l.length c1]) (t := 32) ?_; intro gc hg w3 hbox hb; replace HB := Own.bs hb; have BC := Aside0.mk hbox; clear hbox hb hg) | ((with_reducible refine gate_dst (N := 7) rfl ?_); refine Kd.R_lit (Kd.int .i64) _ 3 ?hg (N := 7) ?hd (xs := ([] : List Int)) (inner := []) (ok := fun _ => True) (okp := fun _ => True) ?hr ?hp (fun _ hk => hk) trivial (Below.refl _ _) (Nat.le_refl _) (by simp) ?_; (case hd => rfl); (case hg => rfl); (case hr => first | (go_simp; done) | (go_simp; rfl)); (case hp => exact (Reps.none _ _)); intro v7 w4 ho hb hg_ hnew_; clear hg_ hnew_; have HO := Aside0.mk (Kd.R_lower ho HB.out.size); replace BC := Own.bb BC.out hb; replace HB := Own.bs hb; obtain ⟨y0, y1, z0, z1⟩ := Own.box2 BC.out; clear hb ho))
  go_loopg [5, 11] (l.length + 1) (fun kq v5 v11 w' => ∃ (i : Nat), v11 = .int .i64 (i : Int) ∧ Aside0 (i + kq = l.length + 1 ∧ i ≤ l.length) ∧ Aside0 (Kd.R (Kd.int .i64) 3 w' w.heap.size (fun _ => True) v5 (selQ Q i)) ∧ Aside0 (Below w.heap.size w w'))
  case atStart => exact ⟨0, rfl, ⟨by omega⟩, HO, HB⟩
  case round =>
    try clear y0 y1 z0 z1
    clear HB HO BC
    obtain ⟨i, rfl, HK, HO, HB⟩ := hrel
    by_cases c5 : i < l.length
    · have Hi := Aside0.mk c5
      have c6 : decide ((i : Int) < (l.length : Int)) = true := decide_eq_true (by omega)
      have c7 : decide (i < l.length) = true := decide_eq_true c5
      have c8 := eq_true c5
      have w1 : wrap64 ((i : Int) + 1) = ((i + 1 : Nat) : Int) := by have := HLen.out; unfold wrap64; omega
      clear c5
      cases hQ : Q i with
      | true =>
        have HPt := Aside0.mk hQ
        have HS := Aside0.mk (show selQ Q (i + 1) = selQ Q i ++ [(i : Int)] from by simp [selQ, hQ])
        have HLn := Aside0.mk (selQ_len Q i)
        clear hQ
        go_wp2_with (first | ((with_reducible refine Own.gateT_ (t := 14) rfl ?_); refine Own.goesF_ (some 16) rfl rfl HF.out HN.out HD.out fs #[.int .i64 (i : Int)] rfl (by (try simp only [List.map_toArray, List.map_cons, List.map_nil]); first | done | rfl) ?_; refine (HQ'.out i _ Hi.out HB.out).mono ?_; rintro e w7 ⟨he_, hb⟩; rw [HPt.out] at he_; subst he_; refine ⟨_, rfl, ?_⟩; replace HO := Aside0.mk (Kd.R_below HO.out hb); replace HB := Own.bs hb; clear hb) | ((with_reducible refine gate_builtin (b := .append) (xs := #[.tmp 17, .tmp 19]) rfl ?_); at_builtin; refine Kd.R_append (Kd.int .i64) (w0 := w) w.heap.size rfl (.tmp 17) (.tmp 19) 27 3 (.int .i64 0) 8 rfl Tryz.underlying27 info3 rfl (by decide) (by omega) u5 (selQ Q i) (i : Int) [.int .i64 (i : Int)] (fun _ => True) (fun _ => False) rfl rfl ?aP (fun _ hk => hk.elim) ?aF ?aO ?aB ?aS ?aL ?_; (case aP => exact rfl); (case aB => exact HB.out); (case aF => exact (fun _ _ => trivial)); (case aO => exact HO.out); (case aS => exact HB.out.size); (case aL => have := HLn.out; have := HLen.out; have := Hi.out; omega); intro v20 w8 ho hb hg hat; rw [← HS.out] at ho; replace HO := Aside0.mk ho; replace HB := Aside0.mk hb; clear ho hb hg hat))
        go_roundg (gk - 1)
        case measure => have := HK.out; have := Hi.out; omega
        case rel => exact ⟨i + 1, by rw [w1], ⟨by have := HK.out; have := Hi.out; omega⟩, HO, HB⟩
      | false =>
        have HPt := Aside0.mk hQ
        have HS := Aside0.mk (show selQ Q i = selQ Q (i + 1) from by simp [selQ, hQ])
        clear hQ
        go_wp2_with (first | ((with_reducible refine Own.gateT_ (t := 14) rfl ?_); refine Own.goesF_ (some 16) rfl rfl HF.out HN.out HD.out fs #[.int .i64 (i : Int)] rfl (by (try simp only [List.map_toArray, List.map_cons, List.map_nil]); first | done | rfl) ?_; refine (HQ'.out i _ Hi.out HB.out).mono ?_; rintro e w7 ⟨he_, hb⟩; rw [HPt.out] at he_; subst he_; refine ⟨_, rfl, ?_⟩; replace HO := Aside0.mk (Kd.R_below HO.out hb); replace HB := Own.bs hb; clear hb))
        go_roundg (gk - 1)
        case measure => have := HK.out; have := Hi.out; omega
        case rel => exact ⟨i + 1, by rw [w1], ⟨by have := HK.out; have := Hi.out; omega⟩, ⟨by rw [← HS.out]; exact HO.out⟩, HB⟩
    · have c6 : decide ((i : Int) < (l.length : Int)) = false := decide_eq_false (by omega)
      have c7 : decide (i < l.length) = false := decide_eq_false c5
      have c8 := eq_false c5
      have hz : i = l.length := by have := HK.out; omega
      have HO' := Aside0.mk (show Kd.R (Kd.int .i64) 3 wr w.heap.size (fun _ => True) u5 (selQ Q l.length) from by rw [← hz]; exact HO.out)
      clear HO c5 hz
      go_wp2
      go_ret
      exact ⟨_, Own.rr, HO'.out, HB.out⟩
set_option maxHeartbeats 8000000 in
set_option maxRecDepth 100000 in
theorem depCl_calls (i : Nat) (gc : Nat) (A0 : Option Addr) (c0 : Nat) (p : List ByteArray) (A1 : Option Addr) (c1 : Nat) (l : List S51) (h1 : i < l.length) (hL : l.length ≤ 1048576) (w : World) (hr : Kd.C k51 w A1 l.length l) (hc : l.length ≤ c1) (hgc : w.heap[gc]? = some (.cells #[.slice A0 p.length c0, .slice A1 l.length c1] 32 (0, 0))) :
    Calls Tryz.prog 38 (#[.int .i64 (i : Int)] ++ #[.pointer (some ⟨gc, 0, none⟩)]) w fun e w' => e = .returned (.bool (depK l (i : Int))) ∧ Below w.heap.size w w' := by
  have hu2 := Tryz.underlying32
  have HC := Aside0.mk (impl_isDependent.calls_ A0 c0 p A1 c1 l (i : Int) (by omega) (by omega) hL w hr hc)
  obtain ⟨y0, y1, z0, z1⟩ := Own.box2 hgc
  clear hr hc h1 hL
  go_enter Tryz.func38, Tryz.ntmps38
  go_wp2_with (first | (go_at_call 39; (with_reducible refine HC.out.mono ?_); rintro e w5 ⟨rfl, hb⟩; have HB := Aside0.mk hb; clear hb))
  go_ret
  exact ⟨Own.rr, HB.out⟩
def impl_DependentClauses.f (k : Nat) (p : List ByteArray) (l : List S51) : Option (List Int × Bool) :=
  (impl_IsValidContract.f k p l).bind fun t => if t = true then (if l.length ≤ 1048576 then some (selQ (fun i => depK l (i : Int)) l.length, true) else none) else some ([], false)
set_option maxHeartbeats 8000000 in
set_option maxRecDepth 100000 in
theorem impl_DependentClauses.calls (k : Nat) (A0_0 : Option Addr) (c0_0 : Nat) (l0_0 : List ByteArray) (A0_1 : Option Addr) (c0_1 : Nat) (l0_1 : List (S51)) (r1 : List Int) (r2 : Bool) (w : World) (hr0_0 : Kd.C Kd.string w A0_0 l0_0.length l0_0) (hc0_0 : l0_0.length ≤ c0_0) (hr0_1 : Kd.C k51 w A0_1 l0_1.length l0_1) (hc0_1 : l0_1.length ≤ c0_1) (hG : Own.Glob w) (h : impl_DependentClauses.f k l0_0 l0_1 = some (r1, r2)) :
    Calls Tryz.prog 11 #[.agg #[.slice A0_0 l0_0.length c0_0, .slice A0_1 l0_1.length c0_1]] w fun e w' => ∃ v0_ : Value, e = .returned (.tuple #[v0_, .bool r2]) ∧ Kd.R (Kd.int .i64) 3 w' w.heap.size (fun _ => True) v0_ r1 ∧ Below w.heap.size w w' := by
  have hu2 := Tryz.underlying32
  have HR0 := Aside0.mk hr0_0
  have HC0 := Aside0.mk hc0_0
  have HR1 := Aside0.mk hr0_1
  have HC1 := Aside0.mk hc0_1
  have HG := Aside0.mk hG
  have HB := Aside0.mk (Below.refl w.heap.size w)
  clear hr0_0 hc0_0 hr0_1 hc0_1 hG
  unfold impl_DependentClauses.f at h
  replace h := Own.bd h
  obtain ⟨t, A1, h⟩ := h
  cases t with
  | false =>
    rw [if_neg (by decide)] at h
    simp only [Option.some.injEq, Prod.mk.injEq] at h
    obtain ⟨rfl, rfl⟩ := h
    go_enter Tryz.func11, Tryz.ntmps11
    go_wp2_with (first | ((with_reducible refine gate_dst (N := 1) rfl ?_); refine Own.be (N := 1) (cs := #[.slice A0_0 l0_0.length c0_0, .slice A0_1 l0_1.length c0_1]) (t := 32) ?_; intro gc hg w3 hbox hb; replace HB := Own.bs hb; have BC := Aside0.mk hbox; obtain ⟨y0, y1, z0, z1⟩ := Own.box2 BC.out; clear hbox hb hg) | (go_at_call 36; (with_reducible refine (impl_IsValidContract.calls k _ _ l0_0 _ _ l0_1 _ _ (Kd.C_below HR0.out HB.out) HC0.out (Kd.C_below HR1.out HB.out) HC1.out (Own.gl HG.out HB.out) A1.out).mono ?_); rintro e w5 ⟨rfl, hb⟩; clear y0 y1 z0 z1; replace BC := Own.bb BC.out hb; replace HB := Own.bs hb; obtain ⟨y0, y1, z0, z1⟩ := Own.box2 BC.out; clear hb))
    go_ret2
    exact ⟨_, Own.rr, Kd.R_nil _ _ _ _ _, HB.out⟩
  | true =>
    rw [if_pos rfl] at h
    replace h := Own.ifn h
    obtain ⟨hL, h⟩ := h
    simp only [Option.some.injEq, Prod.mk.injEq] at h
    obtain ⟨rfl, rfl⟩ := h
    have HL := Aside0.mk hL
    clear hL
    go_enter Tryz.func11, Tryz.ntmps11
    go_wp2_with (first | ((with_reducible refine gate_dst (N := 1) rfl ?_); refine Own.be (N := 1) (cs := #[.slice A0_0 l0_0.length c0_0, .slice A0_1 l0_1.length c0_1]) (t := 32) ?_; intro gc hg w3 hbox hb; replace HB := Own.bs hb; have BC := Aside0.mk hbox; obtain ⟨y0, y1, z0, z1⟩ := Own.box2 BC.out; clear hbox hb hg) | (go_at_call 36; (with_reducible refine (impl_IsValidContract.calls k _ _ l0_0 _ _ l0_1 _ _ (Kd.C_below HR0.out HB.out) HC0.out (Kd.C_below HR1.out HB.out) HC1.out (Own.gl HG.out HB.out) A1.out).mono ?_); rintro e w5 ⟨rfl, hb⟩; clear y0 y1 z0 z1; replace BC := Own.bb BC.out hb; replace HB := Own.bs hb; obtain ⟨y0, y1, z0, z1⟩ := Own.box2 BC.out; clear hb) | (go_at_call 37; (with_reducible refine (clausesWith_calls (fun i => depK l0_1 (i : Int)) _ Tryz.f38 _ Tryz.func38 (by kernel_rfl) rfl _ _ l0_0 _ _ l0_1 _ HL.out (fun i W hi hW => depCl_calls i gc A0_0 c0_0 l0_0 A0_1 c0_1 l0_1 hi HL.out W (Kd.C_below HR1.out (below_step HB.out hW)) HC1.out (blk_below BC.out hW))).mono ?_); rintro e w9 ⟨v9, rfl, ho, hb⟩; have HO := Aside0.mk (Kd.R_lower ho HB.out.size); replace HB := Own.bs hb; clear ho hb))
    go_ret2
    exact ⟨_, Own.rr, HO.out, HB.out⟩
end Go.Proofs.YtdfbfcgjcfbmpaaGreatDoor.QFnExactDependentClauses
