/- impl.isDependent: a literal that reads its caller's variables. No condition. -/
import Derived.Test.YtckopglnblcnoaaGreatDoorQFnExactRemoveClausex15
namespace Go.Proofs.YtckopglnblcnoaaGreatDoor.QFnExactRemoveClause
open Go.RowKit Go.Proofs.YtckopglnblcnoaaGreatDoorW.PrintWords Go.Proofs.YtckopglnblcnoaaGreatDoorW.PrintLast Go.Proofs.YtckopglnblcnoaaGreatDoor.Own
set_option linter.unusedVariables false
set_option linter.unusedSimpArgs false
/-- The first clause of which a test holds; -1 if there is none. -/
def firstK (P : S51 → Bool) : List S51 → Nat → Int
  | [], _ => -1
  | x :: l, i => if P x = true then (i : Int) else firstK P l (i + 1)
theorem rdK_nat (l : List S51) (i : Nat) (h : i < l.length) : rd_T51 l (i : Int) = l[i] := by
  unfold rd_T51
  rw [Int.toNat_natCast, List.getD_eq_getElem?_getD, List.getElem?_eq_getElem h]
  rfl
theorem firstK_at (P : S51 → Bool) (l : List S51) (i : Nat) (h : i < l.length) : firstK P (l.drop i) i = if P (rd_T51 l (i : Int)) = true then (i : Int) else firstK P (l.drop (i + 1)) (i + 1) := by
  rw [rdK_nat l i h, List.drop_eq_getElem_cons h]; rfl
set_option maxHeartbeats 8000000 in
set_option maxRecDepth 100000 in
theorem indexK_calls (P : S51 → Bool) (g : FuncId) (fn : Func) (fs : Array Value) (hf : Tryz.prog.funcs[g]? = some fn) (hn : (fn.name == "runtime.NumGoroutine") = false) (hbd : fn.body.isSome = true) (A : Option Addr) (c : Nat) (l : List S51) (w : World) (hr : Kd.C k51 w A l.length l) (hc : l.length ≤ c) (hL : l.length ≤ 1048576)
    (HP : ∀ (x : S51) (A9 : Option Addr) (c9 : Nat) (W : World), Below w.heap.size w W → Calls Tryz.prog g (#[.agg #[.string x.f0, .int .i64 x.f1, .int .i64 x.f2, .string x.f3, .int .i64 x.f4, .int .i64 x.f5, .int .i64 x.f6.f0, .string x.f6.f1, .int .i64 x.f6.f2, .slice A9 x.f6.f3.length c9, .int .i64 x.f7, .string x.f8]] ++ fs) W fun e W' => e = .returned (.bool (P x)) ∧ Below W.heap.size W W') :
    Calls Tryz.prog 53 #[.slice A l.length c, .func (.func g) #[] fs] w fun e w' => e = .returned (.int .i64 (firstK P l 0)) ∧ Below w.heap.size w w' := by
  have hu := Tryz.underlying51; have HR := Aside0.mk hr; have HP' := Aside0.mk HP; have HF := Aside0.mk hf; have HN := Aside0.mk hn; have HD := Aside0.mk hbd; have HLen := Aside0.mk hL
  have HB := Aside0.mk (Below.refl w.heap.size w)
  clear hr HP hf hn hbd hL
  go_enter Tryz.func53, Tryz.ntmps53
  go_wp2
  go_loopg [8] (l.length + 1) (fun kq v8 w' => ∃ (i : Nat), v8 = .int .i64 (i : Int) ∧ Aside0 (i + kq = l.length + 1) ∧ Aside0 (firstK P (l.drop i) i = firstK P l 0) ∧ Aside0 (Below w.heap.size w w'))
  case atStart => exact ⟨0, rfl, ⟨by omega⟩, ⟨by rw [List.drop_zero]⟩, HB⟩
  case round =>
    clear HB; obtain ⟨i, rfl, HK, HE, HB⟩ := hrel
    by_cases c5 : i < l.length
    · have Hi := Aside0.mk c5
      have hfi := firstK_at P l i c5; rw [HE.out] at hfi; clear HE
      have c6 : decide ((i : Int) < (l.length : Int)) = true := decide_eq_true (by omega)
      have c7 : decide (i < l.length) = true := decide_eq_true c5
      have c8 := eq_true c5
      have p5 : 0 ≤ (i : Int) := by omega
      have q5 : (i : Int) < l.length := by omega
      obtain ⟨ad, A9, c9, ea, hx0, hx1, hx2, hx3, hx4, hx5, hx6, hx7, hx8, hx9, hx10, hx11, hl9, hi9⟩ := at_T51 HR.out (i : Int) p5 q5
      cases ea; replace hx0 := Own.up HB.out hx0; replace hx1 := Own.up HB.out hx1; replace hx2 := Own.up HB.out hx2; replace hx3 := Own.up HB.out hx3; replace hx4 := Own.up HB.out hx4; replace hx5 := Own.up HB.out hx5; replace hx6 := Own.up HB.out hx6; replace hx7 := Own.up HB.out hx7; replace hx8 := Own.up HB.out hx8; replace hx9 := Own.up HB.out hx9; replace hx10 := Own.up HB.out hx10; replace hx11 := Own.up HB.out hx11
      simp only [Int.toNat_natCast] at hx0 hx1 hx2 hx3 hx4 hx5 hx6 hx7 hx8 hx9 hx10 hx11
      clear hl9 hi9 c5; replace p5 := eq_true p5; replace q5 := eq_true q5
      have w1 : wrap64 ((i : Int) + 1) = ((i + 1 : Nat) : Int) := by have := HLen.out; have := Hi.out; unfold wrap64; omega
      cases hP : P (rd_T51 l (i : Int)) with
      | true =>
        rw [hP, if_pos rfl] at hfi; have HE := Aside0.mk hfi; have HPt := Aside0.mk hP; clear hfi hP
        go_wp2_with (first | ((with_reducible refine Own.gateT_ (t := 11) rfl ?_); refine Own.goesF_ (some 16) rfl rfl HF.out HN.out HD.out fs #[.agg #[.string (rd_T51 l (i : Int)).f0, .int .i64 (rd_T51 l (i : Int)).f1, .int .i64 (rd_T51 l (i : Int)).f2, .string (rd_T51 l (i : Int)).f3, .int .i64 (rd_T51 l (i : Int)).f4, .int .i64 (rd_T51 l (i : Int)).f5, .int .i64 (rd_T51 l (i : Int)).f6.f0, .string (rd_T51 l (i : Int)).f6.f1, .int .i64 (rd_T51 l (i : Int)).f6.f2, .slice A9 (rd_T51 l (i : Int)).f6.f3.length c9, .int .i64 (rd_T51 l (i : Int)).f7, .string (rd_T51 l (i : Int)).f8]] rfl (by (try simp only [List.map_toArray, List.map_cons, List.map_nil]); first | done | rfl) ?_; refine (HP'.out (rd_T51 l (i : Int)) A9 c9 _ HB.out).mono ?_; rintro e w7 ⟨he_, hb⟩; rw [HPt.out] at he_; subst he_; refine ⟨_, rfl, ?_⟩; replace HB := Own.bs hb; clear hb))
        go_ret
        exact ⟨by first | (rw [HE.out]; done) | (rw [HE.out]; rfl), HB.out⟩
      | false =>
        rw [hP, if_neg (by decide)] at hfi; have HE := Aside0.mk hfi; have HPt := Aside0.mk hP; clear hfi hP
        go_wp2_with (first | ((with_reducible refine Own.gateT_ (t := 11) rfl ?_); refine Own.goesF_ (some 16) rfl rfl HF.out HN.out HD.out fs #[.agg #[.string (rd_T51 l (i : Int)).f0, .int .i64 (rd_T51 l (i : Int)).f1, .int .i64 (rd_T51 l (i : Int)).f2, .string (rd_T51 l (i : Int)).f3, .int .i64 (rd_T51 l (i : Int)).f4, .int .i64 (rd_T51 l (i : Int)).f5, .int .i64 (rd_T51 l (i : Int)).f6.f0, .string (rd_T51 l (i : Int)).f6.f1, .int .i64 (rd_T51 l (i : Int)).f6.f2, .slice A9 (rd_T51 l (i : Int)).f6.f3.length c9, .int .i64 (rd_T51 l (i : Int)).f7, .string (rd_T51 l (i : Int)).f8]] rfl (by (try simp only [List.map_toArray, List.map_cons, List.map_nil]); first | done | rfl) ?_; refine (HP'.out (rd_T51 l (i : Int)) A9 c9 _ HB.out).mono ?_; rintro e w7 ⟨he_, hb⟩; rw [HPt.out] at he_; subst he_; refine ⟨_, rfl, ?_⟩; replace HB := Own.bs hb; clear hb))
        go_roundg (gk - 1)
        case measure => have := HK.out; have := Hi.out; omega
        case rel => exact ⟨i + 1, by rw [w1], ⟨by have := HK.out; have := Hi.out; omega⟩, ⟨HE.out.symm⟩, HB⟩
    · have c6 : decide ((i : Int) < (l.length : Int)) = false := decide_eq_false (by omega)
      have c7 : decide (i < l.length) = false := decide_eq_false c5
      have c8 := eq_false c5; have he := HE.out; rw [List.drop_eq_nil_of_le (by omega)] at he; have HE' := Aside0.mk he; clear he HE c5
      go_wp2
      go_ret
      exact ⟨by rw [← HE'.out]; rfl, HB.out⟩
set_option maxHeartbeats 8000000 in
set_option maxRecDepth 100000 in
theorem containsK_calls (P : S51 → Bool) (g : FuncId) (fn : Func) (fs : Array Value) (hf : Tryz.prog.funcs[g]? = some fn) (hn : (fn.name == "runtime.NumGoroutine") = false) (hbd : fn.body.isSome = true) (A : Option Addr) (c : Nat) (l : List S51) (w : World) (hr : Kd.C k51 w A l.length l) (hc : l.length ≤ c) (hL : l.length ≤ 1048576)
    (HP : ∀ (x : S51) (A9 : Option Addr) (c9 : Nat) (W : World), Below w.heap.size w W → Calls Tryz.prog g (#[.agg #[.string x.f0, .int .i64 x.f1, .int .i64 x.f2, .string x.f3, .int .i64 x.f4, .int .i64 x.f5, .int .i64 x.f6.f0, .string x.f6.f1, .int .i64 x.f6.f2, .slice A9 x.f6.f3.length c9, .int .i64 x.f7, .string x.f8]] ++ fs) W fun e W' => e = .returned (.bool (P x)) ∧ Below W.heap.size W W') :
    Calls Tryz.prog 38 #[.slice A l.length c, .func (.func g) #[] fs] w fun e w' => e = .returned (.bool (decide (0 ≤ firstK P l 0))) ∧ Below w.heap.size w w' := by
  have HC := Aside0.mk (indexK_calls P g fn fs hf hn hbd A c l w hr hc hL HP)
  clear hf hn hbd hr hc hL HP
  go_enter Tryz.func38, Tryz.ntmps38
  go_wp2_with (first | (go_at_call 53; (with_reducible refine HC.out.mono ?_); rintro e w5 ⟨rfl, hb⟩; have HB := Aside0.mk hb; clear hb))
  go_ret
  exact ⟨by first | rfl | (simp; done), HB.out⟩
/-- Is a clause the repair of another one? -/
def depK (l : List S51) (i : Int) : Bool := decide (0 ≤ firstK (fun x => x.f8.toList == (rd_T51 l i).f0.toList) l 0)
set_option maxHeartbeats 8000000 in
set_option maxRecDepth 100000 in
theorem depLit_calls (x : S51) (A9 : Option Addr) (c9 : Nat) (gc gi : Nat) (A0 : Option Addr) (m0 c0 : Nat) (A1 : Option Addr) (c1 : Nat) (l : List S51) (i : Int) (h0 : 0 ≤ i) (h1 : i < l.length) (w : World) (hr : Kd.C k51 w A1 l.length l) (hgc : w.heap[gc]? = some (.cells #[.slice A0 m0 c0, .slice A1 l.length c1] 29 (0, 0))) (hgi : w.heap[gi]? = some (.cells #[.int .i64 i] 3 (0, 0))) :
    Calls Tryz.prog 39 (#[.agg #[.string x.f0, .int .i64 x.f1, .int .i64 x.f2, .string x.f3, .int .i64 x.f4, .int .i64 x.f5, .int .i64 x.f6.f0, .string x.f6.f1, .int .i64 x.f6.f2, .slice A9 x.f6.f3.length c9, .int .i64 x.f7, .string x.f8]] ++ #[.pointer (some ⟨gc, 0, none⟩), .pointer (some ⟨gi, 0, none⟩)]) w fun e w' => e = .returned (.bool (x.f8.toList == (rd_T51 l i).f0.toList)) ∧ Below w.heap.size w w' := by
  have hu1 := Tryz.underlying51; have hu2 := Tryz.underlying29; have HR := Aside0.mk hr; have HC := Aside0.mk hgc; have HI := Aside0.mk hgi
  have HB := Aside0.mk (Below.refl w.heap.size w)
  have p5 := h0
  have q5 : i < l.length := h1
  clear hr hgc hgi h0 h1
  go_enter Tryz.func39, Tryz.ntmps39
  go_wp2_with (first | ((with_reducible refine gate_dst (N := 3) rfl ?_); refine Own.be (N := 3) (cs := #[.string x.f0, .int .i64 x.f1, .int .i64 x.f2, .string x.f3, .int .i64 x.f4, .int .i64 x.f5, .int .i64 x.f6.f0, .string x.f6.f1, .int .i64 x.f6.f2, .slice A9 x.f6.f3.length c9, .int .i64 x.f7, .string x.f8]) (t := 51) ?_; intro gb hg w3 hbox hb; replace HB := Own.bs hb; replace HC := Own.bb HC.out hb; replace HI := Own.bb HI.out hb; obtain ⟨y0, y1, y2, y3, y4, y5, y6, y7, y8, y9, y10, y11, z0, z1, z2, z3, z4, z5, z6, z7, z8, z9, z10, z11⟩ := Own.box12 hbox; obtain ⟨b0, b1, b2, b3⟩ := Own.box2 HC.out; have bi := (blk_cell HI.out 0).trans rfl; obtain ⟨ad, E9, e9, ea, hx0, hx1, hx2, hx3, hx4, hx5, hx6, hx7, hx8, hx9, hx10, hx11, hl9, hi9⟩ := at_T51 HR.out i p5 q5; cases ea; replace hx0 := Own.up HB.out hx0; clear hx1 hx2 hx3 hx4 hx5 hx6 hx7 hx8 hx9 hx10 hx11 hl9 hi9 hbox hb hg; replace p5 := eq_true p5; replace q5 := eq_true q5))
  go_quiet (fail)
  go_wp2
  go_ret
  exact ⟨by first | rfl | (simp; done), Own.bl⟩
set_option maxHeartbeats 8000000 in
set_option maxRecDepth 100000 in
theorem impl_isDependent.calls_ (A0 : Option Addr) (c0 : Nat) (p : List ByteArray) (A1 : Option Addr) (c1 : Nat) (l : List S51) (i : Int) (h0 : 0 ≤ i) (h1 : i < l.length) (hL : l.length ≤ 1048576) (w : World) (hr : Kd.C k51 w A1 l.length l) (hc : l.length ≤ c1) :
    Calls Tryz.prog 20 #[.agg #[.slice A0 p.length c0, .slice A1 l.length c1], .int .i64 i] w fun e w' => e = .returned (.bool (depK l i)) ∧ Below w.heap.size w w' := by
  have hu2 := Tryz.underlying29; have HR := Aside0.mk hr; have HC := Aside0.mk hc; have H0 := Aside0.mk h0; have H1 := Aside0.mk h1; have HL := Aside0.mk hL
  have HB := Aside0.mk (Below.refl w.heap.size w)
  clear hr hc h0 h1 hL
  go_enter Tryz.func20, Tryz.ntmps20
  go_wp2_with (first | ((with_reducible refine gate_dst (N := 2) rfl ?_); refine Own.be (N := 2) (cs := #[.slice A0 p.length c0, .slice A1 l.length c1]) (t := 29) ?_; intro gc hg w3 hbox hb; replace HB := Own.bs hb; have BC := Aside0.mk hbox; clear hbox hb hg) | ((with_reducible refine gate_dst (N := 3) rfl ?_); refine Own.be (N := 3) (cs := #[.int .i64 i]) (t := 3) ?_; intro gi hg w4 hbox hb; replace HB := Own.bs hb; replace BC := Own.bb BC.out hb; have BI := Aside0.mk hbox; obtain ⟨y0, y1, z0, z1⟩ := Own.box2 BC.out; clear hbox hb hg) | (go_at_call 38; (with_reducible refine (containsK_calls _ _ Tryz.f39 _ Tryz.func39 (by kernel_rfl) rfl A1 c1 l _ (Kd.C_below HR.out HB.out) HC.out HL.out (fun x A9 c9 W hW => depLit_calls x A9 c9 gc gi A0 p.length c0 A1 c1 l i H0.out H1.out W (Kd.C_below HR.out (below_step HB.out hW)) (blk_below BC.out hW) (blk_below BI.out hW))).mono ?_); rintro e w5 ⟨rfl, hb⟩; replace HB := Own.bs hb; clear hb))
  go_ret
  exact ⟨Own.rr, HB.out⟩
end Go.Proofs.YtckopglnblcnoaaGreatDoor.QFnExactRemoveClause
