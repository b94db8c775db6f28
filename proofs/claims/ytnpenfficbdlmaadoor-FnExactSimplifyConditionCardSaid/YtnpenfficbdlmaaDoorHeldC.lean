/- laws.markCondition and laws.heldCondition over a tree of its own. No condition. -/
import Derived.Test.YtnpenfficbdlmaaDoorSepC
namespace Go.Proofs.YtnpenfficbdlmaaDoor.Own
open Go.RowKit Go.Proofs.YtnpenfficbdlmaaDoor.QFnExactSimplifyCondition Go.Proofs.YtnpenfficbdlmaaDoorW.PrintWords Go.Proofs.YtnpenfficbdlmaaDoorW.PrintLast Go.Proofs.YtnpenfficbdlmaaDoorW.PrintMore
set_option linter.unusedVariables false
set_option linter.unusedSimpArgs false
theorem Kept.after {W W1 W2 : World} {S : Nat → Prop} (h : Below W.heap.size W W1) (k : Kept W1 W2 S) : Kept W W2 S :=
  ⟨Nat.le_trans h.size k.1, fun i hi hn => (k.2 i (Nat.lt_of_lt_of_le hi h.size) hn).trans (h.block i hi)⟩
set_option maxHeartbeats 8000000 in
set_option maxRecDepth 100000 in
theorem markP1_calls {w : World} {lo hi : Nat} {v : Value} {l : List S28} (h : Sep w lo hi v l) (op day : Int) (nm : ByteArray) (W : World) (a1 : Int) (hW : ∀ k, lo ≤ k → k < hi → W.heap[k]? = w.heap[k]?) (hsz : hi ≤ W.heap.size) (h0 : 1 ≤ a1) (h1 : a1 + 3 * szL l ≤ 900000000) :
    Calls Tryd.prog 10 #[.agg #[.int .i64 op, .string nm, .int .i64 day, v], .int .i64 a1] W fun e W' => ∃ r, e = .returned (.int .i64 r) ∧ a1 ≤ r ∧ r ≤ a1 + 3 * szL l ∧ Held W' lo hi v a1 r ∧ Kept W W' (fun k => lo ≤ k ∧ k < hi) ∧ Below 0 W W' := by
  have HC := Aside0.mk (fun (W1 : World) (hb : Below W.heap.size W W1) => markP_calls h W1 a1 (fun k a b => (hb.block k (Nat.lt_of_lt_of_le b hsz)).trans (hW k a b)) (Nat.le_trans hsz hb.size) h0 h1)
  have HB := Aside0.mk (Below.refl W.heap.size W)
  clear hW hsz h0 h1
  have hu1 := Tryd.underlying28
  go_enter Tryd.func10, Tryd.ntmps10
  go_wp2_with (first | ((with_reducible refine gate_dst (N := 2) rfl ?_); refine Own.be (N := 2) (cs := #[.int .i64 op, .string nm, .int .i64 day, v]) (t := 28) ?_; intro gb hg w3 hbox hb; replace HB := Aside0.mk (below_step HB.out hb); obtain ⟨y0, y1, y2, y3, z0, z1, z2, z3⟩ := Own.box4 hbox; clear hg hbox hb) | (go_at_call 25; (with_reducible refine (HC.out _ HB.out).mono ?_); rintro e w9 ⟨r9, rfl, q1, q2, q3, q4, q5⟩; have HR := Aside0.mk (And.intro q1 (And.intro q2 (And.intro q3 (And.intro (Kept.after HB.out q4) ((HB.out.mono (Nat.zero_le _)).trans q5))))); clear q1 q2 q3 q4 q5))
  go_ret
  exact ⟨r9, Own.rr, HR.out⟩
set_option maxHeartbeats 8000000 in
set_option maxRecDepth 100000 in
theorem heldP1_calls {w : World} {lo hi : Nat} {v : Value} {k r : Int} (h : Held w lo hi v k r) (op day : Int) (nm : ByteArray) (W : World) (hW : ∀ j, lo ≤ j → j < hi → W.heap[j]? = w.heap[j]?) (hsz : hi ≤ W.heap.size) (h0 : 1 ≤ k) (h1 : r ≤ 900000000) :
    Calls Tryd.prog 11 #[.agg #[.int .i64 op, .string nm, .int .i64 day, v], .int .i64 k] W fun e W' => e = .returned (.int .i64 r) ∧ Below W.heap.size W W' := by
  have HC := Aside0.mk (fun (W1 : World) (hb : Below W.heap.size W W1) => heldP_calls h W1 (fun k a b => (hb.block k (Nat.lt_of_lt_of_le b hsz)).trans (hW k a b)) (Nat.le_trans hsz hb.size) h0 h1)
  have HB := Aside0.mk (Below.refl W.heap.size W)
  have hge := h.ge
  have c1 : decide (r < 0) = false := decide_eq_false (by omega)
  have c2 : (r < 0) = False := eq_false (by omega)
  clear hW hsz h0 h1 hge
  have hu1 := Tryd.underlying28
  go_enter Tryd.func11, Tryd.ntmps11
  go_wp2_with (first | ((with_reducible refine gate_dst (N := 2) rfl ?_); refine Own.be (N := 2) (cs := #[.int .i64 op, .string nm, .int .i64 day, v]) (t := 28) ?_; intro gb hg w3 hbox hb; replace HB := Aside0.mk (below_step HB.out hb); obtain ⟨y0, y1, y2, y3, z0, z1, z2, z3⟩ := Own.box4 hbox; clear hg hbox hb) | (go_at_call 26; (with_reducible refine (HC.out _ HB.out).mono ?_); rintro e w9 ⟨rfl, hb⟩; replace HB := Aside0.mk (below_step HB.out hb); clear hb))
  go_ret
  exact ⟨Own.rr, HB.out⟩
end Go.Proofs.YtnpenfficbdlmaaDoor.Own
