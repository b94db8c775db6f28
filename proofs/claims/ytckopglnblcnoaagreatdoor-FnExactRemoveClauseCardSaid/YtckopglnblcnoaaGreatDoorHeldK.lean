/- laws.markContract, laws.heldContract over a contract of its own, each block in a place of its own. No condition. -/
import Derived.Test.YtckopglnblcnoaaGreatDoorSepH
namespace Go.Proofs.YtckopglnblcnoaaGreatDoor.Own
open Go.RowKit Go.Proofs.YtckopglnblcnoaaGreatDoor.QFnExactRemoveClause Go.Proofs.YtckopglnblcnoaaGreatDoorW.PrintWords Go.Proofs.YtckopglnblcnoaaGreatDoorW.PrintLast
set_option linter.unusedVariables false
set_option linter.unusedSimpArgs false
/-- A contract's marks stand. -/
structure HeldK (w : World) (a b c : Nat) (v0 v1 : Value) (m r : Int) : Prop where
 hs : HeldS w a b v0 1 m
 hr : HeldR w b c v1 m r
 m1 : 1 ≤ m ∧ m ≤ r ∧ r ≤ 900000000
theorem Kept.after {W W1 W2 : World} {S : Nat → Prop} (h : Below W.heap.size W W1) (k : Kept W1 W2 S) : Kept W W2 S :=
 ⟨Nat.le_trans h.size k.1, fun i hi hn => (k.2 i (Nat.lt_of_lt_of_le hi h.size) hn).trans (h.block i hi)⟩
theorem kept_part {W1 W2 : World} {S T : Nat → Prop} (h : Kept W1 W2 S) (hst : ∀ k, S k → T k) : Kept W1 W2 T := ⟨h.1, fun k a b => h.2 k a (fun s => b (hst k s))⟩
theorem kept_trans {W1 W2 W3 : World} {S : Nat → Prop} (h : Kept W1 W2 S) (g : Kept W2 W3 S) : Kept W1 W3 S := ⟨Nat.le_trans h.1 g.1, fun k a b => (g.2 k (Nat.lt_of_lt_of_le a h.1) b).trans (h.2 k a b)⟩
set_option maxHeartbeats 8000000 in
set_option maxRecDepth 100000 in
theorem markKP_calls {w : World} {a b c : Nat} {v0 v1 : Value} {l0 : List ByteArray} {l1 : List S51} (h0 : SepS w a b v0 l0) (h1 : SepR w b c v1 l1) (hab : a ≤ b) (hbc : b ≤ c) (W : World) (hW : ∀ k, a ≤ k → k < c → W.heap[k]? = w.heap[k]?) (hsz : c ≤ W.heap.size) (hz : l0.length + szR l1 ≤ 800000000) :
 Calls Tryz.prog 9 #[.agg #[v0, v1], .int .i64 1] W fun e W' => ∃ m r, e = .returned (.int .i64 r) ∧ HeldK W' a b c v0 v1 m r ∧ Kept W W' (fun k => a ≤ k ∧ k < c) ∧ Below 0 W W' := by
 have C0 := Aside0.mk (fun (W1 : World) (hb : Below W.heap.size W W1) => markSS_calls h0 W1 1 (fun k x y => (hb.block k (by omega)).trans (hW k x (by omega))) (by omega) (by omega))
 have C1 := Aside0.mk (fun (W1 W2 : World) (hb : Below W.heap.size W W1) (hk : Kept W1 W2 (fun k => a ≤ k ∧ k < b)) => markRR_calls h1 W2 (1 + l0.length) (fun k x y => (hk.2 k (by have := hb.size; omega) (by omega)).trans ((hb.block k (by omega)).trans (hW k (by omega) y))) (by have := hb.size; have := hk.1; omega) (by omega) (by omega))
 have HB := Aside0.mk (Below.refl W.heap.size W)
 have HL := Aside0.mk (And.intro hab (And.intro hbc (And.intro hsz hz)))
 clear hW hsz hab hbc hz; have hu1 := Tryz.underlying29
 go_enter Tryz.func9, Tryz.ntmps9
 go_wp2_with (first | ((with_reducible refine gate_dst (N := 2) rfl ?_); refine Own.be (N := 2) (cs := #[v0, v1]) (t := 29) ?_; intro gb hg w3 hbox hb; replace HB := Aside0.mk (below_step HB.out hb); have GB := Aside0.mk (show W.heap.size ≤ gb from by rw [hg]; exact Nat.le_refl _); have BK := Aside0.mk hbox; obtain ⟨y0, y1, z0, z1⟩ := Own.box2 hbox; clear hg hbox hb) | (go_at_call 25; (with_reducible refine (C0.out _ HB.out).mono ?_); rintro e w5 ⟨rfl, q1, q2, q3⟩; have HS := Aside0.mk q1; have HK := Aside0.mk q2; have H0 := Aside0.mk q3; replace BK := Aside0.mk ((q2.2 gb (blk_lt BK.out) (fun hs_ => by have h1_ := hs_.2; have h2_ := GB.out; have h3_ := HL.out; omega)).trans BK.out); clear y0 y1 z0 z1 q1 q2 q3; obtain ⟨y0, y1, z0, z1⟩ := Own.box2 BK.out) | (go_at_call 26; (with_reducible refine (C1.out _ _ HB.out HK.out).mono ?_); rintro e w9 ⟨r9, rfl, q1, q2, q3, q4, q5⟩; have HQ := Aside0.mk (And.intro q1 (And.intro q2 (And.intro q3 (And.intro q4 q5)))); clear q1 q2 q3 q4 q5))
 go_ret; obtain ⟨q1, q2, q3, q4, q5⟩ := HQ.out
 refine ⟨_, r9, Own.rr, ⟨HS.out.kept (fun k x y => q4.2 k ?_ (by omega)), q3, by omega, q1, ?_⟩, ?_, ?_⟩
 · have := HL.out; have := HB.out.size; have := HK.out.1; omega
 · have := HL.out; omega
 · exact Kept.after HB.out (kept_trans (kept_part HK.out (fun k h => ⟨h.1, by have := HL.out; omega⟩)) (kept_part q4 (fun k h => ⟨by have := HL.out; omega, h.2⟩)))
 · exact (HB.out.mono (Nat.zero_le _)).trans (H0.out.trans q5)
set_option maxHeartbeats 8000000 in
set_option maxRecDepth 100000 in
theorem heldKP_calls {w : World} {a b c : Nat} {v0 v1 : Value} {m r : Int} (h : HeldK w a b c v0 v1 m r) (hab : a ≤ b) (hbc : b ≤ c) (W : World) (hW : ∀ k, a ≤ k → k < c → W.heap[k]? = w.heap[k]?) (hsz : c ≤ W.heap.size) :
 Calls Tryz.prog 10 #[.agg #[v0, v1], .int .i64 1] W fun e W' => e = .returned (.int .i64 r) ∧ Below W.heap.size W W' := by
 obtain ⟨h0, h1, h2, h3, h4⟩ := h
 have C0 := Aside0.mk (fun (W1 : World) (hb : Below W.heap.size W W1) => heldSS_calls h0 W1 (fun k x y => (hb.block k (by omega)).trans (hW k x (by omega))) (by have := hb.size; omega) (by omega) (by omega))
 have C1 := Aside0.mk (fun (W1 : World) (hb : Below W.heap.size W W1) => heldRR_calls h1 W1 (fun k x y => (hb.block k (by omega)).trans (hW k (by omega) y)) (by have := hb.size; omega) (by omega) (by omega))
 have HB := Aside0.mk (Below.refl W.heap.size W)
 have c1 : decide (m < 0) = false := decide_eq_false (by omega)
 have c2 : (m < 0) = False := eq_false (by omega)
 have c3 : decide (r < 0) = false := decide_eq_false (by omega)
 have c4 : (r < 0) = False := eq_false (by omega)
 clear hW hsz hab hbc h2 h3 h4; have hu1 := Tryz.underlying29
 go_enter Tryz.func10, Tryz.ntmps10
 go_wp2_with (first | ((with_reducible refine gate_dst (N := 2) rfl ?_); refine Own.be (N := 2) (cs := #[v0, v1]) (t := 29) ?_; intro gb hg w3 hbox hb; replace HB := Aside0.mk (below_step HB.out hb); have BK := Aside0.mk hbox; obtain ⟨y0, y1, z0, z1⟩ := Own.box2 hbox; clear hg hbox hb) | (go_at_call 27; (with_reducible refine (C0.out _ HB.out).mono ?_); rintro e w5 ⟨rfl, hb⟩; replace HB := Aside0.mk (below_step HB.out hb); replace BK := Aside0.mk (blk_below BK.out hb); clear y0 y1 z0 z1 hb; obtain ⟨y0, y1, z0, z1⟩ := Own.box2 BK.out) | (go_at_call 28; (with_reducible refine (C1.out _ HB.out).mono ?_); rintro e w9 ⟨rfl, hb⟩; replace HB := Aside0.mk (below_step HB.out hb); clear hb))
 go_ret
 exact ⟨Own.rr, HB.out⟩
end Go.Proofs.YtckopglnblcnoaaGreatDoor.Own
