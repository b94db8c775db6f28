/- Marks written into rows of strings, rows of clauses and a contract that the call made. No condition. -/
import Derived.Test.YtckopglnblcnoaaGreatDoorMarkC
namespace Go.Proofs.YtckopglnblcnoaaGreatDoor.Own
open Go.RowKit Go.Proofs.YtckopglnblcnoaaGreatDoor.QFnExactRemoveClause Go.Proofs.YtckopglnblcnoaaGreatDoorW.PrintWords Go.Proofs.YtckopglnblcnoaaGreatDoorW.PrintLast
set_option linter.unusedVariables false
set_option linter.unusedSimpArgs false
inductive ShS (w : World) (S : Nat → Prop) : Value → Nat → Prop
 | nil (A : Option Addr) (c : Nat) : ShS w S (.slice A 0 c) 0
 | row (g c n : Nat) (cur : Array Value) (hS : S g) (hg : w.heap[g]? = some (.cells cur 9 (0, 0))) (hc : n ≤ c)
  (hf : ∀ i, i < n → ∃ b0, cur[i]? = some (.string b0)) :
  ShS w S (.slice (some ⟨g, 0, none⟩) n c) n 
theorem ShS.same {S : Nat → Prop} {w W : World} {v : Value} {n : Nat} (h : ShS w S v n) (hW : Same S w W) : ShS W S v n := by
 cases h with
 | nil A c => exact .nil A c
 | row g c n cur hS hg hc hf =>
  obtain ⟨cs, h1, h2, h3⟩ := hW.near g cur _ hg
  refine .row g c _ cs hS h1 hc (fun i hi => ?_)
  · obtain ⟨b0, q0⟩ := hf i hi
    obtain ⟨_, e0, y0, rfl⟩ := h3 _ _ q0
    exact ⟨_, e0⟩
theorem ShS.at {S : Nat → Prop} {w W : World} (h : Same S w W) {g n : Nat} {cur : Array Value} (hg : w.heap[g]? = some (.cells cur 9 (0, 0)))
 (hf : ∀ i, i < n → ∃ b0, cur[i]? = some (.string b0)) (i : Nat) (hi : i < n) :
 ∃ b0, W.cell? ⟨g, i, none⟩ = some (.string b0) ∧ W.frozen? ⟨g, i, none⟩ = false := by
 obtain ⟨b0, q0⟩ := hf i hi; obtain ⟨v0, c0, a0, f0, _⟩ := h.cells hg q0; obtain ⟨y0, rfl⟩ := a0
 exact ⟨y0, c0, f0⟩
set_option maxHeartbeats 8000000 in
set_option maxRecDepth 100000 in
theorem markShS_calls {w : World} {S : Nat → Prop} {v : Value} {n : Nat} (h : ShS w S v n) (W : World) (a1 : Int) (hW : Same S w W) (h0 : 1 ≤ a1) (h1 : a1 + 1 * n ≤ 900000000) :
 Calls Tryz.prog 25 #[v, .int .i64 a1] W fun e W' => ∃ r, e = .returned (.int .i64 r) ∧ a1 ≤ r ∧ r ≤ a1 + 1 * n ∧ Same S w W' := by
 cases h with
 | nil A c =>
  have HW := Aside0.mk hW; clear hW
  go_enter Tryz.func25, Tryz.ntmps25
  go_wp2
  go_loopg [1, 5] 1 (fun kq v1 v5 w' => v1 = .int .i64 a1 ∧ v5 = .int .i64 0 ∧ Aside0 (Same S w w'))
  case atStart => exact ⟨rfl, rfl, HW⟩
  case round =>
   obtain ⟨rfl, rfl, HS⟩ := hrel
   go_wp2
   go_ret
   exact ⟨a1, rfl, Int.le_refl _, by omega, HS.out⟩
 | row g c n cur hS hg hc hf =>
  have HW := Aside0.mk hW; clear hW
  have HS' := Aside0.mk (fun (W : World) (hWW : Same S w W) (i : Nat) (hi : i < n) => ShS.at (W := W) hWW hg hf i hi)
  have HT0 : Aside0 (∀ W, Same S w W → ∀ i, i < n → ∀ x, Same S w (W.setCell ⟨g, i, none⟩ (.string x))) := ⟨fun W hW i hi x => by obtain ⟨_, q0⟩ := hf i hi; exact hW.store hS hg q0 _ ⟨x, rfl⟩⟩
  have HL : Aside0 (n ≤ 900000000) := ⟨by omega⟩
  have Hh0 := Aside0.mk h0; have Hh1 := Aside0.mk h1; clear hg hf hS h0 h1; have hu1 := Tryz.underlying9; have hu2 := Tryz.underlying22
  go_enter Tryz.func25, Tryz.ntmps25
  go_wp2
  go_loopg [1, 5] (n + 1) (fun kq v1 v5 w' => ∃ (x1 x5 : Int), v1 = .int .i64 x1 ∧ v5 = .int .i64 x5 ∧ Aside0 (0 ≤ x5 ∧ x5 ≤ n ∧ x5 + kq = n + 1) ∧ Aside0 (a1 ≤ x1 ∧ x1 ≤ a1 + 1 * (x5.toNat : Nat)) ∧ Aside0 (Same S w w'))
  case atStart => exact ⟨a1, 0, rfl, rfl, ⟨by omega, by omega, by simp⟩, ⟨by simp⟩, HW⟩
  case round =>
   clear HW; obtain ⟨x1, x5, rfl, rfl, HK, HX, HS⟩ := hrel
   by_cases c5 : x5 < (n : Int)
   · obtain ⟨i, rfl⟩ : ∃ i : Nat, x5 = (i : Int) := ⟨x5.toNat, by have := HK.out.1; omega⟩
     have Hi := Aside0.mk (show i < n by omega)
     have ei : (i : Int).toNat = i := by omega
     have Hx : Aside0 (1 ≤ x1 ∧ x1 + 1 ≤ a1 + 1 * (i + 1) ∧ a1 + 1 * (i + 1) ≤ 900000000) := ⟨by
      have h1 := HX.out; have h2 := Hh0.out; have h3 := Hh1.out; have h4 := Hi.out
      simp only [ei] at h1
      omega⟩
     have w0 : wrap64 (x1 + 1) = x1 + 1 := by have := Hx.out; unfold wrap64; omega
     obtain ⟨b0, y0, z0⟩ := HS'.out _ HS.out i Hi.out; have p5 := eq_true HK.out.1; replace c5 := eq_true c5
     have c5' : decide ((i : Int) < (n : Int)) = true := decide_eq_true (by have := Hi.out; omega)
     have T1 := Aside0.mk True.intro
     go_wp2_with (first | (go_at_call 43; clear T1; (with_reducible refine (laws_markText.calls 11 (x1) (mt (x1)) _ (mk_all _ (by have := Hx.out; omega) (by have := Hx.out; omega))).mono ?_); rintro e w21 ⟨rfl, hb⟩; replace HS := Aside0.mk (Same.below (HS.out) hb); clear hb y0 z0 b0; obtain ⟨b0, y0, z0⟩ := HS'.out _ HS.out i Hi.out; have T2 := Aside0.mk True.intro))
     go_roundg (gk - 1)
     case measure => have := HK.out; omega
     case rel => exact ⟨x1 + 1, (i : Int) + 1, Own.rs, by rw [show wrap64 ((i : Int) + 1) = (i : Int) + 1 from by have := Hi.out; have := HL.out; unfold wrap64; omega], ⟨by have := HK.out; have := Hi.out; omega⟩, ⟨by
      have h1 := HX.out; have h4 := Hx.out
      rw [show ((i : Int) + 1).toNat = i + 1 by omega]
      omega⟩, ⟨(HT0.out _ HS.out i Hi.out (mt (x1)))⟩⟩
   · replace c5 := decide_eq_false c5
     go_wp2
     go_ret
     have hz : x5 = n := by have := HK.out; have := of_decide_eq_false c5; omega
     exact ⟨x1, rfl, HX.out.1, by have := HX.out.2; rw [hz] at this; simpa using this, HS.out⟩
inductive ShK (w : World) (S : Nat → Prop) : Value → Nat → Nat → Prop
 | nil (A : Option Addr) (c : Nat) : ShK w S (.slice A 0 c) 0 0
 | row (g c n : Nat) (cur : Array Value) (V : Nat → Value) (L Z : Nat → Nat) (hS : S g) (hg : w.heap[g]? = some (.cells cur 51 (0, 0))) (hc : n ≤ c)
  (hf : ∀ i, i < n → ∃ b0 b1 b2 b3 b4 b5 b6 b7 b8 b10 b11, cur[i * 12]? = some (.string b0) ∧ cur[i * 12 + 1]? = some (.int .i64 b1) ∧ cur[i * 12 + 2]? = some (.int .i64 b2) ∧ cur[i * 12 + 3]? = some (.string b3) ∧ cur[i * 12 + 4]? = some (.int .i64 b4) ∧ cur[i * 12 + 5]? = some (.int .i64 b5) ∧ cur[i * 12 + 6]? = some (.int .i64 b6) ∧ cur[i * 12 + 7]? = some (.string b7) ∧ cur[i * 12 + 8]? = some (.int .i64 b8) ∧ cur[i * 12 + 10]? = some (.int .i64 b10) ∧ cur[i * 12 + 11]? = some (.string b11)) (hV : ∀ i, i < n → cur[i * 12 + 9]? = some (V i)) (hs : ∀ i, i < n → ∃ A c, V i = .slice A (L i) c) (hr : ∀ i, i < n → ShC w S (V i) (L i) (Z i)) :
  ShK w S (.slice (some ⟨g, 0, none⟩) n c) n (sumTo Z n)
theorem ShK.same {S : Nat → Prop} {w W : World} {v : Value} {n z : Nat} (h : ShK w S v n z) (hW : Same S w W) : ShK W S v n z := by
 cases h with
 | nil A c => exact .nil A c
 | row g c n cur V L Z hS hg hc hf hV hs hr =>
  obtain ⟨cs, h1, h2, h3⟩ := hW.near g cur _ hg
  refine .row g c _ cs V L Z hS h1 hc (fun i hi => ?_) (fun i hi => ?_) hs (fun i hi => (hr i hi).same hW)
  · obtain ⟨b0, b1, b2, b3, b4, b5, b6, b7, b8, b10, b11, q0, q1, q2, q3, q4, q5, q6, q7, q8, q10, q11⟩ := hf i hi
    obtain ⟨_, e0, y0, rfl⟩ := h3 _ _ q0; obtain ⟨_, e1, y1, rfl⟩ := h3 _ _ q1; obtain ⟨_, e2, y2, rfl⟩ := h3 _ _ q2; obtain ⟨_, e3, y3, rfl⟩ := h3 _ _ q3; obtain ⟨_, e4, y4, rfl⟩ := h3 _ _ q4; obtain ⟨_, e5, y5, rfl⟩ := h3 _ _ q5; obtain ⟨_, e6, y6, rfl⟩ := h3 _ _ q6; obtain ⟨_, e7, y7, rfl⟩ := h3 _ _ q7; obtain ⟨_, e8, y8, rfl⟩ := h3 _ _ q8; obtain ⟨_, e10, y10, rfl⟩ := h3 _ _ q10; obtain ⟨_, e11, y11, rfl⟩ := h3 _ _ q11
    exact ⟨_, _, _, _, _, _, _, _, _, _, _, e0, e1, e2, e3, e4, e5, e6, e7, e8, e10, e11⟩
  · obtain ⟨u, e3, a3⟩ := h3 _ _ (hV i hi)
    obtain ⟨A, c', e⟩ := hs i hi
    rw [e] at a3 ⊢
    rw [e3]
    exact congrArg some a3
theorem ShK.at {S : Nat → Prop} {w W : World} (h : Same S w W) {g n : Nat} {cur : Array Value} {V : Nat → Value} (hg : w.heap[g]? = some (.cells cur 51 (0, 0)))
 (hf : ∀ i, i < n → ∃ b0 b1 b2 b3 b4 b5 b6 b7 b8 b10 b11, cur[i * 12]? = some (.string b0) ∧ cur[i * 12 + 1]? = some (.int .i64 b1) ∧ cur[i * 12 + 2]? = some (.int .i64 b2) ∧ cur[i * 12 + 3]? = some (.string b3) ∧ cur[i * 12 + 4]? = some (.int .i64 b4) ∧ cur[i * 12 + 5]? = some (.int .i64 b5) ∧ cur[i * 12 + 6]? = some (.int .i64 b6) ∧ cur[i * 12 + 7]? = some (.string b7) ∧ cur[i * 12 + 8]? = some (.int .i64 b8) ∧ cur[i * 12 + 10]? = some (.int .i64 b10) ∧ cur[i * 12 + 11]? = some (.string b11)) (hV : ∀ i, i < n → cur[i * 12 + 9]? = some (V i)) (hs : ∀ i, i < n → ∃ A l c, V i = .slice A l c) (i : Nat) (hi : i < n) :
 ∃ b0 b1 b2 b3 b4 b5 b6 b7 b8 b10 b11, W.cell? ⟨g, i * 12, none⟩ = some (.string b0) ∧ W.cell? ⟨g, i * 12 + 1, none⟩ = some (.int .i64 b1) ∧ W.cell? ⟨g, i * 12 + 2, none⟩ = some (.int .i64 b2) ∧ W.cell? ⟨g, i * 12 + 3, none⟩ = some (.string b3) ∧ W.cell? ⟨g, i * 12 + 4, none⟩ = some (.int .i64 b4) ∧ W.cell? ⟨g, i * 12 + 5, none⟩ = some (.int .i64 b5) ∧ W.cell? ⟨g, i * 12 + 6, none⟩ = some (.int .i64 b6) ∧ W.cell? ⟨g, i * 12 + 7, none⟩ = some (.string b7) ∧ W.cell? ⟨g, i * 12 + 8, none⟩ = some (.int .i64 b8) ∧ W.cell? ⟨g, i * 12 + 9, none⟩ = some (V i) ∧ W.cell? ⟨g, i * 12 + 10, none⟩ = some (.int .i64 b10) ∧ W.cell? ⟨g, i * 12 + 11, none⟩ = some (.string b11) ∧ W.frozen? ⟨g, i * 12, none⟩ = false ∧ W.frozen? ⟨g, i * 12 + 1, none⟩ = false ∧ W.frozen? ⟨g, i * 12 + 2, none⟩ = false ∧ W.frozen? ⟨g, i * 12 + 3, none⟩ = false ∧ W.frozen? ⟨g, i * 12 + 4, none⟩ = false ∧ W.frozen? ⟨g, i * 12 + 5, none⟩ = false ∧ W.frozen? ⟨g, i * 12 + 6, none⟩ = false ∧ W.frozen? ⟨g, i * 12 + 7, none⟩ = false ∧ W.frozen? ⟨g, i * 12 + 8, none⟩ = false ∧ W.frozen? ⟨g, i * 12 + 10, none⟩ = false ∧ W.frozen? ⟨g, i * 12 + 11, none⟩ = false := by
 obtain ⟨b0, b1, b2, b3, b4, b5, b6, b7, b8, b10, b11, q0, q1, q2, q3, q4, q5, q6, q7, q8, q10, q11⟩ := hf i hi; obtain ⟨A, l, c, e3⟩ := hs i hi; have q9 := hV i hi; obtain ⟨v0, c0, a0, f0, _⟩ := h.cells hg q0; obtain ⟨v1, c1, a1, f1, _⟩ := h.cells hg q1; obtain ⟨v2, c2, a2, f2, _⟩ := h.cells hg q2; obtain ⟨v3, c3, a3, f3, _⟩ := h.cells hg q3; obtain ⟨v4, c4, a4, f4, _⟩ := h.cells hg q4; obtain ⟨v5, c5, a5, f5, _⟩ := h.cells hg q5; obtain ⟨v6, c6, a6, f6, _⟩ := h.cells hg q6; obtain ⟨v7, c7, a7, f7, _⟩ := h.cells hg q7; obtain ⟨v8, c8, a8, f8, _⟩ := h.cells hg q8; obtain ⟨v9, c9, a9, f9, _⟩ := h.cells hg q9; obtain ⟨v10, c10, a10, f10, _⟩ := h.cells hg q10; obtain ⟨v11, c11, a11, f11, _⟩ := h.cells hg q11; obtain ⟨y0, rfl⟩ := a0; obtain ⟨y1, rfl⟩ := a1; obtain ⟨y2, rfl⟩ := a2; obtain ⟨y3, rfl⟩ := a3; obtain ⟨y4, rfl⟩ := a4; obtain ⟨y5, rfl⟩ := a5; obtain ⟨y6, rfl⟩ := a6; obtain ⟨y7, rfl⟩ := a7; obtain ⟨y8, rfl⟩ := a8; obtain ⟨y10, rfl⟩ := a10; obtain ⟨y11, rfl⟩ := a11; rw [e3] at a9
 obtain rfl : v9 = V i := by rw [e3]; exact a9
 exact ⟨y0, y1, y2, y3, y4, y5, y6, y7, y8, y10, y11, c0, c1, c2, c3, c4, c5, c6, c7, c8, c9, c10, c11, f0, f1, f2, f3, f4, f5, f6, f7, f8, f10, f11⟩
set_option maxHeartbeats 8000000 in
set_option maxRecDepth 100000 in
theorem markShK_calls {w : World} {S : Nat → Prop} {v : Value} {n z : Nat} (h : ShK w S v n z) (W : World) (a1 : Int) (hW : Same S w W) (h0 : 1 ≤ a1) (h1 : a1 + 11 * z ≤ 900000000) :
 Calls Tryz.prog 26 #[v, .int .i64 a1] W fun e W' => ∃ r, e = .returned (.int .i64 r) ∧ a1 ≤ r ∧ r ≤ a1 + 11 * z ∧ Same S w W' := by
 cases h with
 | nil A c =>
  have HW := Aside0.mk hW; clear hW
  go_enter Tryz.func26, Tryz.ntmps26
  go_wp2
  go_loopg [1, 5] 1 (fun kq v1 v5 w' => v1 = .int .i64 a1 ∧ v5 = .int .i64 0 ∧ Aside0 (Same S w w'))
  case atStart => exact ⟨rfl, rfl, HW⟩
  case round =>
   obtain ⟨rfl, rfl, HS⟩ := hrel
   go_wp2
   go_ret
   exact ⟨a1, rfl, Int.le_refl _, by omega, HS.out⟩
 | row g c n cur V L Z hS hg hc hf hV hs hr =>
  have HW := Aside0.mk hW; clear hW
  have HS' := Aside0.mk (fun (W : World) (hWW : Same S w W) (i : Nat) (hi : i < n) => ShK.at (W := W) hWW hg hf hV (fun i hi => by obtain ⟨A, c, e⟩ := hs i hi; exact ⟨A, L i, c, e⟩) i hi)
  have HT0 : Aside0 (∀ W, Same S w W → ∀ i, i < n → ∀ x, Same S w (W.setCell ⟨g, i * 12, none⟩ (.string x))) := ⟨fun W hW i hi x => by obtain ⟨_, _, _, _, _, _, _, _, _, _, _, q0, q1, q2, q3, q4, q5, q6, q7, q8, q10, q11⟩ := hf i hi; exact hW.store hS hg q0 _ ⟨x, rfl⟩⟩
  have HT1 : Aside0 (∀ W, Same S w W → ∀ i, i < n → ∀ x, Same S w (W.setCell ⟨g, i * 12 + 1, none⟩ (.int .i64 x))) := ⟨fun W hW i hi x => by obtain ⟨_, _, _, _, _, _, _, _, _, _, _, q0, q1, q2, q3, q4, q5, q6, q7, q8, q10, q11⟩ := hf i hi; exact hW.store hS hg q1 _ ⟨x, rfl⟩⟩
  have HT2 : Aside0 (∀ W, Same S w W → ∀ i, i < n → ∀ x, Same S w (W.setCell ⟨g, i * 12 + 2, none⟩ (.int .i64 x))) := ⟨fun W hW i hi x => by obtain ⟨_, _, _, _, _, _, _, _, _, _, _, q0, q1, q2, q3, q4, q5, q6, q7, q8, q10, q11⟩ := hf i hi; exact hW.store hS hg q2 _ ⟨x, rfl⟩⟩
  have HT3 : Aside0 (∀ W, Same S w W → ∀ i, i < n → ∀ x, Same S w (W.setCell ⟨g, i * 12 + 3, none⟩ (.string x))) := ⟨fun W hW i hi x => by obtain ⟨_, _, _, _, _, _, _, _, _, _, _, q0, q1, q2, q3, q4, q5, q6, q7, q8, q10, q11⟩ := hf i hi; exact hW.store hS hg q3 _ ⟨x, rfl⟩⟩
  have HT4 : Aside0 (∀ W, Same S w W → ∀ i, i < n → ∀ x, Same S w (W.setCell ⟨g, i * 12 + 4, none⟩ (.int .i64 x))) := ⟨fun W hW i hi x => by obtain ⟨_, _, _, _, _, _, _, _, _, _, _, q0, q1, q2, q3, q4, q5, q6, q7, q8, q10, q11⟩ := hf i hi; exact hW.store hS hg q4 _ ⟨x, rfl⟩⟩
  have HT5 : Aside0 (∀ W, Same S w W → ∀ i, i < n → ∀ x, Same S w (W.setCell ⟨g, i * 12 + 5, none⟩ (.int .i64 x))) := ⟨fun W hW i hi x => by obtain ⟨_, _, _, _, _, _, _, _, _, _, _, q0, q1, q2, q3, q4, q5, q6, q7, q8, q10, q11⟩ := hf i hi; exact hW.store hS hg q5 _ ⟨x, rfl⟩⟩
  have HT6 : Aside0 (∀ W, Same S w W → ∀ i, i < n → ∀ x, Same S w (W.setCell ⟨g, i * 12 + 6, none⟩ (.int .i64 x))) := ⟨fun W hW i hi x => by obtain ⟨_, _, _, _, _, _, _, _, _, _, _, q0, q1, q2, q3, q4, q5, q6, q7, q8, q10, q11⟩ := hf i hi; exact hW.store hS hg q6 _ ⟨x, rfl⟩⟩
  have HT7 : Aside0 (∀ W, Same S w W → ∀ i, i < n → ∀ x, Same S w (W.setCell ⟨g, i * 12 + 6 + 1, none⟩ (.string x))) := ⟨fun W hW i hi x => by obtain ⟨_, _, _, _, _, _, _, _, _, _, _, q0, q1, q2, q3, q4, q5, q6, q7, q8, q10, q11⟩ := hf i hi; exact hW.store hS hg q7 _ ⟨x, rfl⟩⟩
  have HT8 : Aside0 (∀ W, Same S w W → ∀ i, i < n → ∀ x, Same S w (W.setCell ⟨g, i * 12 + 6 + 2, none⟩ (.int .i64 x))) := ⟨fun W hW i hi x => by obtain ⟨_, _, _, _, _, _, _, _, _, _, _, q0, q1, q2, q3, q4, q5, q6, q7, q8, q10, q11⟩ := hf i hi; exact hW.store hS hg q8 _ ⟨x, rfl⟩⟩
  have HT10 : Aside0 (∀ W, Same S w W → ∀ i, i < n → ∀ x, Same S w (W.setCell ⟨g, i * 12 + 10, none⟩ (.int .i64 x))) := ⟨fun W hW i hi x => by obtain ⟨_, _, _, _, _, _, _, _, _, _, _, q0, q1, q2, q3, q4, q5, q6, q7, q8, q10, q11⟩ := hf i hi; exact hW.store hS hg q10 _ ⟨x, rfl⟩⟩
  have HT11 : Aside0 (∀ W, Same S w W → ∀ i, i < n → ∀ x, Same S w (W.setCell ⟨g, i * 12 + 11, none⟩ (.string x))) := ⟨fun W hW i hi x => by obtain ⟨_, _, _, _, _, _, _, _, _, _, _, q0, q1, q2, q3, q4, q5, q6, q7, q8, q10, q11⟩ := hf i hi; exact hW.store hS hg q11 _ ⟨x, rfl⟩⟩
  have HI : Aside0 (∀ (i : Nat), i < n → ∀ (W : World) (a1 : Int), Same S w W → 1 ≤ a1 → a1 + 3 * Z i ≤ 900000000 → Calls Tryz.prog 44 #[V i, .int .i64 a1] W fun e W' => ∃ r, e = .returned (.int .i64 r) ∧ a1 ≤ r ∧ r ≤ a1 + 3 * Z i ∧ Same S w W') := ⟨fun i hi W a1 hW q0 q1 => markC_calls mt mk_all (hr i hi) W a1 hW q0 q1⟩
  have HL : Aside0 (n ≤ 900000000) := ⟨by have := sumTo_n Z n; omega⟩
  have Hh0 := Aside0.mk h0; have Hh1 := Aside0.mk h1; clear hg hf hV hr hs hS h0 h1; have hu1 := Tryz.underlying51; have hu2 := Tryz.underlying27; have hu3 := Tryz.underlying49
  go_enter Tryz.func26, Tryz.ntmps26
  go_wp2
  go_loopg [1, 5] (n + 1) (fun kq v1 v5 w' => ∃ (x1 x5 : Int), v1 = .int .i64 x1 ∧ v5 = .int .i64 x5 ∧ Aside0 (0 ≤ x5 ∧ x5 ≤ n ∧ x5 + kq = n + 1) ∧ Aside0 (a1 ≤ x1 ∧ x1 ≤ a1 + 11 * sumTo Z x5.toNat) ∧ Aside0 (Same S w w'))
  case atStart => exact ⟨a1, 0, rfl, rfl, ⟨by omega, by omega, by simp⟩, ⟨by simp [sumTo]⟩, HW⟩
  case round =>
   clear HW; obtain ⟨x1, x5, rfl, rfl, HK, HX, HS⟩ := hrel
   by_cases c5 : x5 < (n : Int)
   · obtain ⟨i, rfl⟩ : ∃ i : Nat, x5 = (i : Int) := ⟨x5.toNat, by have := HK.out.1; omega⟩
     have Hi := Aside0.mk (show i < n by omega)
     have ei : (i : Int).toNat = i := by omega
     have Hn := Aside0.mk (sumTo_at Z n i Hi.out)
     have Hx : Aside0 (1 ≤ x1 ∧ x1 + 11 + 3 * Z i ≤ a1 + 11 * sumTo Z (i + 1) ∧ a1 + 11 * sumTo Z (i + 1) ≤ 900000000) := ⟨by
      have h1 := HX.out; have h2 := Hh0.out; have h3 := Hh1.out; have h4 := Hn.out
      simp only [ei] at h1
      simp only [sumTo]
      omega⟩
     have w0 : wrap64 (x1 + 1) = x1 + 1 := by have := Hx.out; unfold wrap64; omega
     have w1 : wrap64 (x1 + 1 + 1) = x1 + 1 + 1 := by have := Hx.out; unfold wrap64; omega
     have w2 : wrap64 (x1 + 1 + 1 + 1) = x1 + 1 + 1 + 1 := by have := Hx.out; unfold wrap64; omega
     have w3 : wrap64 (x1 + 1 + 1 + 1 + 1) = x1 + 1 + 1 + 1 + 1 := by have := Hx.out; unfold wrap64; omega
     have w4 : wrap64 (x1 + 1 + 1 + 1 + 1 + 1) = x1 + 1 + 1 + 1 + 1 + 1 := by have := Hx.out; unfold wrap64; omega
     have w5 : wrap64 (x1 + 1 + 1 + 1 + 1 + 1 + 1) = x1 + 1 + 1 + 1 + 1 + 1 + 1 := by have := Hx.out; unfold wrap64; omega
     have w6 : wrap64 (x1 + 1 + 1 + 1 + 1 + 1 + 1 + 1) = x1 + 1 + 1 + 1 + 1 + 1 + 1 + 1 := by have := Hx.out; unfold wrap64; omega
     have w7 : wrap64 (x1 + 1 + 1 + 1 + 1 + 1 + 1 + 1 + 1) = x1 + 1 + 1 + 1 + 1 + 1 + 1 + 1 + 1 := by have := Hx.out; unfold wrap64; omega
     have w8 : wrap64 (x1 + 1 + 1 + 1 + 1 + 1 + 1 + 1 + 1 + 1) = x1 + 1 + 1 + 1 + 1 + 1 + 1 + 1 + 1 + 1 := by have := Hx.out; unfold wrap64; omega
     obtain ⟨b0, b1, b2, b3, b4, b5, b6, b7, b8, b10, b11, y0, y1, y2, y3, y4, y5, y6, y7, y8, y9, y10, y11, z0, z1, z2, z3, z4, z5, z6, z7, z8, z10, z11⟩ := HS'.out _ HS.out i Hi.out; have p5 := eq_true HK.out.1; replace c5 := eq_true c5
     have c5' : decide ((i : Int) < (n : Int)) = true := decide_eq_true (by have := Hi.out; omega)
     have T1 := Aside0.mk True.intro
     go_wp2_with (first | (go_at_call 43; clear T1; (with_reducible refine (laws_markText.calls 11 (x1) (mt (x1)) _ (mk_all _ (by have := Hx.out; omega) (by have := Hx.out; omega))).mono ?_); rintro e w21 ⟨rfl, hb⟩; replace HS := Aside0.mk (Same.below (HS.out) hb); clear hb y0 y1 y2 y3 y4 y5 y6 y7 y8 y9 y10 y11 z0 z1 z2 z3 z4 z5 z6 z7 z8 z10 z11 b0 b1 b2 b3 b4 b5 b6 b7 b8 b10 b11; obtain ⟨b0, b1, b2, b3, b4, b5, b6, b7, b8, b10, b11, y0, y1, y2, y3, y4, y5, y6, y7, y8, y9, y10, y11, z0, z1, z2, z3, z4, z5, z6, z7, z8, z10, z11⟩ := HS'.out _ HS.out i Hi.out; have T2 := Aside0.mk True.intro) | (go_at_call 43; clear T2; (with_reducible refine (laws_markText.calls 11 (x1 + 1 + 1 + 1) (mt (x1 + 1 + 1 + 1)) _ (mk_all _ (by have := Hx.out; omega) (by have := Hx.out; omega))).mono ?_); rintro e w22 ⟨rfl, hb⟩; replace HS := Aside0.mk (Same.below ((HT2.out _ (HT1.out _ (HT0.out _ HS.out i Hi.out (mt (x1))) i Hi.out (x1 + 1)) i Hi.out (x1 + 1 + 1))) hb); clear hb y0 y1 y2 y3 y4 y5 y6 y7 y8 y9 y10 y11 z0 z1 z2 z3 z4 z5 z6 z7 z8 z10 z11 b0 b1 b2 b3 b4 b5 b6 b7 b8 b10 b11; obtain ⟨b0, b1, b2, b3, b4, b5, b6, b7, b8, b10, b11, y0, y1, y2, y3, y4, y5, y6, y7, y8, y9, y10, y11, z0, z1, z2, z3, z4, z5, z6, z7, z8, z10, z11⟩ := HS'.out _ HS.out i Hi.out; have T3 := Aside0.mk True.intro) | (go_at_call 43; clear T3; (with_reducible refine (laws_markText.calls 11 (x1 + 1 + 1 + 1 + 1 + 1 + 1 + 1) (mt (x1 + 1 + 1 + 1 + 1 + 1 + 1 + 1)) _ (mk_all _ (by have := Hx.out; omega) (by have := Hx.out; omega))).mono ?_); rintro e w23 ⟨rfl, hb⟩; replace HS := Aside0.mk (Same.below ((HT6.out _ (HT5.out _ (HT4.out _ (HT3.out _ HS.out i Hi.out (mt (x1 + 1 + 1 + 1))) i Hi.out (x1 + 1 + 1 + 1 + 1)) i Hi.out (x1 + 1 + 1 + 1 + 1 + 1)) i Hi.out (x1 + 1 + 1 + 1 + 1 + 1 + 1))) hb); clear hb y0 y1 y2 y3 y4 y5 y6 y7 y8 y9 y10 y11 z0 z1 z2 z3 z4 z5 z6 z7 z8 z10 z11 b0 b1 b2 b3 b4 b5 b6 b7 b8 b10 b11; obtain ⟨b0, b1, b2, b3, b4, b5, b6, b7, b8, b10, b11, y0, y1, y2, y3, y4, y5, y6, y7, y8, y9, y10, y11, z0, z1, z2, z3, z4, z5, z6, z7, z8, z10, z11⟩ := HS'.out _ HS.out i Hi.out; have T4 := Aside0.mk True.intro) | (go_at_call 44; clear T4; (with_reducible refine (HI.out i Hi.out _ (x1 + 1 + 1 + 1 + 1 + 1 + 1 + 1 + 1 + 1) ((HT8.out _ (HT7.out _ HS.out i Hi.out (mt (x1 + 1 + 1 + 1 + 1 + 1 + 1 + 1))) i Hi.out (x1 + 1 + 1 + 1 + 1 + 1 + 1 + 1 + 1))) (by have := Hx.out; omega) (by have := Hx.out; omega)).mono ?_); rintro e w24 ⟨r9, rfl, g1, g2, hs9⟩; have HR := Aside0.mk (show x1 + 9 ≤ r9 ∧ r9 ≤ x1 + 9 + 3 * Z i from ⟨by omega, by omega⟩); replace HS := Aside0.mk hs9; clear hs9 g1 g2 y0 y1 y2 y3 y4 y5 y6 y7 y8 y9 y10 y11 z0 z1 z2 z3 z4 z5 z6 z7 z8 z10 z11 b0 b1 b2 b3 b4 b5 b6 b7 b8 b10 b11; obtain ⟨b0, b1, b2, b3, b4, b5, b6, b7, b8, b10, b11, y0, y1, y2, y3, y4, y5, y6, y7, y8, y9, y10, y11, z0, z1, z2, z3, z4, z5, z6, z7, z8, z10, z11⟩ := HS'.out _ HS.out i Hi.out; have u0 : wrap64 (r9 + 1) = r9 + 1 := (by have := Hx.out; have := HR.out; unfold wrap64; omega); have u1 : wrap64 (r9 + 1 + 1) = r9 + 1 + 1 := (by have := Hx.out; have := HR.out; unfold wrap64; omega); have T5 := Aside0.mk True.intro) | (go_at_call 43; clear T5; (with_reducible refine (laws_markText.calls 11 (r9 + 1) (mt (r9 + 1)) _ (mk_all _ (by have := Hx.out; have := HR.out; omega) (by have := Hx.out; have := HR.out; omega))).mono ?_); rintro e w25 ⟨rfl, hb⟩; replace HS := Aside0.mk (Same.below ((HT10.out _ HS.out i Hi.out (r9))) hb); clear hb y0 y1 y2 y3 y4 y5 y6 y7 y8 y9 y10 y11 z0 z1 z2 z3 z4 z5 z6 z7 z8 z10 z11 b0 b1 b2 b3 b4 b5 b6 b7 b8 b10 b11; obtain ⟨b0, b1, b2, b3, b4, b5, b6, b7, b8, b10, b11, y0, y1, y2, y3, y4, y5, y6, y7, y8, y9, y10, y11, z0, z1, z2, z3, z4, z5, z6, z7, z8, z10, z11⟩ := HS'.out _ HS.out i Hi.out; have T6 := Aside0.mk True.intro))
     go_roundg (gk - 1)
     case measure => have := HK.out; omega
     case rel => exact ⟨r9 + 1 + 1, (i : Int) + 1, Own.rs, by rw [show wrap64 ((i : Int) + 1) = (i : Int) + 1 from by have := Hi.out; have := HL.out; unfold wrap64; omega], ⟨by have := HK.out; have := Hi.out; omega⟩, ⟨by
      have h1 := HX.out; have h4 := Hx.out; have h3 := HR.out
      rw [show ((i : Int) + 1).toNat = i + 1 by omega]
      omega⟩, ⟨(HT11.out _ HS.out i Hi.out (mt (r9 + 1)))⟩⟩
   · replace c5 := decide_eq_false c5
     go_wp2
     go_ret
     have hz : x5 = n := by have := HK.out; have := of_decide_eq_false c5; omega
     exact ⟨x1, rfl, HX.out.1, by have := HX.out.2; rw [hz] at this; simpa using this, HS.out⟩
/-! From rows that the call made to their forms. -/
theorem shS_of_R {w : World} {base : Nat} {ok0 ok : Nat → Prop} (xs : List ByteArray) (v : Value) (hok : ∀ k, ok k → ok0 k) (h : Kd.R Kd.string 9 w base ok v xs) : ShS w (fun k => ok0 k ∧ base ≤ k ∧ k < w.heap.size) v xs.length := by
 by_cases hp : 0 < xs.length
 case neg =>
  obtain rfl : xs = [] := List.length_eq_zero_iff.1 (by omega)
  obtain ⟨A, c, rfl⟩ := Kd.R_slice h
  exact .nil A c
 obtain ⟨g, cap, rfl, hb, hl, cur, hg⟩ := Kd.R_form h hp
 refine .row g cap xs.length cur ⟨hok g (h.1 g rfl), hb, hl⟩ hg (Kd.R_reads' h).2.1 (fun i hi => ?_)
 obtain ⟨c, _, hM, hc, _⟩ := Kd.R_elem h ByteArray.empty (i : Int) (by omega) (by omega)
 rw [Int.toNat_natCast] at hM hc
 have hM' : c = [.string (xs.getD i ByteArray.empty)] := hM
 subst hM'
 have := hc 0 _ rfl
 have hs : (Kd.string).sz = 1 := rfl
 rw [hs, Nat.mul_one, Nat.add_zero] at this
 exact ⟨_, by simpa [World.cell?, hg] using this⟩
def szK : List S51 → Nat
 | [] => 0
 | x :: l => (szL x.f6.f3 + 1) + szK l
theorem szK_snoc (l : List S51) (x : S51) : szK (l ++ [x]) = szK l + (szL x.f6.f3 + 1) := by
 induction l with
 | nil => simp [szK]
 | cons y l ih => simp only [List.cons_append, szK, ih]; omega
theorem szK_sum (xs : List S51) (n : Nat) (h : n ≤ xs.length) : sumTo (fun i => szL (xs.getD i z51).f6.f3) n = szK (xs.take n) := by
 induction n with
 | zero => simp [sumTo, szK]
 | succ n ih =>
  have hl : n < xs.length := h
  rw [List.take_succ_eq_append_getElem hl, szK_snoc, ← ih (by omega)]
  simp only [sumTo]
  rw [List.getD_eq_getElem?_getD, List.getElem?_eq_getElem hl]
  rfl
theorem shK_of_R {w : World} {base : Nat} {ok0 ok : Nat → Prop} (xs : List S51) (v : Value) (hok : ∀ k, ok k → ok0 k) (h : Kd.R k51 51 w base ok v xs) : ShK w (fun k => ok0 k ∧ base ≤ k ∧ k < w.heap.size) v xs.length (szK xs) := by
 by_cases hp : 0 < xs.length
 case neg =>
  obtain rfl : xs = [] := List.length_eq_zero_iff.1 (by omega)
  obtain ⟨A, c, rfl⟩ := Kd.R_slice h
  exact .nil A c
 obtain ⟨g, cap, rfl, hb, hl, cur, hg⟩ := Kd.R_form h hp
 have hcap : xs.length ≤ cap := (Kd.R_reads' h).2.1
 have el : ∀ i, i < xs.length → ∃ v9, (∃ b0 b1 b2 b3 b4 b5 b6 b7 b8 b10 b11, cur[i * 12]? = some (.string b0) ∧ cur[i * 12 + 1]? = some (.int .i64 b1) ∧ cur[i * 12 + 2]? = some (.int .i64 b2) ∧ cur[i * 12 + 3]? = some (.string b3) ∧ cur[i * 12 + 4]? = some (.int .i64 b4) ∧ cur[i * 12 + 5]? = some (.int .i64 b5) ∧ cur[i * 12 + 6]? = some (.int .i64 b6) ∧ cur[i * 12 + 7]? = some (.string b7) ∧ cur[i * 12 + 8]? = some (.int .i64 b8) ∧ cur[i * 12 + 10]? = some (.int .i64 b10) ∧ cur[i * 12 + 11]? = some (.string b11)) ∧ cur[i * 12 + 9]? = some v9 ∧ Kd.R k49 49 w base (fun k => ok k ∧ k ≠ g) v9 (xs.getD i z51).f6.f3 := by
  intro i hi
  obtain ⟨c, _, hM, hc, _⟩ := Kd.R_elem h z51 (i : Int) (by omega) (by omega)
  rw [Int.toNat_natCast] at hM hc; obtain ⟨v9, rfl, hR⟩ := k51_openM hM
  have cell : ∀ j u, w.cell? ⟨g, j, none⟩ = some u → cur[j]? = some u := fun j u hu => by simpa [World.cell?, hg] using hu
  exact ⟨v9, ⟨_, _, _, _, _, _, _, _, _, _, _, cell _ _ (hc 0 _ rfl), cell _ _ (hc 1 _ rfl), cell _ _ (hc 2 _ rfl), cell _ _ (hc 3 _ rfl), cell _ _ (hc 4 _ rfl), cell _ _ (hc 5 _ rfl), cell _ _ (hc 6 _ rfl), cell _ _ (hc 7 _ rfl), cell _ _ (hc 8 _ rfl), cell _ _ (hc 10 _ rfl), cell _ _ (hc 11 _ rfl)⟩, cell _ _ (hc 9 _ rfl), hR⟩
 let V : Nat → Value := fun i => (cur[i * 12 + 9]?).getD default
 have hV : ∀ i, i < xs.length → cur[i * 12 + 9]? = some (V i) := fun i hi => by
  obtain ⟨v9, _, h3, _⟩ := el i hi
  simp only [V, h3, Option.getD_some]
 have hR : ∀ i, i < xs.length → Kd.R k49 49 w base (fun k => ok k ∧ k ≠ g) (V i) (xs.getD i z51).f6.f3 := fun i hi => by
  obtain ⟨v9, _, h3, h4⟩ := el i hi; rw [hV i hi] at h3
  injection h3 with h3
  rw [h3]; exact h4
 have hz := szK_sum xs xs.length (Nat.le_refl _)
 rw [List.take_length] at hz; rw [← hz]
 refine .row g cap xs.length cur V (fun i => (xs.getD i z51).f6.f3.length) _ ⟨hok g (h.1 g rfl), hb, hl⟩ hg hcap (fun i hi => ?_) hV (fun i hi => ?_) (fun i hi => ?_)
 · obtain ⟨v9, h0, _⟩ := el i hi
   exact h0
 · exact Kd.R_slice (hR i hi)
 · exact shC_of_R _ _ _ _ (Nat.le_refl _) (fun k hk => hok k hk.1) (hR i hi)
set_option maxHeartbeats 8000000 in
set_option maxRecDepth 100000 in
theorem markKon_calls {w : World} {S : Nat → Prop} {v0 v1 : Value} {n0 n1 z1 : Nat} (hs : ShS w S v0 n0) (hk : ShK w S v1 n1 z1) (hb : ∀ k, S k → k < w.heap.size) (A0 A1 : Option Addr) (m0 m1 c0 c1 : Nat) (e0 : v0 = .slice A0 m0 c0) (e1 : v1 = .slice A1 m1 c1) (a1 : Int) (h0 : 1 ≤ a1) (h1 : a1 + n0 + 11 * z1 ≤ 900000000) :
 Calls Tryz.prog 9 #[.agg #[.slice A0 m0 c0, .slice A1 m1 c1], .int .i64 a1] w fun e W' => ∃ r, e = .returned (.int .i64 r) ∧ a1 ≤ r ∧ r ≤ a1 + n0 + 11 * z1 ∧ Same S w W' := by
 subst e0 e1; have HS := Aside0.mk hs; have HK := Aside0.mk hk
 have HW := Aside0.mk (Same.refl S w)
 have H1 := Aside0.mk h1; have H0 := Aside0.mk h0; have HL := Aside0.mk hb; clear hs hk h0 h1 hb; have hu1 := Tryz.underlying29
 go_enter Tryz.func9, Tryz.ntmps9
 go_wp2_with (first | ((with_reducible refine gate_dst (N := 2) rfl ?_); refine Own.be (N := 2) (cs := #[.slice A0 m0 c0, .slice A1 m1 c1]) (t := 29) ?_; intro gb hg w3 hbox hb; replace HW := Aside0.mk (HW.out.below hb); have GB := Aside0.mk (show w.heap.size ≤ gb from by rw [hg]; exact Nat.le_refl _); have BK := Aside0.mk hbox; obtain ⟨y0, y1, z0, z1_⟩ := Own.box2 hbox; clear hg hbox hb) | (go_at_call 25; (with_reducible refine (markShS_calls (HS.out.same HW.out) _ a1 (Same.refl _ _) H0.out (by have := H1.out; omega)).mono ?_); rintro e w5 ⟨r5, rfl, g1, g2, hs5⟩; have HR := Aside0.mk (show a1 ≤ r5 ∧ r5 ≤ a1 + n0 from ⟨g1, by omega⟩); replace BK := Aside0.mk ((hs5.far gb (blk_lt BK.out) (fun hs_ => by have h1_ := HL.out gb hs_; have h2_ := GB.out; omega)).trans BK.out); replace HW := Aside0.mk (HW.out.trans hs5); clear y0 y1 z0 z1_ g1 g2 hs5; obtain ⟨y0, y1, z0, z1_⟩ := Own.box2 BK.out) | (go_at_call 26; (with_reducible refine (markShK_calls (HK.out.same HW.out) _ r5 (Same.refl _ _) (by have := HR.out; have := H0.out; omega) (by have := HR.out; have := H1.out; omega)).mono ?_); rintro e w9 ⟨r9, rfl, g3, g4, hs9⟩; have HQ := Aside0.mk (show a1 ≤ r9 ∧ r9 ≤ a1 + n0 + 11 * z1 from ⟨by have := HR.out; omega, by have := HR.out; omega⟩); replace HW := Aside0.mk (HW.out.trans hs9); clear g3 g4 hs9))
 go_ret
 exact ⟨r9, Own.rr, HQ.out.1, HQ.out.2, HW.out⟩
end Go.Proofs.YtckopglnblcnoaaGreatDoor.Own
