/- Marks written into a row of conditions that the call made: the blocks of S alone are turned, each slice in them stays. No condition. -/
import Derived.Test.YtckopglnblcnoaaGreatDoorQFnExactRemoveClausex18
namespace Go.Proofs.YtckopglnblcnoaaGreatDoor.Own
open Go.RowKit Go.Proofs.YtckopglnblcnoaaGreatDoor.QFnExactRemoveClause Go.Proofs.YtckopglnblcnoaaGreatDoorW.PrintWords Go.Proofs.YtckopglnblcnoaaGreatDoorW.PrintLast
set_option linter.unusedVariables false
set_option linter.unusedSimpArgs false
theorem mt_l0 (d : Nat) : ∀ (n : Int) (x : ByteArray), 0 ≤ n → n < 10 ^ d → n ≤ 1000000000 → x.size + d ≤ 1000 → ∃ t, laws_markText.l0 (d + 1) n x = some t := by
 induction d with
 | zero =>
  intro n x h0 h1 h2 hx
  exact ⟨_, by simp only [laws_markText.l0]; rw [if_neg (by omega), if_pos (by omega)]⟩
 | succ d ih =>
  intro n x h0 h1 h2 hx
  by_cases hn : n > 0
  · have e1 : Int.tdiv n 10 = n / 10 := Int.tdiv_eq_ediv_of_nonneg h0
    have hp : (10 : Int) ^ (d + 1) = 10 * 10 ^ d := by rw [Int.pow_succ]; omega
    have hs : (strOfNums [(wrap64 (48 + (Int.tmod n 10))) % 256]).size = 1 := by simp [strOfNums, size_mk_]
    obtain ⟨t, ht⟩ := ih (n / 10) (strOfNums [(wrap64 (48 + (Int.tmod n 10))) % 256] ++ x) (by omega) (by omega) (by omega) (by rw [ByteArray.size_append, hs]; omega)
    refine ⟨t, ?_⟩
    rw [laws_markText.l0, if_pos hn, Option.bind_some, if_pos (by rw [hs]; omega), e1, show wrap64 (n / 10) = n / 10 from by unfold wrap64; omega]
    exact ht
  · exact ⟨_, by rw [laws_markText.l0, if_neg hn, if_pos (by omega)]⟩
def mt (n : Int) : ByteArray := (laws_markText.f 11 n).getD ⟨#[]⟩
theorem mk_all (n : Int) (h0 : 1 ≤ n) (h1 : n ≤ 1000000000) : laws_markText.f 11 n = some (mt n) := by
 obtain ⟨t, ht⟩ := mt_l0 10 n ⟨#[]⟩ (by omega) (by omega) h1 (by decide)
 have : laws_markText.f 11 n = some t := by unfold laws_markText.f; rw [if_neg (by omega)]; exact ht
 unfold mt
 rw [this]; rfl
/-- Two contents of a cell that are of one kind; a slice is the same one. -/
def alike (u v : Value) : Prop := match u with
 | .int k _ => ∃ y, v = .int k y
 | .string _ => ∃ s, v = .string s
 | _ => v = u
theorem alike.refl (u : Value) : alike u u := by cases u <;> simp [alike]
theorem alike.trans {u v x : Value} (h : alike u v) (k : alike v x) : alike u x := by
 cases u <;> simp only [alike] at h
 case int => obtain ⟨y, rfl⟩ := h; simpa [alike] using k
 case string => obtain ⟨y, rfl⟩ := h; simpa [alike] using k
 all_goals (subst h; simpa [alike] using k)
/-- A world behind marks. -/
structure Same (S : Nat → Prop) (w w' : World) : Prop where
 low : Below 0 w w'
 far : ∀ k, k < w.heap.size → ¬ S k → w'.heap[k]? = w.heap[k]?
 near : ∀ (k : Nat) (cs : Array Value) (t : TypeId), w.heap[k]? = some (Obj.cells cs t (0, 0)) → ∃ cs' : Array Value, w'.heap[k]? = some (Obj.cells cs' t (0, 0)) ∧ cs'.size = cs.size ∧ ∀ (i : Nat) (u : Value), cs[i]? = some u → ∃ v : Value, cs'[i]? = some v ∧ alike u v
theorem Same.refl (S : Nat → Prop) (w : World) : Same S w w := ⟨Below.refl _ _, fun _ _ _ => rfl, fun _ cs _ h => ⟨cs, h, rfl, fun _ u hu => ⟨u, hu, alike.refl u⟩⟩⟩
theorem Same.trans {S : Nat → Prop} {a b c : World} (h : Same S a b) (k : Same S b c) : Same S a c :=
 ⟨h.low.trans k.low, fun i hi hn => (k.far i (Nat.lt_of_lt_of_le hi h.low.size) hn).trans (h.far i hi hn), fun i cs t hi => by
  obtain ⟨cs1, h1, h2, h3⟩ := h.near i cs t hi; obtain ⟨cs2, k1, k2, k3⟩ := k.near i cs1 t h1
  refine ⟨cs2, k1, k2.trans h2, fun j u hu => ?_⟩
  obtain ⟨v, hv, e1⟩ := h3 j u hu; obtain ⟨x, hx, e2⟩ := k3 j v hv
  exact ⟨x, hx, e1.trans e2⟩⟩
theorem Same.of_below {S : Nat → Prop} {w w' : World} (h : Below w.heap.size w w') : Same S w w' :=
 ⟨h.mono (Nat.zero_le _), fun k hk _ => h.block k hk, fun k cs t hc => ⟨cs, (h.block k (blk_lt hc)).trans hc, rfl, fun _ u hu => ⟨u, hu, alike.refl u⟩⟩⟩
theorem Same.below {S : Nat → Prop} {a b c : World} (h : Same S a b) (k : Below b.heap.size b c) : Same S a c := h.trans (Same.of_below k)
theorem Same.set {S : Nat → Prop} {w : World} {g : Nat} {cs : Array Value} {t : TypeId} (hS : S g) (hg : w.heap[g]? = some (.cells cs t (0, 0))) (i : Nat) (u v : Value) (hi : cs[i]? = some u) (ha : alike u v) : Same S w (w.setCell ⟨g, i, none⟩ v) := by
 refine ⟨(Below.refl 0 w).setCell (Nat.zero_le _) v, fun k _ hn => Below.heap_setCell w _ v k (fun e => hn (by rw [e]; exact hS)), fun k cs' t' hk => ?_⟩
 by_cases e : k = g
 · subst e
   rw [hg] at hk
   injection hk with hk
   injection hk with e1 e2 e3
   subst e1 e2
   refine ⟨_, blk_set hg i v, by simp, fun j x hx => ?_⟩
   by_cases ej : i = j
   · subst ej
     rw [hi] at hx
     injection hx with hx
     subst hx
     have hl : i < cs.size := (Array.getElem?_eq_some_iff.1 hi).1
     exact ⟨v, by simp [hl], ha⟩
   · exact ⟨x, by rw [Array.getElem?_setIfInBounds_ne ej]; exact hx, alike.refl x⟩
 · exact ⟨cs', (Below.heap_setCell w _ v k e).trans hk, rfl, fun _ u hu => ⟨u, hu, alike.refl u⟩⟩
theorem Same.kept {S : Nat → Prop} {w w' : World} (h : Same S w w') : Kept w w' S := ⟨h.low.size, h.far⟩
theorem Same.lift {S : Nat → Prop} {w0 w w' : World} {b : Nat} (h : Same S w w') (hB : Below b w0 w) (hb : b ≤ w.heap.size) (hS : ∀ k, S k → b ≤ k) : Below b w0 w' :=
 ⟨h.low.os.trans hB.os, h.low.tape.trans hB.tape, h.low.output.trans hB.output, Nat.le_trans hB.size h.low.size, fun k hk => (h.far k (by omega) (fun hs => by have := hS k hs; omega)).trans (hB.block k hk)⟩
def sumTo (Z : Nat → Nat) : Nat → Nat
 | 0 => 0
 | n + 1 => sumTo Z n + (Z n + 1)
theorem sumTo_le (Z : Nat → Nat) (m n : Nat) (h : m ≤ n) : sumTo Z m ≤ sumTo Z n := by
 induction n with
 | zero =>
  obtain rfl : m = 0 := by omega
  exact Nat.le_refl _
 | succ n ih =>
  by_cases e : m = n + 1
  · rw [e]; exact Nat.le_refl _
  · have := ih (by omega); simp only [sumTo]; omega
/-- The form of a row of conditions: where its rows lie, how many nodes it has. -/
inductive ShC (w : World) (S : Nat → Prop) : Value → Nat → Nat → Prop
 | nil (A : Option Addr) (c : Nat) : ShC w S (.slice A 0 c) 0 0
 | row (g c n : Nat) (cur : Array Value) (V : Nat → Value) (L Z : Nat → Nat) (hS : S g) (hg : w.heap[g]? = some (.cells cur 49 (0, 0))) (hc : n ≤ c)
  (hf : ∀ i, i < n → ∃ a s d, cur[i * 4]? = some (.int .i64 a) ∧ cur[i * 4 + 1]? = some (.string s) ∧ cur[i * 4 + 2]? = some (.int .i64 d)) (hV : ∀ i, i < n → cur[i * 4 + 3]? = some (V i)) (hs : ∀ i, i < n → ∃ A c, V i = .slice A (L i) c) (hr : ∀ i, i < n → ShC w S (V i) (L i) (Z i)) :
  ShC w S (.slice (some ⟨g, 0, none⟩) n c) n (sumTo Z n)
/-- The cells of a row's element, in a world behind marks. -/
theorem Same.cells {S : Nat → Prop} {w W : World} (h : Same S w W) {g : Nat} {cur : Array Value} {t : TypeId} (hg : w.heap[g]? = some (.cells cur t (0, 0))) {i : Nat} {u : Value} (hi : cur[i]? = some u) : ∃ v, W.cell? ⟨g, i, none⟩ = some v ∧ alike u v ∧ W.frozen? ⟨g, i, none⟩ = false ∧ ∃ cs, W.heap[g]? = some (.cells cs t (0, 0)) ∧ cs[i]? = some v := by
 obtain ⟨cs, h1, h2, h3⟩ := h.near g cur t hg; obtain ⟨v, hv, ha⟩ := h3 i u hi
 exact ⟨v, by simp [World.cell?, h1, hv], ha, blk_frozen h1 i, cs, h1, hv⟩
/-- A store into a cell that holds such a value is a mark. -/
theorem Same.store {S : Nat → Prop} {w W : World} (h : Same S w W) {g : Nat} {cur : Array Value} {t : TypeId} (hS : S g) (hg : w.heap[g]? = some (.cells cur t (0, 0))) {i : Nat} {u : Value} (hi : cur[i]? = some u) (x : Value) (hx : alike u x) : Same S w (W.setCell ⟨g, i, none⟩ x) := by
 obtain ⟨v, _, ha, _, cs, hc, hv⟩ := h.cells hg hi
 refine h.trans (Same.set hS hc i v x hv ?_)
 cases u <;> simp only [alike] at ha hx ⊢
 case int => obtain ⟨y, rfl⟩ := ha; simpa [alike] using hx
 case string => obtain ⟨y, rfl⟩ := ha; simpa [alike] using hx
 all_goals (subst ha; simpa [alike] using hx)
theorem sumTo_at (Z : Nat → Nat) (n i : Nat) (h : i < n) : sumTo Z i + (Z i + 1) ≤ sumTo Z n := sumTo_le Z (i + 1) n h
theorem sumTo_n (Z : Nat → Nat) (n : Nat) : n ≤ sumTo Z n := by
 induction n with
 | zero => exact Nat.le_refl _
 | succ n ih => simp only [sumTo]; omega
/-- The four cells of an element, in a world behind marks. -/
theorem ShC.at4 {S : Nat → Prop} {w W : World} (h : Same S w W) {g n : Nat} {cur : Array Value} {V : Nat → Value} (hg : w.heap[g]? = some (.cells cur 49 (0, 0)))
 (hf : ∀ i, i < n → ∃ a s d, cur[i * 4]? = some (.int .i64 a) ∧ cur[i * 4 + 1]? = some (.string s) ∧ cur[i * 4 + 2]? = some (.int .i64 d)) (hV : ∀ i, i < n → cur[i * 4 + 3]? = some (V i)) (hs : ∀ i, i < n → ∃ A l c, V i = .slice A l c) (i : Nat) (hi : i < n) :
 ∃ a s d, W.cell? ⟨g, i * 4, none⟩ = some (.int .i64 a) ∧ W.cell? ⟨g, i * 4 + 1, none⟩ = some (.string s) ∧ W.cell? ⟨g, i * 4 + 2, none⟩ = some (.int .i64 d) ∧ W.cell? ⟨g, i * 4 + 3, none⟩ = some (V i) ∧ W.frozen? ⟨g, i * 4, none⟩ = false ∧ W.frozen? ⟨g, i * 4 + 1, none⟩ = false ∧ W.frozen? ⟨g, i * 4 + 2, none⟩ = false := by
 obtain ⟨a, s, d, h0, h1, h2⟩ := hf i hi; obtain ⟨A, l, c, e3⟩ := hs i hi; have h3 := hV i hi; obtain ⟨v0, c0, a0, f0, _⟩ := h.cells hg h0; obtain ⟨v1, c1, a1, f1, _⟩ := h.cells hg h1; obtain ⟨v2, c2, a2, f2, _⟩ := h.cells hg h2; obtain ⟨v3, c3, a3, _, _⟩ := h.cells hg h3; obtain ⟨y0, rfl⟩ := a0; obtain ⟨y1, rfl⟩ := a1; obtain ⟨y2, rfl⟩ := a2; rw [e3] at a3
 obtain rfl : v3 = V i := by rw [e3]; exact a3
 exact ⟨y0, y1, y2, c0, c1, c2, c3, f0, f1, f2⟩
set_option maxHeartbeats 8000000 in
set_option maxRecDepth 100000 in
theorem markC_calls (mt : Int → ByteArray) (hm : ∀ n, 1 ≤ n → n ≤ 1000000000 → laws_markText.f 11 n = some (mt n)) {w : World} {S : Nat → Prop} {v : Value} {n z : Nat} (h : ShC w S v n z) : ∀ (W : World) (a1 : Int), Same S w W → 1 ≤ a1 → a1 + 3 * z ≤ 900000000 →
 Calls Tryz.prog 44 #[v, .int .i64 a1] W fun e W' => ∃ r, e = .returned (.int .i64 r) ∧ a1 ≤ r ∧ r ≤ a1 + 3 * z ∧ Same S w W' := by
 induction h with
 | nil A c =>
  intro W a1 hW h0 h1; have HW := Aside0.mk hW; clear hW
  go_enter Tryz.func44, Tryz.ntmps44
  go_wp2
  go_loopg [1, 5] 1 (fun kq v1 v5 w' => v1 = .int .i64 a1 ∧ v5 = .int .i64 0 ∧ Aside0 (Same S w w'))
  case atStart => exact ⟨rfl, rfl, HW⟩
  case round =>
   obtain ⟨rfl, rfl, HS⟩ := hrel
   go_wp2
   go_ret
   exact ⟨a1, rfl, Int.le_refl _, by omega, HS.out⟩
 | row g c n cur V L Z hS hg hc hf hV hs hr ih =>
  intro W a1 hW h0 h1; have HW := Aside0.mk hW; clear hW
  have HS' := Aside0.mk (fun (W : World) (hWW : Same S w W) (i : Nat) (hi : i < n) => ShC.at4 (W := W) hWW hg hf hV (fun i hi => by obtain ⟨A, c, e⟩ := hs i hi; exact ⟨A, L i, c, e⟩) i hi)
  have HI := Aside0.mk ih; have HM := Aside0.mk hm
  have HT0 : Aside0 (∀ W, Same S w W → ∀ i, i < n → ∀ x, Same S w (W.setCell ⟨g, i * 4, none⟩ (.int .i64 x))) := ⟨fun W hW i hi x => by obtain ⟨a, s, d, q0, q1, q2⟩ := hf i hi; exact hW.store hS hg q0 _ ⟨x, rfl⟩⟩
  have HT1 : Aside0 (∀ W, Same S w W → ∀ i, i < n → ∀ x, Same S w (W.setCell ⟨g, i * 4 + 1, none⟩ (.string x))) := ⟨fun W hW i hi x => by obtain ⟨a, s, d, q0, q1, q2⟩ := hf i hi; exact hW.store hS hg q1 _ ⟨x, rfl⟩⟩
  have HT2 : Aside0 (∀ W, Same S w W → ∀ i, i < n → ∀ x, Same S w (W.setCell ⟨g, i * 4 + 2, none⟩ (.int .i64 x))) := ⟨fun W hW i hi x => by obtain ⟨a, s, d, q0, q1, q2⟩ := hf i hi; exact hW.store hS hg q2 _ ⟨x, rfl⟩⟩
  have HL : Aside0 (n ≤ 300000000) := ⟨by have : n ≤ sumTo Z n := sumTo_n Z n; omega⟩
  have Hh0 := Aside0.mk h0; have Hh1 := Aside0.mk h1; clear ih hg hf hV hr hs hS h0 h1 hm; have hu1 := Tryz.underlying49; have hu2 := Tryz.underlying47
  go_enter Tryz.func44, Tryz.ntmps44
  go_wp2
  go_loopg [1, 5] (n + 1) (fun kq v1 v5 w' => ∃ (x1 x5 : Int), v1 = .int .i64 x1 ∧ v5 = .int .i64 x5 ∧ Aside0 (0 ≤ x5 ∧ x5 ≤ n ∧ x5 + kq = n + 1) ∧ Aside0 (a1 ≤ x1 ∧ x1 ≤ a1 + 3 * sumTo Z x5.toNat) ∧ Aside0 (Same S w w'))
  case atStart => exact ⟨a1, 0, rfl, rfl, ⟨by omega, by omega, by simp⟩, ⟨by simp [sumTo]⟩, HW⟩
  case round =>
   clear HW; obtain ⟨x1, x5, rfl, rfl, HK, HX, HS⟩ := hrel
   by_cases c5 : x5 < (n : Int)
   · obtain ⟨i, rfl⟩ : ∃ i : Nat, x5 = (i : Int) := ⟨x5.toNat, by have := HK.out.1; omega⟩
     have Hi := Aside0.mk (show i < n by omega)
     have ei : (i : Int).toNat = i := by omega
     have Hn := Aside0.mk (sumTo_at Z n i Hi.out)
     have Hx : Aside0 (1 ≤ x1 ∧ x1 + 3 + 3 * Z i ≤ a1 + 3 * sumTo Z (i + 1) ∧ a1 + 3 * sumTo Z (i + 1) ≤ 900000000) := ⟨by
      have h1 := HX.out; have h2 := Hh0.out; have h3 := Hh1.out; have h4 := Hn.out
      simp only [ei] at h1
      simp only [sumTo]
      omega⟩
     have w1 : wrap64 (x1 + 1) = x1 + 1 := by have := Hx.out; unfold wrap64; omega
     have w2 : wrap64 (x1 + 1 + 1) = x1 + 1 + 1 := by have := Hx.out; unfold wrap64; omega
     have w3 : wrap64 (x1 + 1 + 1 + 1) = x1 + 1 + 1 + 1 := by have := Hx.out; unfold wrap64; omega
     obtain ⟨b0, b1, b2, y0, y1, y2, y3, z0, z1, z2⟩ := HS'.out _ HS.out i Hi.out; have p5 := eq_true HK.out.1; replace c5 := eq_true c5
     have c5' : decide ((i : Int) < (n : Int)) = true := decide_eq_true (by have := Hi.out; omega)
     go_wp2_with (first | (go_at_call 43; (with_reducible refine (laws_markText.calls 11 (x1 + 1) (mt (x1 + 1)) _ (HM.out _ (by have := Hx.out; omega) (by have := Hx.out; omega))).mono ?_); rintro e w8 ⟨rfl, hb⟩; replace HS := Aside0.mk ((HT0.out _ HS.out i Hi.out x1).below hb); clear hb y0 y1 y2 y3 z0 z1 z2 b0 b1 b2; obtain ⟨b0, b1, b2, y0, y1, y2, y3, z0, z1, z2⟩ := HS'.out _ HS.out i Hi.out) | (go_at_call 44; (with_reducible refine (HI.out i Hi.out _ (x1 + 1 + 1 + 1) ?hs ?h1 ?h2).mono ?_); (case hs => exact HT2.out _ (HT1.out _ HS.out i Hi.out _) i Hi.out _); (case h1 => have := Hx.out; omega); (case h2 => have := Hx.out; omega); rintro e w9 ⟨r9, rfl, g1, g2, hs9⟩; have HR := Aside0.mk (show x1 + 3 ≤ r9 ∧ r9 ≤ x1 + 3 + 3 * Z i from ⟨by omega, by omega⟩); replace HS := Aside0.mk hs9; clear hs9 g1 g2))
     go_roundg (gk - 1)
     case measure => have := HK.out; omega
     case rel => exact ⟨r9, (i : Int) + 1, Own.rs, by rw [show wrap64 ((i : Int) + 1) = (i : Int) + 1 from by have := Hi.out; have := HL.out; unfold wrap64; omega], ⟨by have := HK.out; have := Hi.out; omega⟩, ⟨by
      have h1 := HX.out; have h3 := HR.out; have h4 := Hx.out
      simp only [ei, sumTo] at h1 h4
      rw [show ((i : Int) + 1).toNat = i + 1 by omega]
      simp only [sumTo]
      omega⟩, HS⟩
   · replace c5 := decide_eq_false c5
     go_wp2
     go_ret
     have hz : x5 = n := by have := HK.out; have := of_decide_eq_false c5; omega
     exact ⟨x1, rfl, HX.out.1, by have := HX.out.2; rw [hz] at this; simpa using this, HS.out⟩
theorem ShC.same {S : Nat → Prop} {w W : World} {v : Value} {n z : Nat} (h : ShC w S v n z) (hW : Same S w W) : ShC W S v n z := by
 induction h with
 | nil A c => exact .nil A c
 | row g c n cur V L Z hS hg hc hf hV hs hr ih =>
  obtain ⟨cs, h1, h2, h3⟩ := hW.near g cur _ hg
  refine .row g c n cs V L Z hS h1 hc (fun i hi => ?_) (fun i hi => ?_) hs ih
  · obtain ⟨a, s, d, q0, q1, q2⟩ := hf i hi
    obtain ⟨_, e0, y0, rfl⟩ := h3 _ _ q0; obtain ⟨_, e1, y1, rfl⟩ := h3 _ _ q1; obtain ⟨_, e2, y2, rfl⟩ := h3 _ _ q2
    exact ⟨_, _, _, e0, e1, e2⟩
  · obtain ⟨u, e3, a3⟩ := h3 _ _ (hV i hi)
    obtain ⟨A, c', e⟩ := hs i hi
    rw [e] at a3 ⊢
    rw [e3]
    exact congrArg some a3
/-! From a row that the call made to its form. -/
mutual
def szT : S49 → Nat
 | ⟨_, _, _, l⟩ => szL l + 1
def szL : List S49 → Nat
 | [] => 0
 | x :: l => szT x + szL l
end
theorem szT_eq (x : S49) : szT x = szL x.f3 + 1 := by cases x; simp [szT]
theorem szL_snoc (l : List S49) (x : S49) : szL (l ++ [x]) = szL l + szT x := by
 induction l with
 | nil => simp [szL]
 | cons y l ih => simp only [List.cons_append, szL, ih]; omega
theorem szL_sum (xs : List S49) (n : Nat) (h : n ≤ xs.length) : sumTo (fun i => szL (xs.getD i z49).f3) n = szL (xs.take n) := by
 induction n with
 | zero => simp [sumTo, szL]
 | succ n ih =>
  have hl : n < xs.length := h
  rw [List.take_succ_eq_append_getElem hl, szL_snoc, szT_eq, ← ih (by omega)]
  simp only [sumTo]
  rw [List.getD_eq_getElem?_getD, List.getElem?_eq_getElem hl]
  rfl
theorem szL_mem (xs : List S49) (i : Nat) (h : i < xs.length) : szL (xs.getD i z49).f3 < szL xs := by
 have h1 := szL_sum xs xs.length (Nat.le_refl _)
 have h2 := sumTo_at (fun i => szL (xs.getD i z49).f3) xs.length i h
 rw [h1, List.take_length] at h2
 omega
theorem shC_of_R {w : World} {base : Nat} {ok0 : Nat → Prop} (m : Nat) : ∀ (xs : List S49) (v : Value) (ok : Nat → Prop), szL xs ≤ m → (∀ k, ok k → ok0 k) → Kd.R k49 49 w base ok v xs → ShC w (fun k => ok0 k ∧ base ≤ k ∧ k < w.heap.size) v xs.length (szL xs) := by
 induction m with
 | zero =>
  intro xs v ok hm hok h
  cases xs with
  | nil => obtain ⟨A, c, rfl⟩ := Kd.R_slice h; exact .nil A c
  | cons x l => have := szT_eq x; simp only [szL] at hm; omega
 | succ m ih =>
  intro xs v ok hm hok h
  by_cases hp : 0 < xs.length
  case neg =>
   obtain rfl : xs = [] := List.length_eq_zero_iff.1 (by omega)
   obtain ⟨A, c, rfl⟩ := Kd.R_slice h
   exact .nil A c
  obtain ⟨g, cap, rfl, hb, hl, cur, hg⟩ := Kd.R_form h hp
  have hcap : xs.length ≤ cap := (Kd.R_reads' h).2.1
  have el : ∀ i, i < xs.length → ∃ v3, cur[i * 4]? = some (.int .i64 (xs.getD i z49).f0) ∧ cur[i * 4 + 1]? = some (.string (xs.getD i z49).f1) ∧ cur[i * 4 + 2]? = some (.int .i64 (xs.getD i z49).f2) ∧ cur[i * 4 + 3]? = some v3 ∧ Kd.R k49 49 w base (fun k => ok k ∧ k ≠ g) v3 (xs.getD i z49).f3 := by
   intro i hi
   obtain ⟨c, _, hM, hc, _⟩ := Kd.R_elem h z49 (i : Int) (by omega) (by omega)
   rw [Int.toNat_natCast] at hM hc; obtain ⟨v3, rfl, hR⟩ := k49_openM hM
   have cell : ∀ j u, w.cell? ⟨g, j, none⟩ = some u → cur[j]? = some u := fun j u hu => by simpa [World.cell?, hg] using hu
   exact ⟨v3, cell _ _ (hc 0 _ rfl), cell _ _ (hc 1 _ rfl), cell _ _ (hc 2 _ rfl), cell _ _ (hc 3 _ rfl), hR⟩
  let V : Nat → Value := fun i => (cur[i * 4 + 3]?).getD default
  have hV : ∀ i, i < xs.length → cur[i * 4 + 3]? = some (V i) := fun i hi => by
   obtain ⟨v3, _, _, _, h3, _⟩ := el i hi
   simp only [V, h3, Option.getD_some]
  have hR : ∀ i, i < xs.length → Kd.R k49 49 w base (fun k => ok k ∧ k ≠ g) (V i) (xs.getD i z49).f3 := fun i hi => by
   obtain ⟨v3, _, _, _, h3, h4⟩ := el i hi; rw [hV i hi] at h3
   injection h3 with h3
   rw [h3]; exact h4
  have hz := szL_sum xs xs.length (Nat.le_refl _)
  rw [List.take_length] at hz; rw [← hz]
  refine .row g cap xs.length cur V (fun i => (xs.getD i z49).f3.length) _ ⟨hok g (h.1 g rfl), hb, hl⟩ hg hcap (fun i hi => ?_) hV (fun i hi => ?_) (fun i hi => ?_)
  · obtain ⟨v3, h0, h1, h2, _⟩ := el i hi
    exact ⟨_, _, _, h0, h1, h2⟩
  · exact Kd.R_slice (hR i hi)
  · exact ih _ _ _ (by have := szL_mem xs i hi; omega) (fun k hk => hok k hk.1) (hR i hi)
end Go.Proofs.YtckopglnblcnoaaGreatDoor.Own
