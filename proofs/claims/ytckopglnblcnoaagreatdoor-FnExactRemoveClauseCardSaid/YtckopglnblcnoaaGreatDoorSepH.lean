/- The marks of such a contract, read again. No condition. -/
import Derived.Test.YtckopglnblcnoaaGreatDoorSepK
namespace Go.Proofs.YtckopglnblcnoaaGreatDoor.Own
open Go.RowKit Go.Proofs.YtckopglnblcnoaaGreatDoor.QFnExactRemoveClause Go.Proofs.YtckopglnblcnoaaGreatDoorW.PrintWords Go.Proofs.YtckopglnblcnoaaGreatDoorW.PrintLast
set_option linter.unusedVariables false
set_option linter.unusedSimpArgs false
def hs4_T : Bool × List (List Nat × List Nat) := (true, [([], []), ([], []), ([0, 1], [0, 1]), ([2], [2]), ([], []), ([4], [4]), ([3, 5], [3, 5])])
def hs4_B : List Nat := [0, 0, 3, 7, 0, 16, 63]
theorem hs4_tab : rtab .any (opsOf Tryz.f27 4) = hs4_T := by kernel_rfl
theorem hs4_bits : waitsOk hs4_T.2 hs4_B = true := by kernel_rfl
def hk4_T : Bool × List (List Nat × List Nat) := (true, [([], []), ([], []), ([0, 1], [0, 1]), ([2], [2]), ([3], [3]), ([], []), ([5], [5]), ([4, 6], [4, 6])])
def hk4_B : List Nat := [0, 0, 3, 7, 15, 0, 32, 127]
theorem hk4_tab : rtab .any (opsOf Tryz.f28 4) = hk4_T := by kernel_rfl
theorem hk4_bits : waitsOk hk4_T.2 hk4_B = true := by kernel_rfl
def hk13_T : Bool × List (List Nat × List Nat) := (true, [([], []), ([], []), ([0, 1], [0, 1]), ([2], [2]), ([3], [3]), ([], []), ([5], [5]), ([4, 6], [4, 6])])
def hk13_B : List Nat := [0, 0, 3, 7, 15, 0, 32, 127]
theorem hk13_tab : rtab .any (opsOf Tryz.f28 13) = hk13_T := by kernel_rfl
theorem hk13_bits : waitsOk hk13_T.2 hk13_B = true := by kernel_rfl
def hk25_T : Bool × List (List Nat × List Nat) := (true, [([], []), ([], []), ([0, 1], [0, 1]), ([2], [2]), ([3], [3]), ([4], [4]), ([], []), ([6], [6]), ([5, 7], [5, 7])])
def hk25_B : List Nat := [0, 0, 3, 7, 15, 31, 0, 64, 255]
theorem hk25_tab : rtab .any (opsOf Tryz.f28 25) = hk25_T := by kernel_rfl
theorem hk25_bits : waitsOk hk25_T.2 hk25_B = true := by kernel_rfl
def hk37_T : Bool × List (List Nat × List Nat) := (true, [([], []), ([], []), ([0, 1], [0, 1]), ([2], [2]), ([3], [3]), ([], []), ([5], [5]), ([4, 6], [4, 6])])
def hk37_B : List Nat := [0, 0, 3, 7, 15, 0, 32, 127]
theorem hk37_tab : rtab .any (opsOf Tryz.f28 37) = hk37_T := by kernel_rfl
theorem hk37_bits : waitsOk hk37_T.2 hk37_B = true := by kernel_rfl
set_option maxHeartbeats 8000000 in
set_option maxRecDepth 100000 in
theorem heldSS_calls {w : World} {lo hi : Nat} {v : Value} {k r : Int} (h : HeldS w lo hi v k r) (W : World) (hW : ∀ j, lo ≤ j → j < hi → W.heap[j]? = w.heap[j]?) (hsz : hi ≤ W.heap.size) (h0 : 1 ≤ k) (h1 : r ≤ 900000000) :
 Calls Tryz.prog 27 #[v, .int .i64 k] W fun e W' => e = .returned (.int .i64 r) ∧ Below W.heap.size W W' := by
 cases h with
 | nil A c k =>
  go_enter Tryz.func27, Tryz.ntmps27
  go_wp2
  go_loopg [1, 5] 1 (fun kq v1 v5 w' => v1 = .int .i64 k ∧ v5 = .int .i64 0 ∧ Aside0 (Below W.heap.size W w'))
  case atStart => exact ⟨rfl, rfl, ⟨by repeat (first | exact Below.refl _ _ | apply pw_below_drewN | apply below_drew1)⟩⟩
  case round =>
   obtain ⟨rfl, rfl, HS⟩ := hrel
   go_wp2
   go_ret
   exact ⟨rfl, HS.out⟩
 | row g c n k hp hg0 hg1 hf =>
  have hge := hW g hg0 hg1
  have HC : Aside0 (∀ (W' : World), Below W.heap.size W W' → ∀ i, i < n → W'.cell? ⟨g, i, none⟩ = some (.string (mt (k + i)))) := ⟨fun W' hb i hi => by
   rw [cell_eq ((hb.block g (by omega)).trans hge)]
   exact hf i hi⟩
  have HB := Aside0.mk (Below.refl W.heap.size W)
  have Hh := Aside0.mk (And.intro h0 h1)
  clear hW hsz hg0 hg1 hf h0 h1 hge hp; have hu2 := Tryz.underlying22
  go_enter Tryz.func27, Tryz.ntmps27
  go_wp2
  go_loopg [1, 5] (n + 1) (fun kq v1 v5 w' => ∃ (i : Nat), v1 = .int .i64 (k + (i : Int)) ∧ v5 = .int .i64 (i : Int) ∧ Aside0 (i + kq = n + 1) ∧ Aside0 (i ≤ n) ∧ Aside0 (Below W.heap.size W w'))
  case atStart => exact ⟨0, by simp, by first | rfl | (simp; done), ⟨by omega⟩, ⟨by omega⟩, HB⟩
  case round =>
   clear HB; obtain ⟨i, rfl, rfl, HQ, HI1, HB⟩ := hrel
   by_cases c5 : i < n
   · have Hi := Aside0.mk c5
     have p5 : (0 ≤ (i : Int)) = True := eq_true (by omega)
     have c6 : ((i : Int) < (n : Int)) = True := eq_true (by omega)
     have c7 : (i < n) = True := eq_true c5
     have c5' : decide ((i : Int) < (n : Int)) = true := decide_eq_true (by omega)
     have ei : (i : Int).toNat = i := by omega
     have w0 : wrap64 (k + (i : Int) + 1) = k + (i : Int) + 1 := by have := Hh.out; unfold wrap64; omega
     have wi : wrap64 ((i : Int) + 1) = ((i + 1 : Nat) : Int) := by have := Hh.out; unfold wrap64; omega
     clear c5
     go_upto_region 4 with (fail)
     (try simp only [Own.ps])
     replace HB := Aside0.mk (below_drew1 HB.out)
     refine start_ (n := 7) (S := fun w' => w'.cell? ⟨g, i, none⟩ = some (.string (mt (k + (i : Int))))) (ds := []) (Own.fl 7 0) (by kernel_rfl) rfl rfl (HC.out _ HB.out i Hi.out) (fun hHeld => ?_); refine with_tabW hs4_tab hs4_bits (fun HT_ HW_ => ?_)
     generalize wr.drew = wq1 at HB hHeld ⊢
     refine pure_ (i := 0) (N := some 12) (v := ?_) (a' := ?_) (Own.fl 7 1) rfl rfl (any_of HT_.out (by kernel_rfl)) (fun _ _ _ h => h) (Or.inl ⟨by rfl, ?_⟩) ?_ ?_; rotate_left; intro w'; go_simp; with_reducible rfl; rotate_left; simp only [Own.ps]; rfl
     refine pure_ (i := 1) (N := some 13) (v := ?_) (a' := ?_) (Own.fl 7 3) rfl rfl (any_of HT_.out (by kernel_rfl)) (fun _ _ _ h => h) (Or.inl ⟨by rfl, ?_⟩) ?_ ?_; rotate_left; intro w'; go_simp; with_reducible rfl; rotate_left; simp only [Own.ps]; rfl
     refine pure_ (i := 2) (N := some 14) (v := ?_) (a' := ?_) (Own.fl 7 7) rfl rfl (any_of HT_.out (by kernel_rfl)) (fun _ _ _ h => h) (Or.inl ⟨by rfl, ?_⟩) ?_ ?_; rotate_left; intro w'; go_simp; with_reducible rfl; rotate_left; simp only [Own.ps]; rfl
     refine take_ (i := 3) (N := some 15) (v := ?_) (a' := ?_) (Own.fl 7 15) rfl rfl (take_ofW HT_.out HW_.out (by kernel_rfl)) (fun _ _ _ h => h) (Or.inl ⟨by rfl, ?_⟩) hHeld ?_ ?_; rotate_left; intro w' q0; go_simp; with_reducible rfl; rotate_left; simp only [Own.ps]; rfl
     refine pure_ (i := 4) (N := some 16) (v := ?_) (a' := ?_) (Own.fl 7 31) rfl rfl (any_of HT_.out (by kernel_rfl)) (fun _ _ _ h => h) (Or.inl ⟨by rfl, ?_⟩) ?_ ?_; rotate_left; intro w'; go_simp; with_reducible rfl; rotate_left; simp only [Own.ps]; rfl
     refine one_ (i := 5) (N := some 17) (Own.fl 7 63) rfl rfl (one_of HT_.out (by kernel_rfl)) (by decide) (fun K hK => ?_)
     refine goes_ Tryz.func43 (by kernel_rfl) rfl #[.int .i64 (k + (i : Int))] (by rfl) rfl rfl Own.ha ?_
     with_reducible refine (laws_markText.calls 11 (k + (i : Int)) (mt (k + (i : Int))) _ (mk_all _ (by have := Hh.out; have := Hi.out; omega) (by have := Hh.out; have := Hi.out; omega))).mono ?_
     rintro e wq2 ⟨rfl, hb⟩
     refine ⟨_, rfl, ?_⟩
     replace HB := Aside0.mk (below_step HB.out hb)
     clear hb
     refine hK.out _ _ (HC.out _ HB.out i Hi.out) (fun hHeld => ?_)
     clear hK K; refine norm_ (a' := ?_) ?_ ?_; rotate_left; show Act.put _ (some 17) _ = _; simp only [Own.ps]; rfl
     refine pure_ (i := 6) (N := some 18) (v := ?_) (a' := ?_) (Own.fl 7 127) rfl rfl (any_of HT_.out (by kernel_rfl)) (fun _ _ _ h => h) (Or.inl ⟨by rfl, ?_⟩) ?_ ?_; rotate_left; intro w'; go_simp; with_reducible rfl; rotate_left; simp only [Own.ps]; rfl
     refine done_ (done_of HT_.out (by kernel_rfl)) ?_
     clear hHeld HT_ HW_
     go_wp2
     go_roundg (gk - 1)
     case measure => have := HQ.out; have := Hi.out; omega
     case rel => exact ⟨i + 1, by congr 1; omega, by rw [wi], ⟨by have := HQ.out; have := Hi.out; omega⟩, ⟨by have := Hi.out; omega⟩, HB⟩
   · have c6 : decide ((i : Int) < (n : Int)) = false := decide_eq_false (by omega)
     have c7 : ((i : Int) < (n : Int)) = False := eq_false (by omega)
     have hil : i = n := by have := HI1.out; omega
     subst hil
     go_wp2
     go_ret
     exact ⟨rfl, HB.out⟩
theorem HeldR.K_ge {n : Nat} {K : Nat → Int} (hK : ∀ i, i < n → K i + 11 ≤ K (i + 1)) (i : Nat) (h : i ≤ n) : K 0 + i ≤ K i ∧ K i + (n - i : Nat) ≤ K n := Held.K_ge (fun i hi => by have := hK i hi; omega) i h
set_option maxHeartbeats 16000000 in
set_option maxRecDepth 100000 in
theorem heldRR_calls {w : World} {lo hi : Nat} {v : Value} {k r : Int} (h : HeldR w lo hi v k r) (W : World) (hW : ∀ j, lo ≤ j → j < hi → W.heap[j]? = w.heap[j]?) (hsz : hi ≤ W.heap.size) (h0 : 1 ≤ k) (h1 : r ≤ 900000000) :
 Calls Tryz.prog 28 #[v, .int .i64 k] W fun e W' => e = .returned (.int .i64 r) ∧ Below W.heap.size W W' := by
 cases h with
 | nil A c k =>
  go_enter Tryz.func28, Tryz.ntmps28
  go_wp2
  go_loopg [1, 5] 1 (fun kq v1 v5 w' => v1 = .int .i64 k ∧ v5 = .int .i64 0 ∧ Aside0 (Below W.heap.size W w'))
  case atStart => exact ⟨rfl, rfl, ⟨by repeat (first | exact Below.refl _ _ | apply pw_below_drewN | apply below_drew1)⟩⟩
  case round =>
   obtain ⟨rfl, rfl, HS⟩ := hrel
   go_wp2
   go_ret
   exact ⟨rfl, HS.out⟩
 | row g c n cur V B E Kc hp hg0 hg1 ht hf hb hK hr =>
  have HW := Aside0.mk hW; have Hb := Aside0.mk hb; have Hsz := Aside0.mk hsz
  have HKs := Aside0.mk (fun i h => HeldR.K_ge hK i h)
  have HK3 := Aside0.mk hK
  have Hh := Aside0.mk (And.intro h0 h1)
  have hge := hW g hg0 hg1
  have HC : Aside0 (∀ (W' : World), Below W.heap.size W W' → ∀ i, i < n → W'.cell? ⟨g, i * 12, none⟩ = some (.string (mt (Kc i))) ∧ W'.cell? ⟨g, i * 12 + 1, none⟩ = some (.int .i64 (Kc i + 1)) ∧ W'.cell? ⟨g, i * 12 + 2, none⟩ = some (.int .i64 (Kc i + 2)) ∧ W'.cell? ⟨g, i * 12 + 3, none⟩ = some (.string (mt (Kc i + 3))) ∧ W'.cell? ⟨g, i * 12 + 4, none⟩ = some (.int .i64 (Kc i + 4)) ∧ W'.cell? ⟨g, i * 12 + 5, none⟩ = some (.int .i64 (Kc i + 5)) ∧ W'.cell? ⟨g, i * 12 + 6, none⟩ = some (.int .i64 (Kc i + 6)) ∧ W'.cell? ⟨g, i * 12 + 7, none⟩ = some (.string (mt (Kc i + 7))) ∧ W'.cell? ⟨g, i * 12 + 8, none⟩ = some (.int .i64 (Kc i + 8)) ∧ W'.cell? ⟨g, i * 12 + 9, none⟩ = some (V i) ∧ W'.cell? ⟨g, i * 12 + 10, none⟩ = some (.int .i64 (Kc (i + 1) - 2)) ∧ W'.cell? ⟨g, i * 12 + 11, none⟩ = some (.string (mt (Kc (i + 1) - 2 + 1)))) := ⟨fun W' hb i hi => by
   have e := (hb.block g (by omega)).trans (hge.trans ht)
   have q := hf i hi
   exact ⟨by rw [blk_cell e]; exact q 0 (by decide), by rw [blk_cell e]; exact q 1 (by decide), by rw [blk_cell e]; exact q 2 (by decide), by rw [blk_cell e]; exact q 3 (by decide), by rw [blk_cell e]; exact q 4 (by decide), by rw [blk_cell e]; exact q 5 (by decide), by rw [blk_cell e]; exact q 6 (by decide), by rw [blk_cell e]; exact q 7 (by decide), by rw [blk_cell e]; exact q 8 (by decide), by rw [blk_cell e]; exact q 9 (by decide), by rw [blk_cell e]; exact q 10 (by decide), by rw [blk_cell e]; exact q 11 (by decide)⟩⟩
  have HI : Aside0 (∀ (i : Nat) (hi : i < n) (W : World), (∀ j, B i ≤ j → j < E i → W.heap[j]? = w.heap[j]?) → E i ≤ W.heap.size → 1 ≤ Kc i + 9 → Kc (i + 1) - 2 ≤ 900000000 → Calls Tryz.prog 45 #[V i, .int .i64 (Kc i + 9)] W fun e W' => e = .returned (.int .i64 (Kc (i + 1) - 2)) ∧ Below W.heap.size W W') := ⟨fun i hi W q0 q1 q2 q3 => heldP_calls (hr i hi) W q0 q1 q2 q3⟩
  have HV := Aside0.mk (fun i hi => (hr i hi).slice)
  have HB := Aside0.mk (Below.refl W.heap.size W)
  clear hW hsz hg0 hg1 ht hf hb hK hr h0 h1 hge hp; have hu1 := Tryz.underlying51; have hu2 := Tryz.underlying27; have hu3 := Tryz.underlying49
  go_enter Tryz.func28, Tryz.ntmps28
  go_wp2
  go_loopg [1, 5] (n + 1) (fun kq v1 v5 w' => ∃ (i : Nat), v1 = .int .i64 (Kc i) ∧ v5 = .int .i64 (i : Int) ∧ Aside0 (i + kq = n + 1) ∧ Aside0 (i ≤ n) ∧ Aside0 (Below W.heap.size W w'))
  case atStart => exact ⟨0, rfl, by first | rfl | (simp; done), ⟨by omega⟩, ⟨by omega⟩, HB⟩
  case round =>
   clear HB; obtain ⟨i, rfl, rfl, HQ, HI1, HB⟩ := hrel
   by_cases c5 : i < n
   · have Hi := Aside0.mk c5
     have Hx : Aside0 (1 ≤ Kc i ∧ Kc i + 11 ≤ Kc (i + 1) ∧ Kc (i + 1) ≤ 900000000) := ⟨by have h1 := (HKs.out i (by omega)).1; have h2 := (HKs.out (i + 1) (by omega)).2; have h3 := Hh.out; have h4 := HK3.out i c5; omega⟩
     have HN : Aside0 ((n : Int) ≤ 900000000) := ⟨by have h1 := (HKs.out n (Nat.le_refl _)).1; have h3 := Hh.out; omega⟩
     have p5 : (0 ≤ (i : Int)) = True := eq_true (by omega)
     have c6 : ((i : Int) < (n : Int)) = True := eq_true (by omega)
     have c7 : (i < n) = True := eq_true c5
     have c5' : decide ((i : Int) < (n : Int)) = true := decide_eq_true (by omega)
     have cr : decide (Kc (i + 1) - 2 < 0) = false := decide_eq_false (by have := Hx.out; omega)
     have ei : (i : Int).toNat = i := by omega
     have w0 : wrap64 (Kc i + 1) = Kc i + 1 := by have := Hx.out; unfold wrap64; omega
     have w1 : wrap64 (Kc i + 1 + 1) = Kc i + 2 := by have := Hx.out; unfold wrap64; omega
     have w2 : wrap64 (Kc i + 2 + 1) = Kc i + 3 := by have := Hx.out; unfold wrap64; omega
     have w3 : wrap64 (Kc i + 3 + 1) = Kc i + 4 := by have := Hx.out; unfold wrap64; omega
     have w4 : wrap64 (Kc i + 4 + 1) = Kc i + 5 := by have := Hx.out; unfold wrap64; omega
     have w5 : wrap64 (Kc i + 5 + 1) = Kc i + 6 := by have := Hx.out; unfold wrap64; omega
     have w6 : wrap64 (Kc i + 6 + 1) = Kc i + 7 := by have := Hx.out; unfold wrap64; omega
     have w7 : wrap64 (Kc i + 7 + 1) = Kc i + 8 := by have := Hx.out; unfold wrap64; omega
     have w8 : wrap64 (Kc i + 8 + 1) = Kc i + 9 := by have := Hx.out; unfold wrap64; omega
     have u0 : wrap64 (Kc (i + 1) - 2 + 1) = Kc (i + 1) - 2 + 1 := by have := Hx.out; unfold wrap64; omega
     have u1 : wrap64 (Kc (i + 1) - 2 + 1 + 1) = Kc (i + 1) := by have := Hx.out; unfold wrap64; omega
     have wi : wrap64 ((i : Int) + 1) = ((i + 1 : Nat) : Int) := by have := HN.out; unfold wrap64; omega
     clear c5
     go_upto_region 4 with (fail)
     (try simp only [Own.ps])
     replace HB := Aside0.mk (below_drew1 HB.out)
     refine start_ (n := 8) (S := fun w' => w'.cell? ⟨g, i * 12, none⟩ = some (.string (mt (Kc i)))) (ds := []) (Own.fl 8 0) (by kernel_rfl) rfl rfl (HC.out _ HB.out i Hi.out).1 (fun hHeld => ?_); refine with_tabW hk4_tab hk4_bits (fun HT_ HW_ => ?_)
     generalize wr.drew = wa1 at HB hHeld ⊢
     refine pure_ (i := 0) (N := some 12) (v := ?_) (a' := ?_) (Own.fl 8 1) rfl rfl (any_of HT_.out (by kernel_rfl)) (fun _ _ _ h => h) (Or.inl ⟨by rfl, ?_⟩) ?_ ?_; rotate_left; intro w'; go_simp; with_reducible rfl; rotate_left; simp only [Own.ps]; rfl
     refine pure_ (i := 1) (N := some 13) (v := ?_) (a' := ?_) (Own.fl 8 3) rfl rfl (any_of HT_.out (by kernel_rfl)) (fun _ _ _ h => h) (Or.inl ⟨by rfl, ?_⟩) ?_ ?_; rotate_left; intro w'; go_simp; with_reducible rfl; rotate_left; simp only [Own.ps]; rfl
     refine pure_ (i := 2) (N := some 14) (v := ?_) (a' := ?_) (Own.fl 8 7) rfl rfl (any_of HT_.out (by kernel_rfl)) (fun _ _ _ h => h) (Or.inl ⟨by rfl, ?_⟩) ?_ ?_; rotate_left; intro w'; go_simp; with_reducible rfl; rotate_left; simp only [Own.ps]; rfl
     refine pure_ (i := 3) (N := some 15) (v := ?_) (a' := ?_) (Own.fl 8 15) rfl rfl (any_of HT_.out (by kernel_rfl)) (fun _ _ _ h => h) (Or.inl ⟨by rfl, ?_⟩) ?_ ?_; rotate_left; intro w'; go_simp; with_reducible rfl; rotate_left; simp only [Own.ps]; rfl
     refine take_ (i := 4) (N := some 16) (v := ?_) (a' := ?_) (Own.fl 8 31) rfl rfl (take_ofW HT_.out HW_.out (by kernel_rfl)) (fun _ _ _ h => h) (Or.inl ⟨by rfl, ?_⟩) hHeld ?_ ?_; rotate_left; intro w' q0; go_simp; with_reducible rfl; rotate_left; simp only [Own.ps]; rfl
     refine pure_ (i := 5) (N := some 17) (v := ?_) (a' := ?_) (Own.fl 8 63) rfl rfl (any_of HT_.out (by kernel_rfl)) (fun _ _ _ h => h) (Or.inl ⟨by rfl, ?_⟩) ?_ ?_; rotate_left; intro w'; go_simp; with_reducible rfl; rotate_left; simp only [Own.ps]; rfl
     refine one_ (i := 6) (N := some 18) (Own.fl 8 127) rfl rfl (one_of HT_.out (by kernel_rfl)) (by decide) (fun K hK => ?_)
     refine goes_ Tryz.func43 (by kernel_rfl) rfl #[.int .i64 (Kc i)] (by rfl) rfl rfl Own.ha ?_
     with_reducible refine (laws_markText.calls 11 (Kc i) (mt (Kc i)) _ (mk_all _ (by have := Hx.out; omega) (by have := Hx.out; omega))).mono ?_
     rintro e wa2 ⟨rfl, hb⟩
     refine ⟨_, rfl, ?_⟩
     replace HB := Aside0.mk (below_step HB.out hb)
     clear hb
     refine hK.out _ _ (HC.out _ HB.out i Hi.out).1 (fun hHeld => ?_)
     clear hK K; refine norm_ (a' := ?_) ?_ ?_; rotate_left; show Act.put _ (some 18) _ = _; simp only [Own.ps]; rfl
     refine pure_ (i := 7) (N := some 19) (v := ?_) (a' := ?_) (Own.fl 8 255) rfl rfl (any_of HT_.out (by kernel_rfl)) (fun _ _ _ h => h) (Or.inl ⟨by rfl, ?_⟩) ?_ ?_; rotate_left; intro w'; go_simp; with_reducible rfl; rotate_left; simp only [Own.ps]; rfl
     refine done_ (done_of HT_.out (by kernel_rfl)) ?_
     clear hHeld HT_ HW_; obtain ⟨y0, y1, y2, y3, y4, y5, y6, y7, y8, y9, y10, y11⟩ := HC.out _ HB.out i Hi.out
     go_upto_region 13 with (fail)
     clear y0 y1 y2 y3 y4 y5 y6 y7 y8 y9 y10 y11
     (try simp only [Own.ps])
     replace HB := Aside0.mk (below_drew1 HB.out)
     refine start_ (n := 8) (S := fun w' => w'.cell? ⟨g, i * 12 + 3, none⟩ = some (.string (mt (Kc i + 3)))) (ds := []) (Own.fl 8 0) (by kernel_rfl) rfl rfl (HC.out _ HB.out i Hi.out).2.2.2.1 (fun hHeld => ?_); refine with_tabW hk13_tab hk13_bits (fun HT_ HW_ => ?_)
     generalize wa2.drew = wb1 at HB hHeld ⊢
     refine pure_ (i := 0) (N := some 40) (v := ?_) (a' := ?_) (Own.fl 8 1) rfl rfl (any_of HT_.out (by kernel_rfl)) (fun _ _ _ h => h) (Or.inl ⟨by rfl, ?_⟩) ?_ ?_; rotate_left; intro w'; go_simp; with_reducible rfl; rotate_left; simp only [Own.ps]; rfl
     refine pure_ (i := 1) (N := some 41) (v := ?_) (a' := ?_) (Own.fl 8 3) rfl rfl (any_of HT_.out (by kernel_rfl)) (fun _ _ _ h => h) (Or.inl ⟨by rfl, ?_⟩) ?_ ?_; rotate_left; intro w'; go_simp; with_reducible rfl; rotate_left; simp only [Own.ps]; rfl
     refine pure_ (i := 2) (N := some 42) (v := ?_) (a' := ?_) (Own.fl 8 7) rfl rfl (any_of HT_.out (by kernel_rfl)) (fun _ _ _ h => h) (Or.inl ⟨by rfl, ?_⟩) ?_ ?_; rotate_left; intro w'; go_simp; with_reducible rfl; rotate_left; simp only [Own.ps]; rfl
     refine pure_ (i := 3) (N := some 43) (v := ?_) (a' := ?_) (Own.fl 8 15) rfl rfl (any_of HT_.out (by kernel_rfl)) (fun _ _ _ h => h) (Or.inl ⟨by rfl, ?_⟩) ?_ ?_; rotate_left; intro w'; go_simp; with_reducible rfl; rotate_left; simp only [Own.ps]; rfl
     refine take_ (i := 4) (N := some 44) (v := ?_) (a' := ?_) (Own.fl 8 31) rfl rfl (take_ofW HT_.out HW_.out (by kernel_rfl)) (fun _ _ _ h => h) (Or.inl ⟨by rfl, ?_⟩) hHeld ?_ ?_; rotate_left; intro w' q0; go_simp; with_reducible rfl; rotate_left; simp only [Own.ps]; rfl
     refine pure_ (i := 5) (N := some 45) (v := ?_) (a' := ?_) (Own.fl 8 63) rfl rfl (any_of HT_.out (by kernel_rfl)) (fun _ _ _ h => h) (Or.inl ⟨by rfl, ?_⟩) ?_ ?_; rotate_left; intro w'; go_simp; with_reducible rfl; rotate_left; simp only [Own.ps]; rfl
     refine one_ (i := 6) (N := some 46) (Own.fl 8 127) rfl rfl (one_of HT_.out (by kernel_rfl)) (by decide) (fun K hK => ?_)
     refine goes_ Tryz.func43 (by kernel_rfl) rfl #[.int .i64 (Kc i + 3)] (by rfl) rfl rfl Own.ha ?_
     with_reducible refine (laws_markText.calls 11 (Kc i + 3) (mt (Kc i + 3)) _ (mk_all _ (by have := Hx.out; omega) (by have := Hx.out; omega))).mono ?_
     rintro e wb2 ⟨rfl, hb⟩
     refine ⟨_, rfl, ?_⟩
     replace HB := Aside0.mk (below_step HB.out hb)
     clear hb
     refine hK.out _ _ (HC.out _ HB.out i Hi.out).2.2.2.1 (fun hHeld => ?_)
     clear hK K; refine norm_ (a' := ?_) ?_ ?_; rotate_left; show Act.put _ (some 46) _ = _; simp only [Own.ps]; rfl
     refine pure_ (i := 7) (N := some 47) (v := ?_) (a' := ?_) (Own.fl 8 255) rfl rfl (any_of HT_.out (by kernel_rfl)) (fun _ _ _ h => h) (Or.inl ⟨by rfl, ?_⟩) ?_ ?_; rotate_left; intro w'; go_simp; with_reducible rfl; rotate_left; simp only [Own.ps]; rfl
     refine done_ (done_of HT_.out (by kernel_rfl)) ?_
     clear hHeld HT_ HW_; obtain ⟨y0, y1, y2, y3, y4, y5, y6, y7, y8, y9, y10, y11⟩ := HC.out _ HB.out i Hi.out
     go_upto_region 25 with (fail)
     clear y0 y1 y2 y3 y4 y5 y6 y7 y8 y9 y10 y11
     (try simp only [Own.ps])
     replace HB := Aside0.mk (below_drew1 HB.out)
     refine start_ (n := 9) (S := fun w' => w'.cell? ⟨g, i * 12 + 7, none⟩ = some (.string (mt (Kc i + 7)))) (ds := []) (Own.fl 9 0) (by kernel_rfl) rfl rfl (HC.out _ HB.out i Hi.out).2.2.2.2.2.2.2.1 (fun hHeld => ?_); refine with_tabW hk25_tab hk25_bits (fun HT_ HW_ => ?_)
     generalize wb2.drew = wc1 at HB hHeld ⊢
     refine pure_ (i := 0) (N := some 78) (v := ?_) (a' := ?_) (Own.fl 9 1) rfl rfl (any_of HT_.out (by kernel_rfl)) (fun _ _ _ h => h) (Or.inl ⟨by rfl, ?_⟩) ?_ ?_; rotate_left; intro w'; go_simp; with_reducible rfl; rotate_left; simp only [Own.ps]; rfl
     refine pure_ (i := 1) (N := some 79) (v := ?_) (a' := ?_) (Own.fl 9 3) rfl rfl (any_of HT_.out (by kernel_rfl)) (fun _ _ _ h => h) (Or.inl ⟨by rfl, ?_⟩) ?_ ?_; rotate_left; intro w'; go_simp; with_reducible rfl; rotate_left; simp only [Own.ps]; rfl
     refine pure_ (i := 2) (N := some 80) (v := ?_) (a' := ?_) (Own.fl 9 7) rfl rfl (any_of HT_.out (by kernel_rfl)) (fun _ _ _ h => h) (Or.inl ⟨by rfl, ?_⟩) ?_ ?_; rotate_left; intro w'; go_simp; with_reducible rfl; rotate_left; simp only [Own.ps]; rfl
     refine pure_ (i := 3) (N := some 81) (v := ?_) (a' := ?_) (Own.fl 9 15) rfl rfl (any_of HT_.out (by kernel_rfl)) (fun _ _ _ h => h) (Or.inl ⟨by rfl, ?_⟩) ?_ ?_; rotate_left; intro w'; go_simp; with_reducible rfl; rotate_left; simp only [Own.ps]; rfl
     refine pure_ (i := 4) (N := some 82) (v := ?_) (a' := ?_) (Own.fl 9 31) rfl rfl (any_of HT_.out (by kernel_rfl)) (fun _ _ _ h => h) (Or.inl ⟨by rfl, ?_⟩) ?_ ?_; rotate_left; intro w'; go_simp; with_reducible rfl; rotate_left; simp only [Own.ps]; rfl
     refine take_ (i := 5) (N := some 83) (v := ?_) (a' := ?_) (Own.fl 9 63) rfl rfl (take_ofW HT_.out HW_.out (by kernel_rfl)) (fun _ _ _ h => h) (Or.inl ⟨by rfl, ?_⟩) hHeld ?_ ?_; rotate_left; intro w' q0; go_simp; with_reducible rfl; rotate_left; simp only [Own.ps]; rfl
     refine pure_ (i := 6) (N := some 84) (v := ?_) (a' := ?_) (Own.fl 9 127) rfl rfl (any_of HT_.out (by kernel_rfl)) (fun _ _ _ h => h) (Or.inl ⟨by rfl, ?_⟩) ?_ ?_; rotate_left; intro w'; go_simp; with_reducible rfl; rotate_left; simp only [Own.ps]; rfl
     refine one_ (i := 7) (N := some 85) (Own.fl 9 255) rfl rfl (one_of HT_.out (by kernel_rfl)) (by decide) (fun K hK => ?_)
     refine goes_ Tryz.func43 (by kernel_rfl) rfl #[.int .i64 (Kc i + 7)] (by rfl) rfl rfl Own.ha ?_
     with_reducible refine (laws_markText.calls 11 (Kc i + 7) (mt (Kc i + 7)) _ (mk_all _ (by have := Hx.out; omega) (by have := Hx.out; omega))).mono ?_
     rintro e wc2 ⟨rfl, hb⟩
     refine ⟨_, rfl, ?_⟩
     replace HB := Aside0.mk (below_step HB.out hb)
     clear hb
     refine hK.out _ _ (HC.out _ HB.out i Hi.out).2.2.2.2.2.2.2.1 (fun hHeld => ?_)
     clear hK K; refine norm_ (a' := ?_) ?_ ?_; rotate_left; show Act.put _ (some 85) _ = _; simp only [Own.ps]; rfl
     refine pure_ (i := 8) (N := some 86) (v := ?_) (a' := ?_) (Own.fl 9 511) rfl rfl (any_of HT_.out (by kernel_rfl)) (fun _ _ _ h => h) (Or.inl ⟨by rfl, ?_⟩) ?_ ?_; rotate_left; intro w'; go_simp; with_reducible rfl; rotate_left; simp only [Own.ps]; rfl
     refine done_ (done_of HT_.out (by kernel_rfl)) ?_
     clear hHeld HT_ HW_; obtain ⟨y0, y1, y2, y3, y4, y5, y6, y7, y8, y9, y10, y11⟩ := HC.out _ HB.out i Hi.out
     go_upto_region 37 with (first | (go_at_call 45; (with_reducible refine (HI.out i Hi.out _ ?hs ?hz ?h1 ?h2).mono ?_); (case hs => intro j a b; have hb_ := Hb.out i Hi.out; have hs_ := Hsz.out; rw [HB.out.block j (by omega)]; exact HW.out j (by omega) (by omega)); (case hz => have hb_ := Hb.out i Hi.out; have hs_ := Hsz.out; have hk_ := HB.out.size; omega); (case h1 => have := Hx.out; omega); (case h2 => have := Hx.out; omega); rintro e w9 ⟨rfl, hb⟩; replace HB := Aside0.mk (below_step HB.out hb); clear hb y0 y1 y2 y3 y4 y5 y6 y7 y8 y9 y10 y11; obtain ⟨y0, y1, y2, y3, y4, y5, y6, y7, y8, y9, y10, y11⟩ := HC.out _ HB.out i Hi.out))
     clear y0 y1 y2 y3 y4 y5 y6 y7 y8 y9 y10 y11
     (try simp only [Own.ps])
     replace HB := Aside0.mk (below_drew1 HB.out)
     refine start_ (n := 8) (S := fun w' => w'.cell? ⟨g, i * 12 + 11, none⟩ = some (.string (mt (Kc (i + 1) - 2 + 1)))) (ds := []) (Own.fl 8 0) (by kernel_rfl) rfl rfl (HC.out _ HB.out i Hi.out).2.2.2.2.2.2.2.2.2.2.2 (fun hHeld => ?_); refine with_tabW hk37_tab hk37_bits (fun HT_ HW_ => ?_)
     generalize w9.drew = wd1 at HB hHeld ⊢
     refine pure_ (i := 0) (N := some 118) (v := ?_) (a' := ?_) (Own.fl 8 1) rfl rfl (any_of HT_.out (by kernel_rfl)) (fun _ _ _ h => h) (Or.inl ⟨by rfl, ?_⟩) ?_ ?_; rotate_left; intro w'; go_simp; with_reducible rfl; rotate_left; simp only [Own.ps]; rfl
     refine pure_ (i := 1) (N := some 119) (v := ?_) (a' := ?_) (Own.fl 8 3) rfl rfl (any_of HT_.out (by kernel_rfl)) (fun _ _ _ h => h) (Or.inl ⟨by rfl, ?_⟩) ?_ ?_; rotate_left; intro w'; go_simp; with_reducible rfl; rotate_left; simp only [Own.ps]; rfl
     refine pure_ (i := 2) (N := some 120) (v := ?_) (a' := ?_) (Own.fl 8 7) rfl rfl (any_of HT_.out (by kernel_rfl)) (fun _ _ _ h => h) (Or.inl ⟨by rfl, ?_⟩) ?_ ?_; rotate_left; intro w'; go_simp; with_reducible rfl; rotate_left; simp only [Own.ps]; rfl
     refine pure_ (i := 3) (N := some 121) (v := ?_) (a' := ?_) (Own.fl 8 15) rfl rfl (any_of HT_.out (by kernel_rfl)) (fun _ _ _ h => h) (Or.inl ⟨by rfl, ?_⟩) ?_ ?_; rotate_left; intro w'; go_simp; with_reducible rfl; rotate_left; simp only [Own.ps]; rfl
     refine take_ (i := 4) (N := some 122) (v := ?_) (a' := ?_) (Own.fl 8 31) rfl rfl (take_ofW HT_.out HW_.out (by kernel_rfl)) (fun _ _ _ h => h) (Or.inl ⟨by rfl, ?_⟩) hHeld ?_ ?_; rotate_left; intro w' q0; go_simp; with_reducible rfl; rotate_left; simp only [Own.ps]; rfl
     refine pure_ (i := 5) (N := some 123) (v := ?_) (a' := ?_) (Own.fl 8 63) rfl rfl (any_of HT_.out (by kernel_rfl)) (fun _ _ _ h => h) (Or.inl ⟨by rfl, ?_⟩) ?_ ?_; rotate_left; intro w'; go_simp; with_reducible rfl; rotate_left; simp only [Own.ps]; rfl
     refine one_ (i := 6) (N := some 124) (Own.fl 8 127) rfl rfl (one_of HT_.out (by kernel_rfl)) (by decide) (fun K hK => ?_)
     refine goes_ Tryz.func43 (by kernel_rfl) rfl #[.int .i64 (Kc (i + 1) - 2 + 1)] (by rfl) rfl rfl Own.ha ?_
     with_reducible refine (laws_markText.calls 11 (Kc (i + 1) - 2 + 1) (mt (Kc (i + 1) - 2 + 1)) _ (mk_all _ (by have := Hx.out; omega) (by have := Hx.out; omega))).mono ?_
     rintro e wd2 ⟨rfl, hb⟩
     refine ⟨_, rfl, ?_⟩
     replace HB := Aside0.mk (below_step HB.out hb)
     clear hb
     refine hK.out _ _ (HC.out _ HB.out i Hi.out).2.2.2.2.2.2.2.2.2.2.2 (fun hHeld => ?_)
     clear hK K; refine norm_ (a' := ?_) ?_ ?_; rotate_left; show Act.put _ (some 124) _ = _; simp only [Own.ps]; rfl
     refine pure_ (i := 7) (N := some 125) (v := ?_) (a' := ?_) (Own.fl 8 255) rfl rfl (any_of HT_.out (by kernel_rfl)) (fun _ _ _ h => h) (Or.inl ⟨by rfl, ?_⟩) ?_ ?_; rotate_left; intro w'; go_simp; with_reducible rfl; rotate_left; simp only [Own.ps]; rfl
     refine done_ (done_of HT_.out (by kernel_rfl)) ?_
     clear hHeld HT_ HW_
     go_wp2
     go_roundg (gk - 1)
     case measure => clear w0 w1 w2 w3 w4 w5 w6 w7 w8 wi u0 u1; have := HQ.out; have := Hi.out; omega
     case rel => exact ⟨i + 1, by first | rfl | rw [u1] | (simp; done), by rw [wi], ⟨by clear w0 w1 w2 w3 w4 w5 w6 w7 w8 wi u0 u1; have := HQ.out; have := Hi.out; omega⟩, ⟨by clear w0 w1 w2 w3 w4 w5 w6 w7 w8 wi u0 u1; have := Hi.out; omega⟩, HB⟩
   · have c6 : decide ((i : Int) < (n : Int)) = false := decide_eq_false (by omega)
     have c7 : ((i : Int) < (n : Int)) = False := eq_false (by omega)
     have hil : i = n := by have := HI1.out; omega
     subst hil
     go_wp2
     go_ret
     exact ⟨rfl, HB.out⟩
end Go.Proofs.YtckopglnblcnoaaGreatDoor.Own
