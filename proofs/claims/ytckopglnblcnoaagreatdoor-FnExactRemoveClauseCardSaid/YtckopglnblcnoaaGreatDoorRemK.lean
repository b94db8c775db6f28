/- impl.RemoveClause: the contract without one of its clauses, copied; each block in a place of its own. No condition. -/
import Derived.Test.YtckopglnblcnoaaGreatDoorDelK
import Derived.Test.YtckopglnblcnoaaGreatDoorDepK
namespace Go.Proofs.YtckopglnblcnoaaGreatDoor.Own
open Go.RowKit Go.Proofs.YtckopglnblcnoaaGreatDoor.QFnExactRemoveClause Go.Proofs.YtckopglnblcnoaaGreatDoorW.PrintWords Go.Proofs.YtckopglnblcnoaaGreatDoorW.PrintLast
set_option linter.unusedVariables false
set_option linter.unusedSimpArgs false
def impl_Rem.f (k : Nat) (p : List ByteArray) (l : List S51) (s : ByteArray) : Option ((List ByteArray × List S51) × Bool) :=
 (impl_ClauseNumber.f k p l s).bind fun q => if q.2 = true then (if (l.length : Int) = 1 then some (([], []), false) else if 0 ≤ q.1 ∧ q.1 < l.length then (if depK l q.1 = true then some (([], []), false) else some ((p, l.eraseIdx q.1.toNat), true)) else none) else some (([], []), false)
def Rem2 (w w' : World) (e : Ending) (g0 : List ByteArray) (g1 : List S51) (b : Bool) : Prop := ∃ (v0 v1 : Value) (M : Nat), e = .returned (.tuple #[.agg #[v0, v1], .bool b]) ∧ SepS w' w.heap.size M v0 g0 ∧ SepR w' M w'.heap.size v1 g1 ∧ w.heap.size ≤ M ∧ M ≤ w'.heap.size ∧ Below w.heap.size w w'
theorem rem2_nil {w W : World} (h : Below w.heap.size w W) {g : Nat} (hg : w.heap.size ≤ g) : Rem2 w ((W.setCell ⟨g, 0, none⟩ (.slice none 0 0)).setCell ⟨g, 1, none⟩ (.slice none 0 0)) (.returned (.tuple #[.agg #[.slice none 0 0, .slice none 0 0], .bool false])) [] [] false :=
 ⟨_, _, w.heap.size, rfl, .nil (Nat.le_refl _) _ _, .nil (by rw [World.size_setCell, World.size_setCell]; exact h.size) _ _, Nat.le_refl _, by rw [World.size_setCell, World.size_setCell]; exact h.size, below_set (below_set h hg) hg⟩
/-- Two stores into a block outside the stretch. -/
theorem set2_far (W : World) (g : Nat) (a b : Value) (k : Nat) (hk : k ≠ g) : ((W.setCell ⟨g, 0, none⟩ a).setCell ⟨g, 1, none⟩ b).heap[k]? = W.heap[k]? := by rw [Below.heap_setCell _ ⟨g, 1, none⟩ _ k hk, Below.heap_setCell _ ⟨g, 0, none⟩ _ k hk]
set_option maxHeartbeats 8000000 in
set_option maxRecDepth 100000 in
theorem rem_no (k : Nat) (A0 : Option Addr) (c0 : Nat) (l0 : List ByteArray) (A1 : Option Addr) (c1 : Nat) (l1 : List S51) (s : ByteArray) (w : World) (hr0 : Kd.C Kd.string w A0 l0.length l0) (hc0 : l0.length ≤ c0) (hr1 : Kd.C k51 w A1 l1.length l1) (hc1 : l1.length ≤ c1) (hG : Own.Glob w) (hL : l1.length ≤ 1048576) (q : Int) (hv : impl_ClauseNumber.f k l0 l1 s = some (q, false)) : Calls Tryz.prog 7 #[.agg #[.slice A0 l0.length c0, .slice A1 l1.length c1], .string s] w fun e w' => Rem2 w w' e [] [] false := by
 have hu1 := Tryz.underlying29; have R0 := Aside0.mk hr0; have R1 := Aside0.mk hr1
 have H0 := Aside0.mk (And.intro hc0 (And.intro hc1 hL))
 have GG := Aside0.mk hG; have V1 := Aside0.mk hv
 have HB := Aside0.mk (Below.refl w.heap.size w)
 clear hr0 hc0 hr1 hc1 hG hv hL
 go_enter Tryz.func7, Tryz.ntmps7
 go_wp2_with (first | ((with_reducible refine gate_dst (N := 2) rfl ?_); refine Own.be (N := 2) (cs := #[.slice A0 l0.length c0, .slice A1 l1.length c1]) (t := 29) ?_; intro g2 hg w1 hbox hb; have BK2 := Aside0.mk hbox; have G2 := Own.gs hg; replace HB := Own.bs hb; clear hb hbox hg) | ((with_reducible refine gate_dst (N := 4) rfl ?_); refine Own.be (N := 4) (cs := #[.slice none 0 0, .slice none 0 0]) (t := 29) ?_; intro g4 hg w3 hbox hb; have BK4 := Aside0.mk hbox; have G4 := Own.gs hg; replace BK2 := Aside0.mk (blk_below BK2.out hb); replace HB := Own.bs hb; clear hb hbox hg; obtain ⟨ya0, ya1, za0, za1⟩ := Own.box2 BK2.out) | (go_at_call 19; (with_reducible refine (impl_ClauseNumber.calls k A0 c0 l0 A1 c1 l1 s q false _ (Kd.C_below R0.out HB.out) H0.out.1 (Kd.C_below R1.out HB.out) H0.out.2.1 (GG.out.below HB.out) V1.out).mono ?_); rintro e w4 ⟨rfl, hb⟩; clear ya0 ya1 za0 za1; replace BK2 := Aside0.mk (blk_below BK2.out hb); replace BK4 := Aside0.mk (blk_below BK4.out hb); replace HB := Aside0.mk (below_step HB.out hb); clear hb; obtain ⟨ya0, ya1, za0, za1⟩ := Own.box2 BK2.out; obtain ⟨yd0, yd1, zd0, zd1⟩ := Own.box2 BK4.out))
 refine bodyPost_ret (results_ct rfl _ _ g4 29 #[.slice none 0 0, .slice none 0 0] (0, 0) _ rfl (by with_reducible exact Own.put2 BK4.out) Tryz.underlying29 rfl (by kernel_rfl)) rfl ?_
 exact rem2_nil HB.out G4.out
set_option maxHeartbeats 8000000 in
set_option maxRecDepth 100000 in
theorem rem_one (k : Nat) (A0 : Option Addr) (c0 : Nat) (l0 : List ByteArray) (A1 : Option Addr) (c1 : Nat) (l1 : List S51) (s : ByteArray) (w : World) (hr0 : Kd.C Kd.string w A0 l0.length l0) (hc0 : l0.length ≤ c0) (hr1 : Kd.C k51 w A1 l1.length l1) (hc1 : l1.length ≤ c1) (hG : Own.Glob w) (hL : l1.length ≤ 1048576) (q : Int) (hv : impl_ClauseNumber.f k l0 l1 s = some (q, true)) (h1 : (l1.length : Int) = 1) : Calls Tryz.prog 7 #[.agg #[.slice A0 l0.length c0, .slice A1 l1.length c1], .string s] w fun e w' => Rem2 w w' e [] [] false := by
 have e0 : ((l1.length : Int) == 1) = true := beq_iff_eq.mpr h1
 have e1 : ((l1.length : Int) != 1) = false := bne_eq_false_iff_eq.mpr h1
 clear h1; have hu1 := Tryz.underlying29; have R0 := Aside0.mk hr0; have R1 := Aside0.mk hr1
 have H0 := Aside0.mk (And.intro hc0 (And.intro hc1 hL))
 have GG := Aside0.mk hG; have V1 := Aside0.mk hv
 have HB := Aside0.mk (Below.refl w.heap.size w)
 clear hr0 hc0 hr1 hc1 hG hv hL
 go_enter Tryz.func7, Tryz.ntmps7
 go_wp2_with (first | ((with_reducible refine gate_dst (N := 2) rfl ?_); refine Own.be (N := 2) (cs := #[.slice A0 l0.length c0, .slice A1 l1.length c1]) (t := 29) ?_; intro g2 hg w1 hbox hb; have BK2 := Aside0.mk hbox; have G2 := Own.gs hg; replace HB := Own.bs hb; clear hb hbox hg) | ((with_reducible refine gate_dst (N := 4) rfl ?_); refine Own.be (N := 4) (cs := #[.slice none 0 0, .slice none 0 0]) (t := 29) ?_; intro g4 hg w3 hbox hb; have BK4 := Aside0.mk hbox; have G4 := Own.gs hg; replace BK2 := Aside0.mk (blk_below BK2.out hb); replace HB := Own.bs hb; clear hb hbox hg; obtain ⟨ya0, ya1, za0, za1⟩ := Own.box2 BK2.out) | (go_at_call 19; (with_reducible refine (impl_ClauseNumber.calls k A0 c0 l0 A1 c1 l1 s q true _ (Kd.C_below R0.out HB.out) H0.out.1 (Kd.C_below R1.out HB.out) H0.out.2.1 (GG.out.below HB.out) V1.out).mono ?_); rintro e w4 ⟨rfl, hb⟩; clear ya0 ya1 za0 za1; replace BK2 := Aside0.mk (blk_below BK2.out hb); replace BK4 := Aside0.mk (blk_below BK4.out hb); replace HB := Aside0.mk (below_step HB.out hb); clear hb; obtain ⟨ya0, ya1, za0, za1⟩ := Own.box2 BK2.out; obtain ⟨yd0, yd1, zd0, zd1⟩ := Own.box2 BK4.out))
 refine bodyPost_ret (results_ct rfl _ _ g4 29 #[.slice none 0 0, .slice none 0 0] (0, 0) _ rfl (by with_reducible exact Own.put2 BK4.out) Tryz.underlying29 rfl (by kernel_rfl)) rfl ?_
 exact rem2_nil HB.out G4.out
set_option maxHeartbeats 8000000 in
set_option maxRecDepth 100000 in
theorem rem_dep (k : Nat) (A0 : Option Addr) (c0 : Nat) (l0 : List ByteArray) (A1 : Option Addr) (c1 : Nat) (l1 : List S51) (s : ByteArray) (w : World) (hr0 : Kd.C Kd.string w A0 l0.length l0) (hc0 : l0.length ≤ c0) (hr1 : Kd.C k51 w A1 l1.length l1) (hc1 : l1.length ≤ c1) (hG : Own.Glob w) (hL : l1.length ≤ 1048576) (q : Int) (hq : 0 ≤ q ∧ q < l1.length) (hv : impl_ClauseNumber.f k l0 l1 s = some (q, true)) (h1 : ¬ (l1.length : Int) = 1) (hd : depK l1 q = true) : Calls Tryz.prog 7 #[.agg #[.slice A0 l0.length c0, .slice A1 l1.length c1], .string s] w fun e w' => Rem2 w w' e [] [] false := by
 have e0 : ((l1.length : Int) == 1) = false := beq_eq_false_iff_ne.mpr h1
 have e1 : ((l1.length : Int) != 1) = true := bne_iff_ne.mpr h1
 have HQ := Aside0.mk hq; clear h1 hq; have hu1 := Tryz.underlying29; have R0 := Aside0.mk hr0; have R1 := Aside0.mk hr1
 have H0 := Aside0.mk (And.intro hc0 (And.intro hc1 hL))
 have GG := Aside0.mk hG; have V1 := Aside0.mk hv
 have HB := Aside0.mk (Below.refl w.heap.size w)
 clear hr0 hc0 hr1 hc1 hG hv hL
 go_enter Tryz.func7, Tryz.ntmps7
 go_wp2_with (first | ((with_reducible refine gate_dst (N := 2) rfl ?_); refine Own.be (N := 2) (cs := #[.slice A0 l0.length c0, .slice A1 l1.length c1]) (t := 29) ?_; intro g2 hg w1 hbox hb; have BK2 := Aside0.mk hbox; have G2 := Own.gs hg; replace HB := Own.bs hb; clear hb hbox hg) | ((with_reducible refine gate_dst (N := 4) rfl ?_); refine Own.be (N := 4) (cs := #[.slice none 0 0, .slice none 0 0]) (t := 29) ?_; intro g4 hg w3 hbox hb; have BK4 := Aside0.mk hbox; have G4 := Own.gs hg; replace BK2 := Aside0.mk (blk_below BK2.out hb); replace HB := Own.bs hb; clear hb hbox hg; obtain ⟨ya0, ya1, za0, za1⟩ := Own.box2 BK2.out) | (go_at_call 19; (with_reducible refine (impl_ClauseNumber.calls k A0 c0 l0 A1 c1 l1 s q true _ (Kd.C_below R0.out HB.out) H0.out.1 (Kd.C_below R1.out HB.out) H0.out.2.1 (GG.out.below HB.out) V1.out).mono ?_); rintro e w4 ⟨rfl, hb⟩; clear ya0 ya1 za0 za1; replace BK2 := Aside0.mk (blk_below BK2.out hb); replace BK4 := Aside0.mk (blk_below BK4.out hb); replace HB := Aside0.mk (below_step HB.out hb); clear hb; obtain ⟨ya0, ya1, za0, za1⟩ := Own.box2 BK2.out; obtain ⟨yd0, yd1, zd0, zd1⟩ := Own.box2 BK4.out) | (go_at_call 20; (with_reducible refine (impl_isDependent.calls_ A0 c0 l0 A1 c1 l1 q HQ.out.1 HQ.out.2 H0.out.2.2 _ (Kd.C_below R1.out HB.out) H0.out.2.1).mono ?_); rintro e w5 ⟨rfl, hb⟩; clear ya0 ya1 za0 za1 yd0 yd1 zd0 zd1; replace BK2 := Aside0.mk (blk_below BK2.out hb); replace BK4 := Aside0.mk (blk_below BK4.out hb); replace HB := Aside0.mk (below_step HB.out hb); clear hb; obtain ⟨ya0, ya1, za0, za1⟩ := Own.box2 BK2.out; obtain ⟨yd0, yd1, zd0, zd1⟩ := Own.box2 BK4.out))
 refine bodyPost_ret (results_ct rfl _ _ g4 29 #[.slice none 0 0, .slice none 0 0] (0, 0) _ rfl (by with_reducible exact Own.put2 BK4.out) Tryz.underlying29 rfl (by kernel_rfl)) rfl ?_
 exact rem2_nil HB.out G4.out
set_option maxHeartbeats 8000000 in
set_option maxRecDepth 100000 in
theorem rem_yes (k : Nat) (A0 : Option Addr) (c0 : Nat) (l0 : List ByteArray) (A1 : Option Addr) (c1 : Nat) (l1 : List S51) (s : ByteArray) (w : World) (hr0 : Kd.C Kd.string w A0 l0.length l0) (hc0 : l0.length ≤ c0) (hr1 : Kd.C k51 w A1 l1.length l1) (hc1 : l1.length ≤ c1) (hG : Own.Glob w) (hL : l1.length ≤ 1048576) (hz0 : l0.length ≤ 100000000) (hz1 : szR l1 ≤ 100000000) (i : Nat) (q : Int) (hqi : q = (i : Int)) (hq : 0 ≤ q ∧ q < l1.length) (hv : impl_ClauseNumber.f k l0 l1 s = some (q, true)) (h1 : ¬ (l1.length : Int) = 1) (hd : depK l1 q = false) : Calls Tryz.prog 7 #[.agg #[.slice A0 l0.length c0, .slice A1 l1.length c1], .string s] w fun e w' => Rem2 w w' e l0 (l1.eraseIdx i) true := by
 have e0 : ((l1.length : Int) == 1) = false := beq_eq_false_iff_ne.mpr h1
 have e1 : ((l1.length : Int) != 1) = true := bne_iff_ne.mpr h1
 have HQ := Aside0.mk hq
 have HZ := Aside0.mk (And.intro hz0 hz1)
 have HI : Aside0 (2 ≤ l1.length ∧ i < l1.length) := ⟨by omega⟩
 have wi : wrap64 (q + 1) = ((i + 1 : Nat) : Int) := by have := hq; unfold wrap64; omega
 have EQ := Aside0.mk hqi; clear h1 hq hz0 hz1 hqi; have hu1 := Tryz.underlying29; have R0 := Aside0.mk hr0; have R1 := Aside0.mk hr1
 have H0 := Aside0.mk (And.intro hc0 (And.intro hc1 hL))
 have GG := Aside0.mk hG; have V1 := Aside0.mk hv
 have HB := Aside0.mk (Below.refl w.heap.size w)
 clear hr0 hc0 hr1 hc1 hG hv hL
 go_enter Tryz.func7, Tryz.ntmps7
 go_wp2_with (first | ((with_reducible refine gate_dst (N := 2) rfl ?_); refine Own.be (N := 2) (cs := #[.slice A0 l0.length c0, .slice A1 l1.length c1]) (t := 29) ?_; intro g2 hg w1 hbox hb; have BK2 := Aside0.mk hbox; have G2 := Own.gs hg; replace HB := Own.bs hb; clear hb hbox hg) | ((with_reducible refine gate_dst (N := 4) rfl ?_); refine Own.be (N := 4) (cs := #[.slice none 0 0, .slice none 0 0]) (t := 29) ?_; intro g4 hg w3 hbox hb; have BK4 := Aside0.mk hbox; have G4 := Own.gs hg; replace BK2 := Aside0.mk (blk_below BK2.out hb); replace HB := Own.bs hb; clear hb hbox hg; obtain ⟨ya0, ya1, za0, za1⟩ := Own.box2 BK2.out) | (go_at_call 19; (with_reducible refine (impl_ClauseNumber.calls k A0 c0 l0 A1 c1 l1 s q true _ (Kd.C_below R0.out HB.out) H0.out.1 (Kd.C_below R1.out HB.out) H0.out.2.1 (GG.out.below HB.out) V1.out).mono ?_); rintro e w4 ⟨rfl, hb⟩; clear ya0 ya1 za0 za1; replace BK2 := Aside0.mk (blk_below BK2.out hb); replace BK4 := Aside0.mk (blk_below BK4.out hb); replace HB := Aside0.mk (below_step HB.out hb); clear hb; obtain ⟨ya0, ya1, za0, za1⟩ := Own.box2 BK2.out; obtain ⟨yd0, yd1, zd0, zd1⟩ := Own.box2 BK4.out) | (go_at_call 20; (with_reducible refine (impl_isDependent.calls_ A0 c0 l0 A1 c1 l1 q HQ.out.1 HQ.out.2 H0.out.2.2 _ (Kd.C_below R1.out HB.out) H0.out.2.1).mono ?_); rintro e w5 ⟨rfl, hb⟩; clear ya0 ya1 za0 za1 yd0 yd1 zd0 zd1; replace BK2 := Aside0.mk (blk_below BK2.out hb); replace BK4 := Aside0.mk (blk_below BK4.out hb); replace HB := Aside0.mk (below_step HB.out hb); clear hb; obtain ⟨ya0, ya1, za0, za1⟩ := Own.box2 BK2.out; obtain ⟨yd0, yd1, zd0, zd1⟩ := Own.box2 BK4.out) | (go_at_call 21; (with_reducible refine (ownK_calls A0 c0 l0 A1 c1 l1 _ (Kd.C_below R0.out HB.out) H0.out.1 (Kd.C_below R1.out HB.out) H0.out.2.1 HZ.out.1 HZ.out.2).mono ?_); rintro e w9 ⟨v0, vv, M, rfl, hs0, hs1, hm0, hm1, hb⟩; have HS0 := Aside0.mk hs0; have HS1 := Aside0.mk hs1; have HM := Aside0.mk (And.intro hm0 (And.intro hm1 (And.intro HB.out.size (blk_lt BK4.out)))); obtain ⟨Ap, np, cp, rfl⟩ := hs0.form; obtain ⟨g, cap, cur, rfl, cu1, cu2, cu3, cu4, cu5, cu6, cu7, cu8⟩ := hs1.cut HI.out.1 i HI.out.2; have CU := Aside0.mk (And.intro cu1 (And.intro cu2 (And.intro cu3 (And.intro cu4 (And.intro cu5 (And.intro cu6 (And.intro cu7 cu8))))))); replace BK4 := Aside0.mk (blk_below BK4.out hb); replace HB := Aside0.mk (below_step HB.out hb); clear hs0 hs1 hm0 hm1 hb cu1 cu2 cu3 cu4 cu5 cu6 cu7 cu8 ya0 ya1 za0 za1 yd0 yd1 zd0 zd1) | ((with_reducible refine gate_dst (N := 8) rfl ?_); refine Own.be (N := 8) (cs := #[.slice none 0 0, .slice none 0 0]) (t := 29) ?_; intro g8 hg w10 hbox hb; have G8 := Aside0.mk (show w9.heap.size ≤ g8 from Nat.le_of_eq hg.symm); have BK8 := Aside0.mk hbox; have HX := Aside0.mk hb; clear hb hbox hg; obtain ⟨yn0, yn1, zn0, zn1⟩ := Own.box2 BK8.out) | ((with_reducible refine gate_store (t := 29) (p := 8) rfl ?_); refine store_event (t := 29) (p := 8) (v := ?vo_a) (w1 := ((w10.setCell ⟨g8, 0, none⟩ (.slice Ap np cp)).setCell ⟨g8, 1, none⟩ (.slice (some ⟨g, 0, none⟩) l1.length cap))) ?hg ?ho ?hn ?hr ?_; (case ho => rfl); (case hg => rfl); (case hn => rfl); (case hr => first | (go_simp; done) | (go_simp; rfl)); intro w11 hw; replace BK8 := Aside0.mk (by rw [hw]; exact Own.put2 BK8.out : w11.heap[g8]? = some (.cells #[.slice Ap np cp, .slice (some ⟨g, 0, none⟩) l1.length cap] 29 (0, 0))); replace HX := Aside0.mk (by rw [hw]; exact below_set (below_set HX.out G8.out) G8.out : Below w9.heap.size w9 w11); clear hw yn0 yn1 zn0 zn1; obtain ⟨ye0, ye1, ze0, ze1⟩ := Own.box2 BK8.out) | (go_at_call 22; (have EA := EQ.out); (subst EA); (refine (del_calls g cap l1.length i (i + 1) rfl cur w11 ((HX.out.block g (blk_lt CU.out.2.2.1)).trans CU.out.2.2.1) HI.out.1 HI.out.2 CU.out.2.2.2.1 CU.out.2.2.2.2.1 CU.out.2.2.2.2.2.1 CU.out.2.2.2.2.2.2.1).mono ?_); rintro e w12 ⟨rfl, hc⟩; have HC := Aside0.mk hc; have NG := Aside0.mk (show g ≠ g8 from by have h1_ := blk_lt CU.out.2.2.1; have h2_ := G8.out; omega); replace BK8 := Aside0.mk ((hc.far g8 (fun e_ => NG.out e_.symm)).trans BK8.out); have BK4d := Aside0.mk ((hc.far g4 (fun e_ => by have h1_ := HM.out.2.2.2; have h2_ := CU.out.1; have h3_ := HM.out.1; omega)).trans (blk_below BK4.out HX.out)); clear hc ye0 ye1 ze0 ze1; obtain ⟨ye0, ye1, ze0, ze1⟩ := Own.box2 BK8.out; have hne1 : g4 ≠ g8 := (by have h1_ := HM.out.2.2.2; have h2_ := HM.out.1; have h3_ := HM.out.2.1; have h4_ := G8.out; omega); have hne2 := hne1.symm; obtain ⟨yd0, yd1, zd0, zd1⟩ := Own.box2 BK4d.out))
 refine bodyPost_ret (results_ct rfl _ _ g4 29 #[.slice Ap np cp, .slice (some ⟨g, 0, none⟩) (l1.length - 1) cap] (0, 0) _ rfl (by exact Own.put2 (blk_far BK4d.out hne1 _)) Tryz.underlying29 rfl (by kernel_rfl)) rfl ?_
 have h4 := HM.out; have h8 := G8.out; have hgl := CU.out.1; have hgh := CU.out.2.1; obtain ⟨cur', hc1, hc2⟩ := HC.out.blk
 have hsz : (((w12.setCell ⟨g8, 1, none⟩ (.slice (some ⟨g, 0, none⟩) (l1.length - 1) cap)).setCell ⟨g4, 0, none⟩ (.slice Ap np cp)).setCell ⟨g4, 1, none⟩ (.slice (some ⟨g, 0, none⟩) (l1.length - 1) cap)).heap.size = w11.heap.size := by rw [World.size_setCell, World.size_setCell, World.size_setCell]; exact HC.out.size
 have hfar : ∀ k, k ≠ g4 → k ≠ g8 → k ≠ g → k < w9.heap.size → (((w12.setCell ⟨g8, 1, none⟩ (.slice (some ⟨g, 0, none⟩) (l1.length - 1) cap)).setCell ⟨g4, 0, none⟩ (.slice Ap np cp)).setCell ⟨g4, 1, none⟩ (.slice (some ⟨g, 0, none⟩) (l1.length - 1) cap)).heap[k]? = w9.heap[k]? := fun k a b c d => by
  rw [set2_far _ _ _ _ k a, Below.heap_setCell _ ⟨g8, 1, none⟩ _ k b, HC.out.far k c]; exact HX.out.block k d
 have hB : Below w.heap.size w (((w12.setCell ⟨g8, 1, none⟩ (.slice (some ⟨g, 0, none⟩) (l1.length - 1) cap)).setCell ⟨g4, 0, none⟩ (.slice Ap np cp)).setCell ⟨g4, 1, none⟩ (.slice (some ⟨g, 0, none⟩) (l1.length - 1) cap)) := below_set (below_set ((HC.out.low _ _ (HB.out.trans (HX.out.mono HB.out.size)) (by omega)).setCell (p := ⟨g8, 1, none⟩) (by show _ ≤ g8; omega) _) G4.out) G4.out
 refine ⟨.slice Ap np cp, _, M, Own.rr, ?_, ?_, by omega, by rw [hsz]; have := HX.out.size; omega, hB⟩
 · exact (HS0.out.kept (fun k a b => hfar k (by omega) (by omega) (by omega) (by omega))).weaken h4.2.2.1 (Nat.le_refl _)
 · have hh := CU.out.2.2.2.2.2.2.2 (((w12.setCell ⟨g8, 1, none⟩ (.slice (some ⟨g, 0, none⟩) (l1.length - 1) cap)).setCell ⟨g4, 0, none⟩ (.slice Ap np cp)).setCell ⟨g4, 1, none⟩ (.slice (some ⟨g, 0, none⟩) (l1.length - 1) cap)) cur' (by rw [set2_far _ _ _ _ g (by omega), Below.heap_setCell _ ⟨g8, 1, none⟩ _ g NG.out]; exact hc1) (fun k a b c => hfar k (by omega) (by omega) c b) hc2
   exact hh.weaken (Nat.le_refl _) (by rw [hsz]; exact HX.out.size)
theorem remA_calls (k : Nat) (A0 : Option Addr) (c0 : Nat) (l0 : List ByteArray) (A1 : Option Addr) (c1 : Nat) (l1 : List S51) (s : ByteArray) (w : World) (hr0 : Kd.C Kd.string w A0 l0.length l0) (hc0 : l0.length ≤ c0) (hr1 : Kd.C k51 w A1 l1.length l1) (hc1 : l1.length ≤ c1) (hG : Own.Glob w) (hL : l1.length ≤ 1048576) (g0 : List ByteArray) (g1 : List S51) (gb : Bool) (hz0 : l0.length ≤ 100000000) (hz1 : szR l1 ≤ 100000000) (h : impl_Rem.f k l0 l1 s = some ((g0, g1), gb)) : Calls Tryz.prog 7 #[.agg #[.slice A0 l0.length c0, .slice A1 l1.length c1], .string s] w fun e w' => Rem2 w w' e g0 g1 gb := by
 unfold impl_Rem.f at h; obtain ⟨⟨q, b⟩, h1, h⟩ := Option.bind_eq_some_iff.1 h
 cases b with
 | false =>
  rw [if_neg Bool.false_ne_true] at h
  simp only [Option.some.injEq, Prod.mk.injEq] at h
  obtain ⟨⟨rfl, rfl⟩, rfl⟩ := h
  exact rem_no k A0 c0 l0 A1 c1 l1 s w hr0 hc0 hr1 hc1 hG hL q h1
 | true =>
  rw [if_pos rfl] at h
  by_cases hl : (l1.length : Int) = 1
  · rw [if_pos hl] at h
    simp only [Option.some.injEq, Prod.mk.injEq] at h
    obtain ⟨⟨rfl, rfl⟩, rfl⟩ := h
    exact rem_one k A0 c0 l0 A1 c1 l1 s w hr0 hc0 hr1 hc1 hG hL q h1 hl
  rw [if_neg hl] at h
  by_cases hq : 0 ≤ q ∧ q < l1.length
  case neg => rw [if_neg hq] at h; cases h
  rw [if_pos hq] at h
  cases hd : depK l1 q with
  | true =>
   rw [if_pos hd] at h
   simp only [Option.some.injEq, Prod.mk.injEq] at h
   obtain ⟨⟨rfl, rfl⟩, rfl⟩ := h
   exact rem_dep k A0 c0 l0 A1 c1 l1 s w hr0 hc0 hr1 hc1 hG hL q hq h1 hl hd
  | false =>
   rw [if_neg (by rw [hd]; exact Bool.false_ne_true)] at h
   simp only [Option.some.injEq, Prod.mk.injEq] at h
   obtain ⟨⟨rfl, rfl⟩, rfl⟩ := h
   exact rem_yes k A0 c0 l0 A1 c1 l1 s w hr0 hc0 hr1 hc1 hG hL hz0 hz1 q.toNat q (by omega) hq h1 hl hd
end Go.Proofs.YtckopglnblcnoaaGreatDoor.Own
