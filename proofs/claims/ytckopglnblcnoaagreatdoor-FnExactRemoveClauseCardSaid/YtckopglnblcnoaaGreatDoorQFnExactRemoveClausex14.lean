-- Written by a program of this session out of the translation; Lean checks it.
import Derived.Test.YtckopglnblcnoaaGreatDoorQFnExactRemoveClausex13
namespace Go.Proofs.YtckopglnblcnoaaGreatDoor.QFnExactRemoveClause
open Go.RowKit Go.Proofs.YtckopglnblcnoaaGreatDoorW.PrintWords Go.Proofs.YtckopglnblcnoaaGreatDoorW.PrintLast
attribute [local go_sem] Instr.field asAgg
set_option linter.unusedVariables false
set_option linter.unusedSimpArgs false
/-! ### impl_isClause: function 57 -/
mutual
def impl_isClause.j0 : Nat → Int → Int → Bool → List ByteArray → List (S51) → ByteArray → Int → Int → ByteArray → Int → Int → Int → ByteArray → Int → List (S49) → Int → ByteArray → Option (Bool)
 | 0, _, _, _, _, _, _, _, _, _, _, _, _, _, _, _, _, _ => none
 | k + 1, x1, x6, x40, x389000, x389001, x391000, x391001, x391002, x391003, x391004, x391005, x391006, x391007, x391008, x391009, x391010, x391011 => if x40 = true then (some false) else ((impl_within.f x391002 0 x6).bind fun t395 => (if t395 = true then ((impl_within.f x391004 0 x6).bind fun t396 => (if t396 = true then (if x391002 = x391004 then (impl_isClause.j1 k x1 true x389000 x389001 x391000 x391001 x391002 x391003 x391004 x391005 x391006 x391007 x391008 x391009 x391010 x391011) else ((impl_IsValidCondition.f k x391006 x391007 x391008 x391009).bind fun t397 => (impl_isClause.j1 k x1 (!t397) x389000 x389001 x391000 x391001 x391002 x391003 x391004 x391005 x391006 x391007 x391008 x391009 x391010 x391011))) else (impl_isClause.j1 k x1 true x389000 x389001 x391000 x391001 x391002 x391003 x391004 x391005 x391006 x391007 x391008 x391009 x391010 x391011))) else (impl_isClause.j1 k x1 true x389000 x389001 x391000 x391001 x391002 x391003 x391004 x391005 x391006 x391007 x391008 x391009 x391010 x391011)))
def impl_isClause.j1 : Nat → Int → Bool → List ByteArray → List (S51) → ByteArray → Int → Int → ByteArray → Int → Int → Int → ByteArray → Int → List (S49) → Int → ByteArray → Option (Bool)
 | 0, _, _, _, _, _, _, _, _, _, _, _, _, _, _, _, _ => none
 | k + 1, x1, x65, x389000, x389001, x391000, x391001, x391002, x391003, x391004, x391005, x391006, x391007, x391008, x391009, x391010, x391011 => if x65 = true then (some false) else ((impl_within.f x391005 0 1000000).bind fun t398 => (if t398 = true then ((impl_within.f x391010 0 400).bind fun t399 => (if t399 = true then (if x391001 = 1 then (impl_isClause.j2 k x1 false x389000 x389001 x391000 x391001 x391002 x391003 x391004 x391005 x391006 x391007 x391008 x391009 x391010 x391011) else (if x391005 = 0 then (impl_isClause.j2 k x1 (x391010 != 0) x389000 x389001 x391000 x391001 x391002 x391003 x391004 x391005 x391006 x391007 x391008 x391009 x391010 x391011) else (impl_isClause.j2 k x1 true x389000 x389001 x391000 x391001 x391002 x391003 x391004 x391005 x391006 x391007 x391008 x391009 x391010 x391011))) else (impl_isClause.j2 k x1 true x389000 x389001 x391000 x391001 x391002 x391003 x391004 x391005 x391006 x391007 x391008 x391009 x391010 x391011))) else (impl_isClause.j2 k x1 true x389000 x389001 x391000 x391001 x391002 x391003 x391004 x391005 x391006 x391007 x391008 x391009 x391010 x391011)))
def impl_isClause.j2 : Nat → Int → Bool → List ByteArray → List (S51) → ByteArray → Int → Int → ByteArray → Int → Int → Int → ByteArray → Int → List (S49) → Int → ByteArray → Option (Bool)
 | 0, _, _, _, _, _, _, _, _, _, _, _, _, _, _, _, _ => none
 | k + 1, x1, x90, x389000, x389001, x391000, x391001, x391002, x391003, x391004, x391005, x391006, x391007, x391008, x391009, x391010, x391011 => if x90 = true then (some false) else (if x391011.toList = ([] : List UInt8) then (some true) else ((impl_clauseIndex.f k x389000 x389001 x391011).bind fun t400 => (if x391001 = 3 then (some false) else (if t400 ≥ 0 then (if t400 = x1 then (some false) else (if 0 ≤ t400 then (if t400 < (x389001.length : Int) then (some (((rd_T51 x389001 t400).f1) == 1)) else (none)) else (none))) else (some false)))))
end
def impl_isClause.f (k : Nat) (l0_0 : List ByteArray) (l0_1 : List (S51)) (a1 : Int) : Option (Bool) := if 0 ≤ a1 then (if a1 < (l0_1.length : Int) then ((impl_IsValidName.f k ((rd_T51 l0_1 a1).f0)).bind fun t391 => (if t391 = true then ((impl_clauseIndex.f k l0_0 l0_1 ((rd_T51 l0_1 a1).f0)).bind fun t392 => (if t392 = a1 then ((impl_IsValidName.f k ((rd_T51 l0_1 a1).f3)).bind fun t393 => (if t393 = true then ((impl_within.f ((rd_T51 l0_1 a1).f1) 1 4).bind fun t394 => (impl_isClause.j0 k a1 (wrap64 ((l0_0.length : Int) - 1)) (!t394) l0_0 l0_1 ((rd_T51 l0_1 a1).f0) ((rd_T51 l0_1 a1).f1) ((rd_T51 l0_1 a1).f2) ((rd_T51 l0_1 a1).f3) ((rd_T51 l0_1 a1).f4) ((rd_T51 l0_1 a1).f5) ((rd_T51 l0_1 a1).f6.f0) ((rd_T51 l0_1 a1).f6.f1) ((rd_T51 l0_1 a1).f6.f2) ((rd_T51 l0_1 a1).f6.f3) ((rd_T51 l0_1 a1).f7) ((rd_T51 l0_1 a1).f8))) else (impl_isClause.j0 k a1 (wrap64 ((l0_0.length : Int) - 1)) true l0_0 l0_1 ((rd_T51 l0_1 a1).f0) ((rd_T51 l0_1 a1).f1) ((rd_T51 l0_1 a1).f2) ((rd_T51 l0_1 a1).f3) ((rd_T51 l0_1 a1).f4) ((rd_T51 l0_1 a1).f5) ((rd_T51 l0_1 a1).f6.f0) ((rd_T51 l0_1 a1).f6.f1) ((rd_T51 l0_1 a1).f6.f2) ((rd_T51 l0_1 a1).f6.f3) ((rd_T51 l0_1 a1).f7) ((rd_T51 l0_1 a1).f8)))) else (impl_isClause.j0 k a1 (wrap64 ((l0_0.length : Int) - 1)) true l0_0 l0_1 ((rd_T51 l0_1 a1).f0) ((rd_T51 l0_1 a1).f1) ((rd_T51 l0_1 a1).f2) ((rd_T51 l0_1 a1).f3) ((rd_T51 l0_1 a1).f4) ((rd_T51 l0_1 a1).f5) ((rd_T51 l0_1 a1).f6.f0) ((rd_T51 l0_1 a1).f6.f1) ((rd_T51 l0_1 a1).f6.f2) ((rd_T51 l0_1 a1).f6.f3) ((rd_T51 l0_1 a1).f7) ((rd_T51 l0_1 a1).f8)))) else (impl_isClause.j0 k a1 (wrap64 ((l0_0.length : Int) - 1)) true l0_0 l0_1 ((rd_T51 l0_1 a1).f0) ((rd_T51 l0_1 a1).f1) ((rd_T51 l0_1 a1).f2) ((rd_T51 l0_1 a1).f3) ((rd_T51 l0_1 a1).f4) ((rd_T51 l0_1 a1).f5) ((rd_T51 l0_1 a1).f6.f0) ((rd_T51 l0_1 a1).f6.f1) ((rd_T51 l0_1 a1).f6.f2) ((rd_T51 l0_1 a1).f6.f3) ((rd_T51 l0_1 a1).f7) ((rd_T51 l0_1 a1).f8)))) else (none)) else (none)
set_option maxHeartbeats 8000000 in
set_option maxRecDepth 100000 in
theorem impl_isClause.calls (k : Nat) (A0_0 : Option Addr) (c0_0 : Nat) (l0_0 : List ByteArray) (A0_1 : Option Addr) (c0_1 : Nat) (l0_1 : List (S51)) (a1 : Int) (r : Bool) (w : World) (hr0_0 : Kd.C Kd.string w A0_0 l0_0.length l0_0) (hc0_0 : l0_0.length ≤ c0_0) (hr0_1 : Kd.C k51 w A0_1 l0_1.length l0_1) (hc0_1 : l0_1.length ≤ c0_1) (hG : Own.Glob w) (h : impl_isClause.f k l0_0 l0_1 a1 = some r) :
  Calls Tryz.prog 57 #[.agg #[.slice A0_0 l0_0.length c0_0, .slice A0_1 l0_1.length c0_1], .int .i64 a1] w fun e w' => e = .returned (.bool r) ∧ Below w.heap.size w w' := by
 have hu29 := Tryz.underlying29
 have hu51 := Tryz.underlying51
 have hu49 := Tryz.underlying49
 have HR0_0 := Aside0.mk hr0_0
 have HC0_0 := Aside0.mk hc0_0
 clear hr0_0 hc0_0
 have HR0_1 := Aside0.mk hr0_1
 have HC0_1 := Aside0.mk hc0_1
 clear hr0_1 hc0_1
 have HB := Aside0.mk (Below.refl w.heap.size w)
 have HG := Aside0.mk hG
 clear hG
 have H : (if 0 ≤ a1 then (if a1 < (l0_1.length : Int) then ((impl_IsValidName.f k ((rd_T51 l0_1 a1).f0)).bind fun t391 => (if t391 = true then ((impl_clauseIndex.f k l0_0 l0_1 ((rd_T51 l0_1 a1).f0)).bind fun t392 => (if t392 = a1 then ((impl_IsValidName.f k ((rd_T51 l0_1 a1).f3)).bind fun t393 => (if t393 = true then ((impl_within.f ((rd_T51 l0_1 a1).f1) 1 4).bind fun t394 => (impl_isClause.j0 k a1 (wrap64 ((l0_0.length : Int) - 1)) (!t394) l0_0 l0_1 ((rd_T51 l0_1 a1).f0) ((rd_T51 l0_1 a1).f1) ((rd_T51 l0_1 a1).f2) ((rd_T51 l0_1 a1).f3) ((rd_T51 l0_1 a1).f4) ((rd_T51 l0_1 a1).f5) ((rd_T51 l0_1 a1).f6.f0) ((rd_T51 l0_1 a1).f6.f1) ((rd_T51 l0_1 a1).f6.f2) ((rd_T51 l0_1 a1).f6.f3) ((rd_T51 l0_1 a1).f7) ((rd_T51 l0_1 a1).f8))) else (impl_isClause.j0 k a1 (wrap64 ((l0_0.length : Int) - 1)) true l0_0 l0_1 ((rd_T51 l0_1 a1).f0) ((rd_T51 l0_1 a1).f1) ((rd_T51 l0_1 a1).f2) ((rd_T51 l0_1 a1).f3) ((rd_T51 l0_1 a1).f4) ((rd_T51 l0_1 a1).f5) ((rd_T51 l0_1 a1).f6.f0) ((rd_T51 l0_1 a1).f6.f1) ((rd_T51 l0_1 a1).f6.f2) ((rd_T51 l0_1 a1).f6.f3) ((rd_T51 l0_1 a1).f7) ((rd_T51 l0_1 a1).f8)))) else (impl_isClause.j0 k a1 (wrap64 ((l0_0.length : Int) - 1)) true l0_0 l0_1 ((rd_T51 l0_1 a1).f0) ((rd_T51 l0_1 a1).f1) ((rd_T51 l0_1 a1).f2) ((rd_T51 l0_1 a1).f3) ((rd_T51 l0_1 a1).f4) ((rd_T51 l0_1 a1).f5) ((rd_T51 l0_1 a1).f6.f0) ((rd_T51 l0_1 a1).f6.f1) ((rd_T51 l0_1 a1).f6.f2) ((rd_T51 l0_1 a1).f6.f3) ((rd_T51 l0_1 a1).f7) ((rd_T51 l0_1 a1).f8)))) else (impl_isClause.j0 k a1 (wrap64 ((l0_0.length : Int) - 1)) true l0_0 l0_1 ((rd_T51 l0_1 a1).f0) ((rd_T51 l0_1 a1).f1) ((rd_T51 l0_1 a1).f2) ((rd_T51 l0_1 a1).f3) ((rd_T51 l0_1 a1).f4) ((rd_T51 l0_1 a1).f5) ((rd_T51 l0_1 a1).f6.f0) ((rd_T51 l0_1 a1).f6.f1) ((rd_T51 l0_1 a1).f6.f2) ((rd_T51 l0_1 a1).f6.f3) ((rd_T51 l0_1 a1).f7) ((rd_T51 l0_1 a1).f8)))) else (none)) else (none)) = some r := h
 clear h
 replace H := Own.ifd H; obtain ⟨c3, H⟩ := H
 replace H := Own.ifd H; obtain ⟨c4, H⟩ := H
 have HC5 := Aside0.mk H
 clear H
 go_enter Tryz.func57, Tryz.ntmps57
 go_upto_region 3 with (first | ((with_reducible refine gate_dst (N := 2) rfl ?_); refine Own.be (N := 2) (cs := #[.slice A0_0 l0_0.length c0_0, .slice A0_1 l0_1.length c0_1]) (t := 29) ?_; intro gb388 hg w6 hbox hb; have BK388 := Aside0.mk hbox; have GW388 := (Own.gs hg : Aside0 (w.heap.size ≤ gb388)); have GE388 := GW388; replace HB := Own.bs hb; clear hb hbox hg; obtain ⟨z7_0, z7_1, y7_0, y7_1⟩ := Own.box2 BK388.out; have p389 : 0 ≤ (a1 : Int) := Own.dp; have q389 : a1 < (l0_1.length : Int) := Own.dp; obtain ⟨ad389, A389_9, c389_9, e389, hx389_0, hx389_1, hx389_2, hx389_3, hx389_4, hx389_5, hx389_6, hx389_7, hx389_8, hx389_9, hx389_10, hx389_11, hl389_9, hi389_9⟩ := at_T51 HR0_1.out a1 p389 q389; cases e389; replace hx389_0 := Own.up HB.out hx389_0; replace hx389_1 := Own.up HB.out hx389_1; replace hx389_2 := Own.up HB.out hx389_2; replace hx389_3 := Own.up HB.out hx389_3; replace hx389_4 := Own.up HB.out hx389_4; replace hx389_5 := Own.up HB.out hx389_5; replace hx389_6 := Own.up HB.out hx389_6; replace hx389_7 := Own.up HB.out hx389_7; replace hx389_8 := Own.up HB.out hx389_8; replace hx389_9 := Own.up HB.out hx389_9; replace hx389_10 := Own.up HB.out hx389_10; replace hx389_11 := Own.up HB.out hx389_11; have HR389_9 := Aside0.mk hi389_9; have HC389_9 := Aside0.mk hl389_9; clear hi389_9 hl389_9; replace p389 := eq_true p389; replace q389 := eq_true q389) | ((with_reducible refine gate_dst (N := 5) rfl ?_); refine Own.be (N := 5) (cs := #[.string (⟨#[]⟩ : ByteArray), .int .i64 0, .int .i64 0, .string (⟨#[]⟩ : ByteArray), .int .i64 0, .int .i64 0, .int .i64 0, .string (⟨#[]⟩ : ByteArray), .int .i64 0, .slice none 0 0, .int .i64 0, .string (⟨#[]⟩ : ByteArray)]) (t := 51) ?_; intro gb390 hg w8 hbox hb; have BK390 := Aside0.mk hbox; have GW390 := (Own.gs hg : Aside0 (w.heap.size ≤ gb390)); have GE390 := GW390; have NB388_390 := Own.nl hg BK388.out; have NB390_388 := Aside0.mk NB388_390.out.symm; replace BK388 := Own.bb BK388.out hb; replace HB := Own.bs hb; clear hb hbox hg; have hnb9 := NB390_388.out; have hnc9 := NB388_390.out; obtain ⟨z10_0, z10_1, z10_2, z10_3, z10_4, z10_5, z10_6, z10_7, z10_8, z10_9, z10_10, z10_11, y10_0, y10_1, y10_2, y10_3, y10_4, y10_5, y10_6, y10_7, y10_8, y10_9, y10_10, y10_11⟩ := Own.box12 BK390.out; obtain ⟨z11_0, z11_1, y11_0, y11_1⟩ := Own.box2 BK388.out))
 (try simp only [Own.ps])
 go_cut [40] (fun v40 wc => ∃ (kq : Nat) (x40_4 : Bool), v40 = .bool x40_4 ∧ Aside0 (impl_isClause.j0 kq a1 (wrap64 ((l0_0.length : Int) - 1)) x40_4 l0_0 l0_1 ((rd_T51 l0_1 a1).f0) ((rd_T51 l0_1 a1).f1) ((rd_T51 l0_1 a1).f2) ((rd_T51 l0_1 a1).f3) ((rd_T51 l0_1 a1).f4) ((rd_T51 l0_1 a1).f5) ((rd_T51 l0_1 a1).f6.f0) ((rd_T51 l0_1 a1).f6.f1) ((rd_T51 l0_1 a1).f6.f2) ((rd_T51 l0_1 a1).f6.f3) ((rd_T51 l0_1 a1).f7) ((rd_T51 l0_1 a1).f8) = some r) ∧ Aside0 (kq ≤ k) ∧ Aside0 (wc.heap[gb388]? = some (.cells #[(.slice A0_0 l0_0.length c0_0), (.slice (some ad389) l0_1.length c0_1)] 29 (0, 0))) ∧ Aside0 (wc.heap[gb390]? = some (.cells #[.string ((rd_T51 l0_1 a1).f0), .int .i64 ((rd_T51 l0_1 a1).f1), .int .i64 ((rd_T51 l0_1 a1).f2), .string ((rd_T51 l0_1 a1).f3), .int .i64 ((rd_T51 l0_1 a1).f4), .int .i64 ((rd_T51 l0_1 a1).f5), .int .i64 ((rd_T51 l0_1 a1).f6.f0), .string ((rd_T51 l0_1 a1).f6.f1), .int .i64 ((rd_T51 l0_1 a1).f6.f2), (.slice A389_9 ((rd_T51 l0_1 a1).f6.f3).length c389_9), .int .i64 ((rd_T51 l0_1 a1).f7), .string ((rd_T51 l0_1 a1).f8)] 51 (0, 0))) ∧ Aside0 (Below w.heap.size w wc))
 case first =>
  have H := HC5.out; clear HC5
  replace H := Own.bd H; obtain ⟨t391, A12, H⟩ := H
  replace H := Own.ift H; obtain ⟨rfl, H⟩ | ⟨rfl, H⟩ := H
  ·
   have H' := Aside0.mk H; clear H; have hnb42 := NB390_388.out; have hnc42 := NB388_390.out; obtain ⟨z43_0, z43_1, z43_2, z43_3, z43_4, z43_5, z43_6, z43_7, z43_8, z43_9, z43_10, z43_11, y43_0, y43_1, y43_2, y43_3, y43_4, y43_5, y43_6, y43_7, y43_8, y43_9, y43_10, y43_11⟩ := Own.box12 BK390.out
   go_wp2_with (first | ((with_reducible refine gate_callee (f := 65) rfl ?_); refine goesL_ (some 19) rfl rfl Tryz.func65 (by kernel_rfl) rfl #[.string ((rd_T51 l0_1 a1).f0)] rfl Own.ha ?_; (with_reducible refine (impl_IsValidName.calls k ((rd_T51 l0_1 a1).f0) false _ ?side1 A12.out).mono ?_); (case side1 => exact Own.gl HG.out); rintro e w44 ⟨rfl, hb⟩; refine ⟨_, rfl, ?_⟩; replace BK388 := Own.bb BK388.out hb; replace BK390 := Aside0.mk (blk_below (g := gb390) (o := .cells #[.string ((rd_T51 l0_1 a1).f0), .int .i64 ((rd_T51 l0_1 a1).f1), .int .i64 ((rd_T51 l0_1 a1).f2), .string ((rd_T51 l0_1 a1).f3), .int .i64 ((rd_T51 l0_1 a1).f4), .int .i64 ((rd_T51 l0_1 a1).f5), .int .i64 ((rd_T51 l0_1 a1).f6.f0), .string ((rd_T51 l0_1 a1).f6.f1), .int .i64 ((rd_T51 l0_1 a1).f6.f2), .slice A389_9 ((rd_T51 l0_1 a1).f6.f3).length c389_9, .int .i64 ((rd_T51 l0_1 a1).f7), .string ((rd_T51 l0_1 a1).f8)] 51 (0, 0)) (by (with_reducible repeat (first | refine blk_drewN ?_ _ | refine blk_drew ?_ | refine blk_alloc ?_ _)); with_reducible exact Own.put12 BK390.out) hb); replace HB := Own.bs hb; (try clear hb)))
   go_meet
   case rel => exact ⟨_, (true), Own.rs, H', ⟨by first | omega | exact Nat.le_refl _⟩, ⟨Own.bk⟩, ⟨Own.bk⟩, ⟨Own.bl⟩⟩
  replace H := Own.bd H; obtain ⟨t392, A14, H⟩ := H
  by_cases c15 : t392 = a1
  rotate_left
  ·
   rw [if_neg c15] at H
   have c15b0 : (t392 == a1) = false := beq_eq_false_iff_ne.mpr c15
   have c15b1 : (t392 != a1) = true := bne_iff_ne.mpr c15
   (first | rw [c15b0] | (simp only [i64_w, i32_w]; rw [c15b0]) | skip)
   have H' := Aside0.mk H; clear H; have hnb36 := NB390_388.out; have hnc36 := NB388_390.out; obtain ⟨z37_0, z37_1, z37_2, z37_3, z37_4, z37_5, z37_6, z37_7, z37_8, z37_9, z37_10, z37_11, y37_0, y37_1, y37_2, y37_3, y37_4, y37_5, y37_6, y37_7, y37_8, y37_9, y37_10, y37_11⟩ := Own.box12 BK390.out
   go_wp2_with (first | ((with_reducible refine gate_callee (f := 65) rfl ?_); refine goesL_ (some 19) rfl rfl Tryz.func65 (by kernel_rfl) rfl #[.string ((rd_T51 l0_1 a1).f0)] rfl Own.ha ?_; (with_reducible refine (impl_IsValidName.calls k ((rd_T51 l0_1 a1).f0) true _ ?side1 A12.out).mono ?_); (case side1 => exact Own.gl HG.out); rintro e w38 ⟨rfl, hb⟩; refine ⟨_, rfl, ?_⟩; replace BK388 := Own.bb BK388.out hb; replace BK390 := Aside0.mk (blk_below (g := gb390) (o := .cells #[.string ((rd_T51 l0_1 a1).f0), .int .i64 ((rd_T51 l0_1 a1).f1), .int .i64 ((rd_T51 l0_1 a1).f2), .string ((rd_T51 l0_1 a1).f3), .int .i64 ((rd_T51 l0_1 a1).f4), .int .i64 ((rd_T51 l0_1 a1).f5), .int .i64 ((rd_T51 l0_1 a1).f6.f0), .string ((rd_T51 l0_1 a1).f6.f1), .int .i64 ((rd_T51 l0_1 a1).f6.f2), .slice A389_9 ((rd_T51 l0_1 a1).f6.f3).length c389_9, .int .i64 ((rd_T51 l0_1 a1).f7), .string ((rd_T51 l0_1 a1).f8)] 51 (0, 0)) (by (with_reducible repeat (first | refine blk_drewN ?_ _ | refine blk_drew ?_ | refine blk_alloc ?_ _)); with_reducible exact Own.put12 BK390.out) hb); replace HB := Own.bs hb; (try clear hb); obtain ⟨z39_0, z39_1, y39_0, y39_1⟩ := Own.box2 BK388.out; obtain ⟨z40_0, z40_1, z40_2, z40_3, z40_4, z40_5, z40_6, z40_7, z40_8, z40_9, z40_10, z40_11, y40_0, y40_1, y40_2, y40_3, y40_4, y40_5, y40_6, y40_7, y40_8, y40_9, y40_10, y40_11⟩ := Own.box12 BK390.out) | (go_at_call 36; (with_reducible refine (impl_clauseIndex.calls k _ _ l0_0 _ _ l0_1 ((rd_T51 l0_1 a1).f0) t392 _ ?side1 ?side2 ?side3 ?side4 A14.out).mono ?_); (case side1 => exact Kd.C_below HR0_0.out Own.bl); (case side2 => exact HC0_0.out); (case side3 => exact Kd.C_below HR0_1.out Own.bl); (case side4 => exact HC0_1.out); rintro e w41 ⟨rfl, hb⟩; replace BK388 := Own.bb BK388.out hb; replace BK390 := Own.bb BK390.out hb; replace HB := Own.bs hb; (try clear hb)))
   go_meet
   case rel => exact ⟨_, (true), Own.rs, H', ⟨by first | omega | exact Nat.le_refl _⟩, ⟨Own.bk⟩, ⟨Own.bk⟩, ⟨Own.bl⟩⟩
  rw [if_pos c15] at H
  have c15b0 : (t392 == a1) = true := beq_iff_eq.mpr c15
  have c15b1 : (t392 != a1) = false := bne_eq_false_iff_eq.mpr c15
  clear c15
  (first | rw [c15b0] | (simp only [i64_w, i32_w]; rw [c15b0]) | skip)
  replace H := Own.bd H; obtain ⟨t393, A16, H⟩ := H
  replace H := Own.ifu H; obtain ⟨rfl, H⟩ | ⟨rfl, H⟩ := H
  ·
   replace H := Own.bd H; obtain ⟨t394, A18, H⟩ := H; have H' := Aside0.mk H; clear H; have hnb19 := NB390_388.out; have hnc19 := NB388_390.out; obtain ⟨z20_0, z20_1, z20_2, z20_3, z20_4, z20_5, z20_6, z20_7, z20_8, z20_9, z20_10, z20_11, y20_0, y20_1, y20_2, y20_3, y20_4, y20_5, y20_6, y20_7, y20_8, y20_9, y20_10, y20_11⟩ := Own.box12 BK390.out
   go_wp2_with (first | ((with_reducible refine gate_callee (f := 65) rfl ?_); refine goesL_ (some 19) rfl rfl Tryz.func65 (by kernel_rfl) rfl #[.string ((rd_T51 l0_1 a1).f0)] rfl Own.ha ?_; (with_reducible refine (impl_IsValidName.calls k ((rd_T51 l0_1 a1).f0) true _ ?side1 A12.out).mono ?_); (case side1 => exact Own.gl HG.out); rintro e w21 ⟨rfl, hb⟩; refine ⟨_, rfl, ?_⟩; replace BK388 := Own.bb BK388.out hb; replace BK390 := Aside0.mk (blk_below (g := gb390) (o := .cells #[.string ((rd_T51 l0_1 a1).f0), .int .i64 ((rd_T51 l0_1 a1).f1), .int .i64 ((rd_T51 l0_1 a1).f2), .string ((rd_T51 l0_1 a1).f3), .int .i64 ((rd_T51 l0_1 a1).f4), .int .i64 ((rd_T51 l0_1 a1).f5), .int .i64 ((rd_T51 l0_1 a1).f6.f0), .string ((rd_T51 l0_1 a1).f6.f1), .int .i64 ((rd_T51 l0_1 a1).f6.f2), .slice A389_9 ((rd_T51 l0_1 a1).f6.f3).length c389_9, .int .i64 ((rd_T51 l0_1 a1).f7), .string ((rd_T51 l0_1 a1).f8)] 51 (0, 0)) (by (with_reducible repeat (first | refine blk_drewN ?_ _ | refine blk_drew ?_ | refine blk_alloc ?_ _)); with_reducible exact Own.put12 BK390.out) hb); replace HB := Own.bs hb; (try clear hb); obtain ⟨z22_0, z22_1, y22_0, y22_1⟩ := Own.box2 BK388.out; obtain ⟨z23_0, z23_1, z23_2, z23_3, z23_4, z23_5, z23_6, z23_7, z23_8, z23_9, z23_10, z23_11, y23_0, y23_1, y23_2, y23_3, y23_4, y23_5, y23_6, y23_7, y23_8, y23_9, y23_10, y23_11⟩ := Own.box12 BK390.out) | (go_at_call 36; (with_reducible refine (impl_clauseIndex.calls k _ _ l0_0 _ _ l0_1 ((rd_T51 l0_1 a1).f0) t392 _ ?side1 ?side2 ?side3 ?side4 A14.out).mono ?_); (case side1 => exact Kd.C_below HR0_0.out Own.bl); (case side2 => exact HC0_0.out); (case side3 => exact Kd.C_below HR0_1.out Own.bl); (case side4 => exact HC0_1.out); rintro e w24 ⟨rfl, hb⟩; replace BK388 := Own.bb BK388.out hb; replace BK390 := Own.bb BK390.out hb; replace HB := Own.bs hb; (try clear hb); obtain ⟨z25_0, z25_1, z25_2, z25_3, z25_4, z25_5, z25_6, z25_7, z25_8, z25_9, z25_10, z25_11, y25_0, y25_1, y25_2, y25_3, y25_4, y25_5, y25_6, y25_7, y25_8, y25_9, y25_10, y25_11⟩ := Own.box12 BK390.out) | (go_at_call 65; (with_reducible refine (impl_IsValidName.calls k ((rd_T51 l0_1 a1).f3) true _ ?side1 A16.out).mono ?_); (case side1 => exact Own.gl HG.out); rintro e w26 ⟨rfl, hb⟩; replace BK388 := Own.bb BK388.out hb; replace BK390 := Own.bb BK390.out hb; replace HB := Own.bs hb; (try clear hb); obtain ⟨z27_0, z27_1, z27_2, z27_3, z27_4, z27_5, z27_6, z27_7, z27_8, z27_9, z27_10, z27_11, y27_0, y27_1, y27_2, y27_3, y27_4, y27_5, y27_6, y27_7, y27_8, y27_9, y27_10, y27_11⟩ := Own.box12 BK390.out) | (go_at_call 56; (with_reducible refine (impl_within.calls ((rd_T51 l0_1 a1).f1) 1 4 t394 _ A18.out).mono ?_); rintro e w' ⟨rfl, ⟨nd, rfl⟩⟩))
   go_meet
   case rel => exact ⟨_, (!t394), Own.rs, H', ⟨by first | omega | exact Nat.le_refl _⟩, ⟨Own.bk⟩, ⟨Own.bk⟩, ⟨Own.bl⟩⟩
  have H' := Aside0.mk H; clear H; have hnb28 := NB390_388.out; have hnc28 := NB388_390.out; obtain ⟨z29_0, z29_1, z29_2, z29_3, z29_4, z29_5, z29_6, z29_7, z29_8, z29_9, z29_10, z29_11, y29_0, y29_1, y29_2, y29_3, y29_4, y29_5, y29_6, y29_7, y29_8, y29_9, y29_10, y29_11⟩ := Own.box12 BK390.out
  go_wp2_with (first | ((with_reducible refine gate_callee (f := 65) rfl ?_); refine goesL_ (some 19) rfl rfl Tryz.func65 (by kernel_rfl) rfl #[.string ((rd_T51 l0_1 a1).f0)] rfl Own.ha ?_; (with_reducible refine (impl_IsValidName.calls k ((rd_T51 l0_1 a1).f0) true _ ?side1 A12.out).mono ?_); (case side1 => exact Own.gl HG.out); rintro e w30 ⟨rfl, hb⟩; refine ⟨_, rfl, ?_⟩; replace BK388 := Own.bb BK388.out hb; replace BK390 := Aside0.mk (blk_below (g := gb390) (o := .cells #[.string ((rd_T51 l0_1 a1).f0), .int .i64 ((rd_T51 l0_1 a1).f1), .int .i64 ((rd_T51 l0_1 a1).f2), .string ((rd_T51 l0_1 a1).f3), .int .i64 ((rd_T51 l0_1 a1).f4), .int .i64 ((rd_T51 l0_1 a1).f5), .int .i64 ((rd_T51 l0_1 a1).f6.f0), .string ((rd_T51 l0_1 a1).f6.f1), .int .i64 ((rd_T51 l0_1 a1).f6.f2), .slice A389_9 ((rd_T51 l0_1 a1).f6.f3).length c389_9, .int .i64 ((rd_T51 l0_1 a1).f7), .string ((rd_T51 l0_1 a1).f8)] 51 (0, 0)) (by (with_reducible repeat (first | refine blk_drewN ?_ _ | refine blk_drew ?_ | refine blk_alloc ?_ _)); with_reducible exact Own.put12 BK390.out) hb); replace HB := Own.bs hb; (try clear hb); obtain ⟨z31_0, z31_1, y31_0, y31_1⟩ := Own.box2 BK388.out; obtain ⟨z32_0, z32_1, z32_2, z32_3, z32_4, z32_5, z32_6, z32_7, z32_8, z32_9, z32_10, z32_11, y32_0, y32_1, y32_2, y32_3, y32_4, y32_5, y32_6, y32_7, y32_8, y32_9, y32_10, y32_11⟩ := Own.box12 BK390.out) | (go_at_call 36; (with_reducible refine (impl_clauseIndex.calls k _ _ l0_0 _ _ l0_1 ((rd_T51 l0_1 a1).f0) t392 _ ?side1 ?side2 ?side3 ?side4 A14.out).mono ?_); (case side1 => exact Kd.C_below HR0_0.out Own.bl); (case side2 => exact HC0_0.out); (case side3 => exact Kd.C_below HR0_1.out Own.bl); (case side4 => exact HC0_1.out); rintro e w33 ⟨rfl, hb⟩; replace BK388 := Own.bb BK388.out hb; replace BK390 := Own.bb BK390.out hb; replace HB := Own.bs hb; (try clear hb); obtain ⟨z34_0, z34_1, z34_2, z34_3, z34_4, z34_5, z34_6, z34_7, z34_8, z34_9, z34_10, z34_11, y34_0, y34_1, y34_2, y34_3, y34_4, y34_5, y34_6, y34_7, y34_8, y34_9, y34_10, y34_11⟩ := Own.box12 BK390.out) | (go_at_call 65; (with_reducible refine (impl_IsValidName.calls k ((rd_T51 l0_1 a1).f3) false _ ?side1 A16.out).mono ?_); (case side1 => exact Own.gl HG.out); rintro e w35 ⟨rfl, hb⟩; replace BK388 := Own.bb BK388.out hb; replace BK390 := Own.bb BK390.out hb; replace HB := Own.bs hb; (try clear hb)))
  go_meet
  case rel => exact ⟨_, (true), Own.rs, H', ⟨by first | omega | exact Nat.le_refl _⟩, ⟨Own.bk⟩, ⟨Own.bk⟩, ⟨Own.bl⟩⟩
 case rest =>
  clear HC5; try clear c3; try clear c4; try clear z10_0 z10_1 z10_10 z10_11 z10_2 z10_3 z10_4 z10_5 z10_6 z10_7 z10_8 z10_9; try clear z11_0 z11_1; try clear z7_0 z7_1; try clear y10_0 y10_1 y10_10 y10_11 y10_2 y10_3 y10_4 y10_5 y10_6 y10_7 y10_8 y10_9; try clear y11_0 y11_1; try clear y7_0 y7_1; try clear hx389_0; try clear hx389_1; try clear hx389_10; try clear hx389_11; try clear hx389_2; try clear hx389_3; try clear hx389_4; try clear hx389_5; try clear hx389_6; try clear hx389_7; try clear hx389_8; try clear hx389_9; try clear p389; try clear q389
  obtain ⟨kq, x40_4, rfl, HA, HJ4, BK388, BK390, HB⟩ := hcut
  cases kq with
  | zero => exact absurd HA.out (by simp [impl_isClause.j0])
  | succ kj4 =>
   have H := HA.out; clear HA
   simp only [impl_isClause.j0] at H
   replace H := Own.ifu H; obtain ⟨rfl, H⟩ | ⟨rfl, H⟩ := H
   ·
    obtain rfl := Option.some.inj H
    go_wp2
    go_ret
    exact ⟨Own.rr, Own.bl⟩
   have HC46 := Aside0.mk H; clear H
   go_upto_region 5 with (fail)
   go_cut [65] (fun v65 wc => ∃ (kq : Nat) (x65_45 : Bool), v65 = .bool x65_45 ∧ Aside0 (impl_isClause.j1 kq a1 x65_45 l0_0 l0_1 ((rd_T51 l0_1 a1).f0) ((rd_T51 l0_1 a1).f1) ((rd_T51 l0_1 a1).f2) ((rd_T51 l0_1 a1).f3) ((rd_T51 l0_1 a1).f4) ((rd_T51 l0_1 a1).f5) ((rd_T51 l0_1 a1).f6.f0) ((rd_T51 l0_1 a1).f6.f1) ((rd_T51 l0_1 a1).f6.f2) ((rd_T51 l0_1 a1).f6.f3) ((rd_T51 l0_1 a1).f7) ((rd_T51 l0_1 a1).f8) = some r) ∧ Aside0 (kq ≤ kj4) ∧ Aside0 (wc.heap[gb388]? = some (.cells #[(.slice A0_0 l0_0.length c0_0), (.slice (some ad389) l0_1.length c0_1)] 29 (0, 0))) ∧ Aside0 (wc.heap[gb390]? = some (.cells #[.string ((rd_T51 l0_1 a1).f0), .int .i64 ((rd_T51 l0_1 a1).f1), .int .i64 ((rd_T51 l0_1 a1).f2), .string ((rd_T51 l0_1 a1).f3), .int .i64 ((rd_T51 l0_1 a1).f4), .int .i64 ((rd_T51 l0_1 a1).f5), .int .i64 ((rd_T51 l0_1 a1).f6.f0), .string ((rd_T51 l0_1 a1).f6.f1), .int .i64 ((rd_T51 l0_1 a1).f6.f2), (.slice A389_9 ((rd_T51 l0_1 a1).f6.f3).length c389_9), .int .i64 ((rd_T51 l0_1 a1).f7), .string ((rd_T51 l0_1 a1).f8)] 51 (0, 0))) ∧ Aside0 (Below w.heap.size w wc))
   case first =>
    have H := HC46.out; clear HC46
    replace H := Own.bd H; obtain ⟨t395, A47, H⟩ := H
    replace H := Own.ift H; obtain ⟨rfl, H⟩ | ⟨rfl, H⟩ := H
    ·
     have H' := Aside0.mk H; clear H; have hnb60 := NB390_388.out; have hnc60 := NB388_390.out; obtain ⟨z61_0, z61_1, z61_2, z61_3, z61_4, z61_5, z61_6, z61_7, z61_8, z61_9, z61_10, z61_11, y61_0, y61_1, y61_2, y61_3, y61_4, y61_5, y61_6, y61_7, y61_8, y61_9, y61_10, y61_11⟩ := Own.box12 BK390.out
     go_wp2_with (first | ((with_reducible refine gate_callee (f := 56) rfl ?_); refine goesL_ (some 44) rfl rfl Tryz.func56 (by kernel_rfl) rfl #[.int .i64 ((rd_T51 l0_1 a1).f2), .int .i64 0, .int .i64 (wrap64 ((l0_0.length : Int) - 1))] rfl Own.ha ?_; (with_reducible refine (impl_within.calls ((rd_T51 l0_1 a1).f2) 0 (wrap64 ((l0_0.length : Int) - 1)) false _ A47.out).mono ?_); rintro e w' ⟨rfl, ⟨nd, rfl⟩⟩; refine ⟨_, rfl, ?_⟩))
     go_meet
     case rel => exact ⟨_, (true), Own.rs, H', ⟨by have := HJ4.out; first | omega | exact Nat.le_refl _⟩, ⟨Own.bk⟩, ⟨Own.bk⟩, ⟨Own.bl⟩⟩
    replace H := Own.bd H; obtain ⟨t396, A49, H⟩ := H
    replace H := Own.ift H; obtain ⟨rfl, H⟩ | ⟨rfl, H⟩ := H
    ·
     have H' := Aside0.mk H; clear H; have hnb58 := NB390_388.out; have hnc58 := NB388_390.out; obtain ⟨z59_0, z59_1, z59_2, z59_3, z59_4, z59_5, z59_6, z59_7, z59_8, z59_9, z59_10, z59_11, y59_0, y59_1, y59_2, y59_3, y59_4, y59_5, y59_6, y59_7, y59_8, y59_9, y59_10, y59_11⟩ := Own.box12 BK390.out
     go_wp2_with (first | ((with_reducible refine gate_callee (f := 56) rfl ?_); refine goesL_ (some 44) rfl rfl Tryz.func56 (by kernel_rfl) rfl #[.int .i64 ((rd_T51 l0_1 a1).f2), .int .i64 0, .int .i64 (wrap64 ((l0_0.length : Int) - 1))] rfl Own.ha ?_; (with_reducible refine (impl_within.calls ((rd_T51 l0_1 a1).f2) 0 (wrap64 ((l0_0.length : Int) - 1)) true _ A47.out).mono ?_); rintro e w' ⟨rfl, ⟨nd, rfl⟩⟩; refine ⟨_, rfl, ?_⟩) | (go_at_call 56; (with_reducible refine (impl_within.calls ((rd_T51 l0_1 a1).f4) 0 (wrap64 ((l0_0.length : Int) - 1)) false _ A49.out).mono ?_); rintro e w' ⟨rfl, ⟨nd, rfl⟩⟩))
     go_meet
     case rel => exact ⟨_, (true), Own.rs, H', ⟨by have := HJ4.out; first | omega | exact Nat.le_refl _⟩, ⟨Own.bk⟩, ⟨Own.bk⟩, ⟨Own.bl⟩⟩
    by_cases c51 : ((rd_T51 l0_1 a1).f2) = ((rd_T51 l0_1 a1).f4)
    ·
     rw [if_pos c51] at H
     have c51b0 : (((rd_T51 l0_1 a1).f2) == ((rd_T51 l0_1 a1).f4)) = true := beq_iff_eq.mpr c51
     have c51b1 : (((rd_T51 l0_1 a1).f2) != ((rd_T51 l0_1 a1).f4)) = false := bne_eq_false_iff_eq.mpr c51
     clear c51
     (first | rw [c51b0] | (simp only [i64_w, i32_w]; rw [c51b0]) | skip)
     have H' := Aside0.mk H; clear H; have hnb52 := NB390_388.out; have hnc52 := NB388_390.out; obtain ⟨z53_0, z53_1, z53_2, z53_3, z53_4, z53_5, z53_6, z53_7, z53_8, z53_9, z53_10, z53_11, y53_0, y53_1, y53_2, y53_3, y53_4, y53_5, y53_6, y53_7, y53_8, y53_9, y53_10, y53_11⟩ := Own.box12 BK390.out
     go_wp2_with (first | ((with_reducible refine gate_callee (f := 56) rfl ?_); refine goesL_ (some 44) rfl rfl Tryz.func56 (by kernel_rfl) rfl #[.int .i64 ((rd_T51 l0_1 a1).f2), .int .i64 0, .int .i64 (wrap64 ((l0_0.length : Int) - 1))] rfl Own.ha ?_; (with_reducible refine (impl_within.calls ((rd_T51 l0_1 a1).f2) 0 (wrap64 ((l0_0.length : Int) - 1)) true _ A47.out).mono ?_); rintro e w' ⟨rfl, ⟨nd, rfl⟩⟩; refine ⟨_, rfl, ?_⟩) | (go_at_call 56; (with_reducible refine (impl_within.calls ((rd_T51 l0_1 a1).f4) 0 (wrap64 ((l0_0.length : Int) - 1)) true _ A49.out).mono ?_); rintro e w' ⟨rfl, ⟨nd, rfl⟩⟩))
     go_meet
     case rel => exact ⟨_, (true), Own.rs, H', ⟨by have := HJ4.out; first | omega | exact Nat.le_refl _⟩, ⟨Own.bk⟩, ⟨Own.bk⟩, ⟨Own.bl⟩⟩
    rw [if_neg c51] at H
    have c51b0 : (((rd_T51 l0_1 a1).f2) == ((rd_T51 l0_1 a1).f4)) = false := beq_eq_false_iff_ne.mpr c51
    have c51b1 : (((rd_T51 l0_1 a1).f2) != ((rd_T51 l0_1 a1).f4)) = true := bne_iff_ne.mpr c51
    (first | rw [c51b0] | (simp only [i64_w, i32_w]; rw [c51b0]) | skip)
    replace H := Own.bd H; obtain ⟨t397, A54, H⟩ := H; have H' := Aside0.mk H; clear H; have hnb55 := NB390_388.out; have hnc55 := NB388_390.out; obtain ⟨z56_0, z56_1, z56_2, z56_3, z56_4, z56_5, z56_6, z56_7, z56_8, z56_9, z56_10, z56_11, y56_0, y56_1, y56_2, y56_3, y56_4, y56_5, y56_6, y56_7, y56_8, y56_9, y56_10, y56_11⟩ := Own.box12 BK390.out
    go_wp2_with (first | ((with_reducible refine gate_callee (f := 56) rfl ?_); refine goesL_ (some 44) rfl rfl Tryz.func56 (by kernel_rfl) rfl #[.int .i64 ((rd_T51 l0_1 a1).f2), .int .i64 0, .int .i64 (wrap64 ((l0_0.length : Int) - 1))] rfl Own.ha ?_; (with_reducible refine (impl_within.calls ((rd_T51 l0_1 a1).f2) 0 (wrap64 ((l0_0.length : Int) - 1)) true _ A47.out).mono ?_); rintro e w' ⟨rfl, ⟨nd, rfl⟩⟩; refine ⟨_, rfl, ?_⟩) | (go_at_call 56; (with_reducible refine (impl_within.calls ((rd_T51 l0_1 a1).f4) 0 (wrap64 ((l0_0.length : Int) - 1)) true _ A49.out).mono ?_); rintro e w' ⟨rfl, ⟨nd, rfl⟩⟩) | (go_at_call 67; (with_reducible refine (impl_IsValidCondition.calls kj4 ((rd_T51 l0_1 a1).f6.f0) ((rd_T51 l0_1 a1).f6.f1) ((rd_T51 l0_1 a1).f6.f2) _ _ ((rd_T51 l0_1 a1).f6.f3) t397 _ ?side1 ?side2 ?side3 A54.out).mono ?_); (case side1 => exact Kd.C_below HR389_9.out Own.bl); (case side2 => exact HC389_9.out); (case side3 => exact Own.gl HG.out); rintro e w57 ⟨rfl, hb⟩; replace BK388 := Own.bb BK388.out hb; replace BK390 := Own.bb BK390.out hb; replace HB := Own.bs hb; (try clear hb)))
    go_meet
    case rel => exact ⟨_, (!t397), Own.rs, H', ⟨by have := HJ4.out; first | omega | exact Nat.le_refl _⟩, ⟨Own.bk⟩, ⟨Own.bk⟩, ⟨Own.bl⟩⟩
   case rest =>
    clear HC46; try clear c3; try clear c4; try clear z10_0 z10_1 z10_10 z10_11 z10_2 z10_3 z10_4 z10_5 z10_6 z10_7 z10_8 z10_9; try clear z11_0 z11_1; try clear z7_0 z7_1; try clear y10_0 y10_1 y10_10 y10_11 y10_2 y10_3 y10_4 y10_5 y10_6 y10_7 y10_8 y10_9; try clear y11_0 y11_1; try clear y7_0 y7_1; try clear hx389_0; try clear hx389_1; try clear hx389_10; try clear hx389_11; try clear hx389_2; try clear hx389_3; try clear hx389_4; try clear hx389_5; try clear hx389_6; try clear hx389_7; try clear hx389_8; try clear hx389_9; try clear p389; try clear q389
    obtain ⟨kq, x65_45, rfl, HA, HJ45, BK388, BK390, HB⟩ := hcut
    cases kq with
    | zero => exact absurd HA.out (by simp [impl_isClause.j1])
    | succ kj45 =>
     have H := HA.out; clear HA
     simp only [impl_isClause.j1] at H
     replace H := Own.ifu H; obtain ⟨rfl, H⟩ | ⟨rfl, H⟩ := H
     ·
      obtain rfl := Option.some.inj H
      go_wp2
      go_ret
      exact ⟨Own.rr, Own.bl⟩
     have HC63 := Aside0.mk H; clear H
     go_upto_region 7 with (fail)
     go_cut [90] (fun v90 wc => ∃ (kq : Nat) (x90_62 : Bool), v90 = .bool x90_62 ∧ Aside0 (impl_isClause.j2 kq a1 x90_62 l0_0 l0_1 ((rd_T51 l0_1 a1).f0) ((rd_T51 l0_1 a1).f1) ((rd_T51 l0_1 a1).f2) ((rd_T51 l0_1 a1).f3) ((rd_T51 l0_1 a1).f4) ((rd_T51 l0_1 a1).f5) ((rd_T51 l0_1 a1).f6.f0) ((rd_T51 l0_1 a1).f6.f1) ((rd_T51 l0_1 a1).f6.f2) ((rd_T51 l0_1 a1).f6.f3) ((rd_T51 l0_1 a1).f7) ((rd_T51 l0_1 a1).f8) = some r) ∧ Aside0 (kq ≤ kj45) ∧ Aside0 (wc.heap[gb388]? = some (.cells #[(.slice A0_0 l0_0.length c0_0), (.slice (some ad389) l0_1.length c0_1)] 29 (0, 0))) ∧ Aside0 (wc.heap[gb390]? = some (.cells #[.string ((rd_T51 l0_1 a1).f0), .int .i64 ((rd_T51 l0_1 a1).f1), .int .i64 ((rd_T51 l0_1 a1).f2), .string ((rd_T51 l0_1 a1).f3), .int .i64 ((rd_T51 l0_1 a1).f4), .int .i64 ((rd_T51 l0_1 a1).f5), .int .i64 ((rd_T51 l0_1 a1).f6.f0), .string ((rd_T51 l0_1 a1).f6.f1), .int .i64 ((rd_T51 l0_1 a1).f6.f2), (.slice A389_9 ((rd_T51 l0_1 a1).f6.f3).length c389_9), .int .i64 ((rd_T51 l0_1 a1).f7), .string ((rd_T51 l0_1 a1).f8)] 51 (0, 0))) ∧ Aside0 (Below w.heap.size w wc))
     case first =>
      have H := HC63.out; clear HC63
      replace H := Own.bd H; obtain ⟨t398, A64, H⟩ := H
      replace H := Own.ift H; obtain ⟨rfl, H⟩ | ⟨rfl, H⟩ := H
      ·
       have H' := Aside0.mk H; clear H; have hnb78 := NB390_388.out; have hnc78 := NB388_390.out; obtain ⟨z79_0, z79_1, z79_2, z79_3, z79_4, z79_5, z79_6, z79_7, z79_8, z79_9, z79_10, z79_11, y79_0, y79_1, y79_2, y79_3, y79_4, y79_5, y79_6, y79_7, y79_8, y79_9, y79_10, y79_11⟩ := Own.box12 BK390.out
       go_wp2_with (first | ((with_reducible refine gate_callee (f := 56) rfl ?_); refine goesL_ (some 68) rfl rfl Tryz.func56 (by kernel_rfl) rfl #[.int .i64 ((rd_T51 l0_1 a1).f5), .int .i64 0, .int .i64 1000000] rfl Own.ha ?_; (with_reducible refine (impl_within.calls ((rd_T51 l0_1 a1).f5) 0 1000000 false _ A64.out).mono ?_); rintro e w' ⟨rfl, ⟨nd, rfl⟩⟩; refine ⟨_, rfl, ?_⟩))
       go_meet
       case rel => exact ⟨_, (true), Own.rs, H', ⟨by have := HJ4.out; have := HJ45.out; first | omega | exact Nat.le_refl _⟩, ⟨Own.bk⟩, ⟨Own.bk⟩, ⟨Own.bl⟩⟩
      replace H := Own.bd H; obtain ⟨t399, A66, H⟩ := H
      replace H := Own.ift H; obtain ⟨rfl, H⟩ | ⟨rfl, H⟩ := H
      ·
       have H' := Aside0.mk H; clear H; have hnb76 := NB390_388.out; have hnc76 := NB388_390.out; obtain ⟨z77_0, z77_1, z77_2, z77_3, z77_4, z77_5, z77_6, z77_7, z77_8, z77_9, z77_10, z77_11, y77_0, y77_1, y77_2, y77_3, y77_4, y77_5, y77_6, y77_7, y77_8, y77_9, y77_10, y77_11⟩ := Own.box12 BK390.out
       go_wp2_with (first | ((with_reducible refine gate_callee (f := 56) rfl ?_); refine goesL_ (some 68) rfl rfl Tryz.func56 (by kernel_rfl) rfl #[.int .i64 ((rd_T51 l0_1 a1).f5), .int .i64 0, .int .i64 1000000] rfl Own.ha ?_; (with_reducible refine (impl_within.calls ((rd_T51 l0_1 a1).f5) 0 1000000 true _ A64.out).mono ?_); rintro e w' ⟨rfl, ⟨nd, rfl⟩⟩; refine ⟨_, rfl, ?_⟩) | (go_at_call 56; (with_reducible refine (impl_within.calls ((rd_T51 l0_1 a1).f7) 0 400 false _ A66.out).mono ?_); rintro e w' ⟨rfl, ⟨nd, rfl⟩⟩))
       go_meet
       case rel => exact ⟨_, (true), Own.rs, H', ⟨by have := HJ4.out; have := HJ45.out; first | omega | exact Nat.le_refl _⟩, ⟨Own.bk⟩, ⟨Own.bk⟩, ⟨Own.bl⟩⟩
      by_cases c68 : ((rd_T51 l0_1 a1).f1) = 1
      ·
       rw [if_pos c68] at H
       have c68b0 : (((rd_T51 l0_1 a1).f1) == 1) = true := beq_iff_eq.mpr c68
       have c68b1 : (((rd_T51 l0_1 a1).f1) != 1) = false := bne_eq_false_iff_eq.mpr c68
       clear c68
       (first | rw [c68b0] | (simp only [i64_w, i32_w]; rw [c68b0]) | skip)
       have H' := Aside0.mk H; clear H; have hnb69 := NB390_388.out; have hnc69 := NB388_390.out; obtain ⟨z70_0, z70_1, z70_2, z70_3, z70_4, z70_5, z70_6, z70_7, z70_8, z70_9, z70_10, z70_11, y70_0, y70_1, y70_2, y70_3, y70_4, y70_5, y70_6, y70_7, y70_8, y70_9, y70_10, y70_11⟩ := Own.box12 BK390.out
       go_wp2_with (first | ((with_reducible refine gate_callee (f := 56) rfl ?_); refine goesL_ (some 68) rfl rfl Tryz.func56 (by kernel_rfl) rfl #[.int .i64 ((rd_T51 l0_1 a1).f5), .int .i64 0, .int .i64 1000000] rfl Own.ha ?_; (with_reducible refine (impl_within.calls ((rd_T51 l0_1 a1).f5) 0 1000000 true _ A64.out).mono ?_); rintro e w' ⟨rfl, ⟨nd, rfl⟩⟩; refine ⟨_, rfl, ?_⟩) | (go_at_call 56; (with_reducible refine (impl_within.calls ((rd_T51 l0_1 a1).f7) 0 400 true _ A66.out).mono ?_); rintro e w' ⟨rfl, ⟨nd, rfl⟩⟩))
       go_meet
       case rel => exact ⟨_, (false), Own.rs, H', ⟨by have := HJ4.out; have := HJ45.out; first | omega | exact Nat.le_refl _⟩, ⟨Own.bk⟩, ⟨Own.bk⟩, ⟨Own.bl⟩⟩
      rw [if_neg c68] at H
      have c68b0 : (((rd_T51 l0_1 a1).f1) == 1) = false := beq_eq_false_iff_ne.mpr c68
      have c68b1 : (((rd_T51 l0_1 a1).f1) != 1) = true := bne_iff_ne.mpr c68
      (first | rw [c68b0] | (simp only [i64_w, i32_w]; rw [c68b0]) | skip)
      by_cases c71 : ((rd_T51 l0_1 a1).f5) = 0
      rotate_left
      ·
       rw [if_neg c71] at H
       have c71b0 : (((rd_T51 l0_1 a1).f5) == 0) = false := beq_eq_false_iff_ne.mpr c71
       have c71b1 : (((rd_T51 l0_1 a1).f5) != 0) = true := bne_iff_ne.mpr c71
       have H' := Aside0.mk H; clear H; have hnb74 := NB390_388.out; have hnc74 := NB388_390.out; obtain ⟨z75_0, z75_1, z75_2, z75_3, z75_4, z75_5, z75_6, z75_7, z75_8, z75_9, z75_10, z75_11, y75_0, y75_1, y75_2, y75_3, y75_4, y75_5, y75_6, y75_7, y75_8, y75_9, y75_10, y75_11⟩ := Own.box12 BK390.out
       go_wp2_with (first | ((with_reducible refine gate_callee (f := 56) rfl ?_); refine goesL_ (some 68) rfl rfl Tryz.func56 (by kernel_rfl) rfl #[.int .i64 ((rd_T51 l0_1 a1).f5), .int .i64 0, .int .i64 1000000] rfl Own.ha ?_; (with_reducible refine (impl_within.calls ((rd_T51 l0_1 a1).f5) 0 1000000 true _ A64.out).mono ?_); rintro e w' ⟨rfl, ⟨nd, rfl⟩⟩; refine ⟨_, rfl, ?_⟩) | (go_at_call 56; (with_reducible refine (impl_within.calls ((rd_T51 l0_1 a1).f7) 0 400 true _ A66.out).mono ?_); rintro e w' ⟨rfl, ⟨nd, rfl⟩⟩))
       go_meet
       case rel => exact ⟨_, (true), Own.rs, H', ⟨by have := HJ4.out; have := HJ45.out; first | omega | exact Nat.le_refl _⟩, ⟨Own.bk⟩, ⟨Own.bk⟩, ⟨Own.bl⟩⟩
      rw [if_pos c71] at H
      have c71b0 : (((rd_T51 l0_1 a1).f5) == 0) = true := beq_iff_eq.mpr c71
      have c71b1 : (((rd_T51 l0_1 a1).f5) != 0) = false := bne_eq_false_iff_eq.mpr c71
      clear c71; have H' := Aside0.mk H; clear H; have hnb72 := NB390_388.out; have hnc72 := NB388_390.out; obtain ⟨z73_0, z73_1, z73_2, z73_3, z73_4, z73_5, z73_6, z73_7, z73_8, z73_9, z73_10, z73_11, y73_0, y73_1, y73_2, y73_3, y73_4, y73_5, y73_6, y73_7, y73_8, y73_9, y73_10, y73_11⟩ := Own.box12 BK390.out
      go_wp2_with (first | ((with_reducible refine gate_callee (f := 56) rfl ?_); refine goesL_ (some 68) rfl rfl Tryz.func56 (by kernel_rfl) rfl #[.int .i64 ((rd_T51 l0_1 a1).f5), .int .i64 0, .int .i64 1000000] rfl Own.ha ?_; (with_reducible refine (impl_within.calls ((rd_T51 l0_1 a1).f5) 0 1000000 true _ A64.out).mono ?_); rintro e w' ⟨rfl, ⟨nd, rfl⟩⟩; refine ⟨_, rfl, ?_⟩) | (go_at_call 56; (with_reducible refine (impl_within.calls ((rd_T51 l0_1 a1).f7) 0 400 true _ A66.out).mono ?_); rintro e w' ⟨rfl, ⟨nd, rfl⟩⟩))
      go_meet
      case rel => exact ⟨_, ((((rd_T51 l0_1 a1).f7) != 0)), Own.rs, H', ⟨by have := HJ4.out; have := HJ45.out; first | omega | exact Nat.le_refl _⟩, ⟨Own.bk⟩, ⟨Own.bk⟩, ⟨Own.bl⟩⟩
     case rest =>
      clear HC63; try clear c3; try clear z7_0 z7_1; try clear y10_0 y10_1 y10_10 y10_11 y10_2 y10_3 y10_4 y10_5 y10_6 y10_7 y10_8 y10_9; try clear y11_0 y11_1; try clear y7_0 y7_1; try clear hx389_0; try clear hx389_1; try clear hx389_10; try clear hx389_11; try clear hx389_2; try clear hx389_3; try clear hx389_4; try clear hx389_5; try clear hx389_6; try clear hx389_7; try clear hx389_8; try clear hx389_9; try clear p389; try clear q389
      obtain ⟨kq, x90_62, rfl, HA, HJ62, BK388, BK390, HB⟩ := hcut
      cases kq with
      | zero => exact absurd HA.out (by simp [impl_isClause.j2])
      | succ kj62 =>
       have H := HA.out; clear HA
       simp only [impl_isClause.j2] at H
       replace H := Own.ifu H; obtain ⟨rfl, H⟩ | ⟨rfl, H⟩ := H
       ·
        obtain rfl := Option.some.inj H
        go_wp2
        go_ret
        exact ⟨Own.rr, Own.bl⟩
       by_cases c81 : ((rd_T51 l0_1 a1).f8).toList = ([] : List UInt8)
       ·
        rw [if_pos c81] at H
        have c81b0 : (((rd_T51 l0_1 a1).f8).toList == ([] : List UInt8)) = true := beq_iff_eq.mpr c81
        have c81b1 : (((rd_T51 l0_1 a1).f8).toList != ([] : List UInt8)) = false := bne_eq_false_iff_eq.mpr c81
        clear c81; obtain rfl := Option.some.inj H; have hnb82 := NB390_388.out; have hnc82 := NB388_390.out; obtain ⟨z83_0, z83_1, z83_2, z83_3, z83_4, z83_5, z83_6, z83_7, z83_8, z83_9, z83_10, z83_11, y83_0, y83_1, y83_2, y83_3, y83_4, y83_5, y83_6, y83_7, y83_8, y83_9, y83_10, y83_11⟩ := Own.box12 BK390.out
        go_wp2
        go_ret
        exact ⟨Own.rr, Own.bl⟩
       rw [if_neg c81] at H
       have c81b0 : (((rd_T51 l0_1 a1).f8).toList == ([] : List UInt8)) = false := beq_eq_false_iff_ne.mpr c81
       have c81b1 : (((rd_T51 l0_1 a1).f8).toList != ([] : List UInt8)) = true := bne_iff_ne.mpr c81
       replace H := Own.bd H; obtain ⟨t400, A84, H⟩ := H
       by_cases c85 : ((rd_T51 l0_1 a1).f1) = 3
       ·
        rw [if_pos c85] at H
        have c85b0 : (((rd_T51 l0_1 a1).f1) == 3) = true := beq_iff_eq.mpr c85
        have c85b1 : (((rd_T51 l0_1 a1).f1) != 3) = false := bne_eq_false_iff_eq.mpr c85
        clear c85; obtain rfl := Option.some.inj H; have hnb86 := NB390_388.out; have hnc86 := NB388_390.out; obtain ⟨z87_0, z87_1, z87_2, z87_3, z87_4, z87_5, z87_6, z87_7, z87_8, z87_9, z87_10, z87_11, y87_0, y87_1, y87_2, y87_3, y87_4, y87_5, y87_6, y87_7, y87_8, y87_9, y87_10, y87_11⟩ := Own.box12 BK390.out; obtain ⟨z88_0, z88_1, y88_0, y88_1⟩ := Own.box2 BK388.out
        go_wp2_with (first | ((with_reducible refine gate_callee (f := 36) rfl ?_); refine goesL_ (some 97) rfl rfl Tryz.func36 (by kernel_rfl) rfl #[.agg #[.slice A0_0 l0_0.length c0_0, .slice (some ad389) l0_1.length c0_1], .string ((rd_T51 l0_1 a1).f8)] rfl Own.ha ?_; (with_reducible refine (impl_clauseIndex.calls kj62 _ _ l0_0 _ _ l0_1 ((rd_T51 l0_1 a1).f8) t400 _ ?side1 ?side2 ?side3 ?side4 A84.out).mono ?_); (case side1 => exact Kd.C_below HR0_0.out Own.bl); (case side2 => exact HC0_0.out); (case side3 => exact Kd.C_below HR0_1.out Own.bl); (case side4 => exact HC0_1.out); rintro e w89 ⟨rfl, hb⟩; refine ⟨_, rfl, ?_⟩; replace BK388 := Own.bb BK388.out hb; replace BK390 := Own.bb BK390.out hb; replace HB := Own.bs hb; (try clear hb); obtain ⟨z90_0, z90_1, z90_2, z90_3, z90_4, z90_5, z90_6, z90_7, z90_8, z90_9, z90_10, z90_11, y90_0, y90_1, y90_2, y90_3, y90_4, y90_5, y90_6, y90_7, y90_8, y90_9, y90_10, y90_11⟩ := Own.box12 BK390.out))
        go_ret
        exact ⟨Own.rr, Own.bl⟩
       rw [if_neg c85] at H
       have c85b0 : (((rd_T51 l0_1 a1).f1) == 3) = false := beq_eq_false_iff_ne.mpr c85
       have c85b1 : (((rd_T51 l0_1 a1).f1) != 3) = true := bne_iff_ne.mpr c85
       by_cases c91 : t400 ≥ 0
       rotate_left
       ·
        rw [if_neg c91] at H
        have c91b0 : decide (0 ≤ t400) = false := decide_eq_false c91
        clear c91; obtain rfl := Option.some.inj H; have hnb106 := NB390_388.out; have hnc106 := NB388_390.out; obtain ⟨z107_0, z107_1, z107_2, z107_3, z107_4, z107_5, z107_6, z107_7, z107_8, z107_9, z107_10, z107_11, y107_0, y107_1, y107_2, y107_3, y107_4, y107_5, y107_6, y107_7, y107_8, y107_9, y107_10, y107_11⟩ := Own.box12 BK390.out; obtain ⟨z108_0, z108_1, y108_0, y108_1⟩ := Own.box2 BK388.out
        go_wp2_with (first | ((with_reducible refine gate_callee (f := 36) rfl ?_); refine goesL_ (some 97) rfl rfl Tryz.func36 (by kernel_rfl) rfl #[.agg #[.slice A0_0 l0_0.length c0_0, .slice (some ad389) l0_1.length c0_1], .string ((rd_T51 l0_1 a1).f8)] rfl Own.ha ?_; (with_reducible refine (impl_clauseIndex.calls kj62 _ _ l0_0 _ _ l0_1 ((rd_T51 l0_1 a1).f8) t400 _ ?side1 ?side2 ?side3 ?side4 A84.out).mono ?_); (case side1 => exact Kd.C_below HR0_0.out Own.bl); (case side2 => exact HC0_0.out); (case side3 => exact Kd.C_below HR0_1.out Own.bl); (case side4 => exact HC0_1.out); rintro e w109 ⟨rfl, hb⟩; refine ⟨_, rfl, ?_⟩; replace BK388 := Own.bb BK388.out hb; replace BK390 := Own.bb BK390.out hb; replace HB := Own.bs hb; (try clear hb); obtain ⟨z110_0, z110_1, z110_2, z110_3, z110_4, z110_5, z110_6, z110_7, z110_8, z110_9, z110_10, z110_11, y110_0, y110_1, y110_2, y110_3, y110_4, y110_5, y110_6, y110_7, y110_8, y110_9, y110_10, y110_11⟩ := Own.box12 BK390.out))
        go_ret
        exact ⟨Own.rr, Own.bl⟩
       rw [if_pos c91] at H
       have c91b0 : decide (0 ≤ t400) = true := decide_eq_true c91
       clear c91
       by_cases c92 : t400 = a1
       ·
        rw [if_pos c92] at H
        have c92b0 : (t400 == a1) = true := beq_iff_eq.mpr c92
        have c92b1 : (t400 != a1) = false := bne_eq_false_iff_eq.mpr c92
        clear c92; obtain rfl := Option.some.inj H; have hnb93 := NB390_388.out; have hnc93 := NB388_390.out; obtain ⟨z94_0, z94_1, z94_2, z94_3, z94_4, z94_5, z94_6, z94_7, z94_8, z94_9, z94_10, z94_11, y94_0, y94_1, y94_2, y94_3, y94_4, y94_5, y94_6, y94_7, y94_8, y94_9, y94_10, y94_11⟩ := Own.box12 BK390.out; obtain ⟨z95_0, z95_1, y95_0, y95_1⟩ := Own.box2 BK388.out
        go_wp2_with (first | ((with_reducible refine gate_callee (f := 36) rfl ?_); refine goesL_ (some 97) rfl rfl Tryz.func36 (by kernel_rfl) rfl #[.agg #[.slice A0_0 l0_0.length c0_0, .slice (some ad389) l0_1.length c0_1], .string ((rd_T51 l0_1 a1).f8)] rfl Own.ha ?_; (with_reducible refine (impl_clauseIndex.calls kj62 _ _ l0_0 _ _ l0_1 ((rd_T51 l0_1 a1).f8) t400 _ ?side1 ?side2 ?side3 ?side4 A84.out).mono ?_); (case side1 => exact Kd.C_below HR0_0.out Own.bl); (case side2 => exact HC0_0.out); (case side3 => exact Kd.C_below HR0_1.out Own.bl); (case side4 => exact HC0_1.out); rintro e w96 ⟨rfl, hb⟩; refine ⟨_, rfl, ?_⟩; replace BK388 := Own.bb BK388.out hb; replace BK390 := Own.bb BK390.out hb; replace HB := Own.bs hb; (try clear hb); obtain ⟨z97_0, z97_1, z97_2, z97_3, z97_4, z97_5, z97_6, z97_7, z97_8, z97_9, z97_10, z97_11, y97_0, y97_1, y97_2, y97_3, y97_4, y97_5, y97_6, y97_7, y97_8, y97_9, y97_10, y97_11⟩ := Own.box12 BK390.out))
        go_ret
        exact ⟨Own.rr, Own.bl⟩
       rw [if_neg c92] at H
       have c92b0 : (t400 == a1) = false := beq_eq_false_iff_ne.mpr c92
       have c92b1 : (t400 != a1) = true := bne_iff_ne.mpr c92
       replace H := Own.ifd H; obtain ⟨c98, H⟩ := H
       replace H := Own.ifd H; obtain ⟨c99, H⟩ := H; obtain rfl := Option.some.inj H; have hnb100 := NB390_388.out; have hnc100 := NB388_390.out; obtain ⟨z101_0, z101_1, z101_2, z101_3, z101_4, z101_5, z101_6, z101_7, z101_8, z101_9, z101_10, z101_11, y101_0, y101_1, y101_2, y101_3, y101_4, y101_5, y101_6, y101_7, y101_8, y101_9, y101_10, y101_11⟩ := Own.box12 BK390.out; obtain ⟨z102_0, z102_1, y102_0, y102_1⟩ := Own.box2 BK388.out
       go_wp2_with (first | ((with_reducible refine gate_callee (f := 36) rfl ?_); refine goesL_ (some 97) rfl rfl Tryz.func36 (by kernel_rfl) rfl #[.agg #[.slice A0_0 l0_0.length c0_0, .slice (some ad389) l0_1.length c0_1], .string ((rd_T51 l0_1 a1).f8)] rfl Own.ha ?_; (with_reducible refine (impl_clauseIndex.calls kj62 _ _ l0_0 _ _ l0_1 ((rd_T51 l0_1 a1).f8) t400 _ ?side1 ?side2 ?side3 ?side4 A84.out).mono ?_); (case side1 => exact Kd.C_below HR0_0.out Own.bl); (case side2 => exact HC0_0.out); (case side3 => exact Kd.C_below HR0_1.out Own.bl); (case side4 => exact HC0_1.out); rintro e w103 ⟨rfl, hb⟩; refine ⟨_, rfl, ?_⟩; replace BK388 := Own.bb BK388.out hb; replace BK390 := Own.bb BK390.out hb; replace HB := Own.bs hb; (try clear hb); obtain ⟨z104_0, z104_1, z104_2, z104_3, z104_4, z104_5, z104_6, z104_7, z104_8, z104_9, z104_10, z104_11, y104_0, y104_1, y104_2, y104_3, y104_4, y104_5, y104_6, y104_7, y104_8, y104_9, y104_10, y104_11⟩ := Own.box12 BK390.out; obtain ⟨z105_0, z105_1, y105_0, y105_1⟩ := Own.box2 BK388.out; have p401 : 0 ≤ (t400 : Int) := Own.dp; have q401 : t400 < (l0_1.length : Int) := Own.dp; obtain ⟨ad401, A401_9, c401_9, e401, hx401_0, hx401_1, hx401_2, hx401_3, hx401_4, hx401_5, hx401_6, hx401_7, hx401_8, hx401_9, hx401_10, hx401_11, hl401_9, hi401_9⟩ := at_T51 HR0_1.out t400 p401 q401; obtain rfl : ad389 = ad401 := (by injection e401); replace hx401_0 := Own.up HB.out hx401_0; replace hx401_1 := Own.up HB.out hx401_1; replace hx401_2 := Own.up HB.out hx401_2; replace hx401_3 := Own.up HB.out hx401_3; replace hx401_4 := Own.up HB.out hx401_4; replace hx401_5 := Own.up HB.out hx401_5; replace hx401_6 := Own.up HB.out hx401_6; replace hx401_7 := Own.up HB.out hx401_7; replace hx401_8 := Own.up HB.out hx401_8; replace hx401_9 := Own.up HB.out hx401_9; replace hx401_10 := Own.up HB.out hx401_10; replace hx401_11 := Own.up HB.out hx401_11; have HR401_9 := Aside0.mk hi401_9; have HC401_9 := Aside0.mk hl401_9; clear hi401_9 hl401_9; replace p401 := eq_true p401; replace q401 := eq_true q401))
       go_ret
       exact ⟨Own.rr, Own.bl⟩
end Go.Proofs.YtckopglnblcnoaaGreatDoor.QFnExactRemoveClause
