-- Written by a program of this session out of the translation; Lean checks it.
import Derived.Test.YtckopglnblcnoaaGreatDoorQFnExactRemoveClausex3
namespace Go.Proofs.YtckopglnblcnoaaGreatDoor.QFnExactRemoveClause
open Go.RowKit Go.Proofs.YtckopglnblcnoaaGreatDoorW.PrintWords Go.Proofs.YtckopglnblcnoaaGreatDoorW.PrintLast
attribute [local go_sem] Instr.field asAgg
set_option linter.unusedVariables false
set_option linter.unusedSimpArgs false
/-! ### spec_l6Clause: function 32 -/
mutual
def spec_l6Clause.j0 : Nat → Int → Bool → List ByteArray → List (S51) → ByteArray → Int → Int → ByteArray → Int → Int → Int → ByteArray → Int → List (S49) → Int → ByteArray → Option (Bool)
 | 0, _, _, _, _, _, _, _, _, _, _, _, _, _, _, _, _ => none
 | k + 1, x1, x60, x140000, x140001, x142000, x142001, x142002, x142003, x142004, x142005, x142006, x142007, x142008, x142009, x142010, x142011 => if x60 = true then (some false) else ((spec_l1In.f x142005 0 1000000).bind fun t148 => (if t148 = true then ((spec_l1In.f x142010 0 400).bind fun t149 => (if t149 = true then (if x142001 = 1 then (spec_l6Clause.j1 k x1 false x140000 x140001 x142000 x142001 x142002 x142003 x142004 x142005 x142006 x142007 x142008 x142009 x142010 x142011) else (if x142005 = 0 then (spec_l6Clause.j1 k x1 (x142010 != 0) x140000 x140001 x142000 x142001 x142002 x142003 x142004 x142005 x142006 x142007 x142008 x142009 x142010 x142011) else (spec_l6Clause.j1 k x1 true x140000 x140001 x142000 x142001 x142002 x142003 x142004 x142005 x142006 x142007 x142008 x142009 x142010 x142011))) else (spec_l6Clause.j1 k x1 true x140000 x140001 x142000 x142001 x142002 x142003 x142004 x142005 x142006 x142007 x142008 x142009 x142010 x142011))) else (spec_l6Clause.j1 k x1 true x140000 x140001 x142000 x142001 x142002 x142003 x142004 x142005 x142006 x142007 x142008 x142009 x142010 x142011)))
def spec_l6Clause.j1 : Nat → Int → Bool → List ByteArray → List (S51) → ByteArray → Int → Int → ByteArray → Int → Int → Int → ByteArray → Int → List (S49) → Int → ByteArray → Option (Bool)
 | 0, _, _, _, _, _, _, _, _, _, _, _, _, _, _, _, _ => none
 | k + 1, x1, x85, x140000, x140001, x142000, x142001, x142002, x142003, x142004, x142005, x142006, x142007, x142008, x142009, x142010, x142011 => if x85 = true then (some false) else (if x142011.toList = ([] : List UInt8) then (some true) else ((spec_l6Find.f k x140000 x140001 x142011).bind fun t150 => (if t150 ≥ 0 then (if t150 = x1 then (some false) else (if 0 ≤ t150 then (if t150 < (x140001.length : Int) then (if ((rd_T51 x140001 t150).f1) = 1 then (some (x142001 != 3)) else (some false)) else (none)) else (none))) else (some false))))
end
def spec_l6Clause.f (k : Nat) (l0_0 : List ByteArray) (l0_1 : List (S51)) (a1 : Int) : Option (Bool) := if 0 ≤ a1 then (if a1 < (l0_1.length : Int) then ((spec_l5Name.f k ((rd_T51 l0_1 a1).f0)).bind fun t142 => (if t142 = true then ((spec_l5Name.f k ((rd_T51 l0_1 a1).f3)).bind fun t143 => (if t143 = true then ((spec_l1In.f ((rd_T51 l0_1 a1).f1) 1 4).bind fun t144 => (if t144 = true then ((spec_l1In.f ((rd_T51 l0_1 a1).f2) 0 (wrap64 ((l0_0.length : Int) - 1))).bind fun t145 => (if t145 = true then ((spec_l1In.f ((rd_T51 l0_1 a1).f4) 0 (wrap64 ((l0_0.length : Int) - 1))).bind fun t146 => (if t146 = true then (if ((rd_T51 l0_1 a1).f2) = ((rd_T51 l0_1 a1).f4) then (spec_l6Clause.j0 k a1 true l0_0 l0_1 ((rd_T51 l0_1 a1).f0) ((rd_T51 l0_1 a1).f1) ((rd_T51 l0_1 a1).f2) ((rd_T51 l0_1 a1).f3) ((rd_T51 l0_1 a1).f4) ((rd_T51 l0_1 a1).f5) ((rd_T51 l0_1 a1).f6.f0) ((rd_T51 l0_1 a1).f6.f1) ((rd_T51 l0_1 a1).f6.f2) ((rd_T51 l0_1 a1).f6.f3) ((rd_T51 l0_1 a1).f7) ((rd_T51 l0_1 a1).f8)) else ((spec_l5Good.f k ((rd_T51 l0_1 a1).f6.f0) ((rd_T51 l0_1 a1).f6.f1) ((rd_T51 l0_1 a1).f6.f2) ((rd_T51 l0_1 a1).f6.f3)).bind fun t147 => (spec_l6Clause.j0 k a1 (!t147) l0_0 l0_1 ((rd_T51 l0_1 a1).f0) ((rd_T51 l0_1 a1).f1) ((rd_T51 l0_1 a1).f2) ((rd_T51 l0_1 a1).f3) ((rd_T51 l0_1 a1).f4) ((rd_T51 l0_1 a1).f5) ((rd_T51 l0_1 a1).f6.f0) ((rd_T51 l0_1 a1).f6.f1) ((rd_T51 l0_1 a1).f6.f2) ((rd_T51 l0_1 a1).f6.f3) ((rd_T51 l0_1 a1).f7) ((rd_T51 l0_1 a1).f8)))) else (spec_l6Clause.j0 k a1 true l0_0 l0_1 ((rd_T51 l0_1 a1).f0) ((rd_T51 l0_1 a1).f1) ((rd_T51 l0_1 a1).f2) ((rd_T51 l0_1 a1).f3) ((rd_T51 l0_1 a1).f4) ((rd_T51 l0_1 a1).f5) ((rd_T51 l0_1 a1).f6.f0) ((rd_T51 l0_1 a1).f6.f1) ((rd_T51 l0_1 a1).f6.f2) ((rd_T51 l0_1 a1).f6.f3) ((rd_T51 l0_1 a1).f7) ((rd_T51 l0_1 a1).f8)))) else (spec_l6Clause.j0 k a1 true l0_0 l0_1 ((rd_T51 l0_1 a1).f0) ((rd_T51 l0_1 a1).f1) ((rd_T51 l0_1 a1).f2) ((rd_T51 l0_1 a1).f3) ((rd_T51 l0_1 a1).f4) ((rd_T51 l0_1 a1).f5) ((rd_T51 l0_1 a1).f6.f0) ((rd_T51 l0_1 a1).f6.f1) ((rd_T51 l0_1 a1).f6.f2) ((rd_T51 l0_1 a1).f6.f3) ((rd_T51 l0_1 a1).f7) ((rd_T51 l0_1 a1).f8)))) else (spec_l6Clause.j0 k a1 true l0_0 l0_1 ((rd_T51 l0_1 a1).f0) ((rd_T51 l0_1 a1).f1) ((rd_T51 l0_1 a1).f2) ((rd_T51 l0_1 a1).f3) ((rd_T51 l0_1 a1).f4) ((rd_T51 l0_1 a1).f5) ((rd_T51 l0_1 a1).f6.f0) ((rd_T51 l0_1 a1).f6.f1) ((rd_T51 l0_1 a1).f6.f2) ((rd_T51 l0_1 a1).f6.f3) ((rd_T51 l0_1 a1).f7) ((rd_T51 l0_1 a1).f8)))) else (spec_l6Clause.j0 k a1 true l0_0 l0_1 ((rd_T51 l0_1 a1).f0) ((rd_T51 l0_1 a1).f1) ((rd_T51 l0_1 a1).f2) ((rd_T51 l0_1 a1).f3) ((rd_T51 l0_1 a1).f4) ((rd_T51 l0_1 a1).f5) ((rd_T51 l0_1 a1).f6.f0) ((rd_T51 l0_1 a1).f6.f1) ((rd_T51 l0_1 a1).f6.f2) ((rd_T51 l0_1 a1).f6.f3) ((rd_T51 l0_1 a1).f7) ((rd_T51 l0_1 a1).f8)))) else (spec_l6Clause.j0 k a1 true l0_0 l0_1 ((rd_T51 l0_1 a1).f0) ((rd_T51 l0_1 a1).f1) ((rd_T51 l0_1 a1).f2) ((rd_T51 l0_1 a1).f3) ((rd_T51 l0_1 a1).f4) ((rd_T51 l0_1 a1).f5) ((rd_T51 l0_1 a1).f6.f0) ((rd_T51 l0_1 a1).f6.f1) ((rd_T51 l0_1 a1).f6.f2) ((rd_T51 l0_1 a1).f6.f3) ((rd_T51 l0_1 a1).f7) ((rd_T51 l0_1 a1).f8)))) else (none)) else (none)
set_option maxHeartbeats 8000000 in
set_option maxRecDepth 100000 in
theorem spec_l6Clause.calls (k : Nat) (A0_0 : Option Addr) (c0_0 : Nat) (l0_0 : List ByteArray) (A0_1 : Option Addr) (c0_1 : Nat) (l0_1 : List (S51)) (a1 : Int) (r : Bool) (w : World) (hr0_0 : Kd.C Kd.string w A0_0 l0_0.length l0_0) (hc0_0 : l0_0.length ≤ c0_0) (hr0_1 : Kd.C k51 w A0_1 l0_1.length l0_1) (hc0_1 : l0_1.length ≤ c0_1) (h : spec_l6Clause.f k l0_0 l0_1 a1 = some r) :
  Calls Tryz.prog 32 #[.agg #[.slice A0_0 l0_0.length c0_0, .slice A0_1 l0_1.length c0_1], .int .i64 a1] w fun e w' => e = .returned (.bool r) ∧ Below w.heap.size w w' := by
 have hu29 := Tryz.underlying29
 have hu51 := Tryz.underlying51
 have hu49 := Tryz.underlying49
 have HR0_0 := Aside0.mk hr0_0
 have HC0_0 := Aside0.mk hc0_0
 clear hr0_0 hc0_0
 have HR0_1 := Aside0.mk hr0_1
 have HC0_1 := Aside0.mk hc0_1
 clear hr0_1 hc0_1
 have HB := Aside0.mk (Below.refl w.heap.size w)
 have H : (if 0 ≤ a1 then (if a1 < (l0_1.length : Int) then ((spec_l5Name.f k ((rd_T51 l0_1 a1).f0)).bind fun t142 => (if t142 = true then ((spec_l5Name.f k ((rd_T51 l0_1 a1).f3)).bind fun t143 => (if t143 = true then ((spec_l1In.f ((rd_T51 l0_1 a1).f1) 1 4).bind fun t144 => (if t144 = true then ((spec_l1In.f ((rd_T51 l0_1 a1).f2) 0 (wrap64 ((l0_0.length : Int) - 1))).bind fun t145 => (if t145 = true then ((spec_l1In.f ((rd_T51 l0_1 a1).f4) 0 (wrap64 ((l0_0.length : Int) - 1))).bind fun t146 => (if t146 = true then (if ((rd_T51 l0_1 a1).f2) = ((rd_T51 l0_1 a1).f4) then (spec_l6Clause.j0 k a1 true l0_0 l0_1 ((rd_T51 l0_1 a1).f0) ((rd_T51 l0_1 a1).f1) ((rd_T51 l0_1 a1).f2) ((rd_T51 l0_1 a1).f3) ((rd_T51 l0_1 a1).f4) ((rd_T51 l0_1 a1).f5) ((rd_T51 l0_1 a1).f6.f0) ((rd_T51 l0_1 a1).f6.f1) ((rd_T51 l0_1 a1).f6.f2) ((rd_T51 l0_1 a1).f6.f3) ((rd_T51 l0_1 a1).f7) ((rd_T51 l0_1 a1).f8)) else ((spec_l5Good.f k ((rd_T51 l0_1 a1).f6.f0) ((rd_T51 l0_1 a1).f6.f1) ((rd_T51 l0_1 a1).f6.f2) ((rd_T51 l0_1 a1).f6.f3)).bind fun t147 => (spec_l6Clause.j0 k a1 (!t147) l0_0 l0_1 ((rd_T51 l0_1 a1).f0) ((rd_T51 l0_1 a1).f1) ((rd_T51 l0_1 a1).f2) ((rd_T51 l0_1 a1).f3) ((rd_T51 l0_1 a1).f4) ((rd_T51 l0_1 a1).f5) ((rd_T51 l0_1 a1).f6.f0) ((rd_T51 l0_1 a1).f6.f1) ((rd_T51 l0_1 a1).f6.f2) ((rd_T51 l0_1 a1).f6.f3) ((rd_T51 l0_1 a1).f7) ((rd_T51 l0_1 a1).f8)))) else (spec_l6Clause.j0 k a1 true l0_0 l0_1 ((rd_T51 l0_1 a1).f0) ((rd_T51 l0_1 a1).f1) ((rd_T51 l0_1 a1).f2) ((rd_T51 l0_1 a1).f3) ((rd_T51 l0_1 a1).f4) ((rd_T51 l0_1 a1).f5) ((rd_T51 l0_1 a1).f6.f0) ((rd_T51 l0_1 a1).f6.f1) ((rd_T51 l0_1 a1).f6.f2) ((rd_T51 l0_1 a1).f6.f3) ((rd_T51 l0_1 a1).f7) ((rd_T51 l0_1 a1).f8)))) else (spec_l6Clause.j0 k a1 true l0_0 l0_1 ((rd_T51 l0_1 a1).f0) ((rd_T51 l0_1 a1).f1) ((rd_T51 l0_1 a1).f2) ((rd_T51 l0_1 a1).f3) ((rd_T51 l0_1 a1).f4) ((rd_T51 l0_1 a1).f5) ((rd_T51 l0_1 a1).f6.f0) ((rd_T51 l0_1 a1).f6.f1) ((rd_T51 l0_1 a1).f6.f2) ((rd_T51 l0_1 a1).f6.f3) ((rd_T51 l0_1 a1).f7) ((rd_T51 l0_1 a1).f8)))) else (spec_l6Clause.j0 k a1 true l0_0 l0_1 ((rd_T51 l0_1 a1).f0) ((rd_T51 l0_1 a1).f1) ((rd_T51 l0_1 a1).f2) ((rd_T51 l0_1 a1).f3) ((rd_T51 l0_1 a1).f4) ((rd_T51 l0_1 a1).f5) ((rd_T51 l0_1 a1).f6.f0) ((rd_T51 l0_1 a1).f6.f1) ((rd_T51 l0_1 a1).f6.f2) ((rd_T51 l0_1 a1).f6.f3) ((rd_T51 l0_1 a1).f7) ((rd_T51 l0_1 a1).f8)))) else (spec_l6Clause.j0 k a1 true l0_0 l0_1 ((rd_T51 l0_1 a1).f0) ((rd_T51 l0_1 a1).f1) ((rd_T51 l0_1 a1).f2) ((rd_T51 l0_1 a1).f3) ((rd_T51 l0_1 a1).f4) ((rd_T51 l0_1 a1).f5) ((rd_T51 l0_1 a1).f6.f0) ((rd_T51 l0_1 a1).f6.f1) ((rd_T51 l0_1 a1).f6.f2) ((rd_T51 l0_1 a1).f6.f3) ((rd_T51 l0_1 a1).f7) ((rd_T51 l0_1 a1).f8)))) else (spec_l6Clause.j0 k a1 true l0_0 l0_1 ((rd_T51 l0_1 a1).f0) ((rd_T51 l0_1 a1).f1) ((rd_T51 l0_1 a1).f2) ((rd_T51 l0_1 a1).f3) ((rd_T51 l0_1 a1).f4) ((rd_T51 l0_1 a1).f5) ((rd_T51 l0_1 a1).f6.f0) ((rd_T51 l0_1 a1).f6.f1) ((rd_T51 l0_1 a1).f6.f2) ((rd_T51 l0_1 a1).f6.f3) ((rd_T51 l0_1 a1).f7) ((rd_T51 l0_1 a1).f8)))) else (none)) else (none)) = some r := h
 clear h
 replace H := Own.ifd H; obtain ⟨c3, H⟩ := H
 replace H := Own.ifd H; obtain ⟨c4, H⟩ := H
 have HC5 := Aside0.mk H
 clear H
 go_enter Tryz.func32, Tryz.ntmps32
 go_upto_region 3 with (first | ((with_reducible refine gate_dst (N := 2) rfl ?_); refine Own.be (N := 2) (cs := #[.slice A0_0 l0_0.length c0_0, .slice A0_1 l0_1.length c0_1]) (t := 29) ?_; intro gb139 hg w6 hbox hb; have BK139 := Aside0.mk hbox; have GW139 := (Own.gs hg : Aside0 (w.heap.size ≤ gb139)); have GE139 := GW139; replace HB := Own.bs hb; clear hb hbox hg; obtain ⟨z7_0, z7_1, y7_0, y7_1⟩ := Own.box2 BK139.out; have p140 : 0 ≤ (a1 : Int) := Own.dp; have q140 : a1 < (l0_1.length : Int) := Own.dp; obtain ⟨ad140, A140_9, c140_9, e140, hx140_0, hx140_1, hx140_2, hx140_3, hx140_4, hx140_5, hx140_6, hx140_7, hx140_8, hx140_9, hx140_10, hx140_11, hl140_9, hi140_9⟩ := at_T51 HR0_1.out a1 p140 q140; cases e140; replace hx140_0 := Own.up HB.out hx140_0; replace hx140_1 := Own.up HB.out hx140_1; replace hx140_2 := Own.up HB.out hx140_2; replace hx140_3 := Own.up HB.out hx140_3; replace hx140_4 := Own.up HB.out hx140_4; replace hx140_5 := Own.up HB.out hx140_5; replace hx140_6 := Own.up HB.out hx140_6; replace hx140_7 := Own.up HB.out hx140_7; replace hx140_8 := Own.up HB.out hx140_8; replace hx140_9 := Own.up HB.out hx140_9; replace hx140_10 := Own.up HB.out hx140_10; replace hx140_11 := Own.up HB.out hx140_11; have HR140_9 := Aside0.mk hi140_9; have HC140_9 := Aside0.mk hl140_9; clear hi140_9 hl140_9; replace p140 := eq_true p140; replace q140 := eq_true q140) | ((with_reducible refine gate_dst (N := 5) rfl ?_); refine Own.be (N := 5) (cs := #[.string (⟨#[]⟩ : ByteArray), .int .i64 0, .int .i64 0, .string (⟨#[]⟩ : ByteArray), .int .i64 0, .int .i64 0, .int .i64 0, .string (⟨#[]⟩ : ByteArray), .int .i64 0, .slice none 0 0, .int .i64 0, .string (⟨#[]⟩ : ByteArray)]) (t := 51) ?_; intro gb141 hg w8 hbox hb; have BK141 := Aside0.mk hbox; have GW141 := (Own.gs hg : Aside0 (w.heap.size ≤ gb141)); have GE141 := GW141; have NB139_141 := Own.nl hg BK139.out; have NB141_139 := Aside0.mk NB139_141.out.symm; replace BK139 := Own.bb BK139.out hb; replace HB := Own.bs hb; clear hb hbox hg; have hnb9 := NB141_139.out; have hnc9 := NB139_141.out; obtain ⟨z10_0, z10_1, z10_2, z10_3, z10_4, z10_5, z10_6, z10_7, z10_8, z10_9, z10_10, z10_11, y10_0, y10_1, y10_2, y10_3, y10_4, y10_5, y10_6, y10_7, y10_8, y10_9, y10_10, y10_11⟩ := Own.box12 BK141.out; obtain ⟨z11_0, z11_1, y11_0, y11_1⟩ := Own.box2 BK139.out))
 (try simp only [Own.ps])
 go_cut [60] (fun v60 wc => ∃ (kq : Nat) (x60_4 : Bool), v60 = .bool x60_4 ∧ Aside0 (spec_l6Clause.j0 kq a1 x60_4 l0_0 l0_1 ((rd_T51 l0_1 a1).f0) ((rd_T51 l0_1 a1).f1) ((rd_T51 l0_1 a1).f2) ((rd_T51 l0_1 a1).f3) ((rd_T51 l0_1 a1).f4) ((rd_T51 l0_1 a1).f5) ((rd_T51 l0_1 a1).f6.f0) ((rd_T51 l0_1 a1).f6.f1) ((rd_T51 l0_1 a1).f6.f2) ((rd_T51 l0_1 a1).f6.f3) ((rd_T51 l0_1 a1).f7) ((rd_T51 l0_1 a1).f8) = some r) ∧ Aside0 (kq ≤ k) ∧ Aside0 (wc.heap[gb139]? = some (.cells #[(.slice A0_0 l0_0.length c0_0), (.slice (some ad140) l0_1.length c0_1)] 29 (0, 0))) ∧ Aside0 (wc.heap[gb141]? = some (.cells #[.string ((rd_T51 l0_1 a1).f0), .int .i64 ((rd_T51 l0_1 a1).f1), .int .i64 ((rd_T51 l0_1 a1).f2), .string ((rd_T51 l0_1 a1).f3), .int .i64 ((rd_T51 l0_1 a1).f4), .int .i64 ((rd_T51 l0_1 a1).f5), .int .i64 ((rd_T51 l0_1 a1).f6.f0), .string ((rd_T51 l0_1 a1).f6.f1), .int .i64 ((rd_T51 l0_1 a1).f6.f2), (.slice A140_9 ((rd_T51 l0_1 a1).f6.f3).length c140_9), .int .i64 ((rd_T51 l0_1 a1).f7), .string ((rd_T51 l0_1 a1).f8)] 51 (0, 0))) ∧ Aside0 (Below w.heap.size w wc))
 case first =>
  have H := HC5.out; clear HC5
  replace H := Own.bd H; obtain ⟨t142, A12, H⟩ := H
  replace H := Own.ift H; obtain ⟨rfl, H⟩ | ⟨rfl, H⟩ := H
  ·
   have H' := Aside0.mk H; clear H; have hnb37 := NB141_139.out; have hnc37 := NB139_141.out; obtain ⟨z38_0, z38_1, z38_2, z38_3, z38_4, z38_5, z38_6, z38_7, z38_8, z38_9, z38_10, z38_11, y38_0, y38_1, y38_2, y38_3, y38_4, y38_5, y38_6, y38_7, y38_8, y38_9, y38_10, y38_11⟩ := Own.box12 BK141.out
   go_wp2_with (first | ((with_reducible refine gate_callee (f := 47) rfl ?_); refine goesL_ (some 18) rfl rfl Tryz.func47 (by kernel_rfl) rfl #[.string ((rd_T51 l0_1 a1).f0)] rfl Own.ha ?_; (with_reducible refine (spec_l5Name.calls k ((rd_T51 l0_1 a1).f0) false _ A12.out).mono ?_); rintro e w' ⟨rfl, ⟨nd, rfl⟩⟩; refine ⟨_, rfl, ?_⟩))
   go_meet
   case rel => exact ⟨_, (true), Own.rs, H', ⟨by first | omega | exact Nat.le_refl _⟩, ⟨by (with_reducible repeat (first | refine blk_drewN ?_ _ | refine blk_drew ?_ | refine blk_alloc ?_ _ | refine blk_far ?_ NB139_141.out _)); (with_reducible repeat (first | refine blk_drewN ?_ _ | refine blk_drew ?_ | refine blk_alloc ?_ _)); exact BK139.out⟩, ⟨by (with_reducible repeat (first | refine blk_drewN ?_ _ | refine blk_drew ?_ | refine blk_alloc ?_ _)); exact Own.put12 BK141.out⟩, ⟨Own.bl⟩⟩
  replace H := Own.bd H; obtain ⟨t143, A14, H⟩ := H
  replace H := Own.ift H; obtain ⟨rfl, H⟩ | ⟨rfl, H⟩ := H
  ·
   have H' := Aside0.mk H; clear H; have hnb35 := NB141_139.out; have hnc35 := NB139_141.out; obtain ⟨z36_0, z36_1, z36_2, z36_3, z36_4, z36_5, z36_6, z36_7, z36_8, z36_9, z36_10, z36_11, y36_0, y36_1, y36_2, y36_3, y36_4, y36_5, y36_6, y36_7, y36_8, y36_9, y36_10, y36_11⟩ := Own.box12 BK141.out
   go_wp2_with (first | ((with_reducible refine gate_callee (f := 47) rfl ?_); refine goesL_ (some 18) rfl rfl Tryz.func47 (by kernel_rfl) rfl #[.string ((rd_T51 l0_1 a1).f0)] rfl Own.ha ?_; (with_reducible refine (spec_l5Name.calls k ((rd_T51 l0_1 a1).f0) true _ A12.out).mono ?_); rintro e w' ⟨rfl, ⟨nd, rfl⟩⟩; refine ⟨_, rfl, ?_⟩) | (go_at_call 47; (with_reducible refine (spec_l5Name.calls k ((rd_T51 l0_1 a1).f3) false _ A14.out).mono ?_); rintro e w' ⟨rfl, ⟨nd, rfl⟩⟩))
   go_meet
   case rel => exact ⟨_, (true), Own.rs, H', ⟨by first | omega | exact Nat.le_refl _⟩, ⟨by (with_reducible repeat (first | refine blk_drewN ?_ _ | refine blk_drew ?_ | refine blk_alloc ?_ _ | refine blk_far ?_ NB139_141.out _)); (with_reducible repeat (first | refine blk_drewN ?_ _ | refine blk_drew ?_ | refine blk_alloc ?_ _)); exact BK139.out⟩, ⟨by (with_reducible repeat (first | refine blk_drewN ?_ _ | refine blk_drew ?_ | refine blk_alloc ?_ _)); exact Own.put12 BK141.out⟩, ⟨Own.bl⟩⟩
  replace H := Own.bd H; obtain ⟨t144, A16, H⟩ := H
  replace H := Own.ift H; obtain ⟨rfl, H⟩ | ⟨rfl, H⟩ := H
  ·
   have H' := Aside0.mk H; clear H; have hnb33 := NB141_139.out; have hnc33 := NB139_141.out; obtain ⟨z34_0, z34_1, z34_2, z34_3, z34_4, z34_5, z34_6, z34_7, z34_8, z34_9, z34_10, z34_11, y34_0, y34_1, y34_2, y34_3, y34_4, y34_5, y34_6, y34_7, y34_8, y34_9, y34_10, y34_11⟩ := Own.box12 BK141.out
   go_wp2_with (first | ((with_reducible refine gate_callee (f := 47) rfl ?_); refine goesL_ (some 18) rfl rfl Tryz.func47 (by kernel_rfl) rfl #[.string ((rd_T51 l0_1 a1).f0)] rfl Own.ha ?_; (with_reducible refine (spec_l5Name.calls k ((rd_T51 l0_1 a1).f0) true _ A12.out).mono ?_); rintro e w' ⟨rfl, ⟨nd, rfl⟩⟩; refine ⟨_, rfl, ?_⟩) | (go_at_call 47; (with_reducible refine (spec_l5Name.calls k ((rd_T51 l0_1 a1).f3) true _ A14.out).mono ?_); rintro e w' ⟨rfl, ⟨nd, rfl⟩⟩) | (go_at_call 30; (with_reducible refine (spec_l1In.calls ((rd_T51 l0_1 a1).f1) 1 4 false _ A16.out).mono ?_); rintro e w' ⟨rfl, ⟨nd, rfl⟩⟩))
   go_meet
   case rel => exact ⟨_, (true), Own.rs, H', ⟨by first | omega | exact Nat.le_refl _⟩, ⟨by (with_reducible repeat (first | refine blk_drewN ?_ _ | refine blk_drew ?_ | refine blk_alloc ?_ _ | refine blk_far ?_ NB139_141.out _)); (with_reducible repeat (first | refine blk_drewN ?_ _ | refine blk_drew ?_ | refine blk_alloc ?_ _)); exact BK139.out⟩, ⟨by (with_reducible repeat (first | refine blk_drewN ?_ _ | refine blk_drew ?_ | refine blk_alloc ?_ _)); exact Own.put12 BK141.out⟩, ⟨Own.bl⟩⟩
  replace H := Own.bd H; obtain ⟨t145, A18, H⟩ := H
  replace H := Own.ift H; obtain ⟨rfl, H⟩ | ⟨rfl, H⟩ := H
  ·
   have H' := Aside0.mk H; clear H; have hnb31 := NB141_139.out; have hnc31 := NB139_141.out; obtain ⟨z32_0, z32_1, z32_2, z32_3, z32_4, z32_5, z32_6, z32_7, z32_8, z32_9, z32_10, z32_11, y32_0, y32_1, y32_2, y32_3, y32_4, y32_5, y32_6, y32_7, y32_8, y32_9, y32_10, y32_11⟩ := Own.box12 BK141.out
   go_wp2_with (first | ((with_reducible refine gate_callee (f := 47) rfl ?_); refine goesL_ (some 18) rfl rfl Tryz.func47 (by kernel_rfl) rfl #[.string ((rd_T51 l0_1 a1).f0)] rfl Own.ha ?_; (with_reducible refine (spec_l5Name.calls k ((rd_T51 l0_1 a1).f0) true _ A12.out).mono ?_); rintro e w' ⟨rfl, ⟨nd, rfl⟩⟩; refine ⟨_, rfl, ?_⟩) | (go_at_call 47; (with_reducible refine (spec_l5Name.calls k ((rd_T51 l0_1 a1).f3) true _ A14.out).mono ?_); rintro e w' ⟨rfl, ⟨nd, rfl⟩⟩) | (go_at_call 30; (with_reducible refine (spec_l1In.calls ((rd_T51 l0_1 a1).f1) 1 4 true _ A16.out).mono ?_); rintro e w' ⟨rfl, ⟨nd, rfl⟩⟩) | (go_at_call 30; (with_reducible refine (spec_l1In.calls ((rd_T51 l0_1 a1).f2) 0 (wrap64 ((l0_0.length : Int) - 1)) false _ A18.out).mono ?_); rintro e w' ⟨rfl, ⟨nd, rfl⟩⟩))
   go_meet
   case rel => exact ⟨_, (true), Own.rs, H', ⟨by first | omega | exact Nat.le_refl _⟩, ⟨by (with_reducible repeat (first | refine blk_drewN ?_ _ | refine blk_drew ?_ | refine blk_alloc ?_ _ | refine blk_far ?_ NB139_141.out _)); (with_reducible repeat (first | refine blk_drewN ?_ _ | refine blk_drew ?_ | refine blk_alloc ?_ _)); exact BK139.out⟩, ⟨by (with_reducible repeat (first | refine blk_drewN ?_ _ | refine blk_drew ?_ | refine blk_alloc ?_ _)); exact Own.put12 BK141.out⟩, ⟨Own.bl⟩⟩
  replace H := Own.bd H; obtain ⟨t146, A20, H⟩ := H
  replace H := Own.ift H; obtain ⟨rfl, H⟩ | ⟨rfl, H⟩ := H
  ·
   have H' := Aside0.mk H; clear H; have hnb29 := NB141_139.out; have hnc29 := NB139_141.out; obtain ⟨z30_0, z30_1, z30_2, z30_3, z30_4, z30_5, z30_6, z30_7, z30_8, z30_9, z30_10, z30_11, y30_0, y30_1, y30_2, y30_3, y30_4, y30_5, y30_6, y30_7, y30_8, y30_9, y30_10, y30_11⟩ := Own.box12 BK141.out
   go_wp2_with (first | ((with_reducible refine gate_callee (f := 47) rfl ?_); refine goesL_ (some 18) rfl rfl Tryz.func47 (by kernel_rfl) rfl #[.string ((rd_T51 l0_1 a1).f0)] rfl Own.ha ?_; (with_reducible refine (spec_l5Name.calls k ((rd_T51 l0_1 a1).f0) true _ A12.out).mono ?_); rintro e w' ⟨rfl, ⟨nd, rfl⟩⟩; refine ⟨_, rfl, ?_⟩) | (go_at_call 47; (with_reducible refine (spec_l5Name.calls k ((rd_T51 l0_1 a1).f3) true _ A14.out).mono ?_); rintro e w' ⟨rfl, ⟨nd, rfl⟩⟩) | (go_at_call 30; (with_reducible refine (spec_l1In.calls ((rd_T51 l0_1 a1).f1) 1 4 true _ A16.out).mono ?_); rintro e w' ⟨rfl, ⟨nd, rfl⟩⟩) | (go_at_call 30; (with_reducible refine (spec_l1In.calls ((rd_T51 l0_1 a1).f2) 0 (wrap64 ((l0_0.length : Int) - 1)) true _ A18.out).mono ?_); rintro e w' ⟨rfl, ⟨nd, rfl⟩⟩) | (go_at_call 30; (with_reducible refine (spec_l1In.calls ((rd_T51 l0_1 a1).f4) 0 (wrap64 ((l0_0.length : Int) - 1)) false _ A20.out).mono ?_); rintro e w' ⟨rfl, ⟨nd, rfl⟩⟩))
   go_meet
   case rel => exact ⟨_, (true), Own.rs, H', ⟨by first | omega | exact Nat.le_refl _⟩, ⟨by (with_reducible repeat (first | refine blk_drewN ?_ _ | refine blk_drew ?_ | refine blk_alloc ?_ _ | refine blk_far ?_ NB139_141.out _)); (with_reducible repeat (first | refine blk_drewN ?_ _ | refine blk_drew ?_ | refine blk_alloc ?_ _)); exact BK139.out⟩, ⟨by (with_reducible repeat (first | refine blk_drewN ?_ _ | refine blk_drew ?_ | refine blk_alloc ?_ _)); exact Own.put12 BK141.out⟩, ⟨Own.bl⟩⟩
  by_cases c22 : ((rd_T51 l0_1 a1).f2) = ((rd_T51 l0_1 a1).f4)
  ·
   rw [if_pos c22] at H
   have c22b0 : (((rd_T51 l0_1 a1).f2) == ((rd_T51 l0_1 a1).f4)) = true := beq_iff_eq.mpr c22
   have c22b1 : (((rd_T51 l0_1 a1).f2) != ((rd_T51 l0_1 a1).f4)) = false := bne_eq_false_iff_eq.mpr c22
   clear c22
   (first | rw [c22b0] | (simp only [i64_w, i32_w]; rw [c22b0]) | skip)
   have H' := Aside0.mk H; clear H; have hnb23 := NB141_139.out; have hnc23 := NB139_141.out; obtain ⟨z24_0, z24_1, z24_2, z24_3, z24_4, z24_5, z24_6, z24_7, z24_8, z24_9, z24_10, z24_11, y24_0, y24_1, y24_2, y24_3, y24_4, y24_5, y24_6, y24_7, y24_8, y24_9, y24_10, y24_11⟩ := Own.box12 BK141.out
   go_wp2_with (first | ((with_reducible refine gate_callee (f := 47) rfl ?_); refine goesL_ (some 18) rfl rfl Tryz.func47 (by kernel_rfl) rfl #[.string ((rd_T51 l0_1 a1).f0)] rfl Own.ha ?_; (with_reducible refine (spec_l5Name.calls k ((rd_T51 l0_1 a1).f0) true _ A12.out).mono ?_); rintro e w' ⟨rfl, ⟨nd, rfl⟩⟩; refine ⟨_, rfl, ?_⟩) | (go_at_call 47; (with_reducible refine (spec_l5Name.calls k ((rd_T51 l0_1 a1).f3) true _ A14.out).mono ?_); rintro e w' ⟨rfl, ⟨nd, rfl⟩⟩) | (go_at_call 30; (with_reducible refine (spec_l1In.calls ((rd_T51 l0_1 a1).f1) 1 4 true _ A16.out).mono ?_); rintro e w' ⟨rfl, ⟨nd, rfl⟩⟩) | (go_at_call 30; (with_reducible refine (spec_l1In.calls ((rd_T51 l0_1 a1).f2) 0 (wrap64 ((l0_0.length : Int) - 1)) true _ A18.out).mono ?_); rintro e w' ⟨rfl, ⟨nd, rfl⟩⟩) | (go_at_call 30; (with_reducible refine (spec_l1In.calls ((rd_T51 l0_1 a1).f4) 0 (wrap64 ((l0_0.length : Int) - 1)) true _ A20.out).mono ?_); rintro e w' ⟨rfl, ⟨nd, rfl⟩⟩))
   go_meet
   case rel => exact ⟨_, (true), Own.rs, H', ⟨by first | omega | exact Nat.le_refl _⟩, ⟨by (with_reducible repeat (first | refine blk_drewN ?_ _ | refine blk_drew ?_ | refine blk_alloc ?_ _ | refine blk_far ?_ NB139_141.out _)); (with_reducible repeat (first | refine blk_drewN ?_ _ | refine blk_drew ?_ | refine blk_alloc ?_ _)); exact BK139.out⟩, ⟨by (with_reducible repeat (first | refine blk_drewN ?_ _ | refine blk_drew ?_ | refine blk_alloc ?_ _)); exact Own.put12 BK141.out⟩, ⟨Own.bl⟩⟩
  rw [if_neg c22] at H
  have c22b0 : (((rd_T51 l0_1 a1).f2) == ((rd_T51 l0_1 a1).f4)) = false := beq_eq_false_iff_ne.mpr c22
  have c22b1 : (((rd_T51 l0_1 a1).f2) != ((rd_T51 l0_1 a1).f4)) = true := bne_iff_ne.mpr c22
  (first | rw [c22b0] | (simp only [i64_w, i32_w]; rw [c22b0]) | skip)
  replace H := Own.bd H; obtain ⟨t147, A25, H⟩ := H; have H' := Aside0.mk H; clear H; have hnb26 := NB141_139.out; have hnc26 := NB139_141.out; obtain ⟨z27_0, z27_1, z27_2, z27_3, z27_4, z27_5, z27_6, z27_7, z27_8, z27_9, z27_10, z27_11, y27_0, y27_1, y27_2, y27_3, y27_4, y27_5, y27_6, y27_7, y27_8, y27_9, y27_10, y27_11⟩ := Own.box12 BK141.out
  go_wp2_with (first | ((with_reducible refine gate_callee (f := 47) rfl ?_); refine goesL_ (some 18) rfl rfl Tryz.func47 (by kernel_rfl) rfl #[.string ((rd_T51 l0_1 a1).f0)] rfl Own.ha ?_; (with_reducible refine (spec_l5Name.calls k ((rd_T51 l0_1 a1).f0) true _ A12.out).mono ?_); rintro e w' ⟨rfl, ⟨nd, rfl⟩⟩; refine ⟨_, rfl, ?_⟩) | (go_at_call 47; (with_reducible refine (spec_l5Name.calls k ((rd_T51 l0_1 a1).f3) true _ A14.out).mono ?_); rintro e w' ⟨rfl, ⟨nd, rfl⟩⟩) | (go_at_call 30; (with_reducible refine (spec_l1In.calls ((rd_T51 l0_1 a1).f1) 1 4 true _ A16.out).mono ?_); rintro e w' ⟨rfl, ⟨nd, rfl⟩⟩) | (go_at_call 30; (with_reducible refine (spec_l1In.calls ((rd_T51 l0_1 a1).f2) 0 (wrap64 ((l0_0.length : Int) - 1)) true _ A18.out).mono ?_); rintro e w' ⟨rfl, ⟨nd, rfl⟩⟩) | (go_at_call 30; (with_reducible refine (spec_l1In.calls ((rd_T51 l0_1 a1).f4) 0 (wrap64 ((l0_0.length : Int) - 1)) true _ A20.out).mono ?_); rintro e w' ⟨rfl, ⟨nd, rfl⟩⟩) | (go_at_call 49; (with_reducible refine (spec_l5Good.calls k ((rd_T51 l0_1 a1).f6.f0) ((rd_T51 l0_1 a1).f6.f1) ((rd_T51 l0_1 a1).f6.f2) _ _ ((rd_T51 l0_1 a1).f6.f3) t147 _ ?side1 ?side2 A25.out).mono ?_); (case side1 => exact Kd.C_below HR140_9.out Own.bl); (case side2 => exact HC140_9.out); rintro e w28 ⟨rfl, hb⟩; replace BK139 := Own.bb BK139.out hb; replace BK141 := Aside0.mk (blk_below (g := gb141) (o := .cells #[.string ((rd_T51 l0_1 a1).f0), .int .i64 ((rd_T51 l0_1 a1).f1), .int .i64 ((rd_T51 l0_1 a1).f2), .string ((rd_T51 l0_1 a1).f3), .int .i64 ((rd_T51 l0_1 a1).f4), .int .i64 ((rd_T51 l0_1 a1).f5), .int .i64 ((rd_T51 l0_1 a1).f6.f0), .string ((rd_T51 l0_1 a1).f6.f1), .int .i64 ((rd_T51 l0_1 a1).f6.f2), .slice A140_9 ((rd_T51 l0_1 a1).f6.f3).length c140_9, .int .i64 ((rd_T51 l0_1 a1).f7), .string ((rd_T51 l0_1 a1).f8)] 51 (0, 0)) (by (with_reducible repeat (first | refine blk_drewN ?_ _ | refine blk_drew ?_ | refine blk_alloc ?_ _)); with_reducible exact Own.put12 BK141.out) hb); replace HB := Own.bs hb; (try clear hb)))
  go_meet
  case rel => exact ⟨_, (!t147), Own.rs, H', ⟨by first | omega | exact Nat.le_refl _⟩, ⟨Own.bk⟩, ⟨Own.bk⟩, ⟨Own.bl⟩⟩
 case rest =>
  clear HC5; try clear c3; try clear c4; try clear z10_0 z10_1 z10_10 z10_11 z10_2 z10_3 z10_4 z10_5 z10_6 z10_7 z10_8 z10_9; try clear z11_0 z11_1; try clear z7_0 z7_1; try clear y10_0 y10_1 y10_10 y10_11 y10_2 y10_3 y10_4 y10_5 y10_6 y10_7 y10_8 y10_9; try clear y11_0 y11_1; try clear y7_0 y7_1; try clear hx140_0; try clear hx140_1; try clear hx140_10; try clear hx140_11; try clear hx140_2; try clear hx140_3; try clear hx140_4; try clear hx140_5; try clear hx140_6; try clear hx140_7; try clear hx140_8; try clear hx140_9; try clear p140; try clear q140
  obtain ⟨kq, x60_4, rfl, HA, HJ4, BK139, BK141, HB⟩ := hcut
  cases kq with
  | zero => exact absurd HA.out (by simp [spec_l6Clause.j0])
  | succ kj4 =>
   have H := HA.out; clear HA
   simp only [spec_l6Clause.j0] at H
   replace H := Own.ifu H; obtain ⟨rfl, H⟩ | ⟨rfl, H⟩ := H
   ·
    obtain rfl := Option.some.inj H
    go_wp2
    go_ret
    exact ⟨Own.rr, Own.bl⟩
   have HC40 := Aside0.mk H; clear H
   go_upto_region 5 with (fail)
   go_cut [85] (fun v85 wc => ∃ (kq : Nat) (x85_39 : Bool), v85 = .bool x85_39 ∧ Aside0 (spec_l6Clause.j1 kq a1 x85_39 l0_0 l0_1 ((rd_T51 l0_1 a1).f0) ((rd_T51 l0_1 a1).f1) ((rd_T51 l0_1 a1).f2) ((rd_T51 l0_1 a1).f3) ((rd_T51 l0_1 a1).f4) ((rd_T51 l0_1 a1).f5) ((rd_T51 l0_1 a1).f6.f0) ((rd_T51 l0_1 a1).f6.f1) ((rd_T51 l0_1 a1).f6.f2) ((rd_T51 l0_1 a1).f6.f3) ((rd_T51 l0_1 a1).f7) ((rd_T51 l0_1 a1).f8) = some r) ∧ Aside0 (kq ≤ kj4) ∧ Aside0 (wc.heap[gb139]? = some (.cells #[(.slice A0_0 l0_0.length c0_0), (.slice (some ad140) l0_1.length c0_1)] 29 (0, 0))) ∧ Aside0 (wc.heap[gb141]? = some (.cells #[.string ((rd_T51 l0_1 a1).f0), .int .i64 ((rd_T51 l0_1 a1).f1), .int .i64 ((rd_T51 l0_1 a1).f2), .string ((rd_T51 l0_1 a1).f3), .int .i64 ((rd_T51 l0_1 a1).f4), .int .i64 ((rd_T51 l0_1 a1).f5), .int .i64 ((rd_T51 l0_1 a1).f6.f0), .string ((rd_T51 l0_1 a1).f6.f1), .int .i64 ((rd_T51 l0_1 a1).f6.f2), (.slice A140_9 ((rd_T51 l0_1 a1).f6.f3).length c140_9), .int .i64 ((rd_T51 l0_1 a1).f7), .string ((rd_T51 l0_1 a1).f8)] 51 (0, 0))) ∧ Aside0 (Below w.heap.size w wc))
   case first =>
    have H := HC40.out; clear HC40
    replace H := Own.bd H; obtain ⟨t148, A41, H⟩ := H
    replace H := Own.ift H; obtain ⟨rfl, H⟩ | ⟨rfl, H⟩ := H
    ·
     have H' := Aside0.mk H; clear H; have hnb55 := NB141_139.out; have hnc55 := NB139_141.out; obtain ⟨z56_0, z56_1, z56_2, z56_3, z56_4, z56_5, z56_6, z56_7, z56_8, z56_9, z56_10, z56_11, y56_0, y56_1, y56_2, y56_3, y56_4, y56_5, y56_6, y56_7, y56_8, y56_9, y56_10, y56_11⟩ := Own.box12 BK141.out
     go_wp2_with (first | ((with_reducible refine gate_callee (f := 30) rfl ?_); refine goesL_ (some 63) rfl rfl Tryz.func30 (by kernel_rfl) rfl #[.int .i64 ((rd_T51 l0_1 a1).f5), .int .i64 0, .int .i64 1000000] rfl Own.ha ?_; (with_reducible refine (spec_l1In.calls ((rd_T51 l0_1 a1).f5) 0 1000000 false _ A41.out).mono ?_); rintro e w' ⟨rfl, ⟨nd, rfl⟩⟩; refine ⟨_, rfl, ?_⟩))
     go_meet
     case rel => exact ⟨_, (true), Own.rs, H', ⟨by have := HJ4.out; first | omega | exact Nat.le_refl _⟩, ⟨Own.bk⟩, ⟨Own.bk⟩, ⟨Own.bl⟩⟩
    replace H := Own.bd H; obtain ⟨t149, A43, H⟩ := H
    replace H := Own.ift H; obtain ⟨rfl, H⟩ | ⟨rfl, H⟩ := H
    ·
     have H' := Aside0.mk H; clear H; have hnb53 := NB141_139.out; have hnc53 := NB139_141.out; obtain ⟨z54_0, z54_1, z54_2, z54_3, z54_4, z54_5, z54_6, z54_7, z54_8, z54_9, z54_10, z54_11, y54_0, y54_1, y54_2, y54_3, y54_4, y54_5, y54_6, y54_7, y54_8, y54_9, y54_10, y54_11⟩ := Own.box12 BK141.out
     go_wp2_with (first | ((with_reducible refine gate_callee (f := 30) rfl ?_); refine goesL_ (some 63) rfl rfl Tryz.func30 (by kernel_rfl) rfl #[.int .i64 ((rd_T51 l0_1 a1).f5), .int .i64 0, .int .i64 1000000] rfl Own.ha ?_; (with_reducible refine (spec_l1In.calls ((rd_T51 l0_1 a1).f5) 0 1000000 true _ A41.out).mono ?_); rintro e w' ⟨rfl, ⟨nd, rfl⟩⟩; refine ⟨_, rfl, ?_⟩) | (go_at_call 30; (with_reducible refine (spec_l1In.calls ((rd_T51 l0_1 a1).f7) 0 400 false _ A43.out).mono ?_); rintro e w' ⟨rfl, ⟨nd, rfl⟩⟩))
     go_meet
     case rel => exact ⟨_, (true), Own.rs, H', ⟨by have := HJ4.out; first | omega | exact Nat.le_refl _⟩, ⟨Own.bk⟩, ⟨Own.bk⟩, ⟨Own.bl⟩⟩
    by_cases c45 : ((rd_T51 l0_1 a1).f1) = 1
    ·
     rw [if_pos c45] at H
     have c45b0 : (((rd_T51 l0_1 a1).f1) == 1) = true := beq_iff_eq.mpr c45
     have c45b1 : (((rd_T51 l0_1 a1).f1) != 1) = false := bne_eq_false_iff_eq.mpr c45
     clear c45
     (first | rw [c45b0] | (simp only [i64_w, i32_w]; rw [c45b0]) | skip)
     have H' := Aside0.mk H; clear H; have hnb46 := NB141_139.out; have hnc46 := NB139_141.out; obtain ⟨z47_0, z47_1, z47_2, z47_3, z47_4, z47_5, z47_6, z47_7, z47_8, z47_9, z47_10, z47_11, y47_0, y47_1, y47_2, y47_3, y47_4, y47_5, y47_6, y47_7, y47_8, y47_9, y47_10, y47_11⟩ := Own.box12 BK141.out
     go_wp2_with (first | ((with_reducible refine gate_callee (f := 30) rfl ?_); refine goesL_ (some 63) rfl rfl Tryz.func30 (by kernel_rfl) rfl #[.int .i64 ((rd_T51 l0_1 a1).f5), .int .i64 0, .int .i64 1000000] rfl Own.ha ?_; (with_reducible refine (spec_l1In.calls ((rd_T51 l0_1 a1).f5) 0 1000000 true _ A41.out).mono ?_); rintro e w' ⟨rfl, ⟨nd, rfl⟩⟩; refine ⟨_, rfl, ?_⟩) | (go_at_call 30; (with_reducible refine (spec_l1In.calls ((rd_T51 l0_1 a1).f7) 0 400 true _ A43.out).mono ?_); rintro e w' ⟨rfl, ⟨nd, rfl⟩⟩))
     go_meet
     case rel => exact ⟨_, (false), Own.rs, H', ⟨by have := HJ4.out; first | omega | exact Nat.le_refl _⟩, ⟨Own.bk⟩, ⟨Own.bk⟩, ⟨Own.bl⟩⟩
    rw [if_neg c45] at H
    have c45b0 : (((rd_T51 l0_1 a1).f1) == 1) = false := beq_eq_false_iff_ne.mpr c45
    have c45b1 : (((rd_T51 l0_1 a1).f1) != 1) = true := bne_iff_ne.mpr c45
    (first | rw [c45b0] | (simp only [i64_w, i32_w]; rw [c45b0]) | skip)
    by_cases c48 : ((rd_T51 l0_1 a1).f5) = 0
    rotate_left
    ·
     rw [if_neg c48] at H
     have c48b0 : (((rd_T51 l0_1 a1).f5) == 0) = false := beq_eq_false_iff_ne.mpr c48
     have c48b1 : (((rd_T51 l0_1 a1).f5) != 0) = true := bne_iff_ne.mpr c48
     have H' := Aside0.mk H; clear H; have hnb51 := NB141_139.out; have hnc51 := NB139_141.out; obtain ⟨z52_0, z52_1, z52_2, z52_3, z52_4, z52_5, z52_6, z52_7, z52_8, z52_9, z52_10, z52_11, y52_0, y52_1, y52_2, y52_3, y52_4, y52_5, y52_6, y52_7, y52_8, y52_9, y52_10, y52_11⟩ := Own.box12 BK141.out
     go_wp2_with (first | ((with_reducible refine gate_callee (f := 30) rfl ?_); refine goesL_ (some 63) rfl rfl Tryz.func30 (by kernel_rfl) rfl #[.int .i64 ((rd_T51 l0_1 a1).f5), .int .i64 0, .int .i64 1000000] rfl Own.ha ?_; (with_reducible refine (spec_l1In.calls ((rd_T51 l0_1 a1).f5) 0 1000000 true _ A41.out).mono ?_); rintro e w' ⟨rfl, ⟨nd, rfl⟩⟩; refine ⟨_, rfl, ?_⟩) | (go_at_call 30; (with_reducible refine (spec_l1In.calls ((rd_T51 l0_1 a1).f7) 0 400 true _ A43.out).mono ?_); rintro e w' ⟨rfl, ⟨nd, rfl⟩⟩))
     go_meet
     case rel => exact ⟨_, (true), Own.rs, H', ⟨by have := HJ4.out; first | omega | exact Nat.le_refl _⟩, ⟨Own.bk⟩, ⟨Own.bk⟩, ⟨Own.bl⟩⟩
    rw [if_pos c48] at H
    have c48b0 : (((rd_T51 l0_1 a1).f5) == 0) = true := beq_iff_eq.mpr c48
    have c48b1 : (((rd_T51 l0_1 a1).f5) != 0) = false := bne_eq_false_iff_eq.mpr c48
    clear c48; have H' := Aside0.mk H; clear H; have hnb49 := NB141_139.out; have hnc49 := NB139_141.out; obtain ⟨z50_0, z50_1, z50_2, z50_3, z50_4, z50_5, z50_6, z50_7, z50_8, z50_9, z50_10, z50_11, y50_0, y50_1, y50_2, y50_3, y50_4, y50_5, y50_6, y50_7, y50_8, y50_9, y50_10, y50_11⟩ := Own.box12 BK141.out
    go_wp2_with (first | ((with_reducible refine gate_callee (f := 30) rfl ?_); refine goesL_ (some 63) rfl rfl Tryz.func30 (by kernel_rfl) rfl #[.int .i64 ((rd_T51 l0_1 a1).f5), .int .i64 0, .int .i64 1000000] rfl Own.ha ?_; (with_reducible refine (spec_l1In.calls ((rd_T51 l0_1 a1).f5) 0 1000000 true _ A41.out).mono ?_); rintro e w' ⟨rfl, ⟨nd, rfl⟩⟩; refine ⟨_, rfl, ?_⟩) | (go_at_call 30; (with_reducible refine (spec_l1In.calls ((rd_T51 l0_1 a1).f7) 0 400 true _ A43.out).mono ?_); rintro e w' ⟨rfl, ⟨nd, rfl⟩⟩))
    go_meet
    case rel => exact ⟨_, ((((rd_T51 l0_1 a1).f7) != 0)), Own.rs, H', ⟨by have := HJ4.out; first | omega | exact Nat.le_refl _⟩, ⟨Own.bk⟩, ⟨Own.bk⟩, ⟨Own.bl⟩⟩
   case rest =>
    clear HC40; try clear c3; try clear c4; try clear z10_0 z10_1 z10_10 z10_11 z10_2 z10_3 z10_4 z10_5 z10_6 z10_7 z10_8 z10_9; try clear z11_0 z11_1; try clear z7_0 z7_1; try clear y10_0 y10_1 y10_10 y10_11 y10_2 y10_3 y10_4 y10_5 y10_6 y10_7 y10_8 y10_9; try clear y11_0 y11_1; try clear y7_0 y7_1; try clear hx140_0; try clear hx140_1; try clear hx140_10; try clear hx140_11; try clear hx140_2; try clear hx140_3; try clear hx140_4; try clear hx140_5; try clear hx140_6; try clear hx140_7; try clear hx140_8; try clear hx140_9; try clear p140; try clear q140
    obtain ⟨kq, x85_39, rfl, HA, HJ39, BK139, BK141, HB⟩ := hcut
    cases kq with
    | zero => exact absurd HA.out (by simp [spec_l6Clause.j1])
    | succ kj39 =>
     have H := HA.out; clear HA
     simp only [spec_l6Clause.j1] at H
     replace H := Own.ifu H; obtain ⟨rfl, H⟩ | ⟨rfl, H⟩ := H
     ·
      obtain rfl := Option.some.inj H
      go_wp2
      go_ret
      exact ⟨Own.rr, Own.bl⟩
     by_cases c58 : ((rd_T51 l0_1 a1).f8).toList = ([] : List UInt8)
     ·
      rw [if_pos c58] at H
      have c58b0 : (((rd_T51 l0_1 a1).f8).toList == ([] : List UInt8)) = true := beq_iff_eq.mpr c58
      have c58b1 : (((rd_T51 l0_1 a1).f8).toList != ([] : List UInt8)) = false := bne_eq_false_iff_eq.mpr c58
      clear c58; obtain rfl := Option.some.inj H; have hnb59 := NB141_139.out; have hnc59 := NB139_141.out; obtain ⟨z60_0, z60_1, z60_2, z60_3, z60_4, z60_5, z60_6, z60_7, z60_8, z60_9, z60_10, z60_11, y60_0, y60_1, y60_2, y60_3, y60_4, y60_5, y60_6, y60_7, y60_8, y60_9, y60_10, y60_11⟩ := Own.box12 BK141.out
      go_wp2
      go_ret
      exact ⟨Own.rr, Own.bl⟩
     rw [if_neg c58] at H
     have c58b0 : (((rd_T51 l0_1 a1).f8).toList == ([] : List UInt8)) = false := beq_eq_false_iff_ne.mpr c58
     have c58b1 : (((rd_T51 l0_1 a1).f8).toList != ([] : List UInt8)) = true := bne_iff_ne.mpr c58
     replace H := Own.bd H; obtain ⟨t150, A61, H⟩ := H
     by_cases c62 : t150 ≥ 0
     rotate_left
     ·
      rw [if_neg c62] at H
      have c62b0 : decide (0 ≤ t150) = false := decide_eq_false c62
      clear c62; obtain rfl := Option.some.inj H; have hnb82 := NB141_139.out; have hnc82 := NB139_141.out; obtain ⟨z83_0, z83_1, z83_2, z83_3, z83_4, z83_5, z83_6, z83_7, z83_8, z83_9, z83_10, z83_11, y83_0, y83_1, y83_2, y83_3, y83_4, y83_5, y83_6, y83_7, y83_8, y83_9, y83_10, y83_11⟩ := Own.box12 BK141.out; obtain ⟨z84_0, z84_1, y84_0, y84_1⟩ := Own.box2 BK139.out
      go_wp2_with (first | ((with_reducible refine gate_callee (f := 13) rfl ?_); refine goesL_ (some 92) rfl rfl Tryz.func13 (by kernel_rfl) rfl #[.agg #[.slice A0_0 l0_0.length c0_0, .slice (some ad140) l0_1.length c0_1], .string ((rd_T51 l0_1 a1).f8)] rfl Own.ha ?_; (with_reducible refine (spec_l6Find.calls kj39 _ _ l0_0 _ _ l0_1 ((rd_T51 l0_1 a1).f8) t150 _ ?side1 ?side2 ?side3 ?side4 A61.out).mono ?_); (case side1 => exact Kd.C_below HR0_0.out Own.bl); (case side2 => exact HC0_0.out); (case side3 => exact Kd.C_below HR0_1.out Own.bl); (case side4 => exact HC0_1.out); rintro e w85 ⟨rfl, hb⟩; refine ⟨_, rfl, ?_⟩; replace BK139 := Own.bb BK139.out hb; replace BK141 := Own.bb BK141.out hb; replace HB := Own.bs hb; (try clear hb)))
      go_ret
      exact ⟨Own.rr, Own.bl⟩
     rw [if_pos c62] at H
     have c62b0 : decide (0 ≤ t150) = true := decide_eq_true c62
     clear c62
     by_cases c63 : t150 = a1
     ·
      rw [if_pos c63] at H
      have c63b0 : (t150 == a1) = true := beq_iff_eq.mpr c63
      have c63b1 : (t150 != a1) = false := bne_eq_false_iff_eq.mpr c63
      clear c63; obtain rfl := Option.some.inj H; have hnb64 := NB141_139.out; have hnc64 := NB139_141.out; obtain ⟨z65_0, z65_1, z65_2, z65_3, z65_4, z65_5, z65_6, z65_7, z65_8, z65_9, z65_10, z65_11, y65_0, y65_1, y65_2, y65_3, y65_4, y65_5, y65_6, y65_7, y65_8, y65_9, y65_10, y65_11⟩ := Own.box12 BK141.out; obtain ⟨z66_0, z66_1, y66_0, y66_1⟩ := Own.box2 BK139.out
      go_wp2_with (first | ((with_reducible refine gate_callee (f := 13) rfl ?_); refine goesL_ (some 92) rfl rfl Tryz.func13 (by kernel_rfl) rfl #[.agg #[.slice A0_0 l0_0.length c0_0, .slice (some ad140) l0_1.length c0_1], .string ((rd_T51 l0_1 a1).f8)] rfl Own.ha ?_; (with_reducible refine (spec_l6Find.calls kj39 _ _ l0_0 _ _ l0_1 ((rd_T51 l0_1 a1).f8) t150 _ ?side1 ?side2 ?side3 ?side4 A61.out).mono ?_); (case side1 => exact Kd.C_below HR0_0.out Own.bl); (case side2 => exact HC0_0.out); (case side3 => exact Kd.C_below HR0_1.out Own.bl); (case side4 => exact HC0_1.out); rintro e w67 ⟨rfl, hb⟩; refine ⟨_, rfl, ?_⟩; replace BK139 := Own.bb BK139.out hb; replace BK141 := Own.bb BK141.out hb; replace HB := Own.bs hb; (try clear hb)))
      go_ret
      exact ⟨Own.rr, Own.bl⟩
     rw [if_neg c63] at H
     have c63b0 : (t150 == a1) = false := beq_eq_false_iff_ne.mpr c63
     have c63b1 : (t150 != a1) = true := bne_iff_ne.mpr c63
     replace H := Own.ifd H; obtain ⟨c68, H⟩ := H
     replace H := Own.ifd H; obtain ⟨c69, H⟩ := H
     by_cases c70 : ((rd_T51 l0_1 t150).f1) = 1
     rotate_left
     ·
      rw [if_neg c70] at H
      have c70b0 : (((rd_T51 l0_1 t150).f1) == 1) = false := beq_eq_false_iff_ne.mpr c70
      have c70b1 : (((rd_T51 l0_1 t150).f1) != 1) = true := bne_iff_ne.mpr c70
      obtain rfl := Option.some.inj H; have hnb77 := NB141_139.out; have hnc77 := NB139_141.out; obtain ⟨z78_0, z78_1, z78_2, z78_3, z78_4, z78_5, z78_6, z78_7, z78_8, z78_9, z78_10, z78_11, y78_0, y78_1, y78_2, y78_3, y78_4, y78_5, y78_6, y78_7, y78_8, y78_9, y78_10, y78_11⟩ := Own.box12 BK141.out; obtain ⟨z79_0, z79_1, y79_0, y79_1⟩ := Own.box2 BK139.out
      go_wp2_with (first | ((with_reducible refine gate_callee (f := 13) rfl ?_); refine goesL_ (some 92) rfl rfl Tryz.func13 (by kernel_rfl) rfl #[.agg #[.slice A0_0 l0_0.length c0_0, .slice (some ad140) l0_1.length c0_1], .string ((rd_T51 l0_1 a1).f8)] rfl Own.ha ?_; (with_reducible refine (spec_l6Find.calls kj39 _ _ l0_0 _ _ l0_1 ((rd_T51 l0_1 a1).f8) t150 _ ?side1 ?side2 ?side3 ?side4 A61.out).mono ?_); (case side1 => exact Kd.C_below HR0_0.out Own.bl); (case side2 => exact HC0_0.out); (case side3 => exact Kd.C_below HR0_1.out Own.bl); (case side4 => exact HC0_1.out); rintro e w80 ⟨rfl, hb⟩; refine ⟨_, rfl, ?_⟩; replace BK139 := Own.bb BK139.out hb; replace BK141 := Own.bb BK141.out hb; replace HB := Own.bs hb; (try clear hb); obtain ⟨z81_0, z81_1, y81_0, y81_1⟩ := Own.box2 BK139.out; have p151 : 0 ≤ (t150 : Int) := Own.dp; have q151 : t150 < (l0_1.length : Int) := Own.dp; obtain ⟨ad151, A151_9, c151_9, e151, hx151_0, hx151_1, hx151_2, hx151_3, hx151_4, hx151_5, hx151_6, hx151_7, hx151_8, hx151_9, hx151_10, hx151_11, hl151_9, hi151_9⟩ := at_T51 HR0_1.out t150 p151 q151; obtain rfl : ad140 = ad151 := (by injection e151); replace hx151_0 := Own.up HB.out hx151_0; replace hx151_1 := Own.up HB.out hx151_1; replace hx151_2 := Own.up HB.out hx151_2; replace hx151_3 := Own.up HB.out hx151_3; replace hx151_4 := Own.up HB.out hx151_4; replace hx151_5 := Own.up HB.out hx151_5; replace hx151_6 := Own.up HB.out hx151_6; replace hx151_7 := Own.up HB.out hx151_7; replace hx151_8 := Own.up HB.out hx151_8; replace hx151_9 := Own.up HB.out hx151_9; replace hx151_10 := Own.up HB.out hx151_10; replace hx151_11 := Own.up HB.out hx151_11; have HR151_9 := Aside0.mk hi151_9; have HC151_9 := Aside0.mk hl151_9; clear hi151_9 hl151_9; replace p151 := eq_true p151; replace q151 := eq_true q151))
      go_ret
      exact ⟨Own.rr, Own.bl⟩
     rw [if_pos c70] at H
     have c70b0 : (((rd_T51 l0_1 t150).f1) == 1) = true := beq_iff_eq.mpr c70
     have c70b1 : (((rd_T51 l0_1 t150).f1) != 1) = false := bne_eq_false_iff_eq.mpr c70
     clear c70; obtain rfl := Option.some.inj H; have hnb71 := NB141_139.out; have hnc71 := NB139_141.out; obtain ⟨z72_0, z72_1, z72_2, z72_3, z72_4, z72_5, z72_6, z72_7, z72_8, z72_9, z72_10, z72_11, y72_0, y72_1, y72_2, y72_3, y72_4, y72_5, y72_6, y72_7, y72_8, y72_9, y72_10, y72_11⟩ := Own.box12 BK141.out; obtain ⟨z73_0, z73_1, y73_0, y73_1⟩ := Own.box2 BK139.out
     go_wp2_with (first | ((with_reducible refine gate_callee (f := 13) rfl ?_); refine goesL_ (some 92) rfl rfl Tryz.func13 (by kernel_rfl) rfl #[.agg #[.slice A0_0 l0_0.length c0_0, .slice (some ad140) l0_1.length c0_1], .string ((rd_T51 l0_1 a1).f8)] rfl Own.ha ?_; (with_reducible refine (spec_l6Find.calls kj39 _ _ l0_0 _ _ l0_1 ((rd_T51 l0_1 a1).f8) t150 _ ?side1 ?side2 ?side3 ?side4 A61.out).mono ?_); (case side1 => exact Kd.C_below HR0_0.out Own.bl); (case side2 => exact HC0_0.out); (case side3 => exact Kd.C_below HR0_1.out Own.bl); (case side4 => exact HC0_1.out); rintro e w74 ⟨rfl, hb⟩; refine ⟨_, rfl, ?_⟩; replace BK139 := Own.bb BK139.out hb; replace BK141 := Own.bb BK141.out hb; replace HB := Own.bs hb; (try clear hb); obtain ⟨z75_0, z75_1, y75_0, y75_1⟩ := Own.box2 BK139.out; have p151 : 0 ≤ (t150 : Int) := Own.dp; have q151 : t150 < (l0_1.length : Int) := Own.dp; obtain ⟨ad151, A151_9, c151_9, e151, hx151_0, hx151_1, hx151_2, hx151_3, hx151_4, hx151_5, hx151_6, hx151_7, hx151_8, hx151_9, hx151_10, hx151_11, hl151_9, hi151_9⟩ := at_T51 HR0_1.out t150 p151 q151; obtain rfl : ad140 = ad151 := (by injection e151); replace hx151_0 := Own.up HB.out hx151_0; replace hx151_1 := Own.up HB.out hx151_1; replace hx151_2 := Own.up HB.out hx151_2; replace hx151_3 := Own.up HB.out hx151_3; replace hx151_4 := Own.up HB.out hx151_4; replace hx151_5 := Own.up HB.out hx151_5; replace hx151_6 := Own.up HB.out hx151_6; replace hx151_7 := Own.up HB.out hx151_7; replace hx151_8 := Own.up HB.out hx151_8; replace hx151_9 := Own.up HB.out hx151_9; replace hx151_10 := Own.up HB.out hx151_10; replace hx151_11 := Own.up HB.out hx151_11; have HR151_9 := Aside0.mk hi151_9; have HC151_9 := Aside0.mk hl151_9; clear hi151_9 hl151_9; replace p151 := eq_true p151; replace q151 := eq_true q151; obtain ⟨z76_0, z76_1, z76_2, z76_3, z76_4, z76_5, z76_6, z76_7, z76_8, z76_9, z76_10, z76_11, y76_0, y76_1, y76_2, y76_3, y76_4, y76_5, y76_6, y76_7, y76_8, y76_9, y76_10, y76_11⟩ := Own.box12 BK141.out))
     go_ret
     exact ⟨Own.rr, Own.bl⟩
end Go.Proofs.YtckopglnblcnoaaGreatDoor.QFnExactRemoveClause
