-- Written by a program of this session out of the translation; Lean checks it.
import Derived.Test.YtaallhcmhennkaaQFnExactJoinCalendarsx0
import Derived.Test.YtaallhcmhennkaaQFnExactJoinCalendarsx1
import Derived.Test.YtaallhcmhennkaaQFnExactJoinCalendarsx3
namespace Go.Proofs.Ytaallhcmhennkaa.QFnExactJoinCalendars
open Go.RowKit Go.Proofs.YtaallhcmhennkaaW.PrintWords Go.Proofs.YtaallhcmhennkaaW.PrintLast Go.Proofs.YtaallhcmhennkaaW.PrintMore
attribute [local go_sem] Instr.field asAgg Own.str_leq Own.str_gtr Own.str_geq
attribute [local go_sem] max2_int min2_int max_two min_two max_three min_three max_four min_four   -- for this text's walks alone
set_option linter.unusedVariables false
set_option linter.unusedSimpArgs false

/-! ### spec_JoinCalendars: function 12 -/
def spec_JoinCalendars.j0 : Nat → Bool → List Int → List Int → List Int → List Int → Option (List Int × List Int × Bool)
 | 0, _, _, _, _, _ => none
 | k + 1, x14, x177000, x177001, x178000, x178001 => if x14 = true then (some (([] : List Int), ([] : List Int), false)) else ((spec_l4Union.f k x177000 x178000).bind fun t181 => ((spec_l4Union.f k x177001 x178001).bind fun t184 => ((spec_l4Good.f k t181 t184).bind fun t188 => (if t188 = true then (some (t181, t184, true)) else (some (([] : List Int), ([] : List Int), false))))))
def spec_JoinCalendars.f (k : Nat) (l0_0 : List Int) (l0_1 : List Int) (l1_0 : List Int) (l1_1 : List Int) : Option (List Int × List Int × Bool) := (spec_l4Good.f k l0_0 l0_1).bind fun t179 => (if t179 = true then ((spec_l4Good.f k l1_0 l1_1).bind fun t180 => (spec_JoinCalendars.j0 k (!t180) l0_0 l0_1 l1_0 l1_1)) else (spec_JoinCalendars.j0 k true l0_0 l0_1 l1_0 l1_1))
theorem spec_JoinCalendars.mono_l : ∀ k, (∀ y0 y1 y2 y3 y4, LeO (spec_JoinCalendars.j0 k y0 y1 y2 y3 y4) (spec_JoinCalendars.j0 (k + 1) y0 y1 y2 y3 y4))
 | 0 => fun _ _ _ _ _ r h => by simp [spec_JoinCalendars.j0] at h
 | k + 1 => by
  have ih0 := spec_JoinCalendars.mono_l k
  ·
   intro y0 y1 y2 y3 y4
   unfold spec_JoinCalendars.j0
   repeat' first
   | (with_reducible first | exact ih0 _ _ _ _ _ | exact spec_l4Good.mono _ _ _ | exact spec_l4Union.mono _ _ _ | exact LeO.refl _ | exact LeO.none _ | refine LeO.ite ?_ ?_ | refine LeO.bind ?_ (fun _ => ?_))
theorem spec_JoinCalendars.mono : ∀ a0 a1 a2 a3 k, LeO (spec_JoinCalendars.f k a0 a1 a2 a3) (spec_JoinCalendars.f (k + 1) a0 a1 a2 a3) := by
 intro a0 a1 a2 a3 k
 have ih0 := spec_JoinCalendars.mono_l k
 unfold spec_JoinCalendars.f
 repeat' first
   | (with_reducible first | exact ih0 _ _ _ _ _ | exact spec_l4Good.mono _ _ _ | exact spec_l4Union.mono _ _ _ | exact LeO.refl _ | exact LeO.none _ | refine LeO.ite ?_ ?_ | refine LeO.bind ?_ (fun _ => ?_))
def spec_JoinCalendars.T3 : Bool × List (List Nat × List Nat) := (true, [([], []), ([0], [0]), ([], []), ([2], [2]), ([1, 3], [1, 3]), ([], []), ([5], [5]), ([], []), ([7], [7]), ([6, 8, 4], [6, 8]), ([4, 9], [4, 9]), ([], []), ([11, 10, 9, 0, 1, 2, 3, 4, 5, 6, 7, 8, 9, 10, 11], [10, 11])])
def spec_JoinCalendars.B3 : List Nat := [0, 1, 0, 4, 15, 0, 32, 0, 128, 511, 1023, 0, 4095]
theorem spec_JoinCalendars.tab3 : rtab .any (opsOf Try.f12 3) = spec_JoinCalendars.T3 := by kernel_rfl
theorem spec_JoinCalendars.bits3 : waitsOk spec_JoinCalendars.T3.2 spec_JoinCalendars.B3 = true := by kernel_rfl
set_option maxHeartbeats 8000000 in
set_option maxRecDepth 100000 in
theorem spec_JoinCalendars.calls (k : Nat) (A0_0 : Option Addr) (c0_0 : Nat) (l0_0 : List Int) (A0_1 : Option Addr) (c0_1 : Nat) (l0_1 : List Int) (A1_0 : Option Addr) (c1_0 : Nat) (l1_0 : List Int) (A1_1 : Option Addr) (c1_1 : Nat) (l1_1 : List Int) (r1 : List Int) (r2 : List Int) (r3 : Bool) (w : World) (hr0_0 : Kd.C (Kd.int .i64) w A0_0 l0_0.length l0_0) (hc0_0 : l0_0.length ≤ c0_0) (hr0_1 : Kd.C (Kd.int .i64) w A0_1 l0_1.length l0_1) (hc0_1 : l0_1.length ≤ c0_1) (hr1_0 : Kd.C (Kd.int .i64) w A1_0 l1_0.length l1_0) (hc1_0 : l1_0.length ≤ c1_0) (hr1_1 : Kd.C (Kd.int .i64) w A1_1 l1_1.length l1_1) (hc1_1 : l1_1.length ≤ c1_1) (h : spec_JoinCalendars.f k l0_0 l0_1 l1_0 l1_1 = some (r1, r2, r3)) :
  Calls Try.prog 12 #[.agg #[.slice A0_0 l0_0.length c0_0, .slice A0_1 l0_1.length c0_1], .agg #[.slice A1_0 l1_0.length c1_0, .slice A1_1 l1_1.length c1_1]] w fun e w' => ∃ v0_ v1_ : Value, e = .returned (.tuple #[.agg #[v0_, v1_], .bool r3]) ∧ Kd.V (Kd.int .i64) 3 w' w.heap.size (fun k_ => (w.heap.size ≤ k_)) v0_ r1 ∧ Kd.V (Kd.int .i64) 3 w' w.heap.size (fun k_ => (w.heap.size ≤ k_)) v1_ r2 ∧ Below w.heap.size w w' := by
 have hu26 := Try.underlying26
 have HR0_0 := Aside0.mk hr0_0
 have HC0_0 := Aside0.mk hc0_0
 clear hr0_0 hc0_0
 have HR0_1 := Aside0.mk hr0_1
 have HC0_1 := Aside0.mk hc0_1
 clear hr0_1 hc0_1
 have HR1_0 := Aside0.mk hr1_0
 have HC1_0 := Aside0.mk hc1_0
 clear hr1_0 hc1_0
 have HR1_1 := Aside0.mk hr1_1
 have HC1_1 := Aside0.mk hc1_1
 clear hr1_1 hc1_1
 have HB := Aside0.mk (Below.refl w.heap.size w)
 have H : ((spec_l4Good.f k l0_0 l0_1).bind fun t179 => (if t179 = true then ((spec_l4Good.f k l1_0 l1_1).bind fun t180 => (spec_JoinCalendars.j0 k (!t180) l0_0 l0_1 l1_0 l1_1)) else (spec_JoinCalendars.j0 k true l0_0 l0_1 l1_0 l1_1))) = some (r1, r2, r3) := h
 clear h
 have HC3 := Aside0.mk H
 clear H
 go_enter Try.func12, Try.ntmps12
 go_upto_region 1 with (first | ((with_reducible refine gate_dst (N := 2) rfl ?_); refine Own.be (N := 2) (cs := #[.slice A0_0 l0_0.length c0_0, .slice A0_1 l0_1.length c0_1]) (t := 26) ?_; intro gb176 hg w4 hbox hb; have BK176 := Aside0.mk hbox; have GW176 := (Own.gs hg : Aside0 (w.heap.size ≤ gb176)); have GE176 := GW176; replace HB := Own.bs hb; clear hb hbox hg) | ((with_reducible refine gate_dst (N := 3) rfl ?_); refine Own.be (N := 3) (cs := #[.slice A1_0 l1_0.length c1_0, .slice A1_1 l1_1.length c1_1]) (t := 26) ?_; intro gb177 hg w5 hbox hb; have BK177 := Aside0.mk hbox; have GW177 := (Own.gs hg : Aside0 (w.heap.size ≤ gb177)); have GE177 := GW177; have NB176_177 := Own.nl hg BK176.out; have NB177_176 := Aside0.mk NB176_177.out.symm; replace BK176 := Own.bb BK176.out hb; replace HB := Own.bs hb; clear hb hbox hg) | ((with_reducible refine gate_dst (N := 4) rfl ?_); refine Own.be (N := 4) (cs := #[.slice none 0 0, .slice none 0 0]) (t := 26) ?_; intro gb178 hg w6 hbox hb; have BK178 := Aside0.mk hbox; have GW178 := (Own.gs hg : Aside0 (w.heap.size ≤ gb178)); have GE178 := GW178; have NB176_178 := Own.nl hg BK176.out; have NB178_176 := Aside0.mk NB176_178.out.symm; have NB177_178 := Own.nl hg BK177.out; have NB178_177 := Aside0.mk NB177_178.out.symm; replace BK176 := Own.bb BK176.out hb; replace BK177 := Own.bb BK177.out hb; replace HB := Own.bs hb; clear hb hbox hg))
 (try simp only [Own.ps])
 go_cut [14] (fun v14 wc => ∃ (kq : Nat) (x14_2 : Bool), v14 = .bool x14_2 ∧ Aside0 (spec_JoinCalendars.j0 kq x14_2 l0_0 l0_1 l1_0 l1_1 = some (r1, r2, r3)) ∧ Aside0 (kq ≤ k) ∧ Aside0 (wc.heap[gb176]? = some (.cells #[(.slice A0_0 l0_0.length c0_0), (.slice A0_1 l0_1.length c0_1)] 26 (0, 0))) ∧ Aside0 (wc.heap[gb177]? = some (.cells #[(.slice A1_0 l1_0.length c1_0), (.slice A1_1 l1_1.length c1_1)] 26 (0, 0))) ∧ Aside0 (wc.heap[gb178]? = some (.cells #[(.slice none 0 0), (.slice none 0 0)] 26 (0, 0))) ∧ Aside0 (Below w.heap.size w wc))
 case first =>
  have H := HC3.out
  clear HC3
  replace H := Own.bd H; obtain ⟨t179, A7, H⟩ := H
  replace H := Own.ifu H; obtain ⟨rfl, H⟩ | ⟨rfl, H⟩ := H
  ·
   replace H := Own.bd H; obtain ⟨t180, A9, H⟩ := H
   have H' := Aside0.mk H
   clear H
   have hnb10 := NB176_177.out
   have hnc10 := NB177_176.out
   have hnb11 := NB176_178.out
   have hnc11 := NB178_176.out
   obtain ⟨z12_0, z12_1, y12_0, y12_1⟩ := Own.box2 BK176.out
   go_wp2_with (first | ((with_reducible refine gate_callee (f := 24) rfl ?_); refine goesL_ (some 8) rfl rfl Try.func24 (by kernel_rfl) rfl #[.agg #[.slice A0_0 l0_0.length c0_0, .slice A0_1 l0_1.length c0_1]] rfl Own.ha ?_; (with_reducible refine (spec_l4Good.calls k _ _ l0_0 _ _ l0_1 true _ ?side1 ?side2 ?side3 ?side4 A7.out).mono ?_); (case side1 => exact Kd.C_below HR0_0.out Own.bl); (case side2 => exact HC0_0.out); (case side3 => exact Kd.C_below HR0_1.out Own.bl); (case side4 => exact HC0_1.out); rintro e w13 ⟨rfl, hb⟩; refine ⟨_, rfl, ?_⟩; replace BK176 := Own.bb BK176.out hb; replace BK177 := Own.bb BK177.out hb; replace BK178 := Own.bb BK178.out hb; replace HB := Own.bs hb; (try clear hb); have hnb14 := NB177_178.out; have hnc14 := NB178_177.out; obtain ⟨z15_0, z15_1, y15_0, y15_1⟩ := Own.box2 BK177.out) | (go_at_call 24; (with_reducible refine (spec_l4Good.calls k _ _ l1_0 _ _ l1_1 t180 _ ?side1 ?side2 ?side3 ?side4 A9.out).mono ?_); (case side1 => exact Kd.C_below HR1_0.out Own.bl); (case side2 => exact HC1_0.out); (case side3 => exact Kd.C_below HR1_1.out Own.bl); (case side4 => exact HC1_1.out); rintro e w16 ⟨rfl, hb⟩; replace BK176 := Own.bb BK176.out hb; replace BK177 := Own.bb BK177.out hb; replace BK178 := Own.bb BK178.out hb; replace HB := Own.bs hb; (try clear hb)))
   go_meet
   case rel => exact ⟨_, (!t180), Own.rs, H', ⟨by first | omega | exact Nat.le_refl _⟩, ⟨Own.bk⟩, ⟨Own.bk⟩, ⟨Own.bk⟩, ⟨Own.bl⟩⟩
  have H' := Aside0.mk H
  clear H
  have hnb17 := NB176_177.out
  have hnc17 := NB177_176.out
  have hnb18 := NB176_178.out
  have hnc18 := NB178_176.out
  obtain ⟨z19_0, z19_1, y19_0, y19_1⟩ := Own.box2 BK176.out
  go_wp2_with (first | ((with_reducible refine gate_callee (f := 24) rfl ?_); refine goesL_ (some 8) rfl rfl Try.func24 (by kernel_rfl) rfl #[.agg #[.slice A0_0 l0_0.length c0_0, .slice A0_1 l0_1.length c0_1]] rfl Own.ha ?_; (with_reducible refine (spec_l4Good.calls k _ _ l0_0 _ _ l0_1 false _ ?side1 ?side2 ?side3 ?side4 A7.out).mono ?_); (case side1 => exact Kd.C_below HR0_0.out Own.bl); (case side2 => exact HC0_0.out); (case side3 => exact Kd.C_below HR0_1.out Own.bl); (case side4 => exact HC0_1.out); rintro e w20 ⟨rfl, hb⟩; refine ⟨_, rfl, ?_⟩; replace BK176 := Own.bb BK176.out hb; replace BK177 := Own.bb BK177.out hb; replace BK178 := Own.bb BK178.out hb; replace HB := Own.bs hb; (try clear hb)))
  go_meet
  case rel => exact ⟨_, (true), Own.rs, H', ⟨by first | omega | exact Nat.le_refl _⟩, ⟨Own.bk⟩, ⟨Own.bk⟩, ⟨Own.bk⟩, ⟨Own.bl⟩⟩
 case rest =>
  clear HC3
  try clear c1; try clear c2; try clear p2; try clear c8; try clear c10; try clear c11; try clear c12; try clear c14; try clear c17; try clear c18; try clear z12_0 z12_1; try clear z15_0 z15_1; try clear z19_0 z19_1; try clear y12_0 y12_1; try clear y15_0 y15_1; try clear y19_0 y19_1
  obtain ⟨kq, x14_2, rfl, HA, HJ2, BK176, BK177, BK178, HB⟩ := hcut
  cases kq with
  | zero => exact absurd HA.out (by simp [spec_JoinCalendars.j0])
  | succ kj2 =>
   have H := HA.out
   clear HA
   simp only [spec_JoinCalendars.j0] at H
   replace H := Own.ifu H; obtain ⟨rfl, H⟩ | ⟨rfl, H⟩ := H
   ·
    simp only [Option.some.injEq, Prod.mk.injEq] at H
    obtain ⟨rfl, rfl, rfl⟩ := H
    have hnb22 := NB178_176.out
    have hnc22 := NB176_178.out
    have hnb23 := NB178_177.out
    have hnc23 := NB177_178.out
    obtain ⟨z24_0, z24_1, y24_0, y24_1⟩ := Own.box2 BK178.out
    go_wp2
    refine bodyPost_ret (results_ct rfl _ _ gb178 26 #[.slice none 0 0, .slice none 0 0] (0, 0) _ rfl (by (with_reducible repeat (first | refine blk_drewN ?_ _ | refine blk_drew ?_ | refine blk_alloc ?_ _)); with_reducible exact Own.put2 BK178.out) Try.underlying26 rfl (by kernel_rfl)) rfl ?_
    exact ⟨_, _, Own.rr, Kd.V_nil _ _ _ _ _, Kd.V_nil _ _ _ _ _, Own.bl⟩
   replace H := Own.bd H; obtain ⟨t181, A25, H⟩ := H
   replace H := Own.bd H; obtain ⟨t184, A26, H⟩ := H
   replace H := Own.bd H; obtain ⟨t188, A27, H⟩ := H
   replace H := Own.ifu H; obtain ⟨rfl, H⟩ | ⟨rfl, H⟩ := H
   ·
    simp only [Option.some.injEq, Prod.mk.injEq] at H
    obtain ⟨rfl, rfl, rfl⟩ := H
    try go_wp2
    have n0_ := Aside0.mk (blk_drew BK176.out)
    have n1_ := Aside0.mk (blk_drew BK177.out)
    have n2_ := Aside0.mk (blk_drew BK178.out)
    have n3_ := Aside0.mk (below_drew1 HB.out)
    clear BK176
    clear BK177
    clear BK178
    clear HB
    have BK176 := n0_
    have BK177 := n1_
    have BK178 := n2_
    have HB := n3_
    clear n0_ n1_ n2_ n3_
    refine start_ (n := 13) (S := fun w' => w'.cell? ⟨gb176, 0, none⟩ = some (.slice A0_0 l0_0.length c0_0) ∧ w'.cell? ⟨gb176, 1, none⟩ = some (.slice A0_1 l0_1.length c0_1) ∧ w'.cell? ⟨gb177, 0, none⟩ = some (.slice A1_0 l1_0.length c1_0) ∧ w'.cell? ⟨gb177, 1, none⟩ = some (.slice A1_1 l1_1.length c1_1)) (ds := []) #[false, false, false, false, false, false, false, false, false, false, false, false, false] (by kernel_rfl) rfl rfl ⟨(blk_cell BK176.out 0).trans rfl, (blk_cell BK176.out 1).trans rfl, (blk_cell BK177.out 0).trans rfl, (blk_cell BK177.out 1).trans rfl⟩ (fun hHeld => ?_); refine with_tabW spec_JoinCalendars.tab3 spec_JoinCalendars.bits3 (fun HT_ HW_ => ?_)
    generalize wc.drew = w29 at BK176 BK177 BK178 HB hHeld ⊢
    refine pure_ (i := 0) (N := some 16) (v := ?_) (a' := ?_) #[true, false, false, false, false, false, false, false, false, false, false, false, false] rfl rfl (any_of HT_.out (by kernel_rfl)) (fun _ _ _ h => h) (Or.inl ⟨by rfl, ?_⟩) ?_ ?_
    rotate_left
    ·
     intro w'
     go_simp
     with_reducible rfl
    rotate_left
    ·
     simp only [Own.ps]
     rfl
    refine pure_ (i := 2) (N := some 18) (v := ?_) (a' := ?_) #[true, false, true, false, false, false, false, false, false, false, false, false, false] rfl rfl (any_of HT_.out (by kernel_rfl)) (fun _ _ _ h => h) (Or.inl ⟨by rfl, ?_⟩) ?_ ?_
    rotate_left
    ·
     intro w'
     go_simp
     with_reducible rfl
    rotate_left
    ·
     simp only [Own.ps]
     rfl
    refine pure_ (i := 5) (N := some 21) (v := ?_) (a' := ?_) #[true, false, true, false, false, true, false, false, false, false, false, false, false] rfl rfl (any_of HT_.out (by kernel_rfl)) (fun _ _ _ h => h) (Or.inl ⟨by rfl, ?_⟩) ?_ ?_
    rotate_left
    ·
     intro w'
     go_simp
     with_reducible rfl
    rotate_left
    ·
     simp only [Own.ps]
     rfl
    refine pure_ (i := 7) (N := some 23) (v := ?_) (a' := ?_) #[true, false, true, false, false, true, false, true, false, false, false, false, false] rfl rfl (any_of HT_.out (by kernel_rfl)) (fun _ _ _ h => h) (Or.inl ⟨by rfl, ?_⟩) ?_ ?_
    rotate_left
    ·
     intro w'
     go_simp
     with_reducible rfl
    rotate_left
    ·
     simp only [Own.ps]
     rfl
    refine take_ (i := 1) (N := some 17) (v := ?_) (a' := ?_) #[true, true, true, false, false, true, false, true, false, false, false, false, false] rfl rfl (take_ofW HT_.out HW_.out (by kernel_rfl)) (fun _ _ _ h => h) (Or.inl ⟨by rfl, ?_⟩) hHeld ?_ ?_
    rotate_left
    ·
     rintro w' ⟨s0, s1, s2, s3⟩
     go_simp
     with_reducible rfl
    rotate_left
    ·
     simp only [Own.ps]
     rfl
    refine take_ (i := 3) (N := some 19) (v := ?_) (a' := ?_) #[true, true, true, true, false, true, false, true, false, false, false, false, false] rfl rfl (take_ofW HT_.out HW_.out (by kernel_rfl)) (fun _ _ _ h => h) (Or.inl ⟨by rfl, ?_⟩) hHeld ?_ ?_
    rotate_left
    ·
     rintro w' ⟨s0, s1, s2, s3⟩
     go_simp
     with_reducible rfl
    rotate_left
    ·
     simp only [Own.ps]
     rfl
    refine take_ (i := 6) (N := some 22) (v := ?_) (a' := ?_) #[true, true, true, true, false, true, true, true, false, false, false, false, false] rfl rfl (take_ofW HT_.out HW_.out (by kernel_rfl)) (fun _ _ _ h => h) (Or.inl ⟨by rfl, ?_⟩) hHeld ?_ ?_
    rotate_left
    ·
     rintro w' ⟨s0, s1, s2, s3⟩
     go_simp
     with_reducible rfl
    rotate_left
    ·
     simp only [Own.ps]
     rfl
    refine take_ (i := 8) (N := some 24) (v := ?_) (a' := ?_) #[true, true, true, true, false, true, true, true, true, false, false, false, false] rfl rfl (take_ofW HT_.out HW_.out (by kernel_rfl)) (fun _ _ _ h => h) (Or.inl ⟨by rfl, ?_⟩) hHeld ?_ ?_
    rotate_left
    ·
     rintro w' ⟨s0, s1, s2, s3⟩
     go_simp
     with_reducible rfl
    rotate_left
    ·
     simp only [Own.ps]
     rfl
    refine join_ (σ := Value × Value × Nat) 1 #[true, true, true, true, true, true, true, true, true, true, true, true, false] (fun s_ => [(20, s_.1), (25, s_.2.1), (6, .pointer (some ⟨s_.2.2, 0, none⟩)), (26, .agg #[s_.1, s_.2.1])]) (fun s_ w' => (w'.cell? ⟨gb176, 0, none⟩ = some (.slice A0_0 l0_0.length c0_0) ∧ w'.cell? ⟨gb176, 1, none⟩ = some (.slice A0_1 l0_1.length c0_1) ∧ w'.cell? ⟨gb177, 0, none⟩ = some (.slice A1_0 l1_0.length c1_0) ∧ w'.cell? ⟨gb177, 1, none⟩ = some (.slice A1_1 l1_1.length c1_1)) ∧ (Kd.V (Kd.int .i64) 3 w' w.heap.size (fun k_ => (w.heap.size ≤ k_) ∧ k_ ≠ gb176 ∧ k_ ≠ gb177 ∧ k_ ≠ gb178 ∧ k_ ≠ s_.2.2) s_.1 t181) ∧ (Kd.V (Kd.int .i64) 3 w' w.heap.size (fun k_ => (w.heap.size ≤ k_) ∧ k_ ≠ gb176 ∧ k_ ≠ gb177 ∧ k_ ≠ gb178 ∧ k_ ≠ s_.2.2) s_.2.1 t184) ∧ (w'.heap[gb176]? = some (.cells #[.slice A0_0 l0_0.length c0_0, .slice A0_1 l0_1.length c0_1] 26 (0, 0))) ∧ (w'.heap[gb177]? = some (.cells #[.slice A1_0 l1_0.length c1_0, .slice A1_1 l1_1.length c1_1] 26 (0, 0))) ∧ (w'.heap[gb178]? = some (.cells #[.slice none 0 0, .slice none 0 0] 26 (0, 0))) ∧ (w'.heap[s_.2.2]? = some (.cells #[.slice none 0 0, .slice none 0 0] 26 (0, 0))) ∧ (w.heap.size ≤ s_.2.2) ∧ (w.heap.size ≤ s_.2.2) ∧ (gb176 ≠ s_.2.2) ∧ (s_.2.2 ≠ gb176) ∧ (gb177 ≠ s_.2.2) ∧ (s_.2.2 ≠ gb177) ∧ (gb178 ≠ s_.2.2) ∧ (s_.2.2 ≠ gb178) ∧ (Below w.heap.size w w')) ?_ ?_
    rotate_left
    ·
     intro hCont
     refine two_ (i := 4) (j := 11) (Ni := some 20) (Nj := some 6) #[true, true, true, true, true, true, true, true, true, false, false, false, false] #[true, true, true, true, false, true, true, true, true, false, false, true, false] rfl rfl rfl rfl (two_of HT_.out (by kernel_rfl)) (by decide) (by decide) (fun K hK => ?_) (fun K hK => ?_)
     ·
      skip
      refine goes_ Try.func30 (by kernel_rfl) rfl #[.slice A0_0 l0_0.length c0_0, .slice A1_0 l1_0.length c1_0] (by rfl) rfl rfl Own.ha ?_
      with_reducible refine (spec_l4Union.calls kj2 _ _ l0_0 _ _ l1_0 t181 _ ?side1 ?side2 ?side3 ?side4 A25.out).mono ?_
      (case side1 => exact Kd.C_below HR0_0.out Own.bl)
      (case side2 => exact HC0_0.out)
      (case side3 => exact Kd.C_below HR1_0.out Own.bl)
      (case side4 => exact HC1_0.out)
      rintro e w30 ⟨v182, rfl, ho0, hb⟩
      refine ⟨_, rfl, ?_⟩
      have n0_ := Aside0.mk (Kd.V_lower (Kd.V_mono (ok' := fun k_ => (w.heap.size ≤ k_) ∧ k_ ≠ gb176 ∧ k_ ≠ gb177 ∧ k_ ≠ gb178) ho0 (fun k_ hk_ => ⟨(Nat.le_trans (below_size Own.bl) hk_), (Kd.freshB (Own.bkf BK176.out) k_ hk_), (Kd.freshB (Own.bkf BK177.out) k_ hk_), (Kd.freshB (Own.bkf BK178.out) k_ hk_)⟩)) (below_size Own.bl))
      have n1_ := Own.bb BK176.out hb
      have n2_ := Own.bb BK177.out hb
      have n3_ := Own.bb BK178.out hb
      have n4_ := Own.bs hb
      clear BK176
      clear BK177
      clear BK178
      clear HB
      have HO183 := n0_
      have BK176 := n1_
      have BK177 := n2_
      have BK178 := n3_
      have HB := n4_
      clear n0_ n1_ n2_ n3_ n4_
      (try clear hb)
      (try clear hb2)
      (try clear hk)
      (try clear hi)
      (try clear ho0)
      refine hK.out _ _ ⟨(blk_cell BK176.out 0).trans rfl, (blk_cell BK176.out 1).trans rfl, (blk_cell BK177.out 0).trans rfl, (blk_cell BK177.out 1).trans rfl⟩ (fun hHeld => ?_)
      clear hK K
      refine norm_ (a' := ?_) ?_ ?_
      rotate_left
      ·
       show Act.put _ (some 20) _ = _
       simp only [Own.ps]
       rfl
      refine two_ (i := 9) (j := 11) (Ni := some 25) (Nj := some 6) #[true, true, true, true, true, true, true, true, true, true, false, false, false] #[true, true, true, true, true, true, true, true, true, false, false, true, false] rfl rfl rfl rfl (two_of HT_.out (by kernel_rfl)) (by decide) (by decide) (fun K hK => ?_) (fun K hK => ?_)
      ·
       skip
       refine goes_ Try.func30 (by kernel_rfl) rfl #[.slice A0_1 l0_1.length c0_1, .slice A1_1 l1_1.length c1_1] (by rfl) rfl rfl Own.ha ?_
       with_reducible refine (spec_l4Union.calls kj2 _ _ l0_1 _ _ l1_1 t184 _ ?side1 ?side2 ?side3 ?side4 A26.out).mono ?_
       (case side1 => exact Kd.C_below HR0_1.out Own.bl)
       (case side2 => exact HC0_1.out)
       (case side3 => exact Kd.C_below HR1_1.out Own.bl)
       (case side4 => exact HC1_1.out)
       rintro e w31 ⟨v185, rfl, ho0, hb⟩
       refine ⟨_, rfl, ?_⟩
       have n0_ := Aside0.mk (Kd.V_below (Own.vd HO183.out) hb)
       have n1_ := Aside0.mk (Kd.V_lower (Kd.V_mono (ok' := fun k_ => (w.heap.size ≤ k_) ∧ k_ ≠ gb176 ∧ k_ ≠ gb177 ∧ k_ ≠ gb178) ho0 (fun k_ hk_ => ⟨(Nat.le_trans (below_size Own.bl) hk_), (Kd.freshB (Own.bkf BK176.out) k_ hk_), (Kd.freshB (Own.bkf BK177.out) k_ hk_), (Kd.freshB (Own.bkf BK178.out) k_ hk_)⟩)) (below_size Own.bl))
       have n2_ := Own.bb BK176.out hb
       have n3_ := Own.bb BK177.out hb
       have n4_ := Own.bb BK178.out hb
       have n5_ := Own.bs hb
       clear HO183
       clear BK176
       clear BK177
       clear BK178
       clear HB
       have HO183 := n0_
       have HO186 := n1_
       have BK176 := n2_
       have BK177 := n3_
       have BK178 := n4_
       have HB := n5_
       clear n0_ n1_ n2_ n3_ n4_ n5_
       (try clear hb)
       (try clear hb2)
       (try clear hk)
       (try clear hi)
       (try clear ho0)
       obtain ⟨Ao32, co32, eo32⟩ := Kd.V_slice HO186.out
       (first | subst eo32 | (injection eo32 with f1_ f2_ f3_; have f4_ := f1_.symm; have f5_ := f3_.symm; clear f1_ f2_ f3_; subst f4_; subst f5_))
       obtain ⟨Ao33, co33, eo33⟩ := Kd.V_slice HO183.out
       (first | subst eo33 | (injection eo33 with f1_ f2_ f3_; have f4_ := f1_.symm; have f5_ := f3_.symm; clear f1_ f2_ f3_; subst f4_; subst f5_))
       refine hK.out _ _ ⟨(blk_cell BK176.out 0).trans rfl, (blk_cell BK176.out 1).trans rfl, (blk_cell BK177.out 0).trans rfl, (blk_cell BK177.out 1).trans rfl⟩ (fun hHeld => ?_)
       clear hK K
       refine norm_ (a' := ?_) ?_ ?_
       rotate_left
       ·
        show Act.put _ (some 25) _ = _
        simp only [Own.ps]
        rfl
       refine pure_ (i := 10) (N := some 26) (v := ?_) (a' := ?_) #[true, true, true, true, true, true, true, true, true, true, true, false, false] rfl rfl (any_of HT_.out (by kernel_rfl)) (fun _ _ _ h => h) (Or.inl ⟨by rfl, ?_⟩) ?_ ?_
       rotate_left
       ·
        intro w'
        go_simp
        with_reducible rfl
       rotate_left
       ·
        simp only [Own.ps]
        rfl
       refine one_ (i := 11) (N := some 6) #[true, true, true, true, true, true, true, true, true, true, true, true, false] rfl rfl (one_of HT_.out (by kernel_rfl)) (by decide) (fun K hK => ?_)
       refine box_step ?hg (N := 6) ?hd (cs := #[.slice none 0 0, .slice none 0 0]) (t := 26) ?hr ?_; (case hd => rfl); (case hg => rfl); (case hr => first | (go_simp; done) | (go_simp; rfl))
       intro gb187 hg w34 hbox hb
       have n0_ := Aside0.mk (Kd.V_below (Kd.V_elderB (Own.vd HO183.out) gb187 (Nat.le_of_eq hg.symm)) hb)
       have n1_ := Aside0.mk (Kd.V_below (Kd.V_elderB (Own.vd HO186.out) gb187 (Nat.le_of_eq hg.symm)) hb)
       have n2_ := Own.bb BK176.out hb
       have n3_ := Own.bb BK177.out hb
       have n4_ := Own.bb BK178.out hb
       have n5_ := Own.bs hb
       have n6_ := Aside0.mk (hbox)
       have n7_ := (Own.gs hg : Aside0 (w.heap.size ≤ gb187))
       have n8_ := (Own.gs hg : Aside0 (w.heap.size ≤ gb187))
       have n9_ := Own.nl hg BK176.out
       have n10_ := Aside0.mk ((by rw [hg]; exact Nat.ne_of_gt (blk_lt (Own.bkf BK176.out)) : gb187 ≠ gb176))
       have n11_ := Own.nl hg BK177.out
       have n12_ := Aside0.mk ((by rw [hg]; exact Nat.ne_of_gt (blk_lt (Own.bkf BK177.out)) : gb187 ≠ gb177))
       have n13_ := Own.nl hg BK178.out
       have n14_ := Aside0.mk ((by rw [hg]; exact Nat.ne_of_gt (blk_lt (Own.bkf BK178.out)) : gb187 ≠ gb178))
       clear HO183
       clear HO186
       clear BK176
       clear BK177
       clear BK178
       clear HB
       have HO183 := n0_
       have HO186 := n1_
       have BK176 := n2_
       have BK177 := n3_
       have BK178 := n4_
       have HB := n5_
       have BK187 := n6_
       have GW187 := n7_
       have GE187 := n8_
       have NB176_187 := n9_
       have NB187_176 := n10_
       have NB177_187 := n11_
       have NB187_177 := n12_
       have NB178_187 := n13_
       have NB187_178 := n14_
       clear n0_ n1_ n2_ n3_ n4_ n5_ n6_ n7_ n8_ n9_ n10_ n11_ n12_ n13_ n14_
       clear hb hbox hg
       refine hK.out _ _ ⟨(blk_cell BK176.out 0).trans rfl, (blk_cell BK176.out 1).trans rfl, (blk_cell BK177.out 0).trans rfl, (blk_cell BK177.out 1).trans rfl⟩ (fun hHeld => ?_)
       clear hK K
       refine norm_ (a' := ?_) ?_ ?_
       rotate_left
       ·
        show Act.put _ (some 6) _ = _
        simp only [Own.ps]
        rfl
       exact norm_ (by simp only [putAll, Act.put, List.setIfInBounds_toArray, List.set_cons_zero, List.set_cons_succ]) (hCont (.slice Ao33 t181.length co33, .slice Ao32 t184.length co32, gb187) _ ⟨hHeld, (by (with_reducible repeat (first | apply Kd.V_alloc | apply Kd.V_drewN | apply Kd.V_drew)); exact Kd.V_mono HO183.out (fun _ hk => ⟨hk.1.1, ⟨hk.1.2.1, ⟨hk.1.2.2.1, ⟨hk.1.2.2.2, hk.2⟩⟩⟩⟩)), (by (with_reducible repeat (first | apply Kd.V_alloc | apply Kd.V_drewN | apply Kd.V_drew)); exact Kd.V_mono HO186.out (fun _ hk => ⟨hk.1.1, ⟨hk.1.2.1, ⟨hk.1.2.2.1, ⟨hk.1.2.2.2, hk.2⟩⟩⟩⟩)), (by (with_reducible repeat (first | refine blk_drewN ?_ _ | refine blk_drew ?_ | refine blk_alloc ?_ _)); exact BK176.out), (by (with_reducible repeat (first | refine blk_drewN ?_ _ | refine blk_drew ?_ | refine blk_alloc ?_ _)); exact BK177.out), (by (with_reducible repeat (first | refine blk_drewN ?_ _ | refine blk_drew ?_ | refine blk_alloc ?_ _)); exact BK178.out), (by (with_reducible repeat (first | refine blk_drewN ?_ _ | refine blk_drew ?_ | refine blk_alloc ?_ _)); exact BK187.out), GW187.out, GE187.out, NB176_187.out, NB187_176.out, NB177_187.out, NB187_177.out, NB178_187.out, NB187_178.out, Own.bl⟩)
      ·
       skip
       refine box_step ?hg (N := 6) ?hd (cs := #[.slice none 0 0, .slice none 0 0]) (t := 26) ?hr ?_; (case hd => rfl); (case hg => rfl); (case hr => first | (go_simp; done) | (go_simp; rfl))
       intro gb187 hg w31 hbox hb
       have n0_ := Aside0.mk (Kd.V_below (Kd.V_elderB (Own.vd HO183.out) gb187 (Nat.le_of_eq hg.symm)) hb)
       have n1_ := Own.bb BK176.out hb
       have n2_ := Own.bb BK177.out hb
       have n3_ := Own.bb BK178.out hb
       have n4_ := Own.bs hb
       have n5_ := Aside0.mk (hbox)
       have n6_ := (Own.gs hg : Aside0 (w.heap.size ≤ gb187))
       have n7_ := (Own.gs hg : Aside0 (w.heap.size ≤ gb187))
       have n8_ := Own.nl hg BK176.out
       have n9_ := Aside0.mk ((by rw [hg]; exact Nat.ne_of_gt (blk_lt (Own.bkf BK176.out)) : gb187 ≠ gb176))
       have n10_ := Own.nl hg BK177.out
       have n11_ := Aside0.mk ((by rw [hg]; exact Nat.ne_of_gt (blk_lt (Own.bkf BK177.out)) : gb187 ≠ gb177))
       have n12_ := Own.nl hg BK178.out
       have n13_ := Aside0.mk ((by rw [hg]; exact Nat.ne_of_gt (blk_lt (Own.bkf BK178.out)) : gb187 ≠ gb178))
       clear HO183
       clear BK176
       clear BK177
       clear BK178
       clear HB
       have HO183 := n0_
       have BK176 := n1_
       have BK177 := n2_
       have BK178 := n3_
       have HB := n4_
       have BK187 := n5_
       have GW187 := n6_
       have GE187 := n7_
       have NB176_187 := n8_
       have NB187_176 := n9_
       have NB177_187 := n10_
       have NB187_177 := n11_
       have NB178_187 := n12_
       have NB187_178 := n13_
       clear n0_ n1_ n2_ n3_ n4_ n5_ n6_ n7_ n8_ n9_ n10_ n11_ n12_ n13_
       clear hb hbox hg
       refine hK.out _ _ ⟨(blk_cell BK176.out 0).trans rfl, (blk_cell BK176.out 1).trans rfl, (blk_cell BK177.out 0).trans rfl, (blk_cell BK177.out 1).trans rfl⟩ (fun hHeld => ?_)
       clear hK K
       refine norm_ (a' := ?_) ?_ ?_
       rotate_left
       ·
        show Act.put _ (some 6) _ = _
        simp only [Own.ps]
        rfl
       refine one_ (i := 9) (N := some 25) #[true, true, true, true, true, true, true, true, true, true, false, true, false] rfl rfl (one_of HT_.out (by kernel_rfl)) (by decide) (fun K hK => ?_)
       refine goes_ Try.func30 (by kernel_rfl) rfl #[.slice A0_1 l0_1.length c0_1, .slice A1_1 l1_1.length c1_1] (by rfl) rfl rfl Own.ha ?_
       with_reducible refine (spec_l4Union.calls kj2 _ _ l0_1 _ _ l1_1 t184 _ ?side1 ?side2 ?side3 ?side4 A26.out).mono ?_
       (case side1 => exact Kd.C_below HR0_1.out Own.bl)
       (case side2 => exact HC0_1.out)
       (case side3 => exact Kd.C_below HR1_1.out Own.bl)
       (case side4 => exact HC1_1.out)
       rintro e w32 ⟨v185, rfl, ho0, hb⟩
       refine ⟨_, rfl, ?_⟩
       have n0_ := Aside0.mk (Kd.V_below (Own.vd HO183.out) hb)
       have n1_ := Aside0.mk (Kd.V_lower (Kd.V_mono (ok' := fun k_ => (w.heap.size ≤ k_) ∧ k_ ≠ gb176 ∧ k_ ≠ gb177 ∧ k_ ≠ gb178 ∧ k_ ≠ gb187) ho0 (fun k_ hk_ => ⟨(Nat.le_trans (below_size Own.bl) hk_), (Kd.freshB (Own.bkf BK176.out) k_ hk_), (Kd.freshB (Own.bkf BK177.out) k_ hk_), (Kd.freshB (Own.bkf BK178.out) k_ hk_), (Kd.freshB (Own.bkf BK187.out) k_ hk_)⟩)) (below_size Own.bl))
       have n2_ := Own.bb BK176.out hb
       have n3_ := Own.bb BK177.out hb
       have n4_ := Own.bb BK178.out hb
       have n5_ := Own.bb BK187.out hb
       have n6_ := Own.bs hb
       clear HO183
       clear BK176
       clear BK177
       clear BK178
       clear BK187
       clear HB
       have HO183 := n0_
       have HO186 := n1_
       have BK176 := n2_
       have BK177 := n3_
       have BK178 := n4_
       have BK187 := n5_
       have HB := n6_
       clear n0_ n1_ n2_ n3_ n4_ n5_ n6_
       (try clear hb)
       (try clear hb2)
       (try clear hk)
       (try clear hi)
       (try clear ho0)
       obtain ⟨Ao33, co33, eo33⟩ := Kd.V_slice HO186.out
       (first | subst eo33 | (injection eo33 with f1_ f2_ f3_; have f4_ := f1_.symm; have f5_ := f3_.symm; clear f1_ f2_ f3_; subst f4_; subst f5_))
       obtain ⟨Ao34, co34, eo34⟩ := Kd.V_slice HO183.out
       (first | subst eo34 | (injection eo34 with f1_ f2_ f3_; have f4_ := f1_.symm; have f5_ := f3_.symm; clear f1_ f2_ f3_; subst f4_; subst f5_))
       refine hK.out _ _ ⟨(blk_cell BK176.out 0).trans rfl, (blk_cell BK176.out 1).trans rfl, (blk_cell BK177.out 0).trans rfl, (blk_cell BK177.out 1).trans rfl⟩ (fun hHeld => ?_)
       clear hK K
       refine norm_ (a' := ?_) ?_ ?_
       rotate_left
       ·
        show Act.put _ (some 25) _ = _
        simp only [Own.ps]
        rfl
       refine pure_ (i := 10) (N := some 26) (v := ?_) (a' := ?_) #[true, true, true, true, true, true, true, true, true, true, true, true, false] rfl rfl (any_of HT_.out (by kernel_rfl)) (fun _ _ _ h => h) (Or.inl ⟨by rfl, ?_⟩) ?_ ?_
       rotate_left
       ·
        intro w'
        go_simp
        with_reducible rfl
       rotate_left
       ·
        simp only [Own.ps]
        rfl
       exact norm_ (by simp only [putAll, Act.put, List.setIfInBounds_toArray, List.set_cons_zero, List.set_cons_succ]) (hCont (.slice Ao34 t181.length co34, .slice Ao33 t184.length co33, gb187) _ ⟨hHeld, (by (with_reducible repeat (first | apply Kd.V_alloc | apply Kd.V_drewN | apply Kd.V_drew)); exact Kd.V_mono HO183.out (fun _ hk => ⟨hk.1.1, ⟨hk.1.2.1, ⟨hk.1.2.2.1, ⟨hk.1.2.2.2, hk.2⟩⟩⟩⟩)), (Own.vd HO186.out), (by (with_reducible repeat (first | refine blk_drewN ?_ _ | refine blk_drew ?_ | refine blk_alloc ?_ _)); exact BK176.out), (by (with_reducible repeat (first | refine blk_drewN ?_ _ | refine blk_drew ?_ | refine blk_alloc ?_ _)); exact BK177.out), (by (with_reducible repeat (first | refine blk_drewN ?_ _ | refine blk_drew ?_ | refine blk_alloc ?_ _)); exact BK178.out), (by (with_reducible repeat (first | refine blk_drewN ?_ _ | refine blk_drew ?_ | refine blk_alloc ?_ _)); exact BK187.out), GW187.out, GE187.out, NB176_187.out, NB187_176.out, NB177_187.out, NB187_177.out, NB178_187.out, NB187_178.out, Own.bl⟩)
     ·
      skip
      refine box_step ?hg (N := 6) ?hd (cs := #[.slice none 0 0, .slice none 0 0]) (t := 26) ?hr ?_; (case hd => rfl); (case hg => rfl); (case hr => first | (go_simp; done) | (go_simp; rfl))
      intro gb187 hg w30 hbox hb
      have n0_ := Own.bb BK176.out hb
      have n1_ := Own.bb BK177.out hb
      have n2_ := Own.bb BK178.out hb
      have n3_ := Own.bs hb
      have n4_ := Aside0.mk (hbox)
      have n5_ := (Own.gs hg : Aside0 (w.heap.size ≤ gb187))
      have n6_ := (Own.gs hg : Aside0 (w.heap.size ≤ gb187))
      have n7_ := Own.nl hg BK176.out
      have n8_ := Aside0.mk ((by rw [hg]; exact Nat.ne_of_gt (blk_lt (Own.bkf BK176.out)) : gb187 ≠ gb176))
      have n9_ := Own.nl hg BK177.out
      have n10_ := Aside0.mk ((by rw [hg]; exact Nat.ne_of_gt (blk_lt (Own.bkf BK177.out)) : gb187 ≠ gb177))
      have n11_ := Own.nl hg BK178.out
      have n12_ := Aside0.mk ((by rw [hg]; exact Nat.ne_of_gt (blk_lt (Own.bkf BK178.out)) : gb187 ≠ gb178))
      clear BK176
      clear BK177
      clear BK178
      clear HB
      have BK176 := n0_
      have BK177 := n1_
      have BK178 := n2_
      have HB := n3_
      have BK187 := n4_
      have GW187 := n5_
      have GE187 := n6_
      have NB176_187 := n7_
      have NB187_176 := n8_
      have NB177_187 := n9_
      have NB187_177 := n10_
      have NB178_187 := n11_
      have NB187_178 := n12_
      clear n0_ n1_ n2_ n3_ n4_ n5_ n6_ n7_ n8_ n9_ n10_ n11_ n12_
      clear hb hbox hg
      refine hK.out _ _ ⟨(blk_cell BK176.out 0).trans rfl, (blk_cell BK176.out 1).trans rfl, (blk_cell BK177.out 0).trans rfl, (blk_cell BK177.out 1).trans rfl⟩ (fun hHeld => ?_)
      clear hK K
      refine norm_ (a' := ?_) ?_ ?_
      rotate_left
      ·
       show Act.put _ (some 6) _ = _
       simp only [Own.ps]
       rfl
      refine one_ (i := 4) (N := some 20) #[true, true, true, true, true, true, true, true, true, false, false, true, false] rfl rfl (one_of HT_.out (by kernel_rfl)) (by decide) (fun K hK => ?_)
      refine goes_ Try.func30 (by kernel_rfl) rfl #[.slice A0_0 l0_0.length c0_0, .slice A1_0 l1_0.length c1_0] (by rfl) rfl rfl Own.ha ?_
      with_reducible refine (spec_l4Union.calls kj2 _ _ l0_0 _ _ l1_0 t181 _ ?side1 ?side2 ?side3 ?side4 A25.out).mono ?_
      (case side1 => exact Kd.C_below HR0_0.out Own.bl)
      (case side2 => exact HC0_0.out)
      (case side3 => exact Kd.C_below HR1_0.out Own.bl)
      (case side4 => exact HC1_0.out)
      rintro e w31 ⟨v182, rfl, ho0, hb⟩
      refine ⟨_, rfl, ?_⟩
      have n0_ := Aside0.mk (Kd.V_lower (Kd.V_mono (ok' := fun k_ => (w.heap.size ≤ k_) ∧ k_ ≠ gb176 ∧ k_ ≠ gb177 ∧ k_ ≠ gb178 ∧ k_ ≠ gb187) ho0 (fun k_ hk_ => ⟨(Nat.le_trans (below_size Own.bl) hk_), (Kd.freshB (Own.bkf BK176.out) k_ hk_), (Kd.freshB (Own.bkf BK177.out) k_ hk_), (Kd.freshB (Own.bkf BK178.out) k_ hk_), (Kd.freshB (Own.bkf BK187.out) k_ hk_)⟩)) (below_size Own.bl))
      have n1_ := Own.bb BK176.out hb
      have n2_ := Own.bb BK177.out hb
      have n3_ := Own.bb BK178.out hb
      have n4_ := Own.bb BK187.out hb
      have n5_ := Own.bs hb
      clear BK176
      clear BK177
      clear BK178
      clear BK187
      clear HB
      have HO183 := n0_
      have BK176 := n1_
      have BK177 := n2_
      have BK178 := n3_
      have BK187 := n4_
      have HB := n5_
      clear n0_ n1_ n2_ n3_ n4_ n5_
      (try clear hb)
      (try clear hb2)
      (try clear hk)
      (try clear hi)
      (try clear ho0)
      refine hK.out _ _ ⟨(blk_cell BK176.out 0).trans rfl, (blk_cell BK176.out 1).trans rfl, (blk_cell BK177.out 0).trans rfl, (blk_cell BK177.out 1).trans rfl⟩ (fun hHeld => ?_)
      clear hK K
      refine norm_ (a' := ?_) ?_ ?_
      rotate_left
      ·
       show Act.put _ (some 20) _ = _
       simp only [Own.ps]
       rfl
      refine one_ (i := 9) (N := some 25) #[true, true, true, true, true, true, true, true, true, true, false, true, false] rfl rfl (one_of HT_.out (by kernel_rfl)) (by decide) (fun K hK => ?_)
      refine goes_ Try.func30 (by kernel_rfl) rfl #[.slice A0_1 l0_1.length c0_1, .slice A1_1 l1_1.length c1_1] (by rfl) rfl rfl Own.ha ?_
      with_reducible refine (spec_l4Union.calls kj2 _ _ l0_1 _ _ l1_1 t184 _ ?side1 ?side2 ?side3 ?side4 A26.out).mono ?_
      (case side1 => exact Kd.C_below HR0_1.out Own.bl)
      (case side2 => exact HC0_1.out)
      (case side3 => exact Kd.C_below HR1_1.out Own.bl)
      (case side4 => exact HC1_1.out)
      rintro e w32 ⟨v185, rfl, ho0, hb⟩
      refine ⟨_, rfl, ?_⟩
      have n0_ := Aside0.mk (Kd.V_below (Own.vd HO183.out) hb)
      have n1_ := Aside0.mk (Kd.V_lower (Kd.V_mono (ok' := fun k_ => (w.heap.size ≤ k_) ∧ k_ ≠ gb176 ∧ k_ ≠ gb177 ∧ k_ ≠ gb178 ∧ k_ ≠ gb187) ho0 (fun k_ hk_ => ⟨(Nat.le_trans (below_size Own.bl) hk_), (Kd.freshB (Own.bkf BK176.out) k_ hk_), (Kd.freshB (Own.bkf BK177.out) k_ hk_), (Kd.freshB (Own.bkf BK178.out) k_ hk_), (Kd.freshB (Own.bkf BK187.out) k_ hk_)⟩)) (below_size Own.bl))
      have n2_ := Own.bb BK176.out hb
      have n3_ := Own.bb BK177.out hb
      have n4_ := Own.bb BK178.out hb
      have n5_ := Own.bb BK187.out hb
      have n6_ := Own.bs hb
      clear HO183
      clear BK176
      clear BK177
      clear BK178
      clear BK187
      clear HB
      have HO183 := n0_
      have HO186 := n1_
      have BK176 := n2_
      have BK177 := n3_
      have BK178 := n4_
      have BK187 := n5_
      have HB := n6_
      clear n0_ n1_ n2_ n3_ n4_ n5_ n6_
      (try clear hb)
      (try clear hb2)
      (try clear hk)
      (try clear hi)
      (try clear ho0)
      obtain ⟨Ao33, co33, eo33⟩ := Kd.V_slice HO186.out
      (first | subst eo33 | (injection eo33 with f1_ f2_ f3_; have f4_ := f1_.symm; have f5_ := f3_.symm; clear f1_ f2_ f3_; subst f4_; subst f5_))
      obtain ⟨Ao34, co34, eo34⟩ := Kd.V_slice HO183.out
      (first | subst eo34 | (injection eo34 with f1_ f2_ f3_; have f4_ := f1_.symm; have f5_ := f3_.symm; clear f1_ f2_ f3_; subst f4_; subst f5_))
      refine hK.out _ _ ⟨(blk_cell BK176.out 0).trans rfl, (blk_cell BK176.out 1).trans rfl, (blk_cell BK177.out 0).trans rfl, (blk_cell BK177.out 1).trans rfl⟩ (fun hHeld => ?_)
      clear hK K
      refine norm_ (a' := ?_) ?_ ?_
      rotate_left
      ·
       show Act.put _ (some 25) _ = _
       simp only [Own.ps]
       rfl
      refine pure_ (i := 10) (N := some 26) (v := ?_) (a' := ?_) #[true, true, true, true, true, true, true, true, true, true, true, true, false] rfl rfl (any_of HT_.out (by kernel_rfl)) (fun _ _ _ h => h) (Or.inl ⟨by rfl, ?_⟩) ?_ ?_
      rotate_left
      ·
       intro w'
       go_simp
       with_reducible rfl
      rotate_left
      ·
       simp only [Own.ps]
       rfl
      exact norm_ (by simp only [putAll, Act.put, List.setIfInBounds_toArray, List.set_cons_zero, List.set_cons_succ]) (hCont (.slice Ao34 t181.length co34, .slice Ao33 t184.length co33, gb187) _ ⟨hHeld, (Own.vd HO183.out), (Own.vd HO186.out), (by (with_reducible repeat (first | refine blk_drewN ?_ _ | refine blk_drew ?_ | refine blk_alloc ?_ _)); exact BK176.out), (by (with_reducible repeat (first | refine blk_drewN ?_ _ | refine blk_drew ?_ | refine blk_alloc ?_ _)); exact BK177.out), (by (with_reducible repeat (first | refine blk_drewN ?_ _ | refine blk_drew ?_ | refine blk_alloc ?_ _)); exact BK178.out), (by (with_reducible repeat (first | refine blk_drewN ?_ _ | refine blk_drew ?_ | refine blk_alloc ?_ _)); exact BK187.out), GW187.out, GE187.out, NB176_187.out, NB187_176.out, NB177_187.out, NB187_177.out, NB178_187.out, NB187_178.out, Own.bl⟩)
    rintro ⟨v182, v185, gb187⟩ w35 ⟨hS_, h0_, h1_, h2_, h3_, h4_, h5_, h6_, h7_, h8_, h9_, h10_, h11_, h12_, h13_, h14_⟩
    have n0_ : Aside0 (Kd.V (Kd.int .i64) 3 w35 w.heap.size (fun k_ => (w.heap.size ≤ k_) ∧ k_ ≠ gb176 ∧ k_ ≠ gb177 ∧ k_ ≠ gb178 ∧ k_ ≠ gb187) v182 t181) := ⟨h0_⟩
    have n1_ : Aside0 (Kd.V (Kd.int .i64) 3 w35 w.heap.size (fun k_ => (w.heap.size ≤ k_) ∧ k_ ≠ gb176 ∧ k_ ≠ gb177 ∧ k_ ≠ gb178 ∧ k_ ≠ gb187) v185 t184) := ⟨h1_⟩
    have n2_ : Aside0 (w35.heap[gb176]? = some (.cells #[.slice A0_0 l0_0.length c0_0, .slice A0_1 l0_1.length c0_1] 26 (0, 0))) := ⟨h2_⟩
    have n3_ : Aside0 (w35.heap[gb177]? = some (.cells #[.slice A1_0 l1_0.length c1_0, .slice A1_1 l1_1.length c1_1] 26 (0, 0))) := ⟨h3_⟩
    have n4_ : Aside0 (w35.heap[gb178]? = some (.cells #[.slice none 0 0, .slice none 0 0] 26 (0, 0))) := ⟨h4_⟩
    have n5_ : Aside0 (w35.heap[gb187]? = some (.cells #[.slice none 0 0, .slice none 0 0] 26 (0, 0))) := ⟨h5_⟩
    have n6_ : Aside0 (w.heap.size ≤ gb187) := ⟨h6_⟩
    have n7_ : Aside0 (w.heap.size ≤ gb187) := ⟨h7_⟩
    have n8_ : Aside0 (gb176 ≠ gb187) := ⟨h8_⟩
    have n9_ : Aside0 (gb187 ≠ gb176) := ⟨h9_⟩
    have n10_ : Aside0 (gb177 ≠ gb187) := ⟨h10_⟩
    have n11_ : Aside0 (gb187 ≠ gb177) := ⟨h11_⟩
    have n12_ : Aside0 (gb178 ≠ gb187) := ⟨h12_⟩
    have n13_ : Aside0 (gb187 ≠ gb178) := ⟨h13_⟩
    have n14_ : Aside0 (Below w.heap.size w w35) := ⟨h14_⟩
    clear BK176
    clear BK177
    clear BK178
    clear HB
    clear h0_ h1_ h2_ h3_ h4_ h5_ h6_ h7_ h8_ h9_ h10_ h11_ h12_ h13_ h14_
    have HO183 := n0_
    have HO186 := n1_
    have BK176 := n2_
    have BK177 := n3_
    have BK178 := n4_
    have BK187 := n5_
    have GW187 := n6_
    have GE187 := n7_
    have NB176_187 := n8_
    have NB187_176 := n9_
    have NB177_187 := n10_
    have NB187_177 := n11_
    have NB178_187 := n12_
    have NB187_178 := n13_
    have HB := n14_
    clear n0_ n1_ n2_ n3_ n4_ n5_ n6_ n7_ n8_ n9_ n10_ n11_ n12_ n13_ n14_
    have hHeld : w35.cell? ⟨gb176, 0, none⟩ = some (.slice A0_0 l0_0.length c0_0) ∧ w35.cell? ⟨gb176, 1, none⟩ = some (.slice A0_1 l0_1.length c0_1) ∧ w35.cell? ⟨gb177, 0, none⟩ = some (.slice A1_0 l1_0.length c1_0) ∧ w35.cell? ⟨gb177, 1, none⟩ = some (.slice A1_1 l1_1.length c1_1) := hS_
    obtain ⟨Ao36, co36, eo36⟩ := Kd.V_slice HO186.out
    (first | subst eo36 | (injection eo36 with f1_ f2_ f3_; have f4_ := f1_.symm; have f5_ := f3_.symm; clear f1_ f2_ f3_; subst f4_; subst f5_))
    obtain ⟨Ao37, co37, eo37⟩ := Kd.V_slice HO183.out
    (first | subst eo37 | (injection eo37 with f1_ f2_ f3_; have f4_ := f1_.symm; have f5_ := f3_.symm; clear f1_ f2_ f3_; subst f4_; subst f5_))
    refine norm_ (a' := ?_) ?_ ?_
    rotate_left
    ·
     simp only [putAll, Act.put, List.setIfInBounds_toArray, List.set_cons_zero, List.set_cons_succ]
     rfl
    refine one_ (i := 12) (N := none) #[true, true, true, true, true, true, true, true, true, true, true, true, true] rfl rfl (one_of HT_.out (by kernel_rfl)) (by decide) (fun K hK => ?_)
    have hs38 : w35.cell? ⟨gb187, 0, none⟩ = some (.slice none 0 0) := (blk_cell BK187.out 0).trans rfl
    have hfs38 := blk_frozen BK187.out 0
    have hns38_0 := NB176_187.out
    have hns38_1 := NB177_187.out
    have hns38_2 := NB178_187.out
    have hms38_0 := NB187_176.out
    have hms38_1 := NB187_177.out
    have hms38_2 := NB187_178.out
    have hs39 : w35.cell? ⟨gb187, 1, none⟩ = some (.slice none 0 0) := (blk_cell BK187.out 1).trans rfl
    have hfs39 := blk_frozen BK187.out 1
    have hns39_0 := NB176_187.out
    have hns39_1 := NB177_187.out
    have hns39_2 := NB178_187.out
    have hms39_0 := NB187_176.out
    have hms39_1 := NB187_177.out
    have hms39_2 := NB187_178.out
    refine skip_ (w1 := ?_) (by rfl) rfl ?_ ?_
    rotate_left
    ·
     go_simp
     rfl
    refine hK.out _ _ ⟨((cell_far (p := ⟨gb187, _, none⟩) NB176_187.out _).trans (((cell_far (p := ⟨gb187, _, none⟩) NB176_187.out _).trans (hHeld.1)))), ((cell_far (p := ⟨gb187, _, none⟩) NB176_187.out _).trans (((cell_far (p := ⟨gb187, _, none⟩) NB176_187.out _).trans (hHeld.2.1)))), ((cell_far (p := ⟨gb187, _, none⟩) NB177_187.out _).trans (((cell_far (p := ⟨gb187, _, none⟩) NB177_187.out _).trans (hHeld.2.2.1)))), ((cell_far (p := ⟨gb187, _, none⟩) NB177_187.out _).trans (((cell_far (p := ⟨gb187, _, none⟩) NB177_187.out _).trans (hHeld.2.2.2))))⟩ (fun hHeld => ?_)
    clear hK K
    refine done_ (done_of HT_.out (by kernel_rfl)) ?_
    have hnb40 := NB187_176.out
    have hnc40 := NB176_187.out
    have hnb41 := NB187_177.out
    have hnc41 := NB177_187.out
    have hnb42 := NB187_178.out
    have hnc42 := NB178_187.out
    obtain ⟨z43_0, z43_1, y43_0, y43_1⟩ := Own.box2 BK187.out
    try go_wp2_with (first | ((with_reducible refine gate_callee (f := 24) rfl ?_); refine goesL_ (some 28) rfl rfl Try.func24 (by kernel_rfl) rfl #[.agg #[.slice Ao37 t181.length co37, .slice Ao36 t184.length co36]] rfl Own.ha ?_; (with_reducible refine (spec_l4Good.calls kj2 _ _ t181 _ _ t184 true _ ?side1 ?side2 ?side3 ?side4 A27.out).mono ?_); (case side1 => refine (Kd.V_reads' (e := 3) (base := w.heap.size) (ok := fun k_ => ((w.heap.size ≤ k_) ∧ (k_ ≠ gb176 ∧ (k_ ≠ gb177 ∧ (k_ ≠ gb178 ∧ k_ ≠ gb187))))) (n := t181.length) (c := co37) ?_).2.2; exact (by (with_reducible repeat (first | apply Kd.V_alloc | apply Kd.V_drewN | apply Kd.V_drew)); exact (Kd.V_mono (Kd.V_far (p := ⟨gb187, 1, none⟩) (Kd.V_far (p := ⟨gb187, 0, none⟩) (Kd.V_mono HO183.out (fun k_ hk => (⟨hk, hk.2.2.2.2⟩ : _ ∧ k_ ≠ gb187))) (fun _ hk => hk.2) (.slice Ao37 t181.length co37)) (fun _ hk => hk.2) (.slice Ao36 t184.length co36)) (fun _ h_ => h_.1)))); (case side2 => exact (Kd.V_reads' HO183.out).2.1); (case side3 => refine (Kd.V_reads' (e := 3) (base := w.heap.size) (ok := fun k_ => ((w.heap.size ≤ k_) ∧ (k_ ≠ gb176 ∧ (k_ ≠ gb177 ∧ (k_ ≠ gb178 ∧ k_ ≠ gb187))))) (n := t184.length) (c := co36) ?_).2.2; exact (by (with_reducible repeat (first | apply Kd.V_alloc | apply Kd.V_drewN | apply Kd.V_drew)); exact (Kd.V_mono (Kd.V_far (p := ⟨gb187, 1, none⟩) (Kd.V_far (p := ⟨gb187, 0, none⟩) (Kd.V_mono HO186.out (fun k_ hk => (⟨hk, hk.2.2.2.2⟩ : _ ∧ k_ ≠ gb187))) (fun _ hk => hk.2) (.slice Ao37 t181.length co37)) (fun _ hk => hk.2) (.slice Ao36 t184.length co36)) (fun _ h_ => h_.1)))); (case side4 => exact (Kd.V_reads' HO186.out).2.1); rintro e w44 ⟨rfl, hb⟩; refine ⟨_, rfl, ?_⟩; replace HO183 := Aside0.mk (Kd.V_below (by (with_reducible repeat (first | apply Kd.V_alloc | apply Kd.V_drewN | apply Kd.V_drew)); exact (Kd.V_mono (Kd.V_far (p := ⟨gb187, 1, none⟩) (Kd.V_far (p := ⟨gb187, 0, none⟩) (Kd.V_mono HO183.out (fun k_ hk => (⟨hk, hk.2.2.2.2⟩ : _ ∧ k_ ≠ gb187))) (fun _ hk => hk.2) (.slice Ao37 t181.length co37)) (fun _ hk => hk.2) (.slice Ao36 t184.length co36)) (fun _ h_ => h_.1))) hb); replace HO186 := Aside0.mk (Kd.V_below (by (with_reducible repeat (first | apply Kd.V_alloc | apply Kd.V_drewN | apply Kd.V_drew)); exact (Kd.V_mono (Kd.V_far (p := ⟨gb187, 1, none⟩) (Kd.V_far (p := ⟨gb187, 0, none⟩) (Kd.V_mono HO186.out (fun k_ hk => (⟨hk, hk.2.2.2.2⟩ : _ ∧ k_ ≠ gb187))) (fun _ hk => hk.2) (.slice Ao37 t181.length co37)) (fun _ hk => hk.2) (.slice Ao36 t184.length co36)) (fun _ h_ => h_.1))) hb); replace BK176 := Own.bb BK176.out hb; replace BK177 := Own.bb BK177.out hb; replace BK178 := Own.bb BK178.out hb; replace BK187 := Aside0.mk (blk_below (g := gb187) (o := .cells #[.slice Ao37 t181.length co37, .slice Ao36 t184.length co36] 26 (0, 0)) (by (with_reducible repeat (first | refine blk_drewN ?_ _ | refine blk_drew ?_ | refine blk_alloc ?_ _)); with_reducible exact Own.put2 BK187.out) hb); replace HB := Own.bs hb; (try clear hb); (try clear hk); obtain ⟨z45_0, z45_1, y45_0, y45_1⟩ := Own.box2 BK187.out; have hnb46 := NB178_176.out; have hnc46 := NB176_178.out; have hnb47 := NB178_177.out; have hnc47 := NB177_178.out; obtain ⟨z48_0, z48_1, y48_0, y48_1⟩ := Own.box2 BK178.out))
    refine bodyPost_ret (results_ct rfl _ _ gb178 26 #[.slice Ao37 t181.length co37, .slice Ao36 t184.length co36] (0, 0) _ rfl (by (with_reducible repeat (first | refine blk_drewN ?_ _ | refine blk_drew ?_ | refine blk_alloc ?_ _)); with_reducible exact Own.put2 BK178.out) Try.underlying26 rfl (by kernel_rfl)) rfl ?_
    exact ⟨_, _, Own.rr, by (with_reducible repeat (first | apply Kd.V_alloc | apply Kd.V_drewN | apply Kd.V_drew)); exact Kd.V_mono (Kd.V_far (p := ⟨gb178, 1, none⟩) (Kd.V_far (p := ⟨gb178, 0, none⟩) (Kd.V_mono HO183.out (fun k_ hk => (⟨hk, hk.2.2.2.1⟩ : _ ∧ k_ ≠ gb178))) (fun _ hk => hk.2) (.slice Ao37 t181.length co37)) (fun _ hk => hk.2) (.slice Ao36 t184.length co36)) (fun _ hk => hk.1.1), by (with_reducible repeat (first | apply Kd.V_alloc | apply Kd.V_drewN | apply Kd.V_drew)); exact Kd.V_mono (Kd.V_far (p := ⟨gb178, 1, none⟩) (Kd.V_far (p := ⟨gb178, 0, none⟩) (Kd.V_mono HO186.out (fun k_ hk => (⟨hk, hk.2.2.2.1⟩ : _ ∧ k_ ≠ gb178))) (fun _ hk => hk.2) (.slice Ao37 t181.length co37)) (fun _ hk => hk.2) (.slice Ao36 t184.length co36)) (fun _ hk => hk.1.1), Own.bl⟩
   simp only [Option.some.injEq, Prod.mk.injEq] at H
   obtain ⟨rfl, rfl, rfl⟩ := H
   try go_wp2
   have n0_ := Aside0.mk (blk_drew BK176.out)
   have n1_ := Aside0.mk (blk_drew BK177.out)
   have n2_ := Aside0.mk (blk_drew BK178.out)
   have n3_ := Aside0.mk (below_drew1 HB.out)
   clear BK176
   clear BK177
   clear BK178
   clear HB
   have BK176 := n0_
   have BK177 := n1_
   have BK178 := n2_
   have HB := n3_
   clear n0_ n1_ n2_ n3_
   refine start_ (n := 13) (S := fun w' => w'.cell? ⟨gb176, 0, none⟩ = some (.slice A0_0 l0_0.length c0_0) ∧ w'.cell? ⟨gb176, 1, none⟩ = some (.slice A0_1 l0_1.length c0_1) ∧ w'.cell? ⟨gb177, 0, none⟩ = some (.slice A1_0 l1_0.length c1_0) ∧ w'.cell? ⟨gb177, 1, none⟩ = some (.slice A1_1 l1_1.length c1_1)) (ds := []) #[false, false, false, false, false, false, false, false, false, false, false, false, false] (by kernel_rfl) rfl rfl ⟨(blk_cell BK176.out 0).trans rfl, (blk_cell BK176.out 1).trans rfl, (blk_cell BK177.out 0).trans rfl, (blk_cell BK177.out 1).trans rfl⟩ (fun hHeld => ?_); refine with_tabW spec_JoinCalendars.tab3 spec_JoinCalendars.bits3 (fun HT_ HW_ => ?_)
   generalize wc.drew = w49 at BK176 BK177 BK178 HB hHeld ⊢
   refine pure_ (i := 0) (N := some 16) (v := ?_) (a' := ?_) #[true, false, false, false, false, false, false, false, false, false, false, false, false] rfl rfl (any_of HT_.out (by kernel_rfl)) (fun _ _ _ h => h) (Or.inl ⟨by rfl, ?_⟩) ?_ ?_
   rotate_left
   ·
    intro w'
    go_simp
    with_reducible rfl
   rotate_left
   ·
    simp only [Own.ps]
    rfl
   refine pure_ (i := 2) (N := some 18) (v := ?_) (a' := ?_) #[true, false, true, false, false, false, false, false, false, false, false, false, false] rfl rfl (any_of HT_.out (by kernel_rfl)) (fun _ _ _ h => h) (Or.inl ⟨by rfl, ?_⟩) ?_ ?_
   rotate_left
   ·
    intro w'
    go_simp
    with_reducible rfl
   rotate_left
   ·
    simp only [Own.ps]
    rfl
   refine pure_ (i := 5) (N := some 21) (v := ?_) (a' := ?_) #[true, false, true, false, false, true, false, false, false, false, false, false, false] rfl rfl (any_of HT_.out (by kernel_rfl)) (fun _ _ _ h => h) (Or.inl ⟨by rfl, ?_⟩) ?_ ?_
   rotate_left
   ·
    intro w'
    go_simp
    with_reducible rfl
   rotate_left
   ·
    simp only [Own.ps]
    rfl
   refine pure_ (i := 7) (N := some 23) (v := ?_) (a' := ?_) #[true, false, true, false, false, true, false, true, false, false, false, false, false] rfl rfl (any_of HT_.out (by kernel_rfl)) (fun _ _ _ h => h) (Or.inl ⟨by rfl, ?_⟩) ?_ ?_
   rotate_left
   ·
    intro w'
    go_simp
    with_reducible rfl
   rotate_left
   ·
    simp only [Own.ps]
    rfl
   refine take_ (i := 1) (N := some 17) (v := ?_) (a' := ?_) #[true, true, true, false, false, true, false, true, false, false, false, false, false] rfl rfl (take_ofW HT_.out HW_.out (by kernel_rfl)) (fun _ _ _ h => h) (Or.inl ⟨by rfl, ?_⟩) hHeld ?_ ?_
   rotate_left
   ·
    rintro w' ⟨s0, s1, s2, s3⟩
    go_simp
    with_reducible rfl
   rotate_left
   ·
    simp only [Own.ps]
    rfl
   refine take_ (i := 3) (N := some 19) (v := ?_) (a' := ?_) #[true, true, true, true, false, true, false, true, false, false, false, false, false] rfl rfl (take_ofW HT_.out HW_.out (by kernel_rfl)) (fun _ _ _ h => h) (Or.inl ⟨by rfl, ?_⟩) hHeld ?_ ?_
   rotate_left
   ·
    rintro w' ⟨s0, s1, s2, s3⟩
    go_simp
    with_reducible rfl
   rotate_left
   ·
    simp only [Own.ps]
    rfl
   refine take_ (i := 6) (N := some 22) (v := ?_) (a' := ?_) #[true, true, true, true, false, true, true, true, false, false, false, false, false] rfl rfl (take_ofW HT_.out HW_.out (by kernel_rfl)) (fun _ _ _ h => h) (Or.inl ⟨by rfl, ?_⟩) hHeld ?_ ?_
   rotate_left
   ·
    rintro w' ⟨s0, s1, s2, s3⟩
    go_simp
    with_reducible rfl
   rotate_left
   ·
    simp only [Own.ps]
    rfl
   refine take_ (i := 8) (N := some 24) (v := ?_) (a' := ?_) #[true, true, true, true, false, true, true, true, true, false, false, false, false] rfl rfl (take_ofW HT_.out HW_.out (by kernel_rfl)) (fun _ _ _ h => h) (Or.inl ⟨by rfl, ?_⟩) hHeld ?_ ?_
   rotate_left
   ·
    rintro w' ⟨s0, s1, s2, s3⟩
    go_simp
    with_reducible rfl
   rotate_left
   ·
    simp only [Own.ps]
    rfl
   refine join_ (σ := Value × Value × Nat) 1 #[true, true, true, true, true, true, true, true, true, true, true, true, false] (fun s_ => [(20, s_.1), (25, s_.2.1), (6, .pointer (some ⟨s_.2.2, 0, none⟩)), (26, .agg #[s_.1, s_.2.1])]) (fun s_ w' => (w'.cell? ⟨gb176, 0, none⟩ = some (.slice A0_0 l0_0.length c0_0) ∧ w'.cell? ⟨gb176, 1, none⟩ = some (.slice A0_1 l0_1.length c0_1) ∧ w'.cell? ⟨gb177, 0, none⟩ = some (.slice A1_0 l1_0.length c1_0) ∧ w'.cell? ⟨gb177, 1, none⟩ = some (.slice A1_1 l1_1.length c1_1)) ∧ (Kd.V (Kd.int .i64) 3 w' w.heap.size (fun k_ => (w.heap.size ≤ k_) ∧ k_ ≠ gb176 ∧ k_ ≠ gb177 ∧ k_ ≠ gb178 ∧ k_ ≠ s_.2.2) s_.1 t181) ∧ (Kd.V (Kd.int .i64) 3 w' w.heap.size (fun k_ => (w.heap.size ≤ k_) ∧ k_ ≠ gb176 ∧ k_ ≠ gb177 ∧ k_ ≠ gb178 ∧ k_ ≠ s_.2.2) s_.2.1 t184) ∧ (w'.heap[gb176]? = some (.cells #[.slice A0_0 l0_0.length c0_0, .slice A0_1 l0_1.length c0_1] 26 (0, 0))) ∧ (w'.heap[gb177]? = some (.cells #[.slice A1_0 l1_0.length c1_0, .slice A1_1 l1_1.length c1_1] 26 (0, 0))) ∧ (w'.heap[gb178]? = some (.cells #[.slice none 0 0, .slice none 0 0] 26 (0, 0))) ∧ (w'.heap[s_.2.2]? = some (.cells #[.slice none 0 0, .slice none 0 0] 26 (0, 0))) ∧ (w.heap.size ≤ s_.2.2) ∧ (w.heap.size ≤ s_.2.2) ∧ (gb176 ≠ s_.2.2) ∧ (s_.2.2 ≠ gb176) ∧ (gb177 ≠ s_.2.2) ∧ (s_.2.2 ≠ gb177) ∧ (gb178 ≠ s_.2.2) ∧ (s_.2.2 ≠ gb178) ∧ (Below w.heap.size w w')) ?_ ?_
   rotate_left
   ·
    intro hCont
    refine two_ (i := 4) (j := 11) (Ni := some 20) (Nj := some 6) #[true, true, true, true, true, true, true, true, true, false, false, false, false] #[true, true, true, true, false, true, true, true, true, false, false, true, false] rfl rfl rfl rfl (two_of HT_.out (by kernel_rfl)) (by decide) (by decide) (fun K hK => ?_) (fun K hK => ?_)
    ·
     skip
     refine goes_ Try.func30 (by kernel_rfl) rfl #[.slice A0_0 l0_0.length c0_0, .slice A1_0 l1_0.length c1_0] (by rfl) rfl rfl Own.ha ?_
     with_reducible refine (spec_l4Union.calls kj2 _ _ l0_0 _ _ l1_0 t181 _ ?side1 ?side2 ?side3 ?side4 A25.out).mono ?_
     (case side1 => exact Kd.C_below HR0_0.out Own.bl)
     (case side2 => exact HC0_0.out)
     (case side3 => exact Kd.C_below HR1_0.out Own.bl)
     (case side4 => exact HC1_0.out)
     rintro e w50 ⟨v182, rfl, ho0, hb⟩
     refine ⟨_, rfl, ?_⟩
     have n0_ := Aside0.mk (Kd.V_lower (Kd.V_mono (ok' := fun k_ => (w.heap.size ≤ k_) ∧ k_ ≠ gb176 ∧ k_ ≠ gb177 ∧ k_ ≠ gb178) ho0 (fun k_ hk_ => ⟨(Nat.le_trans (below_size Own.bl) hk_), (Kd.freshB (Own.bkf BK176.out) k_ hk_), (Kd.freshB (Own.bkf BK177.out) k_ hk_), (Kd.freshB (Own.bkf BK178.out) k_ hk_)⟩)) (below_size Own.bl))
     have n1_ := Own.bb BK176.out hb
     have n2_ := Own.bb BK177.out hb
     have n3_ := Own.bb BK178.out hb
     have n4_ := Own.bs hb
     clear BK176
     clear BK177
     clear BK178
     clear HB
     have HO183 := n0_
     have BK176 := n1_
     have BK177 := n2_
     have BK178 := n3_
     have HB := n4_
     clear n0_ n1_ n2_ n3_ n4_
     (try clear hb)
     (try clear hb2)
     (try clear hk)
     (try clear hi)
     (try clear ho0)
     refine hK.out _ _ ⟨(blk_cell BK176.out 0).trans rfl, (blk_cell BK176.out 1).trans rfl, (blk_cell BK177.out 0).trans rfl, (blk_cell BK177.out 1).trans rfl⟩ (fun hHeld => ?_)
     clear hK K
     refine norm_ (a' := ?_) ?_ ?_
     rotate_left
     ·
      show Act.put _ (some 20) _ = _
      simp only [Own.ps]
      rfl
     refine two_ (i := 9) (j := 11) (Ni := some 25) (Nj := some 6) #[true, true, true, true, true, true, true, true, true, true, false, false, false] #[true, true, true, true, true, true, true, true, true, false, false, true, false] rfl rfl rfl rfl (two_of HT_.out (by kernel_rfl)) (by decide) (by decide) (fun K hK => ?_) (fun K hK => ?_)
     ·
      skip
      refine goes_ Try.func30 (by kernel_rfl) rfl #[.slice A0_1 l0_1.length c0_1, .slice A1_1 l1_1.length c1_1] (by rfl) rfl rfl Own.ha ?_
      with_reducible refine (spec_l4Union.calls kj2 _ _ l0_1 _ _ l1_1 t184 _ ?side1 ?side2 ?side3 ?side4 A26.out).mono ?_
      (case side1 => exact Kd.C_below HR0_1.out Own.bl)
      (case side2 => exact HC0_1.out)
      (case side3 => exact Kd.C_below HR1_1.out Own.bl)
      (case side4 => exact HC1_1.out)
      rintro e w51 ⟨v185, rfl, ho0, hb⟩
      refine ⟨_, rfl, ?_⟩
      have n0_ := Aside0.mk (Kd.V_below (Own.vd HO183.out) hb)
      have n1_ := Aside0.mk (Kd.V_lower (Kd.V_mono (ok' := fun k_ => (w.heap.size ≤ k_) ∧ k_ ≠ gb176 ∧ k_ ≠ gb177 ∧ k_ ≠ gb178) ho0 (fun k_ hk_ => ⟨(Nat.le_trans (below_size Own.bl) hk_), (Kd.freshB (Own.bkf BK176.out) k_ hk_), (Kd.freshB (Own.bkf BK177.out) k_ hk_), (Kd.freshB (Own.bkf BK178.out) k_ hk_)⟩)) (below_size Own.bl))
      have n2_ := Own.bb BK176.out hb
      have n3_ := Own.bb BK177.out hb
      have n4_ := Own.bb BK178.out hb
      have n5_ := Own.bs hb
      clear HO183
      clear BK176
      clear BK177
      clear BK178
      clear HB
      have HO183 := n0_
      have HO186 := n1_
      have BK176 := n2_
      have BK177 := n3_
      have BK178 := n4_
      have HB := n5_
      clear n0_ n1_ n2_ n3_ n4_ n5_
      (try clear hb)
      (try clear hb2)
      (try clear hk)
      (try clear hi)
      (try clear ho0)
      obtain ⟨Ao52, co52, eo52⟩ := Kd.V_slice HO186.out
      (first | subst eo52 | (injection eo52 with f1_ f2_ f3_; have f4_ := f1_.symm; have f5_ := f3_.symm; clear f1_ f2_ f3_; subst f4_; subst f5_))
      obtain ⟨Ao53, co53, eo53⟩ := Kd.V_slice HO183.out
      (first | subst eo53 | (injection eo53 with f1_ f2_ f3_; have f4_ := f1_.symm; have f5_ := f3_.symm; clear f1_ f2_ f3_; subst f4_; subst f5_))
      refine hK.out _ _ ⟨(blk_cell BK176.out 0).trans rfl, (blk_cell BK176.out 1).trans rfl, (blk_cell BK177.out 0).trans rfl, (blk_cell BK177.out 1).trans rfl⟩ (fun hHeld => ?_)
      clear hK K
      refine norm_ (a' := ?_) ?_ ?_
      rotate_left
      ·
       show Act.put _ (some 25) _ = _
       simp only [Own.ps]
       rfl
      refine pure_ (i := 10) (N := some 26) (v := ?_) (a' := ?_) #[true, true, true, true, true, true, true, true, true, true, true, false, false] rfl rfl (any_of HT_.out (by kernel_rfl)) (fun _ _ _ h => h) (Or.inl ⟨by rfl, ?_⟩) ?_ ?_
      rotate_left
      ·
       intro w'
       go_simp
       with_reducible rfl
      rotate_left
      ·
       simp only [Own.ps]
       rfl
      refine one_ (i := 11) (N := some 6) #[true, true, true, true, true, true, true, true, true, true, true, true, false] rfl rfl (one_of HT_.out (by kernel_rfl)) (by decide) (fun K hK => ?_)
      refine box_step ?hg (N := 6) ?hd (cs := #[.slice none 0 0, .slice none 0 0]) (t := 26) ?hr ?_; (case hd => rfl); (case hg => rfl); (case hr => first | (go_simp; done) | (go_simp; rfl))
      intro gb187 hg w54 hbox hb
      have n0_ := Aside0.mk (Kd.V_below (Kd.V_elderB (Own.vd HO183.out) gb187 (Nat.le_of_eq hg.symm)) hb)
      have n1_ := Aside0.mk (Kd.V_below (Kd.V_elderB (Own.vd HO186.out) gb187 (Nat.le_of_eq hg.symm)) hb)
      have n2_ := Own.bb BK176.out hb
      have n3_ := Own.bb BK177.out hb
      have n4_ := Own.bb BK178.out hb
      have n5_ := Own.bs hb
      have n6_ := Aside0.mk (hbox)
      have n7_ := (Own.gs hg : Aside0 (w.heap.size ≤ gb187))
      have n8_ := (Own.gs hg : Aside0 (w.heap.size ≤ gb187))
      have n9_ := Own.nl hg BK176.out
      have n10_ := Aside0.mk ((by rw [hg]; exact Nat.ne_of_gt (blk_lt (Own.bkf BK176.out)) : gb187 ≠ gb176))
      have n11_ := Own.nl hg BK177.out
      have n12_ := Aside0.mk ((by rw [hg]; exact Nat.ne_of_gt (blk_lt (Own.bkf BK177.out)) : gb187 ≠ gb177))
      have n13_ := Own.nl hg BK178.out
      have n14_ := Aside0.mk ((by rw [hg]; exact Nat.ne_of_gt (blk_lt (Own.bkf BK178.out)) : gb187 ≠ gb178))
      clear HO183
      clear HO186
      clear BK176
      clear BK177
      clear BK178
      clear HB
      have HO183 := n0_
      have HO186 := n1_
      have BK176 := n2_
      have BK177 := n3_
      have BK178 := n4_
      have HB := n5_
      have BK187 := n6_
      have GW187 := n7_
      have GE187 := n8_
      have NB176_187 := n9_
      have NB187_176 := n10_
      have NB177_187 := n11_
      have NB187_177 := n12_
      have NB178_187 := n13_
      have NB187_178 := n14_
      clear n0_ n1_ n2_ n3_ n4_ n5_ n6_ n7_ n8_ n9_ n10_ n11_ n12_ n13_ n14_
      clear hb hbox hg
      refine hK.out _ _ ⟨(blk_cell BK176.out 0).trans rfl, (blk_cell BK176.out 1).trans rfl, (blk_cell BK177.out 0).trans rfl, (blk_cell BK177.out 1).trans rfl⟩ (fun hHeld => ?_)
      clear hK K
      refine norm_ (a' := ?_) ?_ ?_
      rotate_left
      ·
       show Act.put _ (some 6) _ = _
       simp only [Own.ps]
       rfl
      exact norm_ (by simp only [putAll, Act.put, List.setIfInBounds_toArray, List.set_cons_zero, List.set_cons_succ]) (hCont (.slice Ao53 t181.length co53, .slice Ao52 t184.length co52, gb187) _ ⟨hHeld, (by (with_reducible repeat (first | apply Kd.V_alloc | apply Kd.V_drewN | apply Kd.V_drew)); exact Kd.V_mono HO183.out (fun _ hk => ⟨hk.1.1, ⟨hk.1.2.1, ⟨hk.1.2.2.1, ⟨hk.1.2.2.2, hk.2⟩⟩⟩⟩)), (by (with_reducible repeat (first | apply Kd.V_alloc | apply Kd.V_drewN | apply Kd.V_drew)); exact Kd.V_mono HO186.out (fun _ hk => ⟨hk.1.1, ⟨hk.1.2.1, ⟨hk.1.2.2.1, ⟨hk.1.2.2.2, hk.2⟩⟩⟩⟩)), (by (with_reducible repeat (first | refine blk_drewN ?_ _ | refine blk_drew ?_ | refine blk_alloc ?_ _)); exact BK176.out), (by (with_reducible repeat (first | refine blk_drewN ?_ _ | refine blk_drew ?_ | refine blk_alloc ?_ _)); exact BK177.out), (by (with_reducible repeat (first | refine blk_drewN ?_ _ | refine blk_drew ?_ | refine blk_alloc ?_ _)); exact BK178.out), (by (with_reducible repeat (first | refine blk_drewN ?_ _ | refine blk_drew ?_ | refine blk_alloc ?_ _)); exact BK187.out), GW187.out, GE187.out, NB176_187.out, NB187_176.out, NB177_187.out, NB187_177.out, NB178_187.out, NB187_178.out, Own.bl⟩)
     ·
      skip
      refine box_step ?hg (N := 6) ?hd (cs := #[.slice none 0 0, .slice none 0 0]) (t := 26) ?hr ?_; (case hd => rfl); (case hg => rfl); (case hr => first | (go_simp; done) | (go_simp; rfl))
      intro gb187 hg w51 hbox hb
      have n0_ := Aside0.mk (Kd.V_below (Kd.V_elderB (Own.vd HO183.out) gb187 (Nat.le_of_eq hg.symm)) hb)
      have n1_ := Own.bb BK176.out hb
      have n2_ := Own.bb BK177.out hb
      have n3_ := Own.bb BK178.out hb
      have n4_ := Own.bs hb
      have n5_ := Aside0.mk (hbox)
      have n6_ := (Own.gs hg : Aside0 (w.heap.size ≤ gb187))
      have n7_ := (Own.gs hg : Aside0 (w.heap.size ≤ gb187))
      have n8_ := Own.nl hg BK176.out
      have n9_ := Aside0.mk ((by rw [hg]; exact Nat.ne_of_gt (blk_lt (Own.bkf BK176.out)) : gb187 ≠ gb176))
      have n10_ := Own.nl hg BK177.out
      have n11_ := Aside0.mk ((by rw [hg]; exact Nat.ne_of_gt (blk_lt (Own.bkf BK177.out)) : gb187 ≠ gb177))
      have n12_ := Own.nl hg BK178.out
      have n13_ := Aside0.mk ((by rw [hg]; exact Nat.ne_of_gt (blk_lt (Own.bkf BK178.out)) : gb187 ≠ gb178))
      clear HO183
      clear BK176
      clear BK177
      clear BK178
      clear HB
      have HO183 := n0_
      have BK176 := n1_
      have BK177 := n2_
      have BK178 := n3_
      have HB := n4_
      have BK187 := n5_
      have GW187 := n6_
      have GE187 := n7_
      have NB176_187 := n8_
      have NB187_176 := n9_
      have NB177_187 := n10_
      have NB187_177 := n11_
      have NB178_187 := n12_
      have NB187_178 := n13_
      clear n0_ n1_ n2_ n3_ n4_ n5_ n6_ n7_ n8_ n9_ n10_ n11_ n12_ n13_
      clear hb hbox hg
      refine hK.out _ _ ⟨(blk_cell BK176.out 0).trans rfl, (blk_cell BK176.out 1).trans rfl, (blk_cell BK177.out 0).trans rfl, (blk_cell BK177.out 1).trans rfl⟩ (fun hHeld => ?_)
      clear hK K
      refine norm_ (a' := ?_) ?_ ?_
      rotate_left
      ·
       show Act.put _ (some 6) _ = _
       simp only [Own.ps]
       rfl
      refine one_ (i := 9) (N := some 25) #[true, true, true, true, true, true, true, true, true, true, false, true, false] rfl rfl (one_of HT_.out (by kernel_rfl)) (by decide) (fun K hK => ?_)
      refine goes_ Try.func30 (by kernel_rfl) rfl #[.slice A0_1 l0_1.length c0_1, .slice A1_1 l1_1.length c1_1] (by rfl) rfl rfl Own.ha ?_
      with_reducible refine (spec_l4Union.calls kj2 _ _ l0_1 _ _ l1_1 t184 _ ?side1 ?side2 ?side3 ?side4 A26.out).mono ?_
      (case side1 => exact Kd.C_below HR0_1.out Own.bl)
      (case side2 => exact HC0_1.out)
      (case side3 => exact Kd.C_below HR1_1.out Own.bl)
      (case side4 => exact HC1_1.out)
      rintro e w52 ⟨v185, rfl, ho0, hb⟩
      refine ⟨_, rfl, ?_⟩
      have n0_ := Aside0.mk (Kd.V_below (Own.vd HO183.out) hb)
      have n1_ := Aside0.mk (Kd.V_lower (Kd.V_mono (ok' := fun k_ => (w.heap.size ≤ k_) ∧ k_ ≠ gb176 ∧ k_ ≠ gb177 ∧ k_ ≠ gb178 ∧ k_ ≠ gb187) ho0 (fun k_ hk_ => ⟨(Nat.le_trans (below_size Own.bl) hk_), (Kd.freshB (Own.bkf BK176.out) k_ hk_), (Kd.freshB (Own.bkf BK177.out) k_ hk_), (Kd.freshB (Own.bkf BK178.out) k_ hk_), (Kd.freshB (Own.bkf BK187.out) k_ hk_)⟩)) (below_size Own.bl))
      have n2_ := Own.bb BK176.out hb
      have n3_ := Own.bb BK177.out hb
      have n4_ := Own.bb BK178.out hb
      have n5_ := Own.bb BK187.out hb
      have n6_ := Own.bs hb
      clear HO183
      clear BK176
      clear BK177
      clear BK178
      clear BK187
      clear HB
      have HO183 := n0_
      have HO186 := n1_
      have BK176 := n2_
      have BK177 := n3_
      have BK178 := n4_
      have BK187 := n5_
      have HB := n6_
      clear n0_ n1_ n2_ n3_ n4_ n5_ n6_
      (try clear hb)
      (try clear hb2)
      (try clear hk)
      (try clear hi)
      (try clear ho0)
      obtain ⟨Ao53, co53, eo53⟩ := Kd.V_slice HO186.out
      (first | subst eo53 | (injection eo53 with f1_ f2_ f3_; have f4_ := f1_.symm; have f5_ := f3_.symm; clear f1_ f2_ f3_; subst f4_; subst f5_))
      obtain ⟨Ao54, co54, eo54⟩ := Kd.V_slice HO183.out
      (first | subst eo54 | (injection eo54 with f1_ f2_ f3_; have f4_ := f1_.symm; have f5_ := f3_.symm; clear f1_ f2_ f3_; subst f4_; subst f5_))
      refine hK.out _ _ ⟨(blk_cell BK176.out 0).trans rfl, (blk_cell BK176.out 1).trans rfl, (blk_cell BK177.out 0).trans rfl, (blk_cell BK177.out 1).trans rfl⟩ (fun hHeld => ?_)
      clear hK K
      refine norm_ (a' := ?_) ?_ ?_
      rotate_left
      ·
       show Act.put _ (some 25) _ = _
       simp only [Own.ps]
       rfl
      refine pure_ (i := 10) (N := some 26) (v := ?_) (a' := ?_) #[true, true, true, true, true, true, true, true, true, true, true, true, false] rfl rfl (any_of HT_.out (by kernel_rfl)) (fun _ _ _ h => h) (Or.inl ⟨by rfl, ?_⟩) ?_ ?_
      rotate_left
      ·
       intro w'
       go_simp
       with_reducible rfl
      rotate_left
      ·
       simp only [Own.ps]
       rfl
      exact norm_ (by simp only [putAll, Act.put, List.setIfInBounds_toArray, List.set_cons_zero, List.set_cons_succ]) (hCont (.slice Ao54 t181.length co54, .slice Ao53 t184.length co53, gb187) _ ⟨hHeld, (by (with_reducible repeat (first | apply Kd.V_alloc | apply Kd.V_drewN | apply Kd.V_drew)); exact Kd.V_mono HO183.out (fun _ hk => ⟨hk.1.1, ⟨hk.1.2.1, ⟨hk.1.2.2.1, ⟨hk.1.2.2.2, hk.2⟩⟩⟩⟩)), (Own.vd HO186.out), (by (with_reducible repeat (first | refine blk_drewN ?_ _ | refine blk_drew ?_ | refine blk_alloc ?_ _)); exact BK176.out), (by (with_reducible repeat (first | refine blk_drewN ?_ _ | refine blk_drew ?_ | refine blk_alloc ?_ _)); exact BK177.out), (by (with_reducible repeat (first | refine blk_drewN ?_ _ | refine blk_drew ?_ | refine blk_alloc ?_ _)); exact BK178.out), (by (with_reducible repeat (first | refine blk_drewN ?_ _ | refine blk_drew ?_ | refine blk_alloc ?_ _)); exact BK187.out), GW187.out, GE187.out, NB176_187.out, NB187_176.out, NB177_187.out, NB187_177.out, NB178_187.out, NB187_178.out, Own.bl⟩)
    ·
     skip
     refine box_step ?hg (N := 6) ?hd (cs := #[.slice none 0 0, .slice none 0 0]) (t := 26) ?hr ?_; (case hd => rfl); (case hg => rfl); (case hr => first | (go_simp; done) | (go_simp; rfl))
     intro gb187 hg w50 hbox hb
     have n0_ := Own.bb BK176.out hb
     have n1_ := Own.bb BK177.out hb
     have n2_ := Own.bb BK178.out hb
     have n3_ := Own.bs hb
     have n4_ := Aside0.mk (hbox)
     have n5_ := (Own.gs hg : Aside0 (w.heap.size ≤ gb187))
     have n6_ := (Own.gs hg : Aside0 (w.heap.size ≤ gb187))
     have n7_ := Own.nl hg BK176.out
     have n8_ := Aside0.mk ((by rw [hg]; exact Nat.ne_of_gt (blk_lt (Own.bkf BK176.out)) : gb187 ≠ gb176))
     have n9_ := Own.nl hg BK177.out
     have n10_ := Aside0.mk ((by rw [hg]; exact Nat.ne_of_gt (blk_lt (Own.bkf BK177.out)) : gb187 ≠ gb177))
     have n11_ := Own.nl hg BK178.out
     have n12_ := Aside0.mk ((by rw [hg]; exact Nat.ne_of_gt (blk_lt (Own.bkf BK178.out)) : gb187 ≠ gb178))
     clear BK176
     clear BK177
     clear BK178
     clear HB
     have BK176 := n0_
     have BK177 := n1_
     have BK178 := n2_
     have HB := n3_
     have BK187 := n4_
     have GW187 := n5_
     have GE187 := n6_
     have NB176_187 := n7_
     have NB187_176 := n8_
     have NB177_187 := n9_
     have NB187_177 := n10_
     have NB178_187 := n11_
     have NB187_178 := n12_
     clear n0_ n1_ n2_ n3_ n4_ n5_ n6_ n7_ n8_ n9_ n10_ n11_ n12_
     clear hb hbox hg
     refine hK.out _ _ ⟨(blk_cell BK176.out 0).trans rfl, (blk_cell BK176.out 1).trans rfl, (blk_cell BK177.out 0).trans rfl, (blk_cell BK177.out 1).trans rfl⟩ (fun hHeld => ?_)
     clear hK K
     refine norm_ (a' := ?_) ?_ ?_
     rotate_left
     ·
      show Act.put _ (some 6) _ = _
      simp only [Own.ps]
      rfl
     refine one_ (i := 4) (N := some 20) #[true, true, true, true, true, true, true, true, true, false, false, true, false] rfl rfl (one_of HT_.out (by kernel_rfl)) (by decide) (fun K hK => ?_)
     refine goes_ Try.func30 (by kernel_rfl) rfl #[.slice A0_0 l0_0.length c0_0, .slice A1_0 l1_0.length c1_0] (by rfl) rfl rfl Own.ha ?_
     with_reducible refine (spec_l4Union.calls kj2 _ _ l0_0 _ _ l1_0 t181 _ ?side1 ?side2 ?side3 ?side4 A25.out).mono ?_
     (case side1 => exact Kd.C_below HR0_0.out Own.bl)
     (case side2 => exact HC0_0.out)
     (case side3 => exact Kd.C_below HR1_0.out Own.bl)
     (case side4 => exact HC1_0.out)
     rintro e w51 ⟨v182, rfl, ho0, hb⟩
     refine ⟨_, rfl, ?_⟩
     have n0_ := Aside0.mk (Kd.V_lower (Kd.V_mono (ok' := fun k_ => (w.heap.size ≤ k_) ∧ k_ ≠ gb176 ∧ k_ ≠ gb177 ∧ k_ ≠ gb178 ∧ k_ ≠ gb187) ho0 (fun k_ hk_ => ⟨(Nat.le_trans (below_size Own.bl) hk_), (Kd.freshB (Own.bkf BK176.out) k_ hk_), (Kd.freshB (Own.bkf BK177.out) k_ hk_), (Kd.freshB (Own.bkf BK178.out) k_ hk_), (Kd.freshB (Own.bkf BK187.out) k_ hk_)⟩)) (below_size Own.bl))
     have n1_ := Own.bb BK176.out hb
     have n2_ := Own.bb BK177.out hb
     have n3_ := Own.bb BK178.out hb
     have n4_ := Own.bb BK187.out hb
     have n5_ := Own.bs hb
     clear BK176
     clear BK177
     clear BK178
     clear BK187
     clear HB
     have HO183 := n0_
     have BK176 := n1_
     have BK177 := n2_
     have BK178 := n3_
     have BK187 := n4_
     have HB := n5_
     clear n0_ n1_ n2_ n3_ n4_ n5_
     (try clear hb)
     (try clear hb2)
     (try clear hk)
     (try clear hi)
     (try clear ho0)
     refine hK.out _ _ ⟨(blk_cell BK176.out 0).trans rfl, (blk_cell BK176.out 1).trans rfl, (blk_cell BK177.out 0).trans rfl, (blk_cell BK177.out 1).trans rfl⟩ (fun hHeld => ?_)
     clear hK K
     refine norm_ (a' := ?_) ?_ ?_
     rotate_left
     ·
      show Act.put _ (some 20) _ = _
      simp only [Own.ps]
      rfl
     refine one_ (i := 9) (N := some 25) #[true, true, true, true, true, true, true, true, true, true, false, true, false] rfl rfl (one_of HT_.out (by kernel_rfl)) (by decide) (fun K hK => ?_)
     refine goes_ Try.func30 (by kernel_rfl) rfl #[.slice A0_1 l0_1.length c0_1, .slice A1_1 l1_1.length c1_1] (by rfl) rfl rfl Own.ha ?_
     with_reducible refine (spec_l4Union.calls kj2 _ _ l0_1 _ _ l1_1 t184 _ ?side1 ?side2 ?side3 ?side4 A26.out).mono ?_
     (case side1 => exact Kd.C_below HR0_1.out Own.bl)
     (case side2 => exact HC0_1.out)
     (case side3 => exact Kd.C_below HR1_1.out Own.bl)
     (case side4 => exact HC1_1.out)
     rintro e w52 ⟨v185, rfl, ho0, hb⟩
     refine ⟨_, rfl, ?_⟩
     have n0_ := Aside0.mk (Kd.V_below (Own.vd HO183.out) hb)
     have n1_ := Aside0.mk (Kd.V_lower (Kd.V_mono (ok' := fun k_ => (w.heap.size ≤ k_) ∧ k_ ≠ gb176 ∧ k_ ≠ gb177 ∧ k_ ≠ gb178 ∧ k_ ≠ gb187) ho0 (fun k_ hk_ => ⟨(Nat.le_trans (below_size Own.bl) hk_), (Kd.freshB (Own.bkf BK176.out) k_ hk_), (Kd.freshB (Own.bkf BK177.out) k_ hk_), (Kd.freshB (Own.bkf BK178.out) k_ hk_), (Kd.freshB (Own.bkf BK187.out) k_ hk_)⟩)) (below_size Own.bl))
     have n2_ := Own.bb BK176.out hb
     have n3_ := Own.bb BK177.out hb
     have n4_ := Own.bb BK178.out hb
     have n5_ := Own.bb BK187.out hb
     have n6_ := Own.bs hb
     clear HO183
     clear BK176
     clear BK177
     clear BK178
     clear BK187
     clear HB
     have HO183 := n0_
     have HO186 := n1_
     have BK176 := n2_
     have BK177 := n3_
     have BK178 := n4_
     have BK187 := n5_
     have HB := n6_
     clear n0_ n1_ n2_ n3_ n4_ n5_ n6_
     (try clear hb)
     (try clear hb2)
     (try clear hk)
     (try clear hi)
     (try clear ho0)
     obtain ⟨Ao53, co53, eo53⟩ := Kd.V_slice HO186.out
     (first | subst eo53 | (injection eo53 with f1_ f2_ f3_; have f4_ := f1_.symm; have f5_ := f3_.symm; clear f1_ f2_ f3_; subst f4_; subst f5_))
     obtain ⟨Ao54, co54, eo54⟩ := Kd.V_slice HO183.out
     (first | subst eo54 | (injection eo54 with f1_ f2_ f3_; have f4_ := f1_.symm; have f5_ := f3_.symm; clear f1_ f2_ f3_; subst f4_; subst f5_))
     refine hK.out _ _ ⟨(blk_cell BK176.out 0).trans rfl, (blk_cell BK176.out 1).trans rfl, (blk_cell BK177.out 0).trans rfl, (blk_cell BK177.out 1).trans rfl⟩ (fun hHeld => ?_)
     clear hK K
     refine norm_ (a' := ?_) ?_ ?_
     rotate_left
     ·
      show Act.put _ (some 25) _ = _
      simp only [Own.ps]
      rfl
     refine pure_ (i := 10) (N := some 26) (v := ?_) (a' := ?_) #[true, true, true, true, true, true, true, true, true, true, true, true, false] rfl rfl (any_of HT_.out (by kernel_rfl)) (fun _ _ _ h => h) (Or.inl ⟨by rfl, ?_⟩) ?_ ?_
     rotate_left
     ·
      intro w'
      go_simp
      with_reducible rfl
     rotate_left
     ·
      simp only [Own.ps]
      rfl
     exact norm_ (by simp only [putAll, Act.put, List.setIfInBounds_toArray, List.set_cons_zero, List.set_cons_succ]) (hCont (.slice Ao54 t181.length co54, .slice Ao53 t184.length co53, gb187) _ ⟨hHeld, (Own.vd HO183.out), (Own.vd HO186.out), (by (with_reducible repeat (first | refine blk_drewN ?_ _ | refine blk_drew ?_ | refine blk_alloc ?_ _)); exact BK176.out), (by (with_reducible repeat (first | refine blk_drewN ?_ _ | refine blk_drew ?_ | refine blk_alloc ?_ _)); exact BK177.out), (by (with_reducible repeat (first | refine blk_drewN ?_ _ | refine blk_drew ?_ | refine blk_alloc ?_ _)); exact BK178.out), (by (with_reducible repeat (first | refine blk_drewN ?_ _ | refine blk_drew ?_ | refine blk_alloc ?_ _)); exact BK187.out), GW187.out, GE187.out, NB176_187.out, NB187_176.out, NB177_187.out, NB187_177.out, NB178_187.out, NB187_178.out, Own.bl⟩)
   rintro ⟨v182, v185, gb187⟩ w55 ⟨hS_, h0_, h1_, h2_, h3_, h4_, h5_, h6_, h7_, h8_, h9_, h10_, h11_, h12_, h13_, h14_⟩
   have n0_ : Aside0 (Kd.V (Kd.int .i64) 3 w55 w.heap.size (fun k_ => (w.heap.size ≤ k_) ∧ k_ ≠ gb176 ∧ k_ ≠ gb177 ∧ k_ ≠ gb178 ∧ k_ ≠ gb187) v182 t181) := ⟨h0_⟩
   have n1_ : Aside0 (Kd.V (Kd.int .i64) 3 w55 w.heap.size (fun k_ => (w.heap.size ≤ k_) ∧ k_ ≠ gb176 ∧ k_ ≠ gb177 ∧ k_ ≠ gb178 ∧ k_ ≠ gb187) v185 t184) := ⟨h1_⟩
   have n2_ : Aside0 (w55.heap[gb176]? = some (.cells #[.slice A0_0 l0_0.length c0_0, .slice A0_1 l0_1.length c0_1] 26 (0, 0))) := ⟨h2_⟩
   have n3_ : Aside0 (w55.heap[gb177]? = some (.cells #[.slice A1_0 l1_0.length c1_0, .slice A1_1 l1_1.length c1_1] 26 (0, 0))) := ⟨h3_⟩
   have n4_ : Aside0 (w55.heap[gb178]? = some (.cells #[.slice none 0 0, .slice none 0 0] 26 (0, 0))) := ⟨h4_⟩
   have n5_ : Aside0 (w55.heap[gb187]? = some (.cells #[.slice none 0 0, .slice none 0 0] 26 (0, 0))) := ⟨h5_⟩
   have n6_ : Aside0 (w.heap.size ≤ gb187) := ⟨h6_⟩
   have n7_ : Aside0 (w.heap.size ≤ gb187) := ⟨h7_⟩
   have n8_ : Aside0 (gb176 ≠ gb187) := ⟨h8_⟩
   have n9_ : Aside0 (gb187 ≠ gb176) := ⟨h9_⟩
   have n10_ : Aside0 (gb177 ≠ gb187) := ⟨h10_⟩
   have n11_ : Aside0 (gb187 ≠ gb177) := ⟨h11_⟩
   have n12_ : Aside0 (gb178 ≠ gb187) := ⟨h12_⟩
   have n13_ : Aside0 (gb187 ≠ gb178) := ⟨h13_⟩
   have n14_ : Aside0 (Below w.heap.size w w55) := ⟨h14_⟩
   clear BK176
   clear BK177
   clear BK178
   clear HB
   clear h0_ h1_ h2_ h3_ h4_ h5_ h6_ h7_ h8_ h9_ h10_ h11_ h12_ h13_ h14_
   have HO183 := n0_
   have HO186 := n1_
   have BK176 := n2_
   have BK177 := n3_
   have BK178 := n4_
   have BK187 := n5_
   have GW187 := n6_
   have GE187 := n7_
   have NB176_187 := n8_
   have NB187_176 := n9_
   have NB177_187 := n10_
   have NB187_177 := n11_
   have NB178_187 := n12_
   have NB187_178 := n13_
   have HB := n14_
   clear n0_ n1_ n2_ n3_ n4_ n5_ n6_ n7_ n8_ n9_ n10_ n11_ n12_ n13_ n14_
   have hHeld : w55.cell? ⟨gb176, 0, none⟩ = some (.slice A0_0 l0_0.length c0_0) ∧ w55.cell? ⟨gb176, 1, none⟩ = some (.slice A0_1 l0_1.length c0_1) ∧ w55.cell? ⟨gb177, 0, none⟩ = some (.slice A1_0 l1_0.length c1_0) ∧ w55.cell? ⟨gb177, 1, none⟩ = some (.slice A1_1 l1_1.length c1_1) := hS_
   obtain ⟨Ao56, co56, eo56⟩ := Kd.V_slice HO186.out
   (first | subst eo56 | (injection eo56 with f1_ f2_ f3_; have f4_ := f1_.symm; have f5_ := f3_.symm; clear f1_ f2_ f3_; subst f4_; subst f5_))
   obtain ⟨Ao57, co57, eo57⟩ := Kd.V_slice HO183.out
   (first | subst eo57 | (injection eo57 with f1_ f2_ f3_; have f4_ := f1_.symm; have f5_ := f3_.symm; clear f1_ f2_ f3_; subst f4_; subst f5_))
   refine norm_ (a' := ?_) ?_ ?_
   rotate_left
   ·
    simp only [putAll, Act.put, List.setIfInBounds_toArray, List.set_cons_zero, List.set_cons_succ]
    rfl
   refine one_ (i := 12) (N := none) #[true, true, true, true, true, true, true, true, true, true, true, true, true] rfl rfl (one_of HT_.out (by kernel_rfl)) (by decide) (fun K hK => ?_)
   have hs58 : w55.cell? ⟨gb187, 0, none⟩ = some (.slice none 0 0) := (blk_cell BK187.out 0).trans rfl
   have hfs58 := blk_frozen BK187.out 0
   have hns58_0 := NB176_187.out
   have hns58_1 := NB177_187.out
   have hns58_2 := NB178_187.out
   have hms58_0 := NB187_176.out
   have hms58_1 := NB187_177.out
   have hms58_2 := NB187_178.out
   have hs59 : w55.cell? ⟨gb187, 1, none⟩ = some (.slice none 0 0) := (blk_cell BK187.out 1).trans rfl
   have hfs59 := blk_frozen BK187.out 1
   have hns59_0 := NB176_187.out
   have hns59_1 := NB177_187.out
   have hns59_2 := NB178_187.out
   have hms59_0 := NB187_176.out
   have hms59_1 := NB187_177.out
   have hms59_2 := NB187_178.out
   refine skip_ (w1 := ?_) (by rfl) rfl ?_ ?_
   rotate_left
   ·
    go_simp
    rfl
   refine hK.out _ _ ⟨((cell_far (p := ⟨gb187, _, none⟩) NB176_187.out _).trans (((cell_far (p := ⟨gb187, _, none⟩) NB176_187.out _).trans (hHeld.1)))), ((cell_far (p := ⟨gb187, _, none⟩) NB176_187.out _).trans (((cell_far (p := ⟨gb187, _, none⟩) NB176_187.out _).trans (hHeld.2.1)))), ((cell_far (p := ⟨gb187, _, none⟩) NB177_187.out _).trans (((cell_far (p := ⟨gb187, _, none⟩) NB177_187.out _).trans (hHeld.2.2.1)))), ((cell_far (p := ⟨gb187, _, none⟩) NB177_187.out _).trans (((cell_far (p := ⟨gb187, _, none⟩) NB177_187.out _).trans (hHeld.2.2.2))))⟩ (fun hHeld => ?_)
   clear hK K
   refine done_ (done_of HT_.out (by kernel_rfl)) ?_
   have hnb60 := NB187_176.out
   have hnc60 := NB176_187.out
   have hnb61 := NB187_177.out
   have hnc61 := NB177_187.out
   have hnb62 := NB187_178.out
   have hnc62 := NB178_187.out
   obtain ⟨z63_0, z63_1, y63_0, y63_1⟩ := Own.box2 BK187.out
   try go_wp2_with (first | ((with_reducible refine gate_callee (f := 24) rfl ?_); refine goesL_ (some 28) rfl rfl Try.func24 (by kernel_rfl) rfl #[.agg #[.slice Ao57 t181.length co57, .slice Ao56 t184.length co56]] rfl Own.ha ?_; (with_reducible refine (spec_l4Good.calls kj2 _ _ t181 _ _ t184 false _ ?side1 ?side2 ?side3 ?side4 A27.out).mono ?_); (case side1 => refine (Kd.V_reads' (e := 3) (base := w.heap.size) (ok := fun k_ => ((w.heap.size ≤ k_) ∧ (k_ ≠ gb176 ∧ (k_ ≠ gb177 ∧ (k_ ≠ gb178 ∧ k_ ≠ gb187))))) (n := t181.length) (c := co57) ?_).2.2; exact (by (with_reducible repeat (first | apply Kd.V_alloc | apply Kd.V_drewN | apply Kd.V_drew)); exact (Kd.V_mono (Kd.V_far (p := ⟨gb187, 1, none⟩) (Kd.V_far (p := ⟨gb187, 0, none⟩) (Kd.V_mono HO183.out (fun k_ hk => (⟨hk, hk.2.2.2.2⟩ : _ ∧ k_ ≠ gb187))) (fun _ hk => hk.2) (.slice Ao57 t181.length co57)) (fun _ hk => hk.2) (.slice Ao56 t184.length co56)) (fun _ h_ => h_.1)))); (case side2 => exact (Kd.V_reads' HO183.out).2.1); (case side3 => refine (Kd.V_reads' (e := 3) (base := w.heap.size) (ok := fun k_ => ((w.heap.size ≤ k_) ∧ (k_ ≠ gb176 ∧ (k_ ≠ gb177 ∧ (k_ ≠ gb178 ∧ k_ ≠ gb187))))) (n := t184.length) (c := co56) ?_).2.2; exact (by (with_reducible repeat (first | apply Kd.V_alloc | apply Kd.V_drewN | apply Kd.V_drew)); exact (Kd.V_mono (Kd.V_far (p := ⟨gb187, 1, none⟩) (Kd.V_far (p := ⟨gb187, 0, none⟩) (Kd.V_mono HO186.out (fun k_ hk => (⟨hk, hk.2.2.2.2⟩ : _ ∧ k_ ≠ gb187))) (fun _ hk => hk.2) (.slice Ao57 t181.length co57)) (fun _ hk => hk.2) (.slice Ao56 t184.length co56)) (fun _ h_ => h_.1)))); (case side4 => exact (Kd.V_reads' HO186.out).2.1); rintro e w64 ⟨rfl, hb⟩; refine ⟨_, rfl, ?_⟩; replace HO183 := Aside0.mk (Kd.V_below (by (with_reducible repeat (first | apply Kd.V_alloc | apply Kd.V_drewN | apply Kd.V_drew)); exact (Kd.V_mono (Kd.V_far (p := ⟨gb187, 1, none⟩) (Kd.V_far (p := ⟨gb187, 0, none⟩) (Kd.V_mono HO183.out (fun k_ hk => (⟨hk, hk.2.2.2.2⟩ : _ ∧ k_ ≠ gb187))) (fun _ hk => hk.2) (.slice Ao57 t181.length co57)) (fun _ hk => hk.2) (.slice Ao56 t184.length co56)) (fun _ h_ => h_.1))) hb); replace HO186 := Aside0.mk (Kd.V_below (by (with_reducible repeat (first | apply Kd.V_alloc | apply Kd.V_drewN | apply Kd.V_drew)); exact (Kd.V_mono (Kd.V_far (p := ⟨gb187, 1, none⟩) (Kd.V_far (p := ⟨gb187, 0, none⟩) (Kd.V_mono HO186.out (fun k_ hk => (⟨hk, hk.2.2.2.2⟩ : _ ∧ k_ ≠ gb187))) (fun _ hk => hk.2) (.slice Ao57 t181.length co57)) (fun _ hk => hk.2) (.slice Ao56 t184.length co56)) (fun _ h_ => h_.1))) hb); replace BK176 := Own.bb BK176.out hb; replace BK177 := Own.bb BK177.out hb; replace BK178 := Own.bb BK178.out hb; replace BK187 := Aside0.mk (blk_below (g := gb187) (o := .cells #[.slice Ao57 t181.length co57, .slice Ao56 t184.length co56] 26 (0, 0)) (by (with_reducible repeat (first | refine blk_drewN ?_ _ | refine blk_drew ?_ | refine blk_alloc ?_ _)); with_reducible exact Own.put2 BK187.out) hb); replace HB := Own.bs hb; (try clear hb); (try clear hk); have hnb65 := NB178_176.out; have hnc65 := NB176_178.out; have hnb66 := NB178_177.out; have hnc66 := NB177_178.out; obtain ⟨z67_0, z67_1, y67_0, y67_1⟩ := Own.box2 BK178.out))
   refine bodyPost_ret (results_ct rfl _ _ gb178 26 #[.slice none 0 0, .slice none 0 0] (0, 0) _ rfl (by (with_reducible repeat (first | refine blk_drewN ?_ _ | refine blk_drew ?_ | refine blk_alloc ?_ _)); with_reducible exact Own.put2 BK178.out) Try.underlying26 rfl (by kernel_rfl)) rfl ?_
   exact ⟨_, _, Own.rr, Kd.V_nil _ _ _ _ _, Kd.V_nil _ _ _ _ _, Own.bl⟩

end Go.Proofs.Ytaallhcmhennkaa.QFnExactJoinCalendars
