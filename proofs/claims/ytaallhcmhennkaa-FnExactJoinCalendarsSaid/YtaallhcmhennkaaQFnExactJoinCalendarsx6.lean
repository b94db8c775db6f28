-- Written by a program of this session out of the translation; Lean checks it.
import Derived.Test.YtaallhcmhennkaaQFnExactJoinCalendarsx0
import Derived.Test.YtaallhcmhennkaaQFnExactJoinCalendarsx5
namespace Go.Proofs.Ytaallhcmhennkaa.QFnExactJoinCalendars
open Go.RowKit Go.Proofs.YtaallhcmhennkaaW.PrintWords Go.Proofs.YtaallhcmhennkaaW.PrintLast Go.Proofs.YtaallhcmhennkaaW.PrintMore
attribute [local go_sem] Instr.field asAgg Own.str_leq Own.str_gtr Own.str_geq
attribute [local go_sem] max2_int min2_int max_two min_two max_three min_three max_four min_four   -- for this text's walks alone
set_option linter.unusedVariables false
set_option linter.unusedSimpArgs false

/-! ### impl_JoinCalendars: function 14 -/
def impl_JoinCalendars.f (k : Nat) (l0_0 : List Int) (l0_1 : List Int) (l1_0 : List Int) (l1_1 : List Int) : Option (List Int × List Int × Bool) := (impl_united.f l0_0 l1_0).bind fun t212 => ((impl_united.f l0_1 l1_1).bind fun t215 => ((impl_IsValidCalendar.f k l0_0 l0_1).bind fun t219 => (if t219 = true then ((impl_IsValidCalendar.f k l1_0 l1_1).bind fun t220 => (if t220 = true then ((impl_IsValidCalendar.f k t212 t215).bind fun t221 => (if t221 = true then (some (t212, t215, true)) else (some (([] : List Int), ([] : List Int), false)))) else (some (([] : List Int), ([] : List Int), false)))) else (some (([] : List Int), ([] : List Int), false)))))
theorem impl_JoinCalendars.mono : ∀ a0 a1 a2 a3 k, LeO (impl_JoinCalendars.f k a0 a1 a2 a3) (impl_JoinCalendars.f (k + 1) a0 a1 a2 a3) := by
 intro a0 a1 a2 a3 k
 unfold impl_JoinCalendars.f
 repeat' first
   | (with_reducible first | exact impl_IsValidCalendar.mono _ _ _ | exact LeO.refl _ | exact LeO.none _ | refine LeO.ite ?_ ?_ | refine LeO.bind ?_ (fun _ => ?_))
def impl_JoinCalendars.T1 : Bool × List (List Nat × List Nat) := (true, [([], []), ([0], [0]), ([], []), ([2], [2]), ([1, 3], [1, 3]), ([], []), ([5], [5]), ([], []), ([7], [7]), ([6, 8, 4], [6, 8]), ([4, 9], [4, 9]), ([], []), ([11, 10, 9, 0, 1, 2, 3, 4, 5, 6, 7, 8, 9, 10, 11], [10, 11])])
def impl_JoinCalendars.B1 : List Nat := [0, 1, 0, 4, 15, 0, 32, 0, 128, 511, 1023, 0, 4095]
theorem impl_JoinCalendars.tab1 : rtab .any (opsOf Try.f14 1) = impl_JoinCalendars.T1 := by kernel_rfl
theorem impl_JoinCalendars.bits1 : waitsOk impl_JoinCalendars.T1.2 impl_JoinCalendars.B1 = true := by kernel_rfl
set_option maxHeartbeats 8000000 in
set_option maxRecDepth 100000 in
theorem impl_JoinCalendars.calls (k : Nat) (A0_0 : Option Addr) (c0_0 : Nat) (l0_0 : List Int) (A0_1 : Option Addr) (c0_1 : Nat) (l0_1 : List Int) (A1_0 : Option Addr) (c1_0 : Nat) (l1_0 : List Int) (A1_1 : Option Addr) (c1_1 : Nat) (l1_1 : List Int) (r1 : List Int) (r2 : List Int) (r3 : Bool) (w : World) (hr0_0 : Kd.C (Kd.int .i64) w A0_0 l0_0.length l0_0) (hc0_0 : l0_0.length ≤ c0_0) (hr0_1 : Kd.C (Kd.int .i64) w A0_1 l0_1.length l0_1) (hc0_1 : l0_1.length ≤ c0_1) (hr1_0 : Kd.C (Kd.int .i64) w A1_0 l1_0.length l1_0) (hc1_0 : l1_0.length ≤ c1_0) (hr1_1 : Kd.C (Kd.int .i64) w A1_1 l1_1.length l1_1) (hc1_1 : l1_1.length ≤ c1_1) (h : impl_JoinCalendars.f k l0_0 l0_1 l1_0 l1_1 = some (r1, r2, r3)) :
  Calls Try.prog 14 #[.agg #[.slice A0_0 l0_0.length c0_0, .slice A0_1 l0_1.length c0_1], .agg #[.slice A1_0 l1_0.length c1_0, .slice A1_1 l1_1.length c1_1]] w fun e w' => ∃ v0_ v1_ : Value, e = .returned (.tuple #[.agg #[v0_, v1_], .bool r3]) ∧ Kd.R (Kd.int .i64) 3 w' w.heap.size (fun k_ => some k_ ≠ (v1_ : Value).ownBlock) v0_ r1 ∧ Kd.R (Kd.int .i64) 3 w' w.heap.size (fun k_ => some k_ ≠ (v0_ : Value).ownBlock) v1_ r2 ∧ Below w.heap.size w w' := by
 have hu26 := Try.underlying26
 have HR0_0 := Aside0.mk hr0_0
 have HC0_0 := Aside0.mk hc0_0
 clear hr0_0 hc0_0
 have HR0_1 := Aside0.mk hr0_1
 have HC0_1 := Aside0.mk hc0_1
 clear hr0_1 hc0_1
 have HR1_0 := Aside0.mk hr1_0
 have HC1_0 := Aside0.mk hc1_0
 clear hr1_0 hc1_0
 have HR1_1 := Aside0.mk hr1_1
 have HC1_1 := Aside0.mk hc1_1
 clear hr1_1 hc1_1
 have HB := Aside0.mk (Below.refl w.heap.size w)
 have H : ((impl_united.f l0_0 l1_0).bind fun t212 => ((impl_united.f l0_1 l1_1).bind fun t215 => ((impl_IsValidCalendar.f k l0_0 l0_1).bind fun t219 => (if t219 = true then ((impl_IsValidCalendar.f k l1_0 l1_1).bind fun t220 => (if t220 = true then ((impl_IsValidCalendar.f k t212 t215).bind fun t221 => (if t221 = true then (some (t212, t215, true)) else (some (([] : List Int), ([] : List Int), false)))) else (some (([] : List Int), ([] : List Int), false)))) else (some (([] : List Int), ([] : List Int), false)))))) = some (r1, r2, r3) := h
 clear h
 replace H := Own.bd H; obtain ⟨t212, A3, H⟩ := H
 replace H := Own.bd H; obtain ⟨t215, A4, H⟩ := H
 replace H := Own.bd H; obtain ⟨t219, A5, H⟩ := H
 replace H := Own.ift H; obtain ⟨rfl, H⟩ | ⟨rfl, H⟩ := H
 ·
  simp only [Option.some.injEq, Prod.mk.injEq] at H
  obtain ⟨rfl, rfl, rfl⟩ := H
  go_enter Try.func14, Try.ntmps14
  try go_wp2_with (first | ((with_reducible refine gate_dst (N := 2) rfl ?_); refine Own.be (N := 2) (cs := #[.slice A0_0 l0_0.length c0_0, .slice A0_1 l0_1.length c0_1]) (t := 26) ?_; intro gb209 hg w91 hbox hb; have BK209 := Aside0.mk hbox; have GW209 := (Own.gs hg : Aside0 (w.heap.size ≤ gb209)); have GE209 := GW209; replace HB := Own.bs hb; clear hb hbox hg) | ((with_reducible refine gate_dst (N := 3) rfl ?_); refine Own.be (N := 3) (cs := #[.slice A1_0 l1_0.length c1_0, .slice A1_1 l1_1.length c1_1]) (t := 26) ?_; intro gb210 hg w92 hbox hb; have BK210 := Aside0.mk hbox; have GW210 := (Own.gs hg : Aside0 (w.heap.size ≤ gb210)); have GE210 := GW210; have NB209_210 := Own.nl hg BK209.out; have NB210_209 := Aside0.mk NB209_210.out.symm; replace BK209 := Own.bb BK209.out hb; replace HB := Own.bs hb; clear hb hbox hg) | ((with_reducible refine gate_dst (N := 4) rfl ?_); refine Own.be (N := 4) (cs := #[.slice none 0 0, .slice none 0 0]) (t := 26) ?_; intro gb211 hg w93 hbox hb; have BK211 := Aside0.mk hbox; have GW211 := (Own.gs hg : Aside0 (w.heap.size ≤ gb211)); have GE211 := GW211; have NB209_211 := Own.nl hg BK209.out; have NB211_209 := Aside0.mk NB209_211.out.symm; have NB210_211 := Own.nl hg BK210.out; have NB211_210 := Aside0.mk NB210_211.out.symm; replace BK209 := Own.bb BK209.out hb; replace BK210 := Own.bb BK210.out hb; replace HB := Own.bs hb; clear hb hbox hg))
  have n0_ := Aside0.mk (blk_drew BK209.out)
  have n1_ := Aside0.mk (blk_drew BK210.out)
  have n2_ := Aside0.mk (blk_drew BK211.out)
  have n3_ := Aside0.mk (below_drew1 HB.out)
  clear BK209
  clear BK210
  clear BK211
  clear HB
  have BK209 := n0_
  have BK210 := n1_
  have BK211 := n2_
  have HB := n3_
  clear n0_ n1_ n2_ n3_
  refine start_ (n := 13) (S := fun w' => w'.cell? ⟨gb209, 0, none⟩ = some (.slice A0_0 l0_0.length c0_0) ∧ w'.cell? ⟨gb209, 1, none⟩ = some (.slice A0_1 l0_1.length c0_1) ∧ w'.cell? ⟨gb210, 0, none⟩ = some (.slice A1_0 l1_0.length c1_0) ∧ w'.cell? ⟨gb210, 1, none⟩ = some (.slice A1_1 l1_1.length c1_1)) (ds := []) #[false, false, false, false, false, false, false, false, false, false, false, false, false] (by kernel_rfl) rfl rfl ⟨(blk_cell BK209.out 0).trans rfl, (blk_cell BK209.out 1).trans rfl, (blk_cell BK210.out 0).trans rfl, (blk_cell BK210.out 1).trans rfl⟩ (fun hHeld => ?_); refine with_tabW impl_JoinCalendars.tab1 impl_JoinCalendars.bits1 (fun HT_ HW_ => ?_)
  generalize w93.drew = w94 at BK209 BK210 BK211 HB hHeld ⊢
  refine pure_ (i := 0) (N := some 7) (v := ?_) (a' := ?_) #[true, false, false, false, false, false, false, false, false, false, false, false, false] rfl rfl (any_of HT_.out (by kernel_rfl)) (fun _ _ _ h => h) (Or.inl ⟨by rfl, ?_⟩) ?_ ?_
  rotate_left
  ·
   intro w'
   go_simp
   with_reducible rfl
  rotate_left
  ·
   simp only [Own.ps]
   rfl
  refine pure_ (i := 2) (N := some 9) (v := ?_) (a' := ?_) #[true, false, true, false, false, false, false, false, false, false, false, false, false] rfl rfl (any_of HT_.out (by kernel_rfl)) (fun _ _ _ h => h) (Or.inl ⟨by rfl, ?_⟩) ?_ ?_
  rotate_left
  ·
   intro w'
   go_simp
   with_reducible rfl
  rotate_left
  ·
   simp only [Own.ps]
   rfl
  refine pure_ (i := 5) (N := some 12) (v := ?_) (a' := ?_) #[true, false, true, false, false, true, false, false, false, false, false, false, false] rfl rfl (any_of HT_.out (by kernel_rfl)) (fun _ _ _ h => h) (Or.inl ⟨by rfl, ?_⟩) ?_ ?_
  rotate_left
  ·
   intro w'
   go_simp
   with_reducible rfl
  rotate_left
  ·
   simp only [Own.ps]
   rfl
  refine pure_ (i := 7) (N := some 14) (v := ?_) (a' := ?_) #[true, false, true, false, false, true, false, true, false, false, false, false, false] rfl rfl (any_of HT_.out (by kernel_rfl)) (fun _ _ _ h => h) (Or.inl ⟨by rfl, ?_⟩) ?_ ?_
  rotate_left
  ·
   intro w'
   go_simp
   with_reducible rfl
  rotate_left
  ·
   simp only [Own.ps]
   rfl
  refine take_ (i := 1) (N := some 8) (v := ?_) (a' := ?_) #[true, true, true, false, false, true, false, true, false, false, false, false, false] rfl rfl (take_ofW HT_.out HW_.out (by kernel_rfl)) (fun _ _ _ h => h) (Or.inl ⟨by rfl, ?_⟩) hHeld ?_ ?_
  rotate_left
  ·
   rintro w' ⟨s0, s1, s2, s3⟩
   go_simp
   with_reducible rfl
  rotate_left
  ·
   simp only [Own.ps]
   rfl
  refine take_ (i := 3) (N := some 10) (v := ?_) (a' := ?_) #[true, true, true, true, false, true, false, true, false, false, false, false, false] rfl rfl (take_ofW HT_.out HW_.out (by kernel_rfl)) (fun _ _ _ h => h) (Or.inl ⟨by rfl, ?_⟩) hHeld ?_ ?_
  rotate_left
  ·
   rintro w' ⟨s0, s1, s2, s3⟩
   go_simp
   with_reducible rfl
  rotate_left
  ·
   simp only [Own.ps]
   rfl
  refine take_ (i := 6) (N := some 13) (v := ?_) (a' := ?_) #[true, true, true, true, false, true, true, true, false, false, false, false, false] rfl rfl (take_ofW HT_.out HW_.out (by kernel_rfl)) (fun _ _ _ h => h) (Or.inl ⟨by rfl, ?_⟩) hHeld ?_ ?_
  rotate_left
  ·
   rintro w' ⟨s0, s1, s2, s3⟩
   go_simp
   with_reducible rfl
  rotate_left
  ·
   simp only [Own.ps]
   rfl
  refine take_ (i := 8) (N := some 15) (v := ?_) (a' := ?_) #[true, true, true, true, false, true, true, true, true, false, false, false, false] rfl rfl (take_ofW HT_.out HW_.out (by kernel_rfl)) (fun _ _ _ h => h) (Or.inl ⟨by rfl, ?_⟩) hHeld ?_ ?_
  rotate_left
  ·
   rintro w' ⟨s0, s1, s2, s3⟩
   go_simp
   with_reducible rfl
  rotate_left
  ·
   simp only [Own.ps]
   rfl
  refine join_ (σ := Value × Value × Nat) 1 #[true, true, true, true, true, true, true, true, true, true, true, true, false] (fun s_ => [(11, s_.1), (16, s_.2.1), (6, .pointer (some ⟨s_.2.2, 0, none⟩)), (17, .agg #[s_.1, s_.2.1])]) (fun s_ w' => (w'.cell? ⟨gb209, 0, none⟩ = some (.slice A0_0 l0_0.length c0_0) ∧ w'.cell? ⟨gb209, 1, none⟩ = some (.slice A0_1 l0_1.length c0_1) ∧ w'.cell? ⟨gb210, 0, none⟩ = some (.slice A1_0 l1_0.length c1_0) ∧ w'.cell? ⟨gb210, 1, none⟩ = some (.slice A1_1 l1_1.length c1_1)) ∧ (Kd.R (Kd.int .i64) 3 w' w.heap.size (fun k_ => some k_ ≠ (s_.2.1 : Value).ownBlock) s_.1 t212) ∧ (Kd.R (Kd.int .i64) 3 w' w.heap.size (fun k_ => some k_ ≠ (s_.1 : Value).ownBlock) s_.2.1 t215) ∧ (w'.heap[gb209]? = some (.cells #[.slice A0_0 l0_0.length c0_0, .slice A0_1 l0_1.length c0_1] 26 (0, 0))) ∧ (w'.heap[gb210]? = some (.cells #[.slice A1_0 l1_0.length c1_0, .slice A1_1 l1_1.length c1_1] 26 (0, 0))) ∧ (w'.heap[gb211]? = some (.cells #[.slice none 0 0, .slice none 0 0] 26 (0, 0))) ∧ (w'.heap[s_.2.2]? = some (.cells #[.slice none 0 0, .slice none 0 0] 26 (0, 0))) ∧ (w.heap.size ≤ s_.2.2) ∧ (w.heap.size ≤ s_.2.2) ∧ (gb209 ≠ s_.2.2) ∧ (s_.2.2 ≠ gb209) ∧ (gb210 ≠ s_.2.2) ∧ (s_.2.2 ≠ gb210) ∧ (gb211 ≠ s_.2.2) ∧ (s_.2.2 ≠ gb211) ∧ (Below w.heap.size w w')) ?_ ?_
  rotate_left
  ·
   intro hCont
   refine two_ (i := 4) (j := 11) (Ni := some 11) (Nj := some 6) #[true, true, true, true, true, true, true, true, true, false, false, false, false] #[true, true, true, true, false, true, true, true, true, false, false, true, false] rfl rfl rfl rfl (two_of HT_.out (by kernel_rfl)) (by decide) (by decide) (fun K hK => ?_) (fun K hK => ?_)
   ·
    skip
    refine goes_ Try.func32 (by kernel_rfl) rfl #[.slice A0_0 l0_0.length c0_0, .slice A1_0 l1_0.length c1_0] (by rfl) rfl rfl Own.ha ?_
    with_reducible refine (impl_united.calls _ _ l0_0 _ _ l1_0 t212 _ ?side1 ?side2 ?side3 ?side4 A3.out).mono ?_
    (case side1 => exact Kd.C_below HR0_0.out Own.bl)
    (case side2 => exact HC0_0.out)
    (case side3 => exact Kd.C_below HR1_0.out Own.bl)
    (case side4 => exact HC1_0.out)
    rintro e w95 ⟨v213, rfl, ho0, hb⟩
    refine ⟨_, rfl, ?_⟩
    have n0_ := Aside0.mk (Kd.R_lower ho0 (below_size Own.bl))
    have n1_ := Own.bb BK209.out hb
    have n2_ := Own.bb BK210.out hb
    have n3_ := Own.bb BK211.out hb
    have n4_ := Own.bs hb
    clear BK209
    clear BK210
    clear BK211
    clear HB
    have HO214 := n0_
    have BK209 := n1_
    have BK210 := n2_
    have BK211 := n3_
    have HB := n4_
    clear n0_ n1_ n2_ n3_ n4_
    (try clear hb)
    (try clear hb2)
    (try clear hk)
    (try clear hi)
    (try clear ho0)
    refine hK.out _ _ ⟨(blk_cell BK209.out 0).trans rfl, (blk_cell BK209.out 1).trans rfl, (blk_cell BK210.out 0).trans rfl, (blk_cell BK210.out 1).trans rfl⟩ (fun hHeld => ?_)
    clear hK K
    refine norm_ (a' := ?_) ?_ ?_
    rotate_left
    ·
     show Act.put _ (some 11) _ = _
     simp only [Own.ps]
     rfl
    refine two_ (i := 9) (j := 11) (Ni := some 16) (Nj := some 6) #[true, true, true, true, true, true, true, true, true, true, false, false, false] #[true, true, true, true, true, true, true, true, true, false, false, true, false] rfl rfl rfl rfl (two_of HT_.out (by kernel_rfl)) (by decide) (by decide) (fun K hK => ?_) (fun K hK => ?_)
    ·
     skip
     refine goes_ Try.func32 (by kernel_rfl) rfl #[.slice A0_1 l0_1.length c0_1, .slice A1_1 l1_1.length c1_1] (by rfl) rfl rfl Own.ha ?_
     with_reducible refine (impl_united.calls _ _ l0_1 _ _ l1_1 t215 _ ?side1 ?side2 ?side3 ?side4 A4.out).mono ?_
     (case side1 => exact Kd.C_below HR0_1.out Own.bl)
     (case side2 => exact HC0_1.out)
     (case side3 => exact Kd.C_below HR1_1.out Own.bl)
     (case side4 => exact HC1_1.out)
     rintro e w96 ⟨v216, rfl, ho0, hb⟩
     refine ⟨_, rfl, ?_⟩
     have n0_ := Aside0.mk (Kd.R_elder' (Own.rd HO214.out) (Kd.R_base ho0) hb)
     have n1_ := Aside0.mk (Kd.R_lower (Kd.R_new' ho0 (Kd.R_lt (Own.rd HO214.out))) (below_size Own.bl))
     have n2_ := Own.bb BK209.out hb
     have n3_ := Own.bb BK210.out hb
     have n4_ := Own.bb BK211.out hb
     have n5_ := Own.bs hb
     clear HO214
     clear BK209
     clear BK210
     clear BK211
     clear HB
     have HO214 := n0_
     have HO217 := n1_
     have BK209 := n2_
     have BK210 := n3_
     have BK211 := n4_
     have HB := n5_
     clear n0_ n1_ n2_ n3_ n4_ n5_
     (try clear hb)
     (try clear hb2)
     (try clear hk)
     (try clear hi)
     (try clear ho0)
     obtain ⟨Ao97, co97, eo97⟩ := Kd.R_slice HO217.out
     (first | subst eo97 | (injection eo97 with f1_ f2_ f3_; have f4_ := f1_.symm; have f5_ := f3_.symm; clear f1_ f2_ f3_; subst f4_; subst f5_))
     obtain ⟨Ao98, co98, eo98⟩ := Kd.R_slice HO214.out
     (first | subst eo98 | (injection eo98 with f1_ f2_ f3_; have f4_ := f1_.symm; have f5_ := f3_.symm; clear f1_ f2_ f3_; subst f4_; subst f5_))
     refine hK.out _ _ ⟨(blk_cell BK209.out 0).trans rfl, (blk_cell BK209.out 1).trans rfl, (blk_cell BK210.out 0).trans rfl, (blk_cell BK210.out 1).trans rfl⟩ (fun hHeld => ?_)
     clear hK K
     refine norm_ (a' := ?_) ?_ ?_
     rotate_left
     ·
      show Act.put _ (some 16) _ = _
      simp only [Own.ps]
      rfl
     refine pure_ (i := 10) (N := some 17) (v := ?_) (a' := ?_) #[true, true, true, true, true, true, true, true, true, true, true, false, false] rfl rfl (any_of HT_.out (by kernel_rfl)) (fun _ _ _ h => h) (Or.inl ⟨by rfl, ?_⟩) ?_ ?_
     rotate_left
     ·
      intro w'
      go_simp
      with_reducible rfl
     rotate_left
     ·
      simp only [Own.ps]
      rfl
     refine one_ (i := 11) (N := some 6) #[true, true, true, true, true, true, true, true, true, true, true, true, false] rfl rfl (one_of HT_.out (by kernel_rfl)) (by decide) (fun K hK => ?_)
     refine box_step ?hg (N := 6) ?hd (cs := #[.slice none 0 0, .slice none 0 0]) (t := 26) ?hr ?_; (case hd => rfl); (case hg => rfl); (case hr => first | (go_simp; done) | (go_simp; rfl))
     intro gb218 hg w99 hbox hb
     have n0_ := Aside0.mk (Kd.R_below (Own.rd HO214.out) hb)
     have n1_ := Aside0.mk (Kd.R_below (Own.rd HO217.out) hb)
     have n2_ := Own.bb BK209.out hb
     have n3_ := Own.bb BK210.out hb
     have n4_ := Own.bb BK211.out hb
     have n5_ := Own.bs hb
     have n6_ := Aside0.mk (hbox)
     have n7_ := (Own.gs hg : Aside0 (w.heap.size ≤ gb218))
     have n8_ := (Own.gs hg : Aside0 (w.heap.size ≤ gb218))
     have n9_ := Own.nl hg BK209.out
     have n10_ := Aside0.mk ((by rw [hg]; exact Nat.ne_of_gt (blk_lt (Own.bkf BK209.out)) : gb218 ≠ gb209))
     have n11_ := Own.nl hg BK210.out
     have n12_ := Aside0.mk ((by rw [hg]; exact Nat.ne_of_gt (blk_lt (Own.bkf BK210.out)) : gb218 ≠ gb210))
     have n13_ := Own.nl hg BK211.out
     have n14_ := Aside0.mk ((by rw [hg]; exact Nat.ne_of_gt (blk_lt (Own.bkf BK211.out)) : gb218 ≠ gb211))
     clear HO214
     clear HO217
     clear BK209
     clear BK210
     clear BK211
     clear HB
     have HO214 := n0_
     have HO217 := n1_
     have BK209 := n2_
     have BK210 := n3_
     have BK211 := n4_
     have HB := n5_
     have BK218 := n6_
     have GW218 := n7_
     have GE218 := n8_
     have NB209_218 := n9_
     have NB218_209 := n10_
     have NB210_218 := n11_
     have NB218_210 := n12_
     have NB211_218 := n13_
     have NB218_211 := n14_
     clear n0_ n1_ n2_ n3_ n4_ n5_ n6_ n7_ n8_ n9_ n10_ n11_ n12_ n13_ n14_
     clear hb hbox hg
     refine hK.out _ _ ⟨(blk_cell BK209.out 0).trans rfl, (blk_cell BK209.out 1).trans rfl, (blk_cell BK210.out 0).trans rfl, (blk_cell BK210.out 1).trans rfl⟩ (fun hHeld => ?_)
     clear hK K
     refine norm_ (a' := ?_) ?_ ?_
     rotate_left
     ·
      show Act.put _ (some 6) _ = _
      simp only [Own.ps]
      rfl
     exact norm_ (by simp only [putAll, Act.put, List.setIfInBounds_toArray, List.set_cons_zero, List.set_cons_succ]) (hCont (.slice Ao98 t212.length co98, .slice Ao97 t215.length co97, gb218) _ ⟨hHeld, (by (with_reducible repeat (first | apply Kd.R_alloc | apply Kd.R_drewN | apply Kd.R_drew)); exact Kd.R_mono HO214.out (fun _ hk => hk.2)), (by (with_reducible repeat (first | apply Kd.R_alloc | apply Kd.R_drewN | apply Kd.R_drew)); exact Kd.R_mono HO217.out (fun _ hk => hk.2)), (by (with_reducible repeat (first | refine blk_drewN ?_ _ | refine blk_drew ?_ | refine blk_alloc ?_ _)); exact BK209.out), (by (with_reducible repeat (first | refine blk_drewN ?_ _ | refine blk_drew ?_ | refine blk_alloc ?_ _)); exact BK210.out), (by (with_reducible repeat (first | refine blk_drewN ?_ _ | refine blk_drew ?_ | refine blk_alloc ?_ _)); exact BK211.out), (by (with_reducible repeat (first | refine blk_drewN ?_ _ | refine blk_drew ?_ | refine blk_alloc ?_ _)); exact BK218.out), GW218.out, GE218.out, NB209_218.out, NB218_209.out, NB210_218.out, NB218_210.out, NB211_218.out, NB218_211.out, Own.bl⟩)
    ·
     skip
     refine box_step ?hg (N := 6) ?hd (cs := #[.slice none 0 0, .slice none 0 0]) (t := 26) ?hr ?_; (case hd => rfl); (case hg => rfl); (case hr => first | (go_simp; done) | (go_simp; rfl))
     intro gb218 hg w96 hbox hb
     have n0_ := Aside0.mk (Kd.R_below (Own.rd HO214.out) hb)
     have n1_ := Own.bb BK209.out hb
     have n2_ := Own.bb BK210.out hb
     have n3_ := Own.bb BK211.out hb
     have n4_ := Own.bs hb
     have n5_ := Aside0.mk (hbox)
     have n6_ := (Own.gs hg : Aside0 (w.heap.size ≤ gb218))
     have n7_ := (Own.gs hg : Aside0 (w.heap.size ≤ gb218))
     have n8_ := Own.nl hg BK209.out
     have n9_ := Aside0.mk ((by rw [hg]; exact Nat.ne_of_gt (blk_lt (Own.bkf BK209.out)) : gb218 ≠ gb209))
     have n10_ := Own.nl hg BK210.out
     have n11_ := Aside0.mk ((by rw [hg]; exact Nat.ne_of_gt (blk_lt (Own.bkf BK210.out)) : gb218 ≠ gb210))
     have n12_ := Own.nl hg BK211.out
     have n13_ := Aside0.mk ((by rw [hg]; exact Nat.ne_of_gt (blk_lt (Own.bkf BK211.out)) : gb218 ≠ gb211))
     clear HO214
     clear BK209
     clear BK210
     clear BK211
     clear HB
     have HO214 := n0_
     have BK209 := n1_
     have BK210 := n2_
     have BK211 := n3_
     have HB := n4_
     have BK218 := n5_
     have GW218 := n6_
     have GE218 := n7_
     have NB209_218 := n8_
     have NB218_209 := n9_
     have NB210_218 := n10_
     have NB218_210 := n11_
     have NB211_218 := n12_
     have NB218_211 := n13_
     clear n0_ n1_ n2_ n3_ n4_ n5_ n6_ n7_ n8_ n9_ n10_ n11_ n12_ n13_
     clear hb hbox hg
     refine hK.out _ _ ⟨(blk_cell BK209.out 0).trans rfl, (blk_cell BK209.out 1).trans rfl, (blk_cell BK210.out 0).trans rfl, (blk_cell BK210.out 1).trans rfl⟩ (fun hHeld => ?_)
     clear hK K
     refine norm_ (a' := ?_) ?_ ?_
     rotate_left
     ·
      show Act.put _ (some 6) _ = _
      simp only [Own.ps]
      rfl
     refine one_ (i := 9) (N := some 16) #[true, true, true, true, true, true, true, true, true, true, false, true, false] rfl rfl (one_of HT_.out (by kernel_rfl)) (by decide) (fun K hK => ?_)
     refine goes_ Try.func32 (by kernel_rfl) rfl #[.slice A0_1 l0_1.length c0_1, .slice A1_1 l1_1.length c1_1] (by rfl) rfl rfl Own.ha ?_
     with_reducible refine (impl_united.calls _ _ l0_1 _ _ l1_1 t215 _ ?side1 ?side2 ?side3 ?side4 A4.out).mono ?_
     (case side1 => exact Kd.C_below HR0_1.out Own.bl)
     (case side2 => exact HC0_1.out)
     (case side3 => exact Kd.C_below HR1_1.out Own.bl)
     (case side4 => exact HC1_1.out)
     rintro e w97 ⟨v216, rfl, ho0, hb⟩
     refine ⟨_, rfl, ?_⟩
     have n0_ := Aside0.mk (Kd.R_elder' (Own.rd HO214.out) (Kd.R_base ho0) hb)
     have n1_ := Aside0.mk (Kd.R_lower (Kd.R_new' ho0 (Kd.R_lt (Own.rd HO214.out))) (below_size Own.bl))
     have n2_ := Own.bb BK209.out hb
     have n3_ := Own.bb BK210.out hb
     have n4_ := Own.bb BK211.out hb
     have n5_ := Own.bb BK218.out hb
     have n6_ := Own.bs hb
     clear HO214
     clear BK209
     clear BK210
     clear BK211
     clear BK218
     clear HB
     have HO214 := n0_
     have HO217 := n1_
     have BK209 := n2_
     have BK210 := n3_
     have BK211 := n4_
     have BK218 := n5_
     have HB := n6_
     clear n0_ n1_ n2_ n3_ n4_ n5_ n6_
     (try clear hb)
     (try clear hb2)
     (try clear hk)
     (try clear hi)
     (try clear ho0)
     obtain ⟨Ao98, co98, eo98⟩ := Kd.R_slice HO217.out
     (first | subst eo98 | (injection eo98 with f1_ f2_ f3_; have f4_ := f1_.symm; have f5_ := f3_.symm; clear f1_ f2_ f3_; subst f4_; subst f5_))
     obtain ⟨Ao99, co99, eo99⟩ := Kd.R_slice HO214.out
     (first | subst eo99 | (injection eo99 with f1_ f2_ f3_; have f4_ := f1_.symm; have f5_ := f3_.symm; clear f1_ f2_ f3_; subst f4_; subst f5_))
     refine hK.out _ _ ⟨(blk_cell BK209.out 0).trans rfl, (blk_cell BK209.out 1).trans rfl, (blk_cell BK210.out 0).trans rfl, (blk_cell BK210.out 1).trans rfl⟩ (fun hHeld => ?_)
     clear hK K
     refine norm_ (a' := ?_) ?_ ?_
     rotate_left
     ·
      show Act.put _ (some 16) _ = _
      simp only [Own.ps]
      rfl
     refine pure_ (i := 10) (N := some 17) (v := ?_) (a' := ?_) #[true, true, true, true, true, true, true, true, true, true, true, true, false] rfl rfl (any_of HT_.out (by kernel_rfl)) (fun _ _ _ h => h) (Or.inl ⟨by rfl, ?_⟩) ?_ ?_
     rotate_left
     ·
      intro w'
      go_simp
      with_reducible rfl
     rotate_left
     ·
      simp only [Own.ps]
      rfl
     exact norm_ (by simp only [putAll, Act.put, List.setIfInBounds_toArray, List.set_cons_zero, List.set_cons_succ]) (hCont (.slice Ao99 t212.length co99, .slice Ao98 t215.length co98, gb218) _ ⟨hHeld, (by (with_reducible repeat (first | apply Kd.R_alloc | apply Kd.R_drewN | apply Kd.R_drew)); exact Kd.R_mono HO214.out (fun _ hk => hk.2)), (by (with_reducible repeat (first | apply Kd.R_alloc | apply Kd.R_drewN | apply Kd.R_drew)); exact Kd.R_mono HO217.out (fun _ hk => hk.2)), (by (with_reducible repeat (first | refine blk_drewN ?_ _ | refine blk_drew ?_ | refine blk_alloc ?_ _)); exact BK209.out), (by (with_reducible repeat (first | refine blk_drewN ?_ _ | refine blk_drew ?_ | refine blk_alloc ?_ _)); exact BK210.out), (by (with_reducible repeat (first | refine blk_drewN ?_ _ | refine blk_drew ?_ | refine blk_alloc ?_ _)); exact BK211.out), (by (with_reducible repeat (first | refine blk_drewN ?_ _ | refine blk_drew ?_ | refine blk_alloc ?_ _)); exact BK218.out), GW218.out, GE218.out, NB209_218.out, NB218_209.out, NB210_218.out, NB218_210.out, NB211_218.out, NB218_211.out, Own.bl⟩)
   ·
    skip
    refine box_step ?hg (N := 6) ?hd (cs := #[.slice none 0 0, .slice none 0 0]) (t := 26) ?hr ?_; (case hd => rfl); (case hg => rfl); (case hr => first | (go_simp; done) | (go_simp; rfl))
    intro gb218 hg w95 hbox hb
    have n0_ := Own.bb BK209.out hb
    have n1_ := Own.bb BK210.out hb
    have n2_ := Own.bb BK211.out hb
    have n3_ := Own.bs hb
    have n4_ := Aside0.mk (hbox)
    have n5_ := (Own.gs hg : Aside0 (w.heap.size ≤ gb218))
    have n6_ := (Own.gs hg : Aside0 (w.heap.size ≤ gb218))
    have n7_ := Own.nl hg BK209.out
    have n8_ := Aside0.mk ((by rw [hg]; exact Nat.ne_of_gt (blk_lt (Own.bkf BK209.out)) : gb218 ≠ gb209))
    have n9_ := Own.nl hg BK210.out
    have n10_ := Aside0.mk ((by rw [hg]; exact Nat.ne_of_gt (blk_lt (Own.bkf BK210.out)) : gb218 ≠ gb210))
    have n11_ := Own.nl hg BK211.out
    have n12_ := Aside0.mk ((by rw [hg]; exact Nat.ne_of_gt (blk_lt (Own.bkf BK211.out)) : gb218 ≠ gb211))
    clear BK209
    clear BK210
    clear BK211
    clear HB
    have BK209 := n0_
    have BK210 := n1_
    have BK211 := n2_
    have HB := n3_
    have BK218 := n4_
    have GW218 := n5_
    have GE218 := n6_
    have NB209_218 := n7_
    have NB218_209 := n8_
    have NB210_218 := n9_
    have NB218_210 := n10_
    have NB211_218 := n11_
    have NB218_211 := n12_
    clear n0_ n1_ n2_ n3_ n4_ n5_ n6_ n7_ n8_ n9_ n10_ n11_ n12_
    clear hb hbox hg
    refine hK.out _ _ ⟨(blk_cell BK209.out 0).trans rfl, (blk_cell BK209.out 1).trans rfl, (blk_cell BK210.out 0).trans rfl, (blk_cell BK210.out 1).trans rfl⟩ (fun hHeld => ?_)
    clear hK K
    refine norm_ (a' := ?_) ?_ ?_
    rotate_left
    ·
     show Act.put _ (some 6) _ = _
     simp only [Own.ps]
     rfl
    refine one_ (i := 4) (N := some 11) #[true, true, true, true, true, true, true, true, true, false, false, true, false] rfl rfl (one_of HT_.out (by kernel_rfl)) (by decide) (fun K hK => ?_)
    refine goes_ Try.func32 (by kernel_rfl) rfl #[.slice A0_0 l0_0.length c0_0, .slice A1_0 l1_0.length c1_0] (by rfl) rfl rfl Own.ha ?_
    with_reducible refine (impl_united.calls _ _ l0_0 _ _ l1_0 t212 _ ?side1 ?side2 ?side3 ?side4 A3.out).mono ?_
    (case side1 => exact Kd.C_below HR0_0.out Own.bl)
    (case side2 => exact HC0_0.out)
    (case side3 => exact Kd.C_below HR1_0.out Own.bl)
    (case side4 => exact HC1_0.out)
    rintro e w96 ⟨v213, rfl, ho0, hb⟩
    refine ⟨_, rfl, ?_⟩
    have n0_ := Aside0.mk (Kd.R_lower ho0 (below_size Own.bl))
    have n1_ := Own.bb BK209.out hb
    have n2_ := Own.bb BK210.out hb
    have n3_ := Own.bb BK211.out hb
    have n4_ := Own.bb BK218.out hb
    have n5_ := Own.bs hb
    clear BK209
    clear BK210
    clear BK211
    clear BK218
    clear HB
    have HO214 := n0_
    have BK209 := n1_
    have BK210 := n2_
    have BK211 := n3_
    have BK218 := n4_
    have HB := n5_
    clear n0_ n1_ n2_ n3_ n4_ n5_
    (try clear hb)
    (try clear hb2)
    (try clear hk)
    (try clear hi)
    (try clear ho0)
    refine hK.out _ _ ⟨(blk_cell BK209.out 0).trans rfl, (blk_cell BK209.out 1).trans rfl, (blk_cell BK210.out 0).trans rfl, (blk_cell BK210.out 1).trans rfl⟩ (fun hHeld => ?_)
    clear hK K
    refine norm_ (a' := ?_) ?_ ?_
    rotate_left
    ·
     show Act.put _ (some 11) _ = _
     simp only [Own.ps]
     rfl
    refine one_ (i := 9) (N := some 16) #[true, true, true, true, true, true, true, true, true, true, false, true, false] rfl rfl (one_of HT_.out (by kernel_rfl)) (by decide) (fun K hK => ?_)
    refine goes_ Try.func32 (by kernel_rfl) rfl #[.slice A0_1 l0_1.length c0_1, .slice A1_1 l1_1.length c1_1] (by rfl) rfl rfl Own.ha ?_
    with_reducible refine (impl_united.calls _ _ l0_1 _ _ l1_1 t215 _ ?side1 ?side2 ?side3 ?side4 A4.out).mono ?_
    (case side1 => exact Kd.C_below HR0_1.out Own.bl)
    (case side2 => exact HC0_1.out)
    (case side3 => exact Kd.C_below HR1_1.out Own.bl)
    (case side4 => exact HC1_1.out)
    rintro e w97 ⟨v216, rfl, ho0, hb⟩
    refine ⟨_, rfl, ?_⟩
    have n0_ := Aside0.mk (Kd.R_elder' (Own.rd HO214.out) (Kd.R_base ho0) hb)
    have n1_ := Aside0.mk (Kd.R_lower (Kd.R_new' ho0 (Kd.R_lt (Own.rd HO214.out))) (below_size Own.bl))
    have n2_ := Own.bb BK209.out hb
    have n3_ := Own.bb BK210.out hb
    have n4_ := Own.bb BK211.out hb
    have n5_ := Own.bb BK218.out hb
    have n6_ := Own.bs hb
    clear HO214
    clear BK209
    clear BK210
    clear BK211
    clear BK218
    clear HB
    have HO214 := n0_
    have HO217 := n1_
    have BK209 := n2_
    have BK210 := n3_
    have BK211 := n4_
    have BK218 := n5_
    have HB := n6_
    clear n0_ n1_ n2_ n3_ n4_ n5_ n6_
    (try clear hb)
    (try clear hb2)
    (try clear hk)
    (try clear hi)
    (try clear ho0)
    obtain ⟨Ao98, co98, eo98⟩ := Kd.R_slice HO217.out
    (first | subst eo98 | (injection eo98 with f1_ f2_ f3_; have f4_ := f1_.symm; have f5_ := f3_.symm; clear f1_ f2_ f3_; subst f4_; subst f5_))
    obtain ⟨Ao99, co99, eo99⟩ := Kd.R_slice HO214.out
    (first | subst eo99 | (injection eo99 with f1_ f2_ f3_; have f4_ := f1_.symm; have f5_ := f3_.symm; clear f1_ f2_ f3_; subst f4_; subst f5_))
    refine hK.out _ _ ⟨(blk_cell BK209.out 0).trans rfl, (blk_cell BK209.out 1).trans rfl, (blk_cell BK210.out 0).trans rfl, (blk_cell BK210.out 1).trans rfl⟩ (fun hHeld => ?_)
    clear hK K
    refine norm_ (a' := ?_) ?_ ?_
    rotate_left
    ·
     show Act.put _ (some 16) _ = _
     simp only [Own.ps]
     rfl
    refine pure_ (i := 10) (N := some 17) (v := ?_) (a' := ?_) #[true, true, true, true, true, true, true, true, true, true, true, true, false] rfl rfl (any_of HT_.out (by kernel_rfl)) (fun _ _ _ h => h) (Or.inl ⟨by rfl, ?_⟩) ?_ ?_
    rotate_left
    ·
     intro w'
     go_simp
     with_reducible rfl
    rotate_left
    ·
     simp only [Own.ps]
     rfl
    exact norm_ (by simp only [putAll, Act.put, List.setIfInBounds_toArray, List.set_cons_zero, List.set_cons_succ]) (hCont (.slice Ao99 t212.length co99, .slice Ao98 t215.length co98, gb218) _ ⟨hHeld, (by (with_reducible repeat (first | apply Kd.R_alloc | apply Kd.R_drewN | apply Kd.R_drew)); exact Kd.R_mono HO214.out (fun _ hk => hk.2)), (by (with_reducible repeat (first | apply Kd.R_alloc | apply Kd.R_drewN | apply Kd.R_drew)); exact Kd.R_mono HO217.out (fun _ hk => hk.2)), (by (with_reducible repeat (first | refine blk_drewN ?_ _ | refine blk_drew ?_ | refine blk_alloc ?_ _)); exact BK209.out), (by (with_reducible repeat (first | refine blk_drewN ?_ _ | refine blk_drew ?_ | refine blk_alloc ?_ _)); exact BK210.out), (by (with_reducible repeat (first | refine blk_drewN ?_ _ | refine blk_drew ?_ | refine blk_alloc ?_ _)); exact BK211.out), (by (with_reducible repeat (first | refine blk_drewN ?_ _ | refine blk_drew ?_ | refine blk_alloc ?_ _)); exact BK218.out), GW218.out, GE218.out, NB209_218.out, NB218_209.out, NB210_218.out, NB218_210.out, NB211_218.out, NB218_211.out, Own.bl⟩)
  rintro ⟨v213, v216, gb218⟩ w100 ⟨hS_, h0_, h1_, h2_, h3_, h4_, h5_, h6_, h7_, h8_, h9_, h10_, h11_, h12_, h13_, h14_⟩
  have n0_ : Aside0 (Kd.R (Kd.int .i64) 3 w100 w.heap.size (fun k_ => some k_ ≠ (v216 : Value).ownBlock) v213 t212) := ⟨h0_⟩
  have n1_ : Aside0 (Kd.R (Kd.int .i64) 3 w100 w.heap.size (fun k_ => some k_ ≠ (v213 : Value).ownBlock) v216 t215) := ⟨h1_⟩
  have n2_ : Aside0 (w100.heap[gb209]? = some (.cells #[.slice A0_0 l0_0.length c0_0, .slice A0_1 l0_1.length c0_1] 26 (0, 0))) := ⟨h2_⟩
  have n3_ : Aside0 (w100.heap[gb210]? = some (.cells #[.slice A1_0 l1_0.length c1_0, .slice A1_1 l1_1.length c1_1] 26 (0, 0))) := ⟨h3_⟩
  have n4_ : Aside0 (w100.heap[gb211]? = some (.cells #[.slice none 0 0, .slice none 0 0] 26 (0, 0))) := ⟨h4_⟩
  have n5_ : Aside0 (w100.heap[gb218]? = some (.cells #[.slice none 0 0, .slice none 0 0] 26 (0, 0))) := ⟨h5_⟩
  have n6_ : Aside0 (w.heap.size ≤ gb218) := ⟨h6_⟩
  have n7_ : Aside0 (w.heap.size ≤ gb218) := ⟨h7_⟩
  have n8_ : Aside0 (gb209 ≠ gb218) := ⟨h8_⟩
  have n9_ : Aside0 (gb218 ≠ gb209) := ⟨h9_⟩
  have n10_ : Aside0 (gb210 ≠ gb218) := ⟨h10_⟩
  have n11_ : Aside0 (gb218 ≠ gb210) := ⟨h11_⟩
  have n12_ : Aside0 (gb211 ≠ gb218) := ⟨h12_⟩
  have n13_ : Aside0 (gb218 ≠ gb211) := ⟨h13_⟩
  have n14_ : Aside0 (Below w.heap.size w w100) := ⟨h14_⟩
  clear BK209
  clear BK210
  clear BK211
  clear HB
  clear h0_ h1_ h2_ h3_ h4_ h5_ h6_ h7_ h8_ h9_ h10_ h11_ h12_ h13_ h14_
  have HO214 := n0_
  have HO217 := n1_
  have BK209 := n2_
  have BK210 := n3_
  have BK211 := n4_
  have BK218 := n5_
  have GW218 := n6_
  have GE218 := n7_
  have NB209_218 := n8_
  have NB218_209 := n9_
  have NB210_218 := n10_
  have NB218_210 := n11_
  have NB211_218 := n12_
  have NB218_211 := n13_
  have HB := n14_
  clear n0_ n1_ n2_ n3_ n4_ n5_ n6_ n7_ n8_ n9_ n10_ n11_ n12_ n13_ n14_
  have hHeld : w100.cell? ⟨gb209, 0, none⟩ = some (.slice A0_0 l0_0.length c0_0) ∧ w100.cell? ⟨gb209, 1, none⟩ = some (.slice A0_1 l0_1.length c0_1) ∧ w100.cell? ⟨gb210, 0, none⟩ = some (.slice A1_0 l1_0.length c1_0) ∧ w100.cell? ⟨gb210, 1, none⟩ = some (.slice A1_1 l1_1.length c1_1) := hS_
  obtain ⟨Ao101, co101, eo101⟩ := Kd.R_slice HO217.out
  (first | subst eo101 | (injection eo101 with f1_ f2_ f3_; have f4_ := f1_.symm; have f5_ := f3_.symm; clear f1_ f2_ f3_; subst f4_; subst f5_))
  obtain ⟨Ao102, co102, eo102⟩ := Kd.R_slice HO214.out
  (first | subst eo102 | (injection eo102 with f1_ f2_ f3_; have f4_ := f1_.symm; have f5_ := f3_.symm; clear f1_ f2_ f3_; subst f4_; subst f5_))
  refine norm_ (a' := ?_) ?_ ?_
  rotate_left
  ·
   simp only [putAll, Act.put, List.setIfInBounds_toArray, List.set_cons_zero, List.set_cons_succ]
   rfl
  refine one_ (i := 12) (N := none) #[true, true, true, true, true, true, true, true, true, true, true, true, true] rfl rfl (one_of HT_.out (by kernel_rfl)) (by decide) (fun K hK => ?_)
  have hs103 : w100.cell? ⟨gb218, 0, none⟩ = some (.slice none 0 0) := (blk_cell BK218.out 0).trans rfl
  have hfs103 := blk_frozen BK218.out 0
  have hns103_0 := NB209_218.out
  have hns103_1 := NB210_218.out
  have hns103_2 := NB211_218.out
  have hms103_0 := NB218_209.out
  have hms103_1 := NB218_210.out
  have hms103_2 := NB218_211.out
  have hs104 : w100.cell? ⟨gb218, 1, none⟩ = some (.slice none 0 0) := (blk_cell BK218.out 1).trans rfl
  have hfs104 := blk_frozen BK218.out 1
  have hns104_0 := NB209_218.out
  have hns104_1 := NB210_218.out
  have hns104_2 := NB211_218.out
  have hms104_0 := NB218_209.out
  have hms104_1 := NB218_210.out
  have hms104_2 := NB218_211.out
  refine skip_ (w1 := ?_) (by rfl) rfl ?_ ?_
  rotate_left
  ·
   go_simp
   rfl
  refine hK.out _ _ ⟨((cell_far (p := ⟨gb218, _, none⟩) NB209_218.out _).trans (((cell_far (p := ⟨gb218, _, none⟩) NB209_218.out _).trans (hHeld.1)))), ((cell_far (p := ⟨gb218, _, none⟩) NB209_218.out _).trans (((cell_far (p := ⟨gb218, _, none⟩) NB209_218.out _).trans (hHeld.2.1)))), ((cell_far (p := ⟨gb218, _, none⟩) NB210_218.out _).trans (((cell_far (p := ⟨gb218, _, none⟩) NB210_218.out _).trans (hHeld.2.2.1)))), ((cell_far (p := ⟨gb218, _, none⟩) NB210_218.out _).trans (((cell_far (p := ⟨gb218, _, none⟩) NB210_218.out _).trans (hHeld.2.2.2))))⟩ (fun hHeld => ?_)
  clear hK K
  refine done_ (done_of HT_.out (by kernel_rfl)) ?_
  have hnb105 := NB209_210.out
  have hnc105 := NB210_209.out
  have hnb106 := NB209_211.out
  have hnc106 := NB211_209.out
  have hnb107 := NB209_218.out
  have hnc107 := NB218_209.out
  obtain ⟨z108_0, z108_1, y108_0, y108_1⟩ := Own.box2 BK209.out
  try go_wp2_with (first | ((with_reducible refine gate_callee (f := 20) rfl ?_); refine goesL_ (some 19) rfl rfl Try.func20 (by kernel_rfl) rfl #[.agg #[.slice A0_0 l0_0.length c0_0, .slice A0_1 l0_1.length c0_1]] rfl Own.ha ?_; (with_reducible refine (impl_IsValidCalendar.calls k _ _ l0_0 _ _ l0_1 false _ ?side1 ?side2 ?side3 ?side4 A5.out).mono ?_); (case side1 => exact Kd.C_below HR0_0.out Own.bl); (case side2 => exact HC0_0.out); (case side3 => exact Kd.C_below HR0_1.out Own.bl); (case side4 => exact HC0_1.out); rintro e w109 ⟨rfl, hb⟩; refine ⟨_, rfl, ?_⟩; replace HO214 := Aside0.mk (Kd.R_below (by (with_reducible repeat (first | apply Kd.R_alloc | apply Kd.R_drewN | apply Kd.R_drew)); exact (Kd.R_mono (Kd.R_far (p := ⟨gb218, 1, none⟩) (Kd.R_far (p := ⟨gb218, 0, none⟩) (Kd.R_types HO214.out BK218.out (by decide)) (fun _ hk => hk.2) (.slice Ao102 t212.length co102)) (fun _ hk => hk.2) (.slice Ao101 t215.length co101)) (fun _ h_ => h_.1))) hb); replace HO217 := Aside0.mk (Kd.R_below (by (with_reducible repeat (first | apply Kd.R_alloc | apply Kd.R_drewN | apply Kd.R_drew)); exact (Kd.R_mono (Kd.R_far (p := ⟨gb218, 1, none⟩) (Kd.R_far (p := ⟨gb218, 0, none⟩) (Kd.R_types HO217.out BK218.out (by decide)) (fun _ hk => hk.2) (.slice Ao102 t212.length co102)) (fun _ hk => hk.2) (.slice Ao101 t215.length co101)) (fun _ h_ => h_.1))) hb); replace BK209 := Own.bb BK209.out hb; replace BK210 := Own.bb BK210.out hb; replace BK211 := Own.bb BK211.out hb; replace BK218 := Aside0.mk (blk_below (g := gb218) (o := .cells #[.slice Ao102 t212.length co102, .slice Ao101 t215.length co101] 26 (0, 0)) (by (with_reducible repeat (first | refine blk_drewN ?_ _ | refine blk_drew ?_ | refine blk_alloc ?_ _)); with_reducible exact Own.put2 BK218.out) hb); replace HB := Own.bs hb; (try clear hb); (try clear hk); have hnb110 := NB211_210.out; have hnc110 := NB210_211.out; have hnb111 := NB211_218.out; have hnc111 := NB218_211.out; obtain ⟨z112_0, z112_1, y112_0, y112_1⟩ := Own.box2 BK211.out))
  refine bodyPost_ret (results_ct rfl _ _ gb211 26 #[.slice none 0 0, .slice none 0 0] (0, 0) _ rfl (by (with_reducible repeat (first | refine blk_drewN ?_ _ | refine blk_drew ?_ | refine blk_alloc ?_ _)); with_reducible exact Own.put2 BK211.out) Try.underlying26 rfl (by kernel_rfl)) rfl ?_
  exact ⟨_, _, Own.rr, by first | exact Kd.R_nil _ _ _ _ _ | exact Kd.N_nil _ _ _ _ _ | exact Kd.V_nil _ _ _ _ _ | exact Kd.Q_nil _ _ _ _ _ | exact Kd.S_nil _ _ _ _ _, by first | exact Kd.R_nil _ _ _ _ _ | exact Kd.N_nil _ _ _ _ _ | exact Kd.V_nil _ _ _ _ _ | exact Kd.Q_nil _ _ _ _ _ | exact Kd.S_nil _ _ _ _ _, Own.bl⟩
 replace H := Own.bd H; obtain ⟨t220, A7, H⟩ := H
 replace H := Own.ift H; obtain ⟨rfl, H⟩ | ⟨rfl, H⟩ := H
 ·
  simp only [Option.some.injEq, Prod.mk.injEq] at H
  obtain ⟨rfl, rfl, rfl⟩ := H
  go_enter Try.func14, Try.ntmps14
  try go_wp2_with (first | ((with_reducible refine gate_dst (N := 2) rfl ?_); refine Own.be (N := 2) (cs := #[.slice A0_0 l0_0.length c0_0, .slice A0_1 l0_1.length c0_1]) (t := 26) ?_; intro gb209 hg w66 hbox hb; have BK209 := Aside0.mk hbox; have GW209 := (Own.gs hg : Aside0 (w.heap.size ≤ gb209)); have GE209 := GW209; replace HB := Own.bs hb; clear hb hbox hg) | ((with_reducible refine gate_dst (N := 3) rfl ?_); refine Own.be (N := 3) (cs := #[.slice A1_0 l1_0.length c1_0, .slice A1_1 l1_1.length c1_1]) (t := 26) ?_; intro gb210 hg w67 hbox hb; have BK210 := Aside0.mk hbox; have GW210 := (Own.gs hg : Aside0 (w.heap.size ≤ gb210)); have GE210 := GW210; have NB209_210 := Own.nl hg BK209.out; have NB210_209 := Aside0.mk NB209_210.out.symm; replace BK209 := Own.bb BK209.out hb; replace HB := Own.bs hb; clear hb hbox hg) | ((with_reducible refine gate_dst (N := 4) rfl ?_); refine Own.be (N := 4) (cs := #[.slice none 0 0, .slice none 0 0]) (t := 26) ?_; intro gb211 hg w68 hbox hb; have BK211 := Aside0.mk hbox; have GW211 := (Own.gs hg : Aside0 (w.heap.size ≤ gb211)); have GE211 := GW211; have NB209_211 := Own.nl hg BK209.out; have NB211_209 := Aside0.mk NB209_211.out.symm; have NB210_211 := Own.nl hg BK210.out; have NB211_210 := Aside0.mk NB210_211.out.symm; replace BK209 := Own.bb BK209.out hb; replace BK210 := Own.bb BK210.out hb; replace HB := Own.bs hb; clear hb hbox hg))
  have n0_ := Aside0.mk (blk_drew BK209.out)
  have n1_ := Aside0.mk (blk_drew BK210.out)
  have n2_ := Aside0.mk (blk_drew BK211.out)
  have n3_ := Aside0.mk (below_drew1 HB.out)
  clear BK209
  clear BK210
  clear BK211
  clear HB
  have BK209 := n0_
  have BK210 := n1_
  have BK211 := n2_
  have HB := n3_
  clear n0_ n1_ n2_ n3_
  refine start_ (n := 13) (S := fun w' => w'.cell? ⟨gb209, 0, none⟩ = some (.slice A0_0 l0_0.length c0_0) ∧ w'.cell? ⟨gb209, 1, none⟩ = some (.slice A0_1 l0_1.length c0_1) ∧ w'.cell? ⟨gb210, 0, none⟩ = some (.slice A1_0 l1_0.length c1_0) ∧ w'.cell? ⟨gb210, 1, none⟩ = some (.slice A1_1 l1_1.length c1_1)) (ds := []) #[false, false, false, false, false, false, false, false, false, false, false, false, false] (by kernel_rfl) rfl rfl ⟨(blk_cell BK209.out 0).trans rfl, (blk_cell BK209.out 1).trans rfl, (blk_cell BK210.out 0).trans rfl, (blk_cell BK210.out 1).trans rfl⟩ (fun hHeld => ?_); refine with_tabW impl_JoinCalendars.tab1 impl_JoinCalendars.bits1 (fun HT_ HW_ => ?_)
  generalize w68.drew = w69 at BK209 BK210 BK211 HB hHeld ⊢
  refine pure_ (i := 0) (N := some 7) (v := ?_) (a' := ?_) #[true, false, false, false, false, false, false, false, false, false, false, false, false] rfl rfl (any_of HT_.out (by kernel_rfl)) (fun _ _ _ h => h) (Or.inl ⟨by rfl, ?_⟩) ?_ ?_
  rotate_left
  ·
   intro w'
   go_simp
   with_reducible rfl
  rotate_left
  ·
   simp only [Own.ps]
   rfl
  refine pure_ (i := 2) (N := some 9) (v := ?_) (a' := ?_) #[true, false, true, false, false, false, false, false, false, false, false, false, false] rfl rfl (any_of HT_.out (by kernel_rfl)) (fun _ _ _ h => h) (Or.inl ⟨by rfl, ?_⟩) ?_ ?_
  rotate_left
  ·
   intro w'
   go_simp
   with_reducible rfl
  rotate_left
  ·
   simp only [Own.ps]
   rfl
  refine pure_ (i := 5) (N := some 12) (v := ?_) (a' := ?_) #[true, false, true, false, false, true, false, false, false, false, false, false, false] rfl rfl (any_of HT_.out (by kernel_rfl)) (fun _ _ _ h => h) (Or.inl ⟨by rfl, ?_⟩) ?_ ?_
  rotate_left
  ·
   intro w'
   go_simp
   with_reducible rfl
  rotate_left
  ·
   simp only [Own.ps]
   rfl
  refine pure_ (i := 7) (N := some 14) (v := ?_) (a' := ?_) #[true, false, true, false, false, true, false, true, false, false, false, false, false] rfl rfl (any_of HT_.out (by kernel_rfl)) (fun _ _ _ h => h) (Or.inl ⟨by rfl, ?_⟩) ?_ ?_
  rotate_left
  ·
   intro w'
   go_simp
   with_reducible rfl
  rotate_left
  ·
   simp only [Own.ps]
   rfl
  refine take_ (i := 1) (N := some 8) (v := ?_) (a' := ?_) #[true, true, true, false, false, true, false, true, false, false, false, false, false] rfl rfl (take_ofW HT_.out HW_.out (by kernel_rfl)) (fun _ _ _ h => h) (Or.inl ⟨by rfl, ?_⟩) hHeld ?_ ?_
  rotate_left
  ·
   rintro w' ⟨s0, s1, s2, s3⟩
   go_simp
   with_reducible rfl
  rotate_left
  ·
   simp only [Own.ps]
   rfl
  refine take_ (i := 3) (N := some 10) (v := ?_) (a' := ?_) #[true, true, true, true, false, true, false, true, false, false, false, false, false] rfl rfl (take_ofW HT_.out HW_.out (by kernel_rfl)) (fun _ _ _ h => h) (Or.inl ⟨by rfl, ?_⟩) hHeld ?_ ?_
  rotate_left
  ·
   rintro w' ⟨s0, s1, s2, s3⟩
   go_simp
   with_reducible rfl
  rotate_left
  ·
   simp only [Own.ps]
   rfl
  refine take_ (i := 6) (N := some 13) (v := ?_) (a' := ?_) #[true, true, true, true, false, true, true, true, false, false, false, false, false] rfl rfl (take_ofW HT_.out HW_.out (by kernel_rfl)) (fun _ _ _ h => h) (Or.inl ⟨by rfl, ?_⟩) hHeld ?_ ?_
  rotate_left
  ·
   rintro w' ⟨s0, s1, s2, s3⟩
   go_simp
   with_reducible rfl
  rotate_left
  ·
   simp only [Own.ps]
   rfl
  refine take_ (i := 8) (N := some 15) (v := ?_) (a' := ?_) #[true, true, true, true, false, true, true, true, true, false, false, false, false] rfl rfl (take_ofW HT_.out HW_.out (by kernel_rfl)) (fun _ _ _ h => h) (Or.inl ⟨by rfl, ?_⟩) hHeld ?_ ?_
  rotate_left
  ·
   rintro w' ⟨s0, s1, s2, s3⟩
   go_simp
   with_reducible rfl
  rotate_left
  ·
   simp only [Own.ps]
   rfl
  refine join_ (σ := Value × Value × Nat) 1 #[true, true, true, true, true, true, true, true, true, true, true, true, false] (fun s_ => [(11, s_.1), (16, s_.2.1), (6, .pointer (some ⟨s_.2.2, 0, none⟩)), (17, .agg #[s_.1, s_.2.1])]) (fun s_ w' => (w'.cell? ⟨gb209, 0, none⟩ = some (.slice A0_0 l0_0.length c0_0) ∧ w'.cell? ⟨gb209, 1, none⟩ = some (.slice A0_1 l0_1.length c0_1) ∧ w'.cell? ⟨gb210, 0, none⟩ = some (.slice A1_0 l1_0.length c1_0) ∧ w'.cell? ⟨gb210, 1, none⟩ = some (.slice A1_1 l1_1.length c1_1)) ∧ (Kd.R (Kd.int .i64) 3 w' w.heap.size (fun k_ => some k_ ≠ (s_.2.1 : Value).ownBlock) s_.1 t212) ∧ (Kd.R (Kd.int .i64) 3 w' w.heap.size (fun k_ => some k_ ≠ (s_.1 : Value).ownBlock) s_.2.1 t215) ∧ (w'.heap[gb209]? = some (.cells #[.slice A0_0 l0_0.length c0_0, .slice A0_1 l0_1.length c0_1] 26 (0, 0))) ∧ (w'.heap[gb210]? = some (.cells #[.slice A1_0 l1_0.length c1_0, .slice A1_1 l1_1.length c1_1] 26 (0, 0))) ∧ (w'.heap[gb211]? = some (.cells #[.slice none 0 0, .slice none 0 0] 26 (0, 0))) ∧ (w'.heap[s_.2.2]? = some (.cells #[.slice none 0 0, .slice none 0 0] 26 (0, 0))) ∧ (w.heap.size ≤ s_.2.2) ∧ (w.heap.size ≤ s_.2.2) ∧ (gb209 ≠ s_.2.2) ∧ (s_.2.2 ≠ gb209) ∧ (gb210 ≠ s_.2.2) ∧ (s_.2.2 ≠ gb210) ∧ (gb211 ≠ s_.2.2) ∧ (s_.2.2 ≠ gb211) ∧ (Below w.heap.size w w')) ?_ ?_
  rotate_left
  ·
   intro hCont
   refine two_ (i := 4) (j := 11) (Ni := some 11) (Nj := some 6) #[true, true, true, true, true, true, true, true, true, false, false, false, false] #[true, true, true, true, false, true, true, true, true, false, false, true, false] rfl rfl rfl rfl (two_of HT_.out (by kernel_rfl)) (by decide) (by decide) (fun K hK => ?_) (fun K hK => ?_)
   ·
    skip
    refine goes_ Try.func32 (by kernel_rfl) rfl #[.slice A0_0 l0_0.length c0_0, .slice A1_0 l1_0.length c1_0] (by rfl) rfl rfl Own.ha ?_
    with_reducible refine (impl_united.calls _ _ l0_0 _ _ l1_0 t212 _ ?side1 ?side2 ?side3 ?side4 A3.out).mono ?_
    (case side1 => exact Kd.C_below HR0_0.out Own.bl)
    (case side2 => exact HC0_0.out)
    (case side3 => exact Kd.C_below HR1_0.out Own.bl)
    (case side4 => exact HC1_0.out)
    rintro e w70 ⟨v213, rfl, ho0, hb⟩
    refine ⟨_, rfl, ?_⟩
    have n0_ := Aside0.mk (Kd.R_lower ho0 (below_size Own.bl))
    have n1_ := Own.bb BK209.out hb
    have n2_ := Own.bb BK210.out hb
    have n3_ := Own.bb BK211.out hb
    have n4_ := Own.bs hb
    clear BK209
    clear BK210
    clear BK211
    clear HB
    have HO214 := n0_
    have BK209 := n1_
    have BK210 := n2_
    have BK211 := n3_
    have HB := n4_
    clear n0_ n1_ n2_ n3_ n4_
    (try clear hb)
    (try clear hb2)
    (try clear hk)
    (try clear hi)
    (try clear ho0)
    refine hK.out _ _ ⟨(blk_cell BK209.out 0).trans rfl, (blk_cell BK209.out 1).trans rfl, (blk_cell BK210.out 0).trans rfl, (blk_cell BK210.out 1).trans rfl⟩ (fun hHeld => ?_)
    clear hK K
    refine norm_ (a' := ?_) ?_ ?_
    rotate_left
    ·
     show Act.put _ (some 11) _ = _
     simp only [Own.ps]
     rfl
    refine two_ (i := 9) (j := 11) (Ni := some 16) (Nj := some 6) #[true, true, true, true, true, true, true, true, true, true, false, false, false] #[true, true, true, true, true, true, true, true, true, false, false, true, false] rfl rfl rfl rfl (two_of HT_.out (by kernel_rfl)) (by decide) (by decide) (fun K hK => ?_) (fun K hK => ?_)
    ·
     skip
     refine goes_ Try.func32 (by kernel_rfl) rfl #[.slice A0_1 l0_1.length c0_1, .slice A1_1 l1_1.length c1_1] (by rfl) rfl rfl Own.ha ?_
     with_reducible refine (impl_united.calls _ _ l0_1 _ _ l1_1 t215 _ ?side1 ?side2 ?side3 ?side4 A4.out).mono ?_
     (case side1 => exact Kd.C_below HR0_1.out Own.bl)
     (case side2 => exact HC0_1.out)
     (case side3 => exact Kd.C_below HR1_1.out Own.bl)
     (case side4 => exact HC1_1.out)
     rintro e w71 ⟨v216, rfl, ho0, hb⟩
     refine ⟨_, rfl, ?_⟩
     have n0_ := Aside0.mk (Kd.R_elder' (Own.rd HO214.out) (Kd.R_base ho0) hb)
     have n1_ := Aside0.mk (Kd.R_lower (Kd.R_new' ho0 (Kd.R_lt (Own.rd HO214.out))) (below_size Own.bl))
     have n2_ := Own.bb BK209.out hb
     have n3_ := Own.bb BK210.out hb
     have n4_ := Own.bb BK211.out hb
     have n5_ := Own.bs hb
     clear HO214
     clear BK209
     clear BK210
     clear BK211
     clear HB
     have HO214 := n0_
     have HO217 := n1_
     have BK209 := n2_
     have BK210 := n3_
     have BK211 := n4_
     have HB := n5_
     clear n0_ n1_ n2_ n3_ n4_ n5_
     (try clear hb)
     (try clear hb2)
     (try clear hk)
     (try clear hi)
     (try clear ho0)
     obtain ⟨Ao72, co72, eo72⟩ := Kd.R_slice HO217.out
     (first | subst eo72 | (injection eo72 with f1_ f2_ f3_; have f4_ := f1_.symm; have f5_ := f3_.symm; clear f1_ f2_ f3_; subst f4_; subst f5_))
     obtain ⟨Ao73, co73, eo73⟩ := Kd.R_slice HO214.out
     (first | subst eo73 | (injection eo73 with f1_ f2_ f3_; have f4_ := f1_.symm; have f5_ := f3_.symm; clear f1_ f2_ f3_; subst f4_; subst f5_))
     refine hK.out _ _ ⟨(blk_cell BK209.out 0).trans rfl, (blk_cell BK209.out 1).trans rfl, (blk_cell BK210.out 0).trans rfl, (blk_cell BK210.out 1).trans rfl⟩ (fun hHeld => ?_)
     clear hK K
     refine norm_ (a' := ?_) ?_ ?_
     rotate_left
     ·
      show Act.put _ (some 16) _ = _
      simp only [Own.ps]
      rfl
     refine pure_ (i := 10) (N := some 17) (v := ?_) (a' := ?_) #[true, true, true, true, true, true, true, true, true, true, true, false, false] rfl rfl (any_of HT_.out (by kernel_rfl)) (fun _ _ _ h => h) (Or.inl ⟨by rfl, ?_⟩) ?_ ?_
     rotate_left
     ·
      intro w'
      go_simp
      with_reducible rfl
     rotate_left
     ·
      simp only [Own.ps]
      rfl
     refine one_ (i := 11) (N := some 6) #[true, true, true, true, true, true, true, true, true, true, true, true, false] rfl rfl (one_of HT_.out (by kernel_rfl)) (by decide) (fun K hK => ?_)
     refine box_step ?hg (N := 6) ?hd (cs := #[.slice none 0 0, .slice none 0 0]) (t := 26) ?hr ?_; (case hd => rfl); (case hg => rfl); (case hr => first | (go_simp; done) | (go_simp; rfl))
     intro gb218 hg w74 hbox hb
     have n0_ := Aside0.mk (Kd.R_below (Own.rd HO214.out) hb)
     have n1_ := Aside0.mk (Kd.R_below (Own.rd HO217.out) hb)
     have n2_ := Own.bb BK209.out hb
     have n3_ := Own.bb BK210.out hb
     have n4_ := Own.bb BK211.out hb
     have n5_ := Own.bs hb
     have n6_ := Aside0.mk (hbox)
     have n7_ := (Own.gs hg : Aside0 (w.heap.size ≤ gb218))
     have n8_ := (Own.gs hg : Aside0 (w.heap.size ≤ gb218))
     have n9_ := Own.nl hg BK209.out
     have n10_ := Aside0.mk ((by rw [hg]; exact Nat.ne_of_gt (blk_lt (Own.bkf BK209.out)) : gb218 ≠ gb209))
     have n11_ := Own.nl hg BK210.out
     have n12_ := Aside0.mk ((by rw [hg]; exact Nat.ne_of_gt (blk_lt (Own.bkf BK210.out)) : gb218 ≠ gb210))
     have n13_ := Own.nl hg BK211.out
     have n14_ := Aside0.mk ((by rw [hg]; exact Nat.ne_of_gt (blk_lt (Own.bkf BK211.out)) : gb218 ≠ gb211))
     clear HO214
     clear HO217
     clear BK209
     clear BK210
     clear BK211
     clear HB
     have HO214 := n0_
     have HO217 := n1_
     have BK209 := n2_
     have BK210 := n3_
     have BK211 := n4_
     have HB := n5_
     have BK218 := n6_
     have GW218 := n7_
     have GE218 := n8_
     have NB209_218 := n9_
     have NB218_209 := n10_
     have NB210_218 := n11_
     have NB218_210 := n12_
     have NB211_218 := n13_
     have NB218_211 := n14_
     clear n0_ n1_ n2_ n3_ n4_ n5_ n6_ n7_ n8_ n9_ n10_ n11_ n12_ n13_ n14_
     clear hb hbox hg
     refine hK.out _ _ ⟨(blk_cell BK209.out 0).trans rfl, (blk_cell BK209.out 1).trans rfl, (blk_cell BK210.out 0).trans rfl, (blk_cell BK210.out 1).trans rfl⟩ (fun hHeld => ?_)
     clear hK K
     refine norm_ (a' := ?_) ?_ ?_
     rotate_left
     ·
      show Act.put _ (some 6) _ = _
      simp only [Own.ps]
      rfl
     exact norm_ (by simp only [putAll, Act.put, List.setIfInBounds_toArray, List.set_cons_zero, List.set_cons_succ]) (hCont (.slice Ao73 t212.length co73, .slice Ao72 t215.length co72, gb218) _ ⟨hHeld, (by (with_reducible repeat (first | apply Kd.R_alloc | apply Kd.R_drewN | apply Kd.R_drew)); exact Kd.R_mono HO214.out (fun _ hk => hk.2)), (by (with_reducible repeat (first | apply Kd.R_alloc | apply Kd.R_drewN | apply Kd.R_drew)); exact Kd.R_mono HO217.out (fun _ hk => hk.2)), (by (with_reducible repeat (first | refine blk_drewN ?_ _ | refine blk_drew ?_ | refine blk_alloc ?_ _)); exact BK209.out), (by (with_reducible repeat (first | refine blk_drewN ?_ _ | refine blk_drew ?_ | refine blk_alloc ?_ _)); exact BK210.out), (by (with_reducible repeat (first | refine blk_drewN ?_ _ | refine blk_drew ?_ | refine blk_alloc ?_ _)); exact BK211.out), (by (with_reducible repeat (first | refine blk_drewN ?_ _ | refine blk_drew ?_ | refine blk_alloc ?_ _)); exact BK218.out), GW218.out, GE218.out, NB209_218.out, NB218_209.out, NB210_218.out, NB218_210.out, NB211_218.out, NB218_211.out, Own.bl⟩)
    ·
     skip
     refine box_step ?hg (N := 6) ?hd (cs := #[.slice none 0 0, .slice none 0 0]) (t := 26) ?hr ?_; (case hd => rfl); (case hg => rfl); (case hr => first | (go_simp; done) | (go_simp; rfl))
     intro gb218 hg w71 hbox hb
     have n0_ := Aside0.mk (Kd.R_below (Own.rd HO214.out) hb)
     have n1_ := Own.bb BK209.out hb
     have n2_ := Own.bb BK210.out hb
     have n3_ := Own.bb BK211.out hb
     have n4_ := Own.bs hb
     have n5_ := Aside0.mk (hbox)
     have n6_ := (Own.gs hg : Aside0 (w.heap.size ≤ gb218))
     have n7_ := (Own.gs hg : Aside0 (w.heap.size ≤ gb218))
     have n8_ := Own.nl hg BK209.out
     have n9_ := Aside0.mk ((by rw [hg]; exact Nat.ne_of_gt (blk_lt (Own.bkf BK209.out)) : gb218 ≠ gb209))
     have n10_ := Own.nl hg BK210.out
     have n11_ := Aside0.mk ((by rw [hg]; exact Nat.ne_of_gt (blk_lt (Own.bkf BK210.out)) : gb218 ≠ gb210))
     have n12_ := Own.nl hg BK211.out
     have n13_ := Aside0.mk ((by rw [hg]; exact Nat.ne_of_gt (blk_lt (Own.bkf BK211.out)) : gb218 ≠ gb211))
     clear HO214
     clear BK209
     clear BK210
     clear BK211
     clear HB
     have HO214 := n0_
     have BK209 := n1_
     have BK210 := n2_
     have BK211 := n3_
     have HB := n4_
     have BK218 := n5_
     have GW218 := n6_
     have GE218 := n7_
     have NB209_218 := n8_
     have NB218_209 := n9_
     have NB210_218 := n10_
     have NB218_210 := n11_
     have NB211_218 := n12_
     have NB218_211 := n13_
     clear n0_ n1_ n2_ n3_ n4_ n5_ n6_ n7_ n8_ n9_ n10_ n11_ n12_ n13_
     clear hb hbox hg
     refine hK.out _ _ ⟨(blk_cell BK209.out 0).trans rfl, (blk_cell BK209.out 1).trans rfl, (blk_cell BK210.out 0).trans rfl, (blk_cell BK210.out 1).trans rfl⟩ (fun hHeld => ?_)
     clear hK K
     refine norm_ (a' := ?_) ?_ ?_
     rotate_left
     ·
      show Act.put _ (some 6) _ = _
      simp only [Own.ps]
      rfl
     refine one_ (i := 9) (N := some 16) #[true, true, true, true, true, true, true, true, true, true, false, true, false] rfl rfl (one_of HT_.out (by kernel_rfl)) (by decide) (fun K hK => ?_)
     refine goes_ Try.func32 (by kernel_rfl) rfl #[.slice A0_1 l0_1.length c0_1, .slice A1_1 l1_1.length c1_1] (by rfl) rfl rfl Own.ha ?_
     with_reducible refine (impl_united.calls _ _ l0_1 _ _ l1_1 t215 _ ?side1 ?side2 ?side3 ?side4 A4.out).mono ?_
     (case side1 => exact Kd.C_below HR0_1.out Own.bl)
     (case side2 => exact HC0_1.out)
     (case side3 => exact Kd.C_below HR1_1.out Own.bl)
     (case side4 => exact HC1_1.out)
     rintro e w72 ⟨v216, rfl, ho0, hb⟩
     refine ⟨_, rfl, ?_⟩
     have n0_ := Aside0.mk (Kd.R_elder' (Own.rd HO214.out) (Kd.R_base ho0) hb)
     have n1_ := Aside0.mk (Kd.R_lower (Kd.R_new' ho0 (Kd.R_lt (Own.rd HO214.out))) (below_size Own.bl))
     have n2_ := Own.bb BK209.out hb
     have n3_ := Own.bb BK210.out hb
     have n4_ := Own.bb BK211.out hb
     have n5_ := Own.bb BK218.out hb
     have n6_ := Own.bs hb
     clear HO214
     clear BK209
     clear BK210
     clear BK211
     clear BK218
     clear HB
     have HO214 := n0_
     have HO217 := n1_
     have BK209 := n2_
     have BK210 := n3_
     have BK211 := n4_
     have BK218 := n5_
     have HB := n6_
     clear n0_ n1_ n2_ n3_ n4_ n5_ n6_
     (try clear hb)
     (try clear hb2)
     (try clear hk)
     (try clear hi)
     (try clear ho0)
     obtain ⟨Ao73, co73, eo73⟩ := Kd.R_slice HO217.out
     (first | subst eo73 | (injection eo73 with f1_ f2_ f3_; have f4_ := f1_.symm; have f5_ := f3_.symm; clear f1_ f2_ f3_; subst f4_; subst f5_))
     obtain ⟨Ao74, co74, eo74⟩ := Kd.R_slice HO214.out
     (first | subst eo74 | (injection eo74 with f1_ f2_ f3_; have f4_ := f1_.symm; have f5_ := f3_.symm; clear f1_ f2_ f3_; subst f4_; subst f5_))
     refine hK.out _ _ ⟨(blk_cell BK209.out 0).trans rfl, (blk_cell BK209.out 1).trans rfl, (blk_cell BK210.out 0).trans rfl, (blk_cell BK210.out 1).trans rfl⟩ (fun hHeld => ?_)
     clear hK K
     refine norm_ (a' := ?_) ?_ ?_
     rotate_left
     ·
      show Act.put _ (some 16) _ = _
      simp only [Own.ps]
      rfl
     refine pure_ (i := 10) (N := some 17) (v := ?_) (a' := ?_) #[true, true, true, true, true, true, true, true, true, true, true, true, false] rfl rfl (any_of HT_.out (by kernel_rfl)) (fun _ _ _ h => h) (Or.inl ⟨by rfl, ?_⟩) ?_ ?_
     rotate_left
     ·
      intro w'
      go_simp
      with_reducible rfl
     rotate_left
     ·
      simp only [Own.ps]
      rfl
     exact norm_ (by simp only [putAll, Act.put, List.setIfInBounds_toArray, List.set_cons_zero, List.set_cons_succ]) (hCont (.slice Ao74 t212.length co74, .slice Ao73 t215.length co73, gb218) _ ⟨hHeld, (by (with_reducible repeat (first | apply Kd.R_alloc | apply Kd.R_drewN | apply Kd.R_drew)); exact Kd.R_mono HO214.out (fun _ hk => hk.2)), (by (with_reducible repeat (first | apply Kd.R_alloc | apply Kd.R_drewN | apply Kd.R_drew)); exact Kd.R_mono HO217.out (fun _ hk => hk.2)), (by (with_reducible repeat (first | refine blk_drewN ?_ _ | refine blk_drew ?_ | refine blk_alloc ?_ _)); exact BK209.out), (by (with_reducible repeat (first | refine blk_drewN ?_ _ | refine blk_drew ?_ | refine blk_alloc ?_ _)); exact BK210.out), (by (with_reducible repeat (first | refine blk_drewN ?_ _ | refine blk_drew ?_ | refine blk_alloc ?_ _)); exact BK211.out), (by (with_reducible repeat (first | refine blk_drewN ?_ _ | refine blk_drew ?_ | refine blk_alloc ?_ _)); exact BK218.out), GW218.out, GE218.out, NB209_218.out, NB218_209.out, NB210_218.out, NB218_210.out, NB211_218.out, NB218_211.out, Own.bl⟩)
   ·
    skip
    refine box_step ?hg (N := 6) ?hd (cs := #[.slice none 0 0, .slice none 0 0]) (t := 26) ?hr ?_; (case hd => rfl); (case hg => rfl); (case hr => first | (go_simp; done) | (go_simp; rfl))
    intro gb218 hg w70 hbox hb
    have n0_ := Own.bb BK209.out hb
    have n1_ := Own.bb BK210.out hb
    have n2_ := Own.bb BK211.out hb
    have n3_ := Own.bs hb
    have n4_ := Aside0.mk (hbox)
    have n5_ := (Own.gs hg : Aside0 (w.heap.size ≤ gb218))
    have n6_ := (Own.gs hg : Aside0 (w.heap.size ≤ gb218))
    have n7_ := Own.nl hg BK209.out
    have n8_ := Aside0.mk ((by rw [hg]; exact Nat.ne_of_gt (blk_lt (Own.bkf BK209.out)) : gb218 ≠ gb209))
    have n9_ := Own.nl hg BK210.out
    have n10_ := Aside0.mk ((by rw [hg]; exact Nat.ne_of_gt (blk_lt (Own.bkf BK210.out)) : gb218 ≠ gb210))
    have n11_ := Own.nl hg BK211.out
    have n12_ := Aside0.mk ((by rw [hg]; exact Nat.ne_of_gt (blk_lt (Own.bkf BK211.out)) : gb218 ≠ gb211))
    clear BK209
    clear BK210
    clear BK211
    clear HB
    have BK209 := n0_
    have BK210 := n1_
    have BK211 := n2_
    have HB := n3_
    have BK218 := n4_
    have GW218 := n5_
    have GE218 := n6_
    have NB209_218 := n7_
    have NB218_209 := n8_
    have NB210_218 := n9_
    have NB218_210 := n10_
    have NB211_218 := n11_
    have NB218_211 := n12_
    clear n0_ n1_ n2_ n3_ n4_ n5_ n6_ n7_ n8_ n9_ n10_ n11_ n12_
    clear hb hbox hg
    refine hK.out _ _ ⟨(blk_cell BK209.out 0).trans rfl, (blk_cell BK209.out 1).trans rfl, (blk_cell BK210.out 0).trans rfl, (blk_cell BK210.out 1).trans rfl⟩ (fun hHeld => ?_)
    clear hK K
    refine norm_ (a' := ?_) ?_ ?_
    rotate_left
    ·
     show Act.put _ (some 6) _ = _
     simp only [Own.ps]
     rfl
    refine one_ (i := 4) (N := some 11) #[true, true, true, true, true, true, true, true, true, false, false, true, false] rfl rfl (one_of HT_.out (by kernel_rfl)) (by decide) (fun K hK => ?_)
    refine goes_ Try.func32 (by kernel_rfl) rfl #[.slice A0_0 l0_0.length c0_0, .slice A1_0 l1_0.length c1_0] (by rfl) rfl rfl Own.ha ?_
    with_reducible refine (impl_united.calls _ _ l0_0 _ _ l1_0 t212 _ ?side1 ?side2 ?side3 ?side4 A3.out).mono ?_
    (case side1 => exact Kd.C_below HR0_0.out Own.bl)
    (case side2 => exact HC0_0.out)
    (case side3 => exact Kd.C_below HR1_0.out Own.bl)
    (case side4 => exact HC1_0.out)
    rintro e w71 ⟨v213, rfl, ho0, hb⟩
    refine ⟨_, rfl, ?_⟩
    have n0_ := Aside0.mk (Kd.R_lower ho0 (below_size Own.bl))
    have n1_ := Own.bb BK209.out hb
    have n2_ := Own.bb BK210.out hb
    have n3_ := Own.bb BK211.out hb
    have n4_ := Own.bb BK218.out hb
    have n5_ := Own.bs hb
    clear BK209
    clear BK210
    clear BK211
    clear BK218
    clear HB
    have HO214 := n0_
    have BK209 := n1_
    have BK210 := n2_
    have BK211 := n3_
    have BK218 := n4_
    have HB := n5_
    clear n0_ n1_ n2_ n3_ n4_ n5_
    (try clear hb)
    (try clear hb2)
    (try clear hk)
    (try clear hi)
    (try clear ho0)
    refine hK.out _ _ ⟨(blk_cell BK209.out 0).trans rfl, (blk_cell BK209.out 1).trans rfl, (blk_cell BK210.out 0).trans rfl, (blk_cell BK210.out 1).trans rfl⟩ (fun hHeld => ?_)
    clear hK K
    refine norm_ (a' := ?_) ?_ ?_
    rotate_left
    ·
     show Act.put _ (some 11) _ = _
     simp only [Own.ps]
     rfl
    refine one_ (i := 9) (N := some 16) #[true, true, true, true, true, true, true, true, true, true, false, true, false] rfl rfl (one_of HT_.out (by kernel_rfl)) (by decide) (fun K hK => ?_)
    refine goes_ Try.func32 (by kernel_rfl) rfl #[.slice A0_1 l0_1.length c0_1, .slice A1_1 l1_1.length c1_1] (by rfl) rfl rfl Own.ha ?_
    with_reducible refine (impl_united.calls _ _ l0_1 _ _ l1_1 t215 _ ?side1 ?side2 ?side3 ?side4 A4.out).mono ?_
    (case side1 => exact Kd.C_below HR0_1.out Own.bl)
    (case side2 => exact HC0_1.out)
    (case side3 => exact Kd.C_below HR1_1.out Own.bl)
    (case side4 => exact HC1_1.out)
    rintro e w72 ⟨v216, rfl, ho0, hb⟩
    refine ⟨_, rfl, ?_⟩
    have n0_ := Aside0.mk (Kd.R_elder' (Own.rd HO214.out) (Kd.R_base ho0) hb)
    have n1_ := Aside0.mk (Kd.R_lower (Kd.R_new' ho0 (Kd.R_lt (Own.rd HO214.out))) (below_size Own.bl))
    have n2_ := Own.bb BK209.out hb
    have n3_ := Own.bb BK210.out hb
    have n4_ := Own.bb BK211.out hb
    have n5_ := Own.bb BK218.out hb
    have n6_ := Own.bs hb
    clear HO214
    clear BK209
    clear BK210
    clear BK211
    clear BK218
    clear HB
    have HO214 := n0_
    have HO217 := n1_
    have BK209 := n2_
    have BK210 := n3_
    have BK211 := n4_
    have BK218 := n5_
    have HB := n6_
    clear n0_ n1_ n2_ n3_ n4_ n5_ n6_
    (try clear hb)
    (try clear hb2)
    (try clear hk)
    (try clear hi)
    (try clear ho0)
    obtain ⟨Ao73, co73, eo73⟩ := Kd.R_slice HO217.out
    (first | subst eo73 | (injection eo73 with f1_ f2_ f3_; have f4_ := f1_.symm; have f5_ := f3_.symm; clear f1_ f2_ f3_; subst f4_; subst f5_))
    obtain ⟨Ao74, co74, eo74⟩ := Kd.R_slice HO214.out
    (first | subst eo74 | (injection eo74 with f1_ f2_ f3_; have f4_ := f1_.symm; have f5_ := f3_.symm; clear f1_ f2_ f3_; subst f4_; subst f5_))
    refine hK.out _ _ ⟨(blk_cell BK209.out 0).trans rfl, (blk_cell BK209.out 1).trans rfl, (blk_cell BK210.out 0).trans rfl, (blk_cell BK210.out 1).trans rfl⟩ (fun hHeld => ?_)
    clear hK K
    refine norm_ (a' := ?_) ?_ ?_
    rotate_left
    ·
     show Act.put _ (some 16) _ = _
     simp only [Own.ps]
     rfl
    refine pure_ (i := 10) (N := some 17) (v := ?_) (a' := ?_) #[true, true, true, true, true, true, true, true, true, true, true, true, false] rfl rfl (any_of HT_.out (by kernel_rfl)) (fun _ _ _ h => h) (Or.inl ⟨by rfl, ?_⟩) ?_ ?_
    rotate_left
    ·
     intro w'
     go_simp
     with_reducible rfl
    rotate_left
    ·
     simp only [Own.ps]
     rfl
    exact norm_ (by simp only [putAll, Act.put, List.setIfInBounds_toArray, List.set_cons_zero, List.set_cons_succ]) (hCont (.slice Ao74 t212.length co74, .slice Ao73 t215.length co73, gb218) _ ⟨hHeld, (by (with_reducible repeat (first | apply Kd.R_alloc | apply Kd.R_drewN | apply Kd.R_drew)); exact Kd.R_mono HO214.out (fun _ hk => hk.2)), (by (with_reducible repeat (first | apply Kd.R_alloc | apply Kd.R_drewN | apply Kd.R_drew)); exact Kd.R_mono HO217.out (fun _ hk => hk.2)), (by (with_reducible repeat (first | refine blk_drewN ?_ _ | refine blk_drew ?_ | refine blk_alloc ?_ _)); exact BK209.out), (by (with_reducible repeat (first | refine blk_drewN ?_ _ | refine blk_drew ?_ | refine blk_alloc ?_ _)); exact BK210.out), (by (with_reducible repeat (first | refine blk_drewN ?_ _ | refine blk_drew ?_ | refine blk_alloc ?_ _)); exact BK211.out), (by (with_reducible repeat (first | refine blk_drewN ?_ _ | refine blk_drew ?_ | refine blk_alloc ?_ _)); exact BK218.out), GW218.out, GE218.out, NB209_218.out, NB218_209.out, NB210_218.out, NB218_210.out, NB211_218.out, NB218_211.out, Own.bl⟩)
  rintro ⟨v213, v216, gb218⟩ w75 ⟨hS_, h0_, h1_, h2_, h3_, h4_, h5_, h6_, h7_, h8_, h9_, h10_, h11_, h12_, h13_, h14_⟩
  have n0_ : Aside0 (Kd.R (Kd.int .i64) 3 w75 w.heap.size (fun k_ => some k_ ≠ (v216 : Value).ownBlock) v213 t212) := ⟨h0_⟩
  have n1_ : Aside0 (Kd.R (Kd.int .i64) 3 w75 w.heap.size (fun k_ => some k_ ≠ (v213 : Value).ownBlock) v216 t215) := ⟨h1_⟩
  have n2_ : Aside0 (w75.heap[gb209]? = some (.cells #[.slice A0_0 l0_0.length c0_0, .slice A0_1 l0_1.length c0_1] 26 (0, 0))) := ⟨h2_⟩
  have n3_ : Aside0 (w75.heap[gb210]? = some (.cells #[.slice A1_0 l1_0.length c1_0, .slice A1_1 l1_1.length c1_1] 26 (0, 0))) := ⟨h3_⟩
  have n4_ : Aside0 (w75.heap[gb211]? = some (.cells #[.slice none 0 0, .slice none 0 0] 26 (0, 0))) := ⟨h4_⟩
  have n5_ : Aside0 (w75.heap[gb218]? = some (.cells #[.slice none 0 0, .slice none 0 0] 26 (0, 0))) := ⟨h5_⟩
  have n6_ : Aside0 (w.heap.size ≤ gb218) := ⟨h6_⟩
  have n7_ : Aside0 (w.heap.size ≤ gb218) := ⟨h7_⟩
  have n8_ : Aside0 (gb209 ≠ gb218) := ⟨h8_⟩
  have n9_ : Aside0 (gb218 ≠ gb209) := ⟨h9_⟩
  have n10_ : Aside0 (gb210 ≠ gb218) := ⟨h10_⟩
  have n11_ : Aside0 (gb218 ≠ gb210) := ⟨h11_⟩
  have n12_ : Aside0 (gb211 ≠ gb218) := ⟨h12_⟩
  have n13_ : Aside0 (gb218 ≠ gb211) := ⟨h13_⟩
  have n14_ : Aside0 (Below w.heap.size w w75) := ⟨h14_⟩
  clear BK209
  clear BK210
  clear BK211
  clear HB
  clear h0_ h1_ h2_ h3_ h4_ h5_ h6_ h7_ h8_ h9_ h10_ h11_ h12_ h13_ h14_
  have HO214 := n0_
  have HO217 := n1_
  have BK209 := n2_
  have BK210 := n3_
  have BK211 := n4_
  have BK218 := n5_
  have GW218 := n6_
  have GE218 := n7_
  have NB209_218 := n8_
  have NB218_209 := n9_
  have NB210_218 := n10_
  have NB218_210 := n11_
  have NB211_218 := n12_
  have NB218_211 := n13_
  have HB := n14_
  clear n0_ n1_ n2_ n3_ n4_ n5_ n6_ n7_ n8_ n9_ n10_ n11_ n12_ n13_ n14_
  have hHeld : w75.cell? ⟨gb209, 0, none⟩ = some (.slice A0_0 l0_0.length c0_0) ∧ w75.cell? ⟨gb209, 1, none⟩ = some (.slice A0_1 l0_1.length c0_1) ∧ w75.cell? ⟨gb210, 0, none⟩ = some (.slice A1_0 l1_0.length c1_0) ∧ w75.cell? ⟨gb210, 1, none⟩ = some (.slice A1_1 l1_1.length c1_1) := hS_
  obtain ⟨Ao76, co76, eo76⟩ := Kd.R_slice HO217.out
  (first | subst eo76 | (injection eo76 with f1_ f2_ f3_; have f4_ := f1_.symm; have f5_ := f3_.symm; clear f1_ f2_ f3_; subst f4_; subst f5_))
  obtain ⟨Ao77, co77, eo77⟩ := Kd.R_slice HO214.out
  (first | subst eo77 | (injection eo77 with f1_ f2_ f3_; have f4_ := f1_.symm; have f5_ := f3_.symm; clear f1_ f2_ f3_; subst f4_; subst f5_))
  refine norm_ (a' := ?_) ?_ ?_
  rotate_left
  ·
   simp only [putAll, Act.put, List.setIfInBounds_toArray, List.set_cons_zero, List.set_cons_succ]
   rfl
  refine one_ (i := 12) (N := none) #[true, true, true, true, true, true, true, true, true, true, true, true, true] rfl rfl (one_of HT_.out (by kernel_rfl)) (by decide) (fun K hK => ?_)
  have hs78 : w75.cell? ⟨gb218, 0, none⟩ = some (.slice none 0 0) := (blk_cell BK218.out 0).trans rfl
  have hfs78 := blk_frozen BK218.out 0
  have hns78_0 := NB209_218.out
  have hns78_1 := NB210_218.out
  have hns78_2 := NB211_218.out
  have hms78_0 := NB218_209.out
  have hms78_1 := NB218_210.out
  have hms78_2 := NB218_211.out
  have hs79 : w75.cell? ⟨gb218, 1, none⟩ = some (.slice none 0 0) := (blk_cell BK218.out 1).trans rfl
  have hfs79 := blk_frozen BK218.out 1
  have hns79_0 := NB209_218.out
  have hns79_1 := NB210_218.out
  have hns79_2 := NB211_218.out
  have hms79_0 := NB218_209.out
  have hms79_1 := NB218_210.out
  have hms79_2 := NB218_211.out
  refine skip_ (w1 := ?_) (by rfl) rfl ?_ ?_
  rotate_left
  ·
   go_simp
   rfl
  refine hK.out _ _ ⟨((cell_far (p := ⟨gb218, _, none⟩) NB209_218.out _).trans (((cell_far (p := ⟨gb218, _, none⟩) NB209_218.out _).trans (hHeld.1)))), ((cell_far (p := ⟨gb218, _, none⟩) NB209_218.out _).trans (((cell_far (p := ⟨gb218, _, none⟩) NB209_218.out _).trans (hHeld.2.1)))), ((cell_far (p := ⟨gb218, _, none⟩) NB210_218.out _).trans (((cell_far (p := ⟨gb218, _, none⟩) NB210_218.out _).trans (hHeld.2.2.1)))), ((cell_far (p := ⟨gb218, _, none⟩) NB210_218.out _).trans (((cell_far (p := ⟨gb218, _, none⟩) NB210_218.out _).trans (hHeld.2.2.2))))⟩ (fun hHeld => ?_)
  clear hK K
  refine done_ (done_of HT_.out (by kernel_rfl)) ?_
  have hnb80 := NB209_210.out
  have hnc80 := NB210_209.out
  have hnb81 := NB209_211.out
  have hnc81 := NB211_209.out
  have hnb82 := NB209_218.out
  have hnc82 := NB218_209.out
  obtain ⟨z83_0, z83_1, y83_0, y83_1⟩ := Own.box2 BK209.out
  try go_wp2_with (first | ((with_reducible refine gate_callee (f := 20) rfl ?_); refine goesL_ (some 19) rfl rfl Try.func20 (by kernel_rfl) rfl #[.agg #[.slice A0_0 l0_0.length c0_0, .slice A0_1 l0_1.length c0_1]] rfl Own.ha ?_; (with_reducible refine (impl_IsValidCalendar.calls k _ _ l0_0 _ _ l0_1 true _ ?side1 ?side2 ?side3 ?side4 A5.out).mono ?_); (case side1 => exact Kd.C_below HR0_0.out Own.bl); (case side2 => exact HC0_0.out); (case side3 => exact Kd.C_below HR0_1.out Own.bl); (case side4 => exact HC0_1.out); rintro e w84 ⟨rfl, hb⟩; refine ⟨_, rfl, ?_⟩; replace HO214 := Aside0.mk (Kd.R_below (by (with_reducible repeat (first | apply Kd.R_alloc | apply Kd.R_drewN | apply Kd.R_drew)); exact (Kd.R_mono (Kd.R_far (p := ⟨gb218, 1, none⟩) (Kd.R_far (p := ⟨gb218, 0, none⟩) (Kd.R_types HO214.out BK218.out (by decide)) (fun _ hk => hk.2) (.slice Ao77 t212.length co77)) (fun _ hk => hk.2) (.slice Ao76 t215.length co76)) (fun _ h_ => h_.1))) hb); replace HO217 := Aside0.mk (Kd.R_below (by (with_reducible repeat (first | apply Kd.R_alloc | apply Kd.R_drewN | apply Kd.R_drew)); exact (Kd.R_mono (Kd.R_far (p := ⟨gb218, 1, none⟩) (Kd.R_far (p := ⟨gb218, 0, none⟩) (Kd.R_types HO217.out BK218.out (by decide)) (fun _ hk => hk.2) (.slice Ao77 t212.length co77)) (fun _ hk => hk.2) (.slice Ao76 t215.length co76)) (fun _ h_ => h_.1))) hb); replace BK209 := Own.bb BK209.out hb; replace BK210 := Own.bb BK210.out hb; replace BK211 := Own.bb BK211.out hb; replace BK218 := Aside0.mk (blk_below (g := gb218) (o := .cells #[.slice Ao77 t212.length co77, .slice Ao76 t215.length co76] 26 (0, 0)) (by (with_reducible repeat (first | refine blk_drewN ?_ _ | refine blk_drew ?_ | refine blk_alloc ?_ _)); with_reducible exact Own.put2 BK218.out) hb); replace HB := Own.bs hb; (try clear hb); (try clear hk); have hnb85 := NB210_211.out; have hnc85 := NB211_210.out; have hnb86 := NB210_218.out; have hnc86 := NB218_210.out; obtain ⟨z87_0, z87_1, y87_0, y87_1⟩ := Own.box2 BK210.out) | (go_at_call 20; (with_reducible refine (impl_IsValidCalendar.calls k _ _ l1_0 _ _ l1_1 false _ ?side1 ?side2 ?side3 ?side4 A7.out).mono ?_); (case side1 => exact Kd.C_below HR1_0.out Own.bl); (case side2 => exact HC1_0.out); (case side3 => exact Kd.C_below HR1_1.out Own.bl); (case side4 => exact HC1_1.out); rintro e w88 ⟨rfl, hb⟩; replace HO214 := Aside0.mk (Kd.R_below (Own.rd HO214.out) hb); replace HO217 := Aside0.mk (Kd.R_below (Own.rd HO217.out) hb); replace BK209 := Own.bb BK209.out hb; replace BK210 := Own.bb BK210.out hb; replace BK211 := Own.bb BK211.out hb; replace BK218 := Own.bb BK218.out hb; replace HB := Own.bs hb; (try clear hb); (try clear hk); have hnb89 := NB211_218.out; have hnc89 := NB218_211.out; obtain ⟨z90_0, z90_1, y90_0, y90_1⟩ := Own.box2 BK211.out))
  refine bodyPost_ret (results_ct rfl _ _ gb211 26 #[.slice none 0 0, .slice none 0 0] (0, 0) _ rfl (by (with_reducible repeat (first | refine blk_drewN ?_ _ | refine blk_drew ?_ | refine blk_alloc ?_ _)); with_reducible exact Own.put2 BK211.out) Try.underlying26 rfl (by kernel_rfl)) rfl ?_
  exact ⟨_, _, Own.rr, by first | exact Kd.R_nil _ _ _ _ _ | exact Kd.N_nil _ _ _ _ _ | exact Kd.V_nil _ _ _ _ _ | exact Kd.Q_nil _ _ _ _ _ | exact Kd.S_nil _ _ _ _ _, by first | exact Kd.R_nil _ _ _ _ _ | exact Kd.N_nil _ _ _ _ _ | exact Kd.V_nil _ _ _ _ _ | exact Kd.Q_nil _ _ _ _ _ | exact Kd.S_nil _ _ _ _ _, Own.bl⟩
 replace H := Own.bd H; obtain ⟨t221, A9, H⟩ := H
 replace H := Own.ifu H; obtain ⟨rfl, H⟩ | ⟨rfl, H⟩ := H
 ·
  simp only [Option.some.injEq, Prod.mk.injEq] at H
  obtain ⟨rfl, rfl, rfl⟩ := H
  go_enter Try.func14, Try.ntmps14
  try go_wp2_with (first | ((with_reducible refine gate_dst (N := 2) rfl ?_); refine Own.be (N := 2) (cs := #[.slice A0_0 l0_0.length c0_0, .slice A0_1 l0_1.length c0_1]) (t := 26) ?_; intro gb209 hg w11 hbox hb; have BK209 := Aside0.mk hbox; have GW209 := (Own.gs hg : Aside0 (w.heap.size ≤ gb209)); have GE209 := GW209; replace HB := Own.bs hb; clear hb hbox hg) | ((with_reducible refine gate_dst (N := 3) rfl ?_); refine Own.be (N := 3) (cs := #[.slice A1_0 l1_0.length c1_0, .slice A1_1 l1_1.length c1_1]) (t := 26) ?_; intro gb210 hg w12 hbox hb; have BK210 := Aside0.mk hbox; have GW210 := (Own.gs hg : Aside0 (w.heap.size ≤ gb210)); have GE210 := GW210; have NB209_210 := Own.nl hg BK209.out; have NB210_209 := Aside0.mk NB209_210.out.symm; replace BK209 := Own.bb BK209.out hb; replace HB := Own.bs hb; clear hb hbox hg) | ((with_reducible refine gate_dst (N := 4) rfl ?_); refine Own.be (N := 4) (cs := #[.slice none 0 0, .slice none 0 0]) (t := 26) ?_; intro gb211 hg w13 hbox hb; have BK211 := Aside0.mk hbox; have GW211 := (Own.gs hg : Aside0 (w.heap.size ≤ gb211)); have GE211 := GW211; have NB209_211 := Own.nl hg BK209.out; have NB211_209 := Aside0.mk NB209_211.out.symm; have NB210_211 := Own.nl hg BK210.out; have NB211_210 := Aside0.mk NB210_211.out.symm; replace BK209 := Own.bb BK209.out hb; replace BK210 := Own.bb BK210.out hb; replace HB := Own.bs hb; clear hb hbox hg))
  have n0_ := Aside0.mk (blk_drew BK209.out)
  have n1_ := Aside0.mk (blk_drew BK210.out)
  have n2_ := Aside0.mk (blk_drew BK211.out)
  have n3_ := Aside0.mk (below_drew1 HB.out)
  clear BK209
  clear BK210
  clear BK211
  clear HB
  have BK209 := n0_
  have BK210 := n1_
  have BK211 := n2_
  have HB := n3_
  clear n0_ n1_ n2_ n3_
  refine start_ (n := 13) (S := fun w' => w'.cell? ⟨gb209, 0, none⟩ = some (.slice A0_0 l0_0.length c0_0) ∧ w'.cell? ⟨gb209, 1, none⟩ = some (.slice A0_1 l0_1.length c0_1) ∧ w'.cell? ⟨gb210, 0, none⟩ = some (.slice A1_0 l1_0.length c1_0) ∧ w'.cell? ⟨gb210, 1, none⟩ = some (.slice A1_1 l1_1.length c1_1)) (ds := []) #[false, false, false, false, false, false, false, false, false, false, false, false, false] (by kernel_rfl) rfl rfl ⟨(blk_cell BK209.out 0).trans rfl, (blk_cell BK209.out 1).trans rfl, (blk_cell BK210.out 0).trans rfl, (blk_cell BK210.out 1).trans rfl⟩ (fun hHeld => ?_); refine with_tabW impl_JoinCalendars.tab1 impl_JoinCalendars.bits1 (fun HT_ HW_ => ?_)
  generalize w13.drew = w14 at BK209 BK210 BK211 HB hHeld ⊢
  refine pure_ (i := 0) (N := some 7) (v := ?_) (a' := ?_) #[true, false, false, false, false, false, false, false, false, false, false, false, false] rfl rfl (any_of HT_.out (by kernel_rfl)) (fun _ _ _ h => h) (Or.inl ⟨by rfl, ?_⟩) ?_ ?_
  rotate_left
  ·
   intro w'
   go_simp
   with_reducible rfl
  rotate_left
  ·
   simp only [Own.ps]
   rfl
  refine pure_ (i := 2) (N := some 9) (v := ?_) (a' := ?_) #[true, false, true, false, false, false, false, false, false, false, false, false, false] rfl rfl (any_of HT_.out (by kernel_rfl)) (fun _ _ _ h => h) (Or.inl ⟨by rfl, ?_⟩) ?_ ?_
  rotate_left
  ·
   intro w'
   go_simp
   with_reducible rfl
  rotate_left
  ·
   simp only [Own.ps]
   rfl
  refine pure_ (i := 5) (N := some 12) (v := ?_) (a' := ?_) #[true, false, true, false, false, true, false, false, false, false, false, false, false] rfl rfl (any_of HT_.out (by kernel_rfl)) (fun _ _ _ h => h) (Or.inl ⟨by rfl, ?_⟩) ?_ ?_
  rotate_left
  ·
   intro w'
   go_simp
   with_reducible rfl
  rotate_left
  ·
   simp only [Own.ps]
   rfl
  refine pure_ (i := 7) (N := some 14) (v := ?_) (a' := ?_) #[true, false, true, false, false, true, false, true, false, false, false, false, false] rfl rfl (any_of HT_.out (by kernel_rfl)) (fun _ _ _ h => h) (Or.inl ⟨by rfl, ?_⟩) ?_ ?_
  rotate_left
  ·
   intro w'
   go_simp
   with_reducible rfl
  rotate_left
  ·
   simp only [Own.ps]
   rfl
  refine take_ (i := 1) (N := some 8) (v := ?_) (a' := ?_) #[true, true, true, false, false, true, false, true, false, false, false, false, false] rfl rfl (take_ofW HT_.out HW_.out (by kernel_rfl)) (fun _ _ _ h => h) (Or.inl ⟨by rfl, ?_⟩) hHeld ?_ ?_
  rotate_left
  ·
   rintro w' ⟨s0, s1, s2, s3⟩
   go_simp
   with_reducible rfl
  rotate_left
  ·
   simp only [Own.ps]
   rfl
  refine take_ (i := 3) (N := some 10) (v := ?_) (a' := ?_) #[true, true, true, true, false, true, false, true, false, false, false, false, false] rfl rfl (take_ofW HT_.out HW_.out (by kernel_rfl)) (fun _ _ _ h => h) (Or.inl ⟨by rfl, ?_⟩) hHeld ?_ ?_
  rotate_left
  ·
   rintro w' ⟨s0, s1, s2, s3⟩
   go_simp
   with_reducible rfl
  rotate_left
  ·
   simp only [Own.ps]
   rfl
  refine take_ (i := 6) (N := some 13) (v := ?_) (a' := ?_) #[true, true, true, true, false, true, true, true, false, false, false, false, false] rfl rfl (take_ofW HT_.out HW_.out (by kernel_rfl)) (fun _ _ _ h => h) (Or.inl ⟨by rfl, ?_⟩) hHeld ?_ ?_
  rotate_left
  ·
   rintro w' ⟨s0, s1, s2, s3⟩
   go_simp
   with_reducible rfl
  rotate_left
  ·
   simp only [Own.ps]
   rfl
  refine take_ (i := 8) (N := some 15) (v := ?_) (a' := ?_) #[true, true, true, true, false, true, true, true, true, false, false, false, false] rfl rfl (take_ofW HT_.out HW_.out (by kernel_rfl)) (fun _ _ _ h => h) (Or.inl ⟨by rfl, ?_⟩) hHeld ?_ ?_
  rotate_left
  ·
   rintro w' ⟨s0, s1, s2, s3⟩
   go_simp
   with_reducible rfl
  rotate_left
  ·
   simp only [Own.ps]
   rfl
  refine join_ (σ := Value × Value × Nat) 1 #[true, true, true, true, true, true, true, true, true, true, true, true, false] (fun s_ => [(11, s_.1), (16, s_.2.1), (6, .pointer (some ⟨s_.2.2, 0, none⟩)), (17, .agg #[s_.1, s_.2.1])]) (fun s_ w' => (w'.cell? ⟨gb209, 0, none⟩ = some (.slice A0_0 l0_0.length c0_0) ∧ w'.cell? ⟨gb209, 1, none⟩ = some (.slice A0_1 l0_1.length c0_1) ∧ w'.cell? ⟨gb210, 0, none⟩ = some (.slice A1_0 l1_0.length c1_0) ∧ w'.cell? ⟨gb210, 1, none⟩ = some (.slice A1_1 l1_1.length c1_1)) ∧ (Kd.R (Kd.int .i64) 3 w' w.heap.size (fun k_ => some k_ ≠ (s_.2.1 : Value).ownBlock) s_.1 t212) ∧ (Kd.R (Kd.int .i64) 3 w' w.heap.size (fun k_ => some k_ ≠ (s_.1 : Value).ownBlock) s_.2.1 t215) ∧ (w'.heap[gb209]? = some (.cells #[.slice A0_0 l0_0.length c0_0, .slice A0_1 l0_1.length c0_1] 26 (0, 0))) ∧ (w'.heap[gb210]? = some (.cells #[.slice A1_0 l1_0.length c1_0, .slice A1_1 l1_1.length c1_1] 26 (0, 0))) ∧ (w'.heap[gb211]? = some (.cells #[.slice none 0 0, .slice none 0 0] 26 (0, 0))) ∧ (w'.heap[s_.2.2]? = some (.cells #[.slice none 0 0, .slice none 0 0] 26 (0, 0))) ∧ (w.heap.size ≤ s_.2.2) ∧ (w.heap.size ≤ s_.2.2) ∧ (gb209 ≠ s_.2.2) ∧ (s_.2.2 ≠ gb209) ∧ (gb210 ≠ s_.2.2) ∧ (s_.2.2 ≠ gb210) ∧ (gb211 ≠ s_.2.2) ∧ (s_.2.2 ≠ gb211) ∧ (Below w.heap.size w w')) ?_ ?_
  rotate_left
  ·
   intro hCont
   refine two_ (i := 4) (j := 11) (Ni := some 11) (Nj := some 6) #[true, true, true, true, true, true, true, true, true, false, false, false, false] #[true, true, true, true, false, true, true, true, true, false, false, true, false] rfl rfl rfl rfl (two_of HT_.out (by kernel_rfl)) (by decide) (by decide) (fun K hK => ?_) (fun K hK => ?_)
   ·
    skip
    refine goes_ Try.func32 (by kernel_rfl) rfl #[.slice A0_0 l0_0.length c0_0, .slice A1_0 l1_0.length c1_0] (by rfl) rfl rfl Own.ha ?_
    with_reducible refine (impl_united.calls _ _ l0_0 _ _ l1_0 t212 _ ?side1 ?side2 ?side3 ?side4 A3.out).mono ?_
    (case side1 => exact Kd.C_below HR0_0.out Own.bl)
    (case side2 => exact HC0_0.out)
    (case side3 => exact Kd.C_below HR1_0.out Own.bl)
    (case side4 => exact HC1_0.out)
    rintro e w15 ⟨v213, rfl, ho0, hb⟩
    refine ⟨_, rfl, ?_⟩
    have n0_ := Aside0.mk (Kd.R_lower ho0 (below_size Own.bl))
    have n1_ := Own.bb BK209.out hb
    have n2_ := Own.bb BK210.out hb
    have n3_ := Own.bb BK211.out hb
    have n4_ := Own.bs hb
    clear BK209
    clear BK210
    clear BK211
    clear HB
    have HO214 := n0_
    have BK209 := n1_
    have BK210 := n2_
    have BK211 := n3_
    have HB := n4_
    clear n0_ n1_ n2_ n3_ n4_
    (try clear hb)
    (try clear hb2)
    (try clear hk)
    (try clear hi)
    (try clear ho0)
    refine hK.out _ _ ⟨(blk_cell BK209.out 0).trans rfl, (blk_cell BK209.out 1).trans rfl, (blk_cell BK210.out 0).trans rfl, (blk_cell BK210.out 1).trans rfl⟩ (fun hHeld => ?_)
    clear hK K
    refine norm_ (a' := ?_) ?_ ?_
    rotate_left
    ·
     show Act.put _ (some 11) _ = _
     simp only [Own.ps]
     rfl
    refine two_ (i := 9) (j := 11) (Ni := some 16) (Nj := some 6) #[true, true, true, true, true, true, true, true, true, true, false, false, false] #[true, true, true, true, true, true, true, true, true, false, false, true, false] rfl rfl rfl rfl (two_of HT_.out (by kernel_rfl)) (by decide) (by decide) (fun K hK => ?_) (fun K hK => ?_)
    ·
     skip
     refine goes_ Try.func32 (by kernel_rfl) rfl #[.slice A0_1 l0_1.length c0_1, .slice A1_1 l1_1.length c1_1] (by rfl) rfl rfl Own.ha ?_
     with_reducible refine (impl_united.calls _ _ l0_1 _ _ l1_1 t215 _ ?side1 ?side2 ?side3 ?side4 A4.out).mono ?_
     (case side1 => exact Kd.C_below HR0_1.out Own.bl)
     (case side2 => exact HC0_1.out)
     (case side3 => exact Kd.C_below HR1_1.out Own.bl)
     (case side4 => exact HC1_1.out)
     rintro e w16 ⟨v216, rfl, ho0, hb⟩
     refine ⟨_, rfl, ?_⟩
     have n0_ := Aside0.mk (Kd.R_elder' (Own.rd HO214.out) (Kd.R_base ho0) hb)
     have n1_ := Aside0.mk (Kd.R_lower (Kd.R_new' ho0 (Kd.R_lt (Own.rd HO214.out))) (below_size Own.bl))
     have n2_ := Own.bb BK209.out hb
     have n3_ := Own.bb BK210.out hb
     have n4_ := Own.bb BK211.out hb
     have n5_ := Own.bs hb
     clear HO214
     clear BK209
     clear BK210
     clear BK211
     clear HB
     have HO214 := n0_
     have HO217 := n1_
     have BK209 := n2_
     have BK210 := n3_
     have BK211 := n4_
     have HB := n5_
     clear n0_ n1_ n2_ n3_ n4_ n5_
     (try clear hb)
     (try clear hb2)
     (try clear hk)
     (try clear hi)
     (try clear ho0)
     obtain ⟨Ao17, co17, eo17⟩ := Kd.R_slice HO217.out
     (first | subst eo17 | (injection eo17 with f1_ f2_ f3_; have f4_ := f1_.symm; have f5_ := f3_.symm; clear f1_ f2_ f3_; subst f4_; subst f5_))
     obtain ⟨Ao18, co18, eo18⟩ := Kd.R_slice HO214.out
     (first | subst eo18 | (injection eo18 with f1_ f2_ f3_; have f4_ := f1_.symm; have f5_ := f3_.symm; clear f1_ f2_ f3_; subst f4_; subst f5_))
     refine hK.out _ _ ⟨(blk_cell BK209.out 0).trans rfl, (blk_cell BK209.out 1).trans rfl, (blk_cell BK210.out 0).trans rfl, (blk_cell BK210.out 1).trans rfl⟩ (fun hHeld => ?_)
     clear hK K
     refine norm_ (a' := ?_) ?_ ?_
     rotate_left
     ·
      show Act.put _ (some 16) _ = _
      simp only [Own.ps]
      rfl
     refine pure_ (i := 10) (N := some 17) (v := ?_) (a' := ?_) #[true, true, true, true, true, true, true, true, true, true, true, false, false] rfl rfl (any_of HT_.out (by kernel_rfl)) (fun _ _ _ h => h) (Or.inl ⟨by rfl, ?_⟩) ?_ ?_
     rotate_left
     ·
      intro w'
      go_simp
      with_reducible rfl
     rotate_left
     ·
      simp only [Own.ps]
      rfl
     refine one_ (i := 11) (N := some 6) #[true, true, true, true, true, true, true, true, true, true, true, true, false] rfl rfl (one_of HT_.out (by kernel_rfl)) (by decide) (fun K hK => ?_)
     refine box_step ?hg (N := 6) ?hd (cs := #[.slice none 0 0, .slice none 0 0]) (t := 26) ?hr ?_; (case hd => rfl); (case hg => rfl); (case hr => first | (go_simp; done) | (go_simp; rfl))
     intro gb218 hg w19 hbox hb
     have n0_ := Aside0.mk (Kd.R_below (Own.rd HO214.out) hb)
     have n1_ := Aside0.mk (Kd.R_below (Own.rd HO217.out) hb)
     have n2_ := Own.bb BK209.out hb
     have n3_ := Own.bb BK210.out hb
     have n4_ := Own.bb BK211.out hb
     have n5_ := Own.bs hb
     have n6_ := Aside0.mk (hbox)
     have n7_ := (Own.gs hg : Aside0 (w.heap.size ≤ gb218))
     have n8_ := (Own.gs hg : Aside0 (w.heap.size ≤ gb218))
     have n9_ := Own.nl hg BK209.out
     have n10_ := Aside0.mk ((by rw [hg]; exact Nat.ne_of_gt (blk_lt (Own.bkf BK209.out)) : gb218 ≠ gb209))
     have n11_ := Own.nl hg BK210.out
     have n12_ := Aside0.mk ((by rw [hg]; exact Nat.ne_of_gt (blk_lt (Own.bkf BK210.out)) : gb218 ≠ gb210))
     have n13_ := Own.nl hg BK211.out
     have n14_ := Aside0.mk ((by rw [hg]; exact Nat.ne_of_gt (blk_lt (Own.bkf BK211.out)) : gb218 ≠ gb211))
     clear HO214
     clear HO217
     clear BK209
     clear BK210
     clear BK211
     clear HB
     have HO214 := n0_
     have HO217 := n1_
     have BK209 := n2_
     have BK210 := n3_
     have BK211 := n4_
     have HB := n5_
     have BK218 := n6_
     have GW218 := n7_
     have GE218 := n8_
     have NB209_218 := n9_
     have NB218_209 := n10_
     have NB210_218 := n11_
     have NB218_210 := n12_
     have NB211_218 := n13_
     have NB218_211 := n14_
     clear n0_ n1_ n2_ n3_ n4_ n5_ n6_ n7_ n8_ n9_ n10_ n11_ n12_ n13_ n14_
     clear hb hbox hg
     refine hK.out _ _ ⟨(blk_cell BK209.out 0).trans rfl, (blk_cell BK209.out 1).trans rfl, (blk_cell BK210.out 0).trans rfl, (blk_cell BK210.out 1).trans rfl⟩ (fun hHeld => ?_)
     clear hK K
     refine norm_ (a' := ?_) ?_ ?_
     rotate_left
     ·
      show Act.put _ (some 6) _ = _
      simp only [Own.ps]
      rfl
     exact norm_ (by simp only [putAll, Act.put, List.setIfInBounds_toArray, List.set_cons_zero, List.set_cons_succ]) (hCont (.slice Ao18 t212.length co18, .slice Ao17 t215.length co17, gb218) _ ⟨hHeld, (by (with_reducible repeat (first | apply Kd.R_alloc | apply Kd.R_drewN | apply Kd.R_drew)); exact Kd.R_mono HO214.out (fun _ hk => hk.2)), (by (with_reducible repeat (first | apply Kd.R_alloc | apply Kd.R_drewN | apply Kd.R_drew)); exact Kd.R_mono HO217.out (fun _ hk => hk.2)), (by (with_reducible repeat (first | refine blk_drewN ?_ _ | refine blk_drew ?_ | refine blk_alloc ?_ _)); exact BK209.out), (by (with_reducible repeat (first | refine blk_drewN ?_ _ | refine blk_drew ?_ | refine blk_alloc ?_ _)); exact BK210.out), (by (with_reducible repeat (first | refine blk_drewN ?_ _ | refine blk_drew ?_ | refine blk_alloc ?_ _)); exact BK211.out), (by (with_reducible repeat (first | refine blk_drewN ?_ _ | refine blk_drew ?_ | refine blk_alloc ?_ _)); exact BK218.out), GW218.out, GE218.out, NB209_218.out, NB218_209.out, NB210_218.out, NB218_210.out, NB211_218.out, NB218_211.out, Own.bl⟩)
    ·
     skip
     refine box_step ?hg (N := 6) ?hd (cs := #[.slice none 0 0, .slice none 0 0]) (t := 26) ?hr ?_; (case hd => rfl); (case hg => rfl); (case hr => first | (go_simp; done) | (go_simp; rfl))
     intro gb218 hg w16 hbox hb
     have n0_ := Aside0.mk (Kd.R_below (Own.rd HO214.out) hb)
     have n1_ := Own.bb BK209.out hb
     have n2_ := Own.bb BK210.out hb
     have n3_ := Own.bb BK211.out hb
     have n4_ := Own.bs hb
     have n5_ := Aside0.mk (hbox)
     have n6_ := (Own.gs hg : Aside0 (w.heap.size ≤ gb218))
     have n7_ := (Own.gs hg : Aside0 (w.heap.size ≤ gb218))
     have n8_ := Own.nl hg BK209.out
     have n9_ := Aside0.mk ((by rw [hg]; exact Nat.ne_of_gt (blk_lt (Own.bkf BK209.out)) : gb218 ≠ gb209))
     have n10_ := Own.nl hg BK210.out
     have n11_ := Aside0.mk ((by rw [hg]; exact Nat.ne_of_gt (blk_lt (Own.bkf BK210.out)) : gb218 ≠ gb210))
     have n12_ := Own.nl hg BK211.out
     have n13_ := Aside0.mk ((by rw [hg]; exact Nat.ne_of_gt (blk_lt (Own.bkf BK211.out)) : gb218 ≠ gb211))
     clear HO214
     clear BK209
     clear BK210
     clear BK211
     clear HB
     have HO214 := n0_
     have BK209 := n1_
     have BK210 := n2_
     have BK211 := n3_
     have HB := n4_
     have BK218 := n5_
     have GW218 := n6_
     have GE218 := n7_
     have NB209_218 := n8_
     have NB218_209 := n9_
     have NB210_218 := n10_
     have NB218_210 := n11_
     have NB211_218 := n12_
     have NB218_211 := n13_
     clear n0_ n1_ n2_ n3_ n4_ n5_ n6_ n7_ n8_ n9_ n10_ n11_ n12_ n13_
     clear hb hbox hg
     refine hK.out _ _ ⟨(blk_cell BK209.out 0).trans rfl, (blk_cell BK209.out 1).trans rfl, (blk_cell BK210.out 0).trans rfl, (blk_cell BK210.out 1).trans rfl⟩ (fun hHeld => ?_)
     clear hK K
     refine norm_ (a' := ?_) ?_ ?_
     rotate_left
     ·
      show Act.put _ (some 6) _ = _
      simp only [Own.ps]
      rfl
     refine one_ (i := 9) (N := some 16) #[true, true, true, true, true, true, true, true, true, true, false, true, false] rfl rfl (one_of HT_.out (by kernel_rfl)) (by decide) (fun K hK => ?_)
     refine goes_ Try.func32 (by kernel_rfl) rfl #[.slice A0_1 l0_1.length c0_1, .slice A1_1 l1_1.length c1_1] (by rfl) rfl rfl Own.ha ?_
     with_reducible refine (impl_united.calls _ _ l0_1 _ _ l1_1 t215 _ ?side1 ?side2 ?side3 ?side4 A4.out).mono ?_
     (case side1 => exact Kd.C_below HR0_1.out Own.bl)
     (case side2 => exact HC0_1.out)
     (case side3 => exact Kd.C_below HR1_1.out Own.bl)
     (case side4 => exact HC1_1.out)
     rintro e w17 ⟨v216, rfl, ho0, hb⟩
     refine ⟨_, rfl, ?_⟩
     have n0_ := Aside0.mk (Kd.R_elder' (Own.rd HO214.out) (Kd.R_base ho0) hb)
     have n1_ := Aside0.mk (Kd.R_lower (Kd.R_new' ho0 (Kd.R_lt (Own.rd HO214.out))) (below_size Own.bl))
     have n2_ := Own.bb BK209.out hb
     have n3_ := Own.bb BK210.out hb
     have n4_ := Own.bb BK211.out hb
     have n5_ := Own.bb BK218.out hb
     have n6_ := Own.bs hb
     clear HO214
     clear BK209
     clear BK210
     clear BK211
     clear BK218
     clear HB
     have HO214 := n0_
     have HO217 := n1_
     have BK209 := n2_
     have BK210 := n3_
     have BK211 := n4_
     have BK218 := n5_
     have HB := n6_
     clear n0_ n1_ n2_ n3_ n4_ n5_ n6_
     (try clear hb)
     (try clear hb2)
     (try clear hk)
     (try clear hi)
     (try clear ho0)
     obtain ⟨Ao18, co18, eo18⟩ := Kd.R_slice HO217.out
     (first | subst eo18 | (injection eo18 with f1_ f2_ f3_; have f4_ := f1_.symm; have f5_ := f3_.symm; clear f1_ f2_ f3_; subst f4_; subst f5_))
     obtain ⟨Ao19, co19, eo19⟩ := Kd.R_slice HO214.out
     (first | subst eo19 | (injection eo19 with f1_ f2_ f3_; have f4_ := f1_.symm; have f5_ := f3_.symm; clear f1_ f2_ f3_; subst f4_; subst f5_))
     refine hK.out _ _ ⟨(blk_cell BK209.out 0).trans rfl, (blk_cell BK209.out 1).trans rfl, (blk_cell BK210.out 0).trans rfl, (blk_cell BK210.out 1).trans rfl⟩ (fun hHeld => ?_)
     clear hK K
     refine norm_ (a' := ?_) ?_ ?_
     rotate_left
     ·
      show Act.put _ (some 16) _ = _
      simp only [Own.ps]
      rfl
     refine pure_ (i := 10) (N := some 17) (v := ?_) (a' := ?_) #[true, true, true, true, true, true, true, true, true, true, true, true, false] rfl rfl (any_of HT_.out (by kernel_rfl)) (fun _ _ _ h => h) (Or.inl ⟨by rfl, ?_⟩) ?_ ?_
     rotate_left
     ·
      intro w'
      go_simp
      with_reducible rfl
     rotate_left
     ·
      simp only [Own.ps]
      rfl
     exact norm_ (by simp only [putAll, Act.put, List.setIfInBounds_toArray, List.set_cons_zero, List.set_cons_succ]) (hCont (.slice Ao19 t212.length co19, .slice Ao18 t215.length co18, gb218) _ ⟨hHeld, (by (with_reducible repeat (first | apply Kd.R_alloc | apply Kd.R_drewN | apply Kd.R_drew)); exact Kd.R_mono HO214.out (fun _ hk => hk.2)), (by (with_reducible repeat (first | apply Kd.R_alloc | apply Kd.R_drewN | apply Kd.R_drew)); exact Kd.R_mono HO217.out (fun _ hk => hk.2)), (by (with_reducible repeat (first | refine blk_drewN ?_ _ | refine blk_drew ?_ | refine blk_alloc ?_ _)); exact BK209.out), (by (with_reducible repeat (first | refine blk_drewN ?_ _ | refine blk_drew ?_ | refine blk_alloc ?_ _)); exact BK210.out), (by (with_reducible repeat (first | refine blk_drewN ?_ _ | refine blk_drew ?_ | refine blk_alloc ?_ _)); exact BK211.out), (by (with_reducible repeat (first | refine blk_drewN ?_ _ | refine blk_drew ?_ | refine blk_alloc ?_ _)); exact BK218.out), GW218.out, GE218.out, NB209_218.out, NB218_209.out, NB210_218.out, NB218_210.out, NB211_218.out, NB218_211.out, Own.bl⟩)
   ·
    skip
    refine box_step ?hg (N := 6) ?hd (cs := #[.slice none 0 0, .slice none 0 0]) (t := 26) ?hr ?_; (case hd => rfl); (case hg => rfl); (case hr => first | (go_simp; done) | (go_simp; rfl))
    intro gb218 hg w15 hbox hb
    have n0_ := Own.bb BK209.out hb
    have n1_ := Own.bb BK210.out hb
    have n2_ := Own.bb BK211.out hb
    have n3_ := Own.bs hb
    have n4_ := Aside0.mk (hbox)
    have n5_ := (Own.gs hg : Aside0 (w.heap.size ≤ gb218))
    have n6_ := (Own.gs hg : Aside0 (w.heap.size ≤ gb218))
    have n7_ := Own.nl hg BK209.out
    have n8_ := Aside0.mk ((by rw [hg]; exact Nat.ne_of_gt (blk_lt (Own.bkf BK209.out)) : gb218 ≠ gb209))
    have n9_ := Own.nl hg BK210.out
    have n10_ := Aside0.mk ((by rw [hg]; exact Nat.ne_of_gt (blk_lt (Own.bkf BK210.out)) : gb218 ≠ gb210))
    have n11_ := Own.nl hg BK211.out
    have n12_ := Aside0.mk ((by rw [hg]; exact Nat.ne_of_gt (blk_lt (Own.bkf BK211.out)) : gb218 ≠ gb211))
    clear BK209
    clear BK210
    clear BK211
    clear HB
    have BK209 := n0_
    have BK210 := n1_
    have BK211 := n2_
    have HB := n3_
    have BK218 := n4_
    have GW218 := n5_
    have GE218 := n6_
    have NB209_218 := n7_
    have NB218_209 := n8_
    have NB210_218 := n9_
    have NB218_210 := n10_
    have NB211_218 := n11_
    have NB218_211 := n12_
    clear n0_ n1_ n2_ n3_ n4_ n5_ n6_ n7_ n8_ n9_ n10_ n11_ n12_
    clear hb hbox hg
    refine hK.out _ _ ⟨(blk_cell BK209.out 0).trans rfl, (blk_cell BK209.out 1).trans rfl, (blk_cell BK210.out 0).trans rfl, (blk_cell BK210.out 1).trans rfl⟩ (fun hHeld => ?_)
    clear hK K
    refine norm_ (a' := ?_) ?_ ?_
    rotate_left
    ·
     show Act.put _ (some 6) _ = _
     simp only [Own.ps]
     rfl
    refine one_ (i := 4) (N := some 11) #[true, true, true, true, true, true, true, true, true, false, false, true, false] rfl rfl (one_of HT_.out (by kernel_rfl)) (by decide) (fun K hK => ?_)
    refine goes_ Try.func32 (by kernel_rfl) rfl #[.slice A0_0 l0_0.length c0_0, .slice A1_0 l1_0.length c1_0] (by rfl) rfl rfl Own.ha ?_
    with_reducible refine (impl_united.calls _ _ l0_0 _ _ l1_0 t212 _ ?side1 ?side2 ?side3 ?side4 A3.out).mono ?_
    (case side1 => exact Kd.C_below HR0_0.out Own.bl)
    (case side2 => exact HC0_0.out)
    (case side3 => exact Kd.C_below HR1_0.out Own.bl)
    (case side4 => exact HC1_0.out)
    rintro e w16 ⟨v213, rfl, ho0, hb⟩
    refine ⟨_, rfl, ?_⟩
    have n0_ := Aside0.mk (Kd.R_lower ho0 (below_size Own.bl))
    have n1_ := Own.bb BK209.out hb
    have n2_ := Own.bb BK210.out hb
    have n3_ := Own.bb BK211.out hb
    have n4_ := Own.bb BK218.out hb
    have n5_ := Own.bs hb
    clear BK209
    clear BK210
    clear BK211
    clear BK218
    clear HB
    have HO214 := n0_
    have BK209 := n1_
    have BK210 := n2_
    have BK211 := n3_
    have BK218 := n4_
    have HB := n5_
    clear n0_ n1_ n2_ n3_ n4_ n5_
    (try clear hb)
    (try clear hb2)
    (try clear hk)
    (try clear hi)
    (try clear ho0)
    refine hK.out _ _ ⟨(blk_cell BK209.out 0).trans rfl, (blk_cell BK209.out 1).trans rfl, (blk_cell BK210.out 0).trans rfl, (blk_cell BK210.out 1).trans rfl⟩ (fun hHeld => ?_)
    clear hK K
    refine norm_ (a' := ?_) ?_ ?_
    rotate_left
    ·
     show Act.put _ (some 11) _ = _
     simp only [Own.ps]
     rfl
    refine one_ (i := 9) (N := some 16) #[true, true, true, true, true, true, true, true, true, true, false, true, false] rfl rfl (one_of HT_.out (by kernel_rfl)) (by decide) (fun K hK => ?_)
    refine goes_ Try.func32 (by kernel_rfl) rfl #[.slice A0_1 l0_1.length c0_1, .slice A1_1 l1_1.length c1_1] (by rfl) rfl rfl Own.ha ?_
    with_reducible refine (impl_united.calls _ _ l0_1 _ _ l1_1 t215 _ ?side1 ?side2 ?side3 ?side4 A4.out).mono ?_
    (case side1 => exact Kd.C_below HR0_1.out Own.bl)
    (case side2 => exact HC0_1.out)
    (case side3 => exact Kd.C_below HR1_1.out Own.bl)
    (case side4 => exact HC1_1.out)
    rintro e w17 ⟨v216, rfl, ho0, hb⟩
    refine ⟨_, rfl, ?_⟩
    have n0_ := Aside0.mk (Kd.R_elder' (Own.rd HO214.out) (Kd.R_base ho0) hb)
    have n1_ := Aside0.mk (Kd.R_lower (Kd.R_new' ho0 (Kd.R_lt (Own.rd HO214.out))) (below_size Own.bl))
    have n2_ := Own.bb BK209.out hb
    have n3_ := Own.bb BK210.out hb
    have n4_ := Own.bb BK211.out hb
    have n5_ := Own.bb BK218.out hb
    have n6_ := Own.bs hb
    clear HO214
    clear BK209
    clear BK210
    clear BK211
    clear BK218
    clear HB
    have HO214 := n0_
    have HO217 := n1_
    have BK209 := n2_
    have BK210 := n3_
    have BK211 := n4_
    have BK218 := n5_
    have HB := n6_
    clear n0_ n1_ n2_ n3_ n4_ n5_ n6_
    (try clear hb)
    (try clear hb2)
    (try clear hk)
    (try clear hi)
    (try clear ho0)
    obtain ⟨Ao18, co18, eo18⟩ := Kd.R_slice HO217.out
    (first | subst eo18 | (injection eo18 with f1_ f2_ f3_; have f4_ := f1_.symm; have f5_ := f3_.symm; clear f1_ f2_ f3_; subst f4_; subst f5_))
    obtain ⟨Ao19, co19, eo19⟩ := Kd.R_slice HO214.out
    (first | subst eo19 | (injection eo19 with f1_ f2_ f3_; have f4_ := f1_.symm; have f5_ := f3_.symm; clear f1_ f2_ f3_; subst f4_; subst f5_))
    refine hK.out _ _ ⟨(blk_cell BK209.out 0).trans rfl, (blk_cell BK209.out 1).trans rfl, (blk_cell BK210.out 0).trans rfl, (blk_cell BK210.out 1).trans rfl⟩ (fun hHeld => ?_)
    clear hK K
    refine norm_ (a' := ?_) ?_ ?_
    rotate_left
    ·
     show Act.put _ (some 16) _ = _
     simp only [Own.ps]
     rfl
    refine pure_ (i := 10) (N := some 17) (v := ?_) (a' := ?_) #[true, true, true, true, true, true, true, true, true, true, true, true, false] rfl rfl (any_of HT_.out (by kernel_rfl)) (fun _ _ _ h => h) (Or.inl ⟨by rfl, ?_⟩) ?_ ?_
    rotate_left
    ·
     intro w'
     go_simp
     with_reducible rfl
    rotate_left
    ·
     simp only [Own.ps]
     rfl
    exact norm_ (by simp only [putAll, Act.put, List.setIfInBounds_toArray, List.set_cons_zero, List.set_cons_succ]) (hCont (.slice Ao19 t212.length co19, .slice Ao18 t215.length co18, gb218) _ ⟨hHeld, (by (with_reducible repeat (first | apply Kd.R_alloc | apply Kd.R_drewN | apply Kd.R_drew)); exact Kd.R_mono HO214.out (fun _ hk => hk.2)), (by (with_reducible repeat (first | apply Kd.R_alloc | apply Kd.R_drewN | apply Kd.R_drew)); exact Kd.R_mono HO217.out (fun _ hk => hk.2)), (by (with_reducible repeat (first | refine blk_drewN ?_ _ | refine blk_drew ?_ | refine blk_alloc ?_ _)); exact BK209.out), (by (with_reducible repeat (first | refine blk_drewN ?_ _ | refine blk_drew ?_ | refine blk_alloc ?_ _)); exact BK210.out), (by (with_reducible repeat (first | refine blk_drewN ?_ _ | refine blk_drew ?_ | refine blk_alloc ?_ _)); exact BK211.out), (by (with_reducible repeat (first | refine blk_drewN ?_ _ | refine blk_drew ?_ | refine blk_alloc ?_ _)); exact BK218.out), GW218.out, GE218.out, NB209_218.out, NB218_209.out, NB210_218.out, NB218_210.out, NB211_218.out, NB218_211.out, Own.bl⟩)
  rintro ⟨v213, v216, gb218⟩ w20 ⟨hS_, h0_, h1_, h2_, h3_, h4_, h5_, h6_, h7_, h8_, h9_, h10_, h11_, h12_, h13_, h14_⟩
  have n0_ : Aside0 (Kd.R (Kd.int .i64) 3 w20 w.heap.size (fun k_ => some k_ ≠ (v216 : Value).ownBlock) v213 t212) := ⟨h0_⟩
  have n1_ : Aside0 (Kd.R (Kd.int .i64) 3 w20 w.heap.size (fun k_ => some k_ ≠ (v213 : Value).ownBlock) v216 t215) := ⟨h1_⟩
  have n2_ : Aside0 (w20.heap[gb209]? = some (.cells #[.slice A0_0 l0_0.length c0_0, .slice A0_1 l0_1.length c0_1] 26 (0, 0))) := ⟨h2_⟩
  have n3_ : Aside0 (w20.heap[gb210]? = some (.cells #[.slice A1_0 l1_0.length c1_0, .slice A1_1 l1_1.length c1_1] 26 (0, 0))) := ⟨h3_⟩
  have n4_ : Aside0 (w20.heap[gb211]? = some (.cells #[.slice none 0 0, .slice none 0 0] 26 (0, 0))) := ⟨h4_⟩
  have n5_ : Aside0 (w20.heap[gb218]? = some (.cells #[.slice none 0 0, .slice none 0 0] 26 (0, 0))) := ⟨h5_⟩
  have n6_ : Aside0 (w.heap.size ≤ gb218) := ⟨h6_⟩
  have n7_ : Aside0 (w.heap.size ≤ gb218) := ⟨h7_⟩
  have n8_ : Aside0 (gb209 ≠ gb218) := ⟨h8_⟩
  have n9_ : Aside0 (gb218 ≠ gb209) := ⟨h9_⟩
  have n10_ : Aside0 (gb210 ≠ gb218) := ⟨h10_⟩
  have n11_ : Aside0 (gb218 ≠ gb210) := ⟨h11_⟩
  have n12_ : Aside0 (gb211 ≠ gb218) := ⟨h12_⟩
  have n13_ : Aside0 (gb218 ≠ gb211) := ⟨h13_⟩
  have n14_ : Aside0 (Below w.heap.size w w20) := ⟨h14_⟩
  clear BK209
  clear BK210
  clear BK211
  clear HB
  clear h0_ h1_ h2_ h3_ h4_ h5_ h6_ h7_ h8_ h9_ h10_ h11_ h12_ h13_ h14_
  have HO214 := n0_
  have HO217 := n1_
  have BK209 := n2_
  have BK210 := n3_
  have BK211 := n4_
  have BK218 := n5_
  have GW218 := n6_
  have GE218 := n7_
  have NB209_218 := n8_
  have NB218_209 := n9_
  have NB210_218 := n10_
  have NB218_210 := n11_
  have NB211_218 := n12_
  have NB218_211 := n13_
  have HB := n14_
  clear n0_ n1_ n2_ n3_ n4_ n5_ n6_ n7_ n8_ n9_ n10_ n11_ n12_ n13_ n14_
  have hHeld : w20.cell? ⟨gb209, 0, none⟩ = some (.slice A0_0 l0_0.length c0_0) ∧ w20.cell? ⟨gb209, 1, none⟩ = some (.slice A0_1 l0_1.length c0_1) ∧ w20.cell? ⟨gb210, 0, none⟩ = some (.slice A1_0 l1_0.length c1_0) ∧ w20.cell? ⟨gb210, 1, none⟩ = some (.slice A1_1 l1_1.length c1_1) := hS_
  obtain ⟨Ao21, co21, eo21⟩ := Kd.R_slice HO217.out
  (first | subst eo21 | (injection eo21 with f1_ f2_ f3_; have f4_ := f1_.symm; have f5_ := f3_.symm; clear f1_ f2_ f3_; subst f4_; subst f5_))
  obtain ⟨Ao22, co22, eo22⟩ := Kd.R_slice HO214.out
  (first | subst eo22 | (injection eo22 with f1_ f2_ f3_; have f4_ := f1_.symm; have f5_ := f3_.symm; clear f1_ f2_ f3_; subst f4_; subst f5_))
  refine norm_ (a' := ?_) ?_ ?_
  rotate_left
  ·
   simp only [putAll, Act.put, List.setIfInBounds_toArray, List.set_cons_zero, List.set_cons_succ]
   rfl
  refine one_ (i := 12) (N := none) #[true, true, true, true, true, true, true, true, true, true, true, true, true] rfl rfl (one_of HT_.out (by kernel_rfl)) (by decide) (fun K hK => ?_)
  have hs23 : w20.cell? ⟨gb218, 0, none⟩ = some (.slice none 0 0) := (blk_cell BK218.out 0).trans rfl
  have hfs23 := blk_frozen BK218.out 0
  have hns23_0 := NB209_218.out
  have hns23_1 := NB210_218.out
  have hns23_2 := NB211_218.out
  have hms23_0 := NB218_209.out
  have hms23_1 := NB218_210.out
  have hms23_2 := NB218_211.out
  have hs24 : w20.cell? ⟨gb218, 1, none⟩ = some (.slice none 0 0) := (blk_cell BK218.out 1).trans rfl
  have hfs24 := blk_frozen BK218.out 1
  have hns24_0 := NB209_218.out
  have hns24_1 := NB210_218.out
  have hns24_2 := NB211_218.out
  have hms24_0 := NB218_209.out
  have hms24_1 := NB218_210.out
  have hms24_2 := NB218_211.out
  refine skip_ (w1 := ?_) (by rfl) rfl ?_ ?_
  rotate_left
  ·
   go_simp
   rfl
  refine hK.out _ _ ⟨((cell_far (p := ⟨gb218, _, none⟩) NB209_218.out _).trans (((cell_far (p := ⟨gb218, _, none⟩) NB209_218.out _).trans (hHeld.1)))), ((cell_far (p := ⟨gb218, _, none⟩) NB209_218.out _).trans (((cell_far (p := ⟨gb218, _, none⟩) NB209_218.out _).trans (hHeld.2.1)))), ((cell_far (p := ⟨gb218, _, none⟩) NB210_218.out _).trans (((cell_far (p := ⟨gb218, _, none⟩) NB210_218.out _).trans (hHeld.2.2.1)))), ((cell_far (p := ⟨gb218, _, none⟩) NB210_218.out _).trans (((cell_far (p := ⟨gb218, _, none⟩) NB210_218.out _).trans (hHeld.2.2.2))))⟩ (fun hHeld => ?_)
  clear hK K
  refine done_ (done_of HT_.out (by kernel_rfl)) ?_
  have hnb25 := NB209_210.out
  have hnc25 := NB210_209.out
  have hnb26 := NB209_211.out
  have hnc26 := NB211_209.out
  have hnb27 := NB209_218.out
  have hnc27 := NB218_209.out
  obtain ⟨z28_0, z28_1, y28_0, y28_1⟩ := Own.box2 BK209.out
  try go_wp2_with (first | ((with_reducible refine gate_callee (f := 20) rfl ?_); refine goesL_ (some 19) rfl rfl Try.func20 (by kernel_rfl) rfl #[.agg #[.slice A0_0 l0_0.length c0_0, .slice A0_1 l0_1.length c0_1]] rfl Own.ha ?_; (with_reducible refine (impl_IsValidCalendar.calls k _ _ l0_0 _ _ l0_1 true _ ?side1 ?side2 ?side3 ?side4 A5.out).mono ?_); (case side1 => exact Kd.C_below HR0_0.out Own.bl); (case side2 => exact HC0_0.out); (case side3 => exact Kd.C_below HR0_1.out Own.bl); (case side4 => exact HC0_1.out); rintro e w29 ⟨rfl, hb⟩; refine ⟨_, rfl, ?_⟩; replace HO214 := Aside0.mk (Kd.R_below (by (with_reducible repeat (first | apply Kd.R_alloc | apply Kd.R_drewN | apply Kd.R_drew)); exact (Kd.R_mono (Kd.R_far (p := ⟨gb218, 1, none⟩) (Kd.R_far (p := ⟨gb218, 0, none⟩) (Kd.R_types HO214.out BK218.out (by decide)) (fun _ hk => hk.2) (.slice Ao22 t212.length co22)) (fun _ hk => hk.2) (.slice Ao21 t215.length co21)) (fun _ h_ => h_.1))) hb); replace HO217 := Aside0.mk (Kd.R_below (by (with_reducible repeat (first | apply Kd.R_alloc | apply Kd.R_drewN | apply Kd.R_drew)); exact (Kd.R_mono (Kd.R_far (p := ⟨gb218, 1, none⟩) (Kd.R_far (p := ⟨gb218, 0, none⟩) (Kd.R_types HO217.out BK218.out (by decide)) (fun _ hk => hk.2) (.slice Ao22 t212.length co22)) (fun _ hk => hk.2) (.slice Ao21 t215.length co21)) (fun _ h_ => h_.1))) hb); replace BK209 := Own.bb BK209.out hb; replace BK210 := Own.bb BK210.out hb; replace BK211 := Own.bb BK211.out hb; replace BK218 := Aside0.mk (blk_below (g := gb218) (o := .cells #[.slice Ao22 t212.length co22, .slice Ao21 t215.length co21] 26 (0, 0)) (by (with_reducible repeat (first | refine blk_drewN ?_ _ | refine blk_drew ?_ | refine blk_alloc ?_ _)); with_reducible exact Own.put2 BK218.out) hb); replace HB := Own.bs hb; (try clear hb); (try clear hk); have hnb30 := NB210_211.out; have hnc30 := NB211_210.out; have hnb31 := NB210_218.out; have hnc31 := NB218_210.out; obtain ⟨z32_0, z32_1, y32_0, y32_1⟩ := Own.box2 BK210.out) | (go_at_call 20; (with_reducible refine (impl_IsValidCalendar.calls k _ _ l1_0 _ _ l1_1 true _ ?side1 ?side2 ?side3 ?side4 A7.out).mono ?_); (case side1 => exact Kd.C_below HR1_0.out Own.bl); (case side2 => exact HC1_0.out); (case side3 => exact Kd.C_below HR1_1.out Own.bl); (case side4 => exact HC1_1.out); rintro e w33 ⟨rfl, hb⟩; replace HO214 := Aside0.mk (Kd.R_below (Own.rd HO214.out) hb); replace HO217 := Aside0.mk (Kd.R_below (Own.rd HO217.out) hb); replace BK209 := Own.bb BK209.out hb; replace BK210 := Own.bb BK210.out hb; replace BK211 := Own.bb BK211.out hb; replace BK218 := Own.bb BK218.out hb; replace HB := Own.bs hb; (try clear hb); (try clear hk); have hnb34 := NB218_211.out; have hnc34 := NB211_218.out; obtain ⟨z35_0, z35_1, y35_0, y35_1⟩ := Own.box2 BK218.out) | (go_at_call 20; (with_reducible refine (impl_IsValidCalendar.calls k _ _ t212 _ _ t215 true _ ?side1 ?side2 ?side3 ?side4 A9.out).mono ?_); (case side1 => repeat (first | exact (Kd.R_reads' HO214.out).2.2 | (with_reducible refine Kd.C_alloc ?_ _) | (with_reducible refine Kd.C_drewN ?_ _) | (with_reducible refine Kd.C_drew ?_))); (case side2 => exact (Kd.R_reads' HO214.out).2.1); (case side3 => repeat (first | exact (Kd.R_reads' HO217.out).2.2 | (with_reducible refine Kd.C_alloc ?_ _) | (with_reducible refine Kd.C_drewN ?_ _) | (with_reducible refine Kd.C_drew ?_))); (case side4 => exact (Kd.R_reads' HO217.out).2.1); rintro e w36 ⟨rfl, hb⟩; replace HO214 := Aside0.mk (Kd.R_below (Own.rd HO214.out) hb); replace HO217 := Aside0.mk (Kd.R_below (Own.rd HO217.out) hb); replace BK209 := Own.bb BK209.out hb; replace BK210 := Own.bb BK210.out hb; replace BK211 := Own.bb BK211.out hb; replace BK218 := Own.bb BK218.out hb; replace HB := Own.bs hb; (try clear hb); (try clear hk); obtain ⟨z37_0, z37_1, y37_0, y37_1⟩ := Own.box2 BK218.out; obtain ⟨z38_0, z38_1, y38_0, y38_1⟩ := Own.box2 BK211.out))
  refine bodyPost_ret (results_ct rfl _ _ gb211 26 #[.slice Ao22 t212.length co22, .slice Ao21 t215.length co21] (0, 0) _ rfl (by (with_reducible repeat (first | refine blk_drewN ?_ _ | refine blk_drew ?_ | refine blk_alloc ?_ _)); with_reducible exact Own.put2 BK211.out) Try.underlying26 rfl (by kernel_rfl)) rfl ?_
  exact ⟨_, _, Own.rr, by (with_reducible repeat (first | apply Kd.R_alloc | apply Kd.R_drewN | apply Kd.R_drew)); exact Kd.R_mono (Kd.R_far (p := ⟨gb211, 1, none⟩) (Kd.R_far (p := ⟨gb211, 0, none⟩) (Kd.R_types HO214.out BK211.out (by decide)) (fun _ hk => hk.2) (.slice Ao22 t212.length co22)) (fun _ hk => hk.2) (.slice Ao21 t215.length co21)) (fun _ hk => hk.1), by (with_reducible repeat (first | apply Kd.R_alloc | apply Kd.R_drewN | apply Kd.R_drew)); exact Kd.R_mono (Kd.R_far (p := ⟨gb211, 1, none⟩) (Kd.R_far (p := ⟨gb211, 0, none⟩) (Kd.R_types HO217.out BK211.out (by decide)) (fun _ hk => hk.2) (.slice Ao22 t212.length co22)) (fun _ hk => hk.2) (.slice Ao21 t215.length co21)) (fun _ hk => hk.1), Own.bl⟩
 simp only [Option.some.injEq, Prod.mk.injEq] at H
 obtain ⟨rfl, rfl, rfl⟩ := H
 go_enter Try.func14, Try.ntmps14
 try go_wp2_with (first | ((with_reducible refine gate_dst (N := 2) rfl ?_); refine Own.be (N := 2) (cs := #[.slice A0_0 l0_0.length c0_0, .slice A0_1 l0_1.length c0_1]) (t := 26) ?_; intro gb209 hg w39 hbox hb; have BK209 := Aside0.mk hbox; have GW209 := (Own.gs hg : Aside0 (w.heap.size ≤ gb209)); have GE209 := GW209; replace HB := Own.bs hb; clear hb hbox hg) | ((with_reducible refine gate_dst (N := 3) rfl ?_); refine Own.be (N := 3) (cs := #[.slice A1_0 l1_0.length c1_0, .slice A1_1 l1_1.length c1_1]) (t := 26) ?_; intro gb210 hg w40 hbox hb; have BK210 := Aside0.mk hbox; have GW210 := (Own.gs hg : Aside0 (w.heap.size ≤ gb210)); have GE210 := GW210; have NB209_210 := Own.nl hg BK209.out; have NB210_209 := Aside0.mk NB209_210.out.symm; replace BK209 := Own.bb BK209.out hb; replace HB := Own.bs hb; clear hb hbox hg) | ((with_reducible refine gate_dst (N := 4) rfl ?_); refine Own.be (N := 4) (cs := #[.slice none 0 0, .slice none 0 0]) (t := 26) ?_; intro gb211 hg w41 hbox hb; have BK211 := Aside0.mk hbox; have GW211 := (Own.gs hg : Aside0 (w.heap.size ≤ gb211)); have GE211 := GW211; have NB209_211 := Own.nl hg BK209.out; have NB211_209 := Aside0.mk NB209_211.out.symm; have NB210_211 := Own.nl hg BK210.out; have NB211_210 := Aside0.mk NB210_211.out.symm; replace BK209 := Own.bb BK209.out hb; replace BK210 := Own.bb BK210.out hb; replace HB := Own.bs hb; clear hb hbox hg))
 have n0_ := Aside0.mk (blk_drew BK209.out)
 have n1_ := Aside0.mk (blk_drew BK210.out)
 have n2_ := Aside0.mk (blk_drew BK211.out)
 have n3_ := Aside0.mk (below_drew1 HB.out)
 clear BK209
 clear BK210
 clear BK211
 clear HB
 have BK209 := n0_
 have BK210 := n1_
 have BK211 := n2_
 have HB := n3_
 clear n0_ n1_ n2_ n3_
 refine start_ (n := 13) (S := fun w' => w'.cell? ⟨gb209, 0, none⟩ = some (.slice A0_0 l0_0.length c0_0) ∧ w'.cell? ⟨gb209, 1, none⟩ = some (.slice A0_1 l0_1.length c0_1) ∧ w'.cell? ⟨gb210, 0, none⟩ = some (.slice A1_0 l1_0.length c1_0) ∧ w'.cell? ⟨gb210, 1, none⟩ = some (.slice A1_1 l1_1.length c1_1)) (ds := []) #[false, false, false, false, false, false, false, false, false, false, false, false, false] (by kernel_rfl) rfl rfl ⟨(blk_cell BK209.out 0).trans rfl, (blk_cell BK209.out 1).trans rfl, (blk_cell BK210.out 0).trans rfl, (blk_cell BK210.out 1).trans rfl⟩ (fun hHeld => ?_); refine with_tabW impl_JoinCalendars.tab1 impl_JoinCalendars.bits1 (fun HT_ HW_ => ?_)
 generalize w41.drew = w42 at BK209 BK210 BK211 HB hHeld ⊢
 refine pure_ (i := 0) (N := some 7) (v := ?_) (a' := ?_) #[true, false, false, false, false, false, false, false, false, false, false, false, false] rfl rfl (any_of HT_.out (by kernel_rfl)) (fun _ _ _ h => h) (Or.inl ⟨by rfl, ?_⟩) ?_ ?_
 rotate_left
 ·
  intro w'
  go_simp
  with_reducible rfl
 rotate_left
 ·
  simp only [Own.ps]
  rfl
 refine pure_ (i := 2) (N := some 9) (v := ?_) (a' := ?_) #[true, false, true, false, false, false, false, false, false, false, false, false, false] rfl rfl (any_of HT_.out (by kernel_rfl)) (fun _ _ _ h => h) (Or.inl ⟨by rfl, ?_⟩) ?_ ?_
 rotate_left
 ·
  intro w'
  go_simp
  with_reducible rfl
 rotate_left
 ·
  simp only [Own.ps]
  rfl
 refine pure_ (i := 5) (N := some 12) (v := ?_) (a' := ?_) #[true, false, true, false, false, true, false, false, false, false, false, false, false] rfl rfl (any_of HT_.out (by kernel_rfl)) (fun _ _ _ h => h) (Or.inl ⟨by rfl, ?_⟩) ?_ ?_
 rotate_left
 ·
  intro w'
  go_simp
  with_reducible rfl
 rotate_left
 ·
  simp only [Own.ps]
  rfl
 refine pure_ (i := 7) (N := some 14) (v := ?_) (a' := ?_) #[true, false, true, false, false, true, false, true, false, false, false, false, false] rfl rfl (any_of HT_.out (by kernel_rfl)) (fun _ _ _ h => h) (Or.inl ⟨by rfl, ?_⟩) ?_ ?_
 rotate_left
 ·
  intro w'
  go_simp
  with_reducible rfl
 rotate_left
 ·
  simp only [Own.ps]
  rfl
 refine take_ (i := 1) (N := some 8) (v := ?_) (a' := ?_) #[true, true, true, false, false, true, false, true, false, false, false, false, false] rfl rfl (take_ofW HT_.out HW_.out (by kernel_rfl)) (fun _ _ _ h => h) (Or.inl ⟨by rfl, ?_⟩) hHeld ?_ ?_
 rotate_left
 ·
  rintro w' ⟨s0, s1, s2, s3⟩
  go_simp
  with_reducible rfl
 rotate_left
 ·
  simp only [Own.ps]
  rfl
 refine take_ (i := 3) (N := some 10) (v := ?_) (a' := ?_) #[true, true, true, true, false, true, false, true, false, false, false, false, false] rfl rfl (take_ofW HT_.out HW_.out (by kernel_rfl)) (fun _ _ _ h => h) (Or.inl ⟨by rfl, ?_⟩) hHeld ?_ ?_
 rotate_left
 ·
  rintro w' ⟨s0, s1, s2, s3⟩
  go_simp
  with_reducible rfl
 rotate_left
 ·
  simp only [Own.ps]
  rfl
 refine take_ (i := 6) (N := some 13) (v := ?_) (a' := ?_) #[true, true, true, true, false, true, true, true, false, false, false, false, false] rfl rfl (take_ofW HT_.out HW_.out (by kernel_rfl)) (fun _ _ _ h => h) (Or.inl ⟨by rfl, ?_⟩) hHeld ?_ ?_
 rotate_left
 ·
  rintro w' ⟨s0, s1, s2, s3⟩
  go_simp
  with_reducible rfl
 rotate_left
 ·
  simp only [Own.ps]
  rfl
 refine take_ (i := 8) (N := some 15) (v := ?_) (a' := ?_) #[true, true, true, true, false, true, true, true, true, false, false, false, false] rfl rfl (take_ofW HT_.out HW_.out (by kernel_rfl)) (fun _ _ _ h => h) (Or.inl ⟨by rfl, ?_⟩) hHeld ?_ ?_
 rotate_left
 ·
  rintro w' ⟨s0, s1, s2, s3⟩
  go_simp
  with_reducible rfl
 rotate_left
 ·
  simp only [Own.ps]
  rfl
 refine join_ (σ := Value × Value × Nat) 1 #[true, true, true, true, true, true, true, true, true, true, true, true, false] (fun s_ => [(11, s_.1), (16, s_.2.1), (6, .pointer (some ⟨s_.2.2, 0, none⟩)), (17, .agg #[s_.1, s_.2.1])]) (fun s_ w' => (w'.cell? ⟨gb209, 0, none⟩ = some (.slice A0_0 l0_0.length c0_0) ∧ w'.cell? ⟨gb209, 1, none⟩ = some (.slice A0_1 l0_1.length c0_1) ∧ w'.cell? ⟨gb210, 0, none⟩ = some (.slice A1_0 l1_0.length c1_0) ∧ w'.cell? ⟨gb210, 1, none⟩ = some (.slice A1_1 l1_1.length c1_1)) ∧ (Kd.R (Kd.int .i64) 3 w' w.heap.size (fun k_ => some k_ ≠ (s_.2.1 : Value).ownBlock) s_.1 t212) ∧ (Kd.R (Kd.int .i64) 3 w' w.heap.size (fun k_ => some k_ ≠ (s_.1 : Value).ownBlock) s_.2.1 t215) ∧ (w'.heap[gb209]? = some (.cells #[.slice A0_0 l0_0.length c0_0, .slice A0_1 l0_1.length c0_1] 26 (0, 0))) ∧ (w'.heap[gb210]? = some (.cells #[.slice A1_0 l1_0.length c1_0, .slice A1_1 l1_1.length c1_1] 26 (0, 0))) ∧ (w'.heap[gb211]? = some (.cells #[.slice none 0 0, .slice none 0 0] 26 (0, 0))) ∧ (w'.heap[s_.2.2]? = some (.cells #[.slice none 0 0, .slice none 0 0] 26 (0, 0))) ∧ (w.heap.size ≤ s_.2.2) ∧ (w.heap.size ≤ s_.2.2) ∧ (gb209 ≠ s_.2.2) ∧ (s_.2.2 ≠ gb209) ∧ (gb210 ≠ s_.2.2) ∧ (s_.2.2 ≠ gb210) ∧ (gb211 ≠ s_.2.2) ∧ (s_.2.2 ≠ gb211) ∧ (Below w.heap.size w w')) ?_ ?_
 rotate_left
 ·
  intro hCont
  refine two_ (i := 4) (j := 11) (Ni := some 11) (Nj := some 6) #[true, true, true, true, true, true, true, true, true, false, false, false, false] #[true, true, true, true, false, true, true, true, true, false, false, true, false] rfl rfl rfl rfl (two_of HT_.out (by kernel_rfl)) (by decide) (by decide) (fun K hK => ?_) (fun K hK => ?_)
  ·
   skip
   refine goes_ Try.func32 (by kernel_rfl) rfl #[.slice A0_0 l0_0.length c0_0, .slice A1_0 l1_0.length c1_0] (by rfl) rfl rfl Own.ha ?_
   with_reducible refine (impl_united.calls _ _ l0_0 _ _ l1_0 t212 _ ?side1 ?side2 ?side3 ?side4 A3.out).mono ?_
   (case side1 => exact Kd.C_below HR0_0.out Own.bl)
   (case side2 => exact HC0_0.out)
   (case side3 => exact Kd.C_below HR1_0.out Own.bl)
   (case side4 => exact HC1_0.out)
   rintro e w43 ⟨v213, rfl, ho0, hb⟩
   refine ⟨_, rfl, ?_⟩
   have n0_ := Aside0.mk (Kd.R_lower ho0 (below_size Own.bl))
   have n1_ := Own.bb BK209.out hb
   have n2_ := Own.bb BK210.out hb
   have n3_ := Own.bb BK211.out hb
   have n4_ := Own.bs hb
   clear BK209
   clear BK210
   clear BK211
   clear HB
   have HO214 := n0_
   have BK209 := n1_
   have BK210 := n2_
   have BK211 := n3_
   have HB := n4_
   clear n0_ n1_ n2_ n3_ n4_
   (try clear hb)
   (try clear hb2)
   (try clear hk)
   (try clear hi)
   (try clear ho0)
   refine hK.out _ _ ⟨(blk_cell BK209.out 0).trans rfl, (blk_cell BK209.out 1).trans rfl, (blk_cell BK210.out 0).trans rfl, (blk_cell BK210.out 1).trans rfl⟩ (fun hHeld => ?_)
   clear hK K
   refine norm_ (a' := ?_) ?_ ?_
   rotate_left
   ·
    show Act.put _ (some 11) _ = _
    simp only [Own.ps]
    rfl
   refine two_ (i := 9) (j := 11) (Ni := some 16) (Nj := some 6) #[true, true, true, true, true, true, true, true, true, true, false, false, false] #[true, true, true, true, true, true, true, true, true, false, false, true, false] rfl rfl rfl rfl (two_of HT_.out (by kernel_rfl)) (by decide) (by decide) (fun K hK => ?_) (fun K hK => ?_)
   ·
    skip
    refine goes_ Try.func32 (by kernel_rfl) rfl #[.slice A0_1 l0_1.length c0_1, .slice A1_1 l1_1.length c1_1] (by rfl) rfl rfl Own.ha ?_
    with_reducible refine (impl_united.calls _ _ l0_1 _ _ l1_1 t215 _ ?side1 ?side2 ?side3 ?side4 A4.out).mono ?_
    (case side1 => exact Kd.C_below HR0_1.out Own.bl)
    (case side2 => exact HC0_1.out)
    (case side3 => exact Kd.C_below HR1_1.out Own.bl)
    (case side4 => exact HC1_1.out)
    rintro e w44 ⟨v216, rfl, ho0, hb⟩
    refine ⟨_, rfl, ?_⟩
    have n0_ := Aside0.mk (Kd.R_elder' (Own.rd HO214.out) (Kd.R_base ho0) hb)
    have n1_ := Aside0.mk (Kd.R_lower (Kd.R_new' ho0 (Kd.R_lt (Own.rd HO214.out))) (below_size Own.bl))
    have n2_ := Own.bb BK209.out hb
    have n3_ := Own.bb BK210.out hb
    have n4_ := Own.bb BK211.out hb
    have n5_ := Own.bs hb
    clear HO214
    clear BK209
    clear BK210
    clear BK211
    clear HB
    have HO214 := n0_
    have HO217 := n1_
    have BK209 := n2_
    have BK210 := n3_
    have BK211 := n4_
    have HB := n5_
    clear n0_ n1_ n2_ n3_ n4_ n5_
    (try clear hb)
    (try clear hb2)
    (try clear hk)
    (try clear hi)
    (try clear ho0)
    obtain ⟨Ao45, co45, eo45⟩ := Kd.R_slice HO217.out
    (first | subst eo45 | (injection eo45 with f1_ f2_ f3_; have f4_ := f1_.symm; have f5_ := f3_.symm; clear f1_ f2_ f3_; subst f4_; subst f5_))
    obtain ⟨Ao46, co46, eo46⟩ := Kd.R_slice HO214.out
    (first | subst eo46 | (injection eo46 with f1_ f2_ f3_; have f4_ := f1_.symm; have f5_ := f3_.symm; clear f1_ f2_ f3_; subst f4_; subst f5_))
    refine hK.out _ _ ⟨(blk_cell BK209.out 0).trans rfl, (blk_cell BK209.out 1).trans rfl, (blk_cell BK210.out 0).trans rfl, (blk_cell BK210.out 1).trans rfl⟩ (fun hHeld => ?_)
    clear hK K
    refine norm_ (a' := ?_) ?_ ?_
    rotate_left
    ·
     show Act.put _ (some 16) _ = _
     simp only [Own.ps]
     rfl
    refine pure_ (i := 10) (N := some 17) (v := ?_) (a' := ?_) #[true, true, true, true, true, true, true, true, true, true, true, false, false] rfl rfl (any_of HT_.out (by kernel_rfl)) (fun _ _ _ h => h) (Or.inl ⟨by rfl, ?_⟩) ?_ ?_
    rotate_left
    ·
     intro w'
     go_simp
     with_reducible rfl
    rotate_left
    ·
     simp only [Own.ps]
     rfl
    refine one_ (i := 11) (N := some 6) #[true, true, true, true, true, true, true, true, true, true, true, true, false] rfl rfl (one_of HT_.out (by kernel_rfl)) (by decide) (fun K hK => ?_)
    refine box_step ?hg (N := 6) ?hd (cs := #[.slice none 0 0, .slice none 0 0]) (t := 26) ?hr ?_; (case hd => rfl); (case hg => rfl); (case hr => first | (go_simp; done) | (go_simp; rfl))
    intro gb218 hg w47 hbox hb
    have n0_ := Aside0.mk (Kd.R_below (Own.rd HO214.out) hb)
    have n1_ := Aside0.mk (Kd.R_below (Own.rd HO217.out) hb)
    have n2_ := Own.bb BK209.out hb
    have n3_ := Own.bb BK210.out hb
    have n4_ := Own.bb BK211.out hb
    have n5_ := Own.bs hb
    have n6_ := Aside0.mk (hbox)
    have n7_ := (Own.gs hg : Aside0 (w.heap.size ≤ gb218))
    have n8_ := (Own.gs hg : Aside0 (w.heap.size ≤ gb218))
    have n9_ := Own.nl hg BK209.out
    have n10_ := Aside0.mk ((by rw [hg]; exact Nat.ne_of_gt (blk_lt (Own.bkf BK209.out)) : gb218 ≠ gb209))
    have n11_ := Own.nl hg BK210.out
    have n12_ := Aside0.mk ((by rw [hg]; exact Nat.ne_of_gt (blk_lt (Own.bkf BK210.out)) : gb218 ≠ gb210))
    have n13_ := Own.nl hg BK211.out
    have n14_ := Aside0.mk ((by rw [hg]; exact Nat.ne_of_gt (blk_lt (Own.bkf BK211.out)) : gb218 ≠ gb211))
    clear HO214
    clear HO217
    clear BK209
    clear BK210
    clear BK211
    clear HB
    have HO214 := n0_
    have HO217 := n1_
    have BK209 := n2_
    have BK210 := n3_
    have BK211 := n4_
    have HB := n5_
    have BK218 := n6_
    have GW218 := n7_
    have GE218 := n8_
    have NB209_218 := n9_
    have NB218_209 := n10_
    have NB210_218 := n11_
    have NB218_210 := n12_
    have NB211_218 := n13_
    have NB218_211 := n14_
    clear n0_ n1_ n2_ n3_ n4_ n5_ n6_ n7_ n8_ n9_ n10_ n11_ n12_ n13_ n14_
    clear hb hbox hg
    refine hK.out _ _ ⟨(blk_cell BK209.out 0).trans rfl, (blk_cell BK209.out 1).trans rfl, (blk_cell BK210.out 0).trans rfl, (blk_cell BK210.out 1).trans rfl⟩ (fun hHeld => ?_)
    clear hK K
    refine norm_ (a' := ?_) ?_ ?_
    rotate_left
    ·
     show Act.put _ (some 6) _ = _
     simp only [Own.ps]
     rfl
    exact norm_ (by simp only [putAll, Act.put, List.setIfInBounds_toArray, List.set_cons_zero, List.set_cons_succ]) (hCont (.slice Ao46 t212.length co46, .slice Ao45 t215.length co45, gb218) _ ⟨hHeld, (by (with_reducible repeat (first | apply Kd.R_alloc | apply Kd.R_drewN | apply Kd.R_drew)); exact Kd.R_mono HO214.out (fun _ hk => hk.2)), (by (with_reducible repeat (first | apply Kd.R_alloc | apply Kd.R_drewN | apply Kd.R_drew)); exact Kd.R_mono HO217.out (fun _ hk => hk.2)), (by (with_reducible repeat (first | refine blk_drewN ?_ _ | refine blk_drew ?_ | refine blk_alloc ?_ _)); exact BK209.out), (by (with_reducible repeat (first | refine blk_drewN ?_ _ | refine blk_drew ?_ | refine blk_alloc ?_ _)); exact BK210.out), (by (with_reducible repeat (first | refine blk_drewN ?_ _ | refine blk_drew ?_ | refine blk_alloc ?_ _)); exact BK211.out), (by (with_reducible repeat (first | refine blk_drewN ?_ _ | refine blk_drew ?_ | refine blk_alloc ?_ _)); exact BK218.out), GW218.out, GE218.out, NB209_218.out, NB218_209.out, NB210_218.out, NB218_210.out, NB211_218.out, NB218_211.out, Own.bl⟩)
   ·
    skip
    refine box_step ?hg (N := 6) ?hd (cs := #[.slice none 0 0, .slice none 0 0]) (t := 26) ?hr ?_; (case hd => rfl); (case hg => rfl); (case hr => first | (go_simp; done) | (go_simp; rfl))
    intro gb218 hg w44 hbox hb
    have n0_ := Aside0.mk (Kd.R_below (Own.rd HO214.out) hb)
    have n1_ := Own.bb BK209.out hb
    have n2_ := Own.bb BK210.out hb
    have n3_ := Own.bb BK211.out hb
    have n4_ := Own.bs hb
    have n5_ := Aside0.mk (hbox)
    have n6_ := (Own.gs hg : Aside0 (w.heap.size ≤ gb218))
    have n7_ := (Own.gs hg : Aside0 (w.heap.size ≤ gb218))
    have n8_ := Own.nl hg BK209.out
    have n9_ := Aside0.mk ((by rw [hg]; exact Nat.ne_of_gt (blk_lt (Own.bkf BK209.out)) : gb218 ≠ gb209))
    have n10_ := Own.nl hg BK210.out
    have n11_ := Aside0.mk ((by rw [hg]; exact Nat.ne_of_gt (blk_lt (Own.bkf BK210.out)) : gb218 ≠ gb210))
    have n12_ := Own.nl hg BK211.out
    have n13_ := Aside0.mk ((by rw [hg]; exact Nat.ne_of_gt (blk_lt (Own.bkf BK211.out)) : gb218 ≠ gb211))
    clear HO214
    clear BK209
    clear BK210
    clear BK211
    clear HB
    have HO214 := n0_
    have BK209 := n1_
    have BK210 := n2_
    have BK211 := n3_
    have HB := n4_
    have BK218 := n5_
    have GW218 := n6_
    have GE218 := n7_
    have NB209_218 := n8_
    have NB218_209 := n9_
    have NB210_218 := n10_
    have NB218_210 := n11_
    have NB211_218 := n12_
    have NB218_211 := n13_
    clear n0_ n1_ n2_ n3_ n4_ n5_ n6_ n7_ n8_ n9_ n10_ n11_ n12_ n13_
    clear hb hbox hg
    refine hK.out _ _ ⟨(blk_cell BK209.out 0).trans rfl, (blk_cell BK209.out 1).trans rfl, (blk_cell BK210.out 0).trans rfl, (blk_cell BK210.out 1).trans rfl⟩ (fun hHeld => ?_)
    clear hK K
    refine norm_ (a' := ?_) ?_ ?_
    rotate_left
    ·
     show Act.put _ (some 6) _ = _
     simp only [Own.ps]
     rfl
    refine one_ (i := 9) (N := some 16) #[true, true, true, true, true, true, true, true, true, true, false, true, false] rfl rfl (one_of HT_.out (by kernel_rfl)) (by decide) (fun K hK => ?_)
    refine goes_ Try.func32 (by kernel_rfl) rfl #[.slice A0_1 l0_1.length c0_1, .slice A1_1 l1_1.length c1_1] (by rfl) rfl rfl Own.ha ?_
    with_reducible refine (impl_united.calls _ _ l0_1 _ _ l1_1 t215 _ ?side1 ?side2 ?side3 ?side4 A4.out).mono ?_
    (case side1 => exact Kd.C_below HR0_1.out Own.bl)
    (case side2 => exact HC0_1.out)
    (case side3 => exact Kd.C_below HR1_1.out Own.bl)
    (case side4 => exact HC1_1.out)
    rintro e w45 ⟨v216, rfl, ho0, hb⟩
    refine ⟨_, rfl, ?_⟩
    have n0_ := Aside0.mk (Kd.R_elder' (Own.rd HO214.out) (Kd.R_base ho0) hb)
    have n1_ := Aside0.mk (Kd.R_lower (Kd.R_new' ho0 (Kd.R_lt (Own.rd HO214.out))) (below_size Own.bl))
    have n2_ := Own.bb BK209.out hb
    have n3_ := Own.bb BK210.out hb
    have n4_ := Own.bb BK211.out hb
    have n5_ := Own.bb BK218.out hb
    have n6_ := Own.bs hb
    clear HO214
    clear BK209
    clear BK210
    clear BK211
    clear BK218
    clear HB
    have HO214 := n0_
    have HO217 := n1_
    have BK209 := n2_
    have BK210 := n3_
    have BK211 := n4_
    have BK218 := n5_
    have HB := n6_
    clear n0_ n1_ n2_ n3_ n4_ n5_ n6_
    (try clear hb)
    (try clear hb2)
    (try clear hk)
    (try clear hi)
    (try clear ho0)
    obtain ⟨Ao46, co46, eo46⟩ := Kd.R_slice HO217.out
    (first | subst eo46 | (injection eo46 with f1_ f2_ f3_; have f4_ := f1_.symm; have f5_ := f3_.symm; clear f1_ f2_ f3_; subst f4_; subst f5_))
    obtain ⟨Ao47, co47, eo47⟩ := Kd.R_slice HO214.out
    (first | subst eo47 | (injection eo47 with f1_ f2_ f3_; have f4_ := f1_.symm; have f5_ := f3_.symm; clear f1_ f2_ f3_; subst f4_; subst f5_))
    refine hK.out _ _ ⟨(blk_cell BK209.out 0).trans rfl, (blk_cell BK209.out 1).trans rfl, (blk_cell BK210.out 0).trans rfl, (blk_cell BK210.out 1).trans rfl⟩ (fun hHeld => ?_)
    clear hK K
    refine norm_ (a' := ?_) ?_ ?_
    rotate_left
    ·
     show Act.put _ (some 16) _ = _
     simp only [Own.ps]
     rfl
    refine pure_ (i := 10) (N := some 17) (v := ?_) (a' := ?_) #[true, true, true, true, true, true, true, true, true, true, true, true, false] rfl rfl (any_of HT_.out (by kernel_rfl)) (fun _ _ _ h => h) (Or.inl ⟨by rfl, ?_⟩) ?_ ?_
    rotate_left
    ·
     intro w'
     go_simp
     with_reducible rfl
    rotate_left
    ·
     simp only [Own.ps]
     rfl
    exact norm_ (by simp only [putAll, Act.put, List.setIfInBounds_toArray, List.set_cons_zero, List.set_cons_succ]) (hCont (.slice Ao47 t212.length co47, .slice Ao46 t215.length co46, gb218) _ ⟨hHeld, (by (with_reducible repeat (first | apply Kd.R_alloc | apply Kd.R_drewN | apply Kd.R_drew)); exact Kd.R_mono HO214.out (fun _ hk => hk.2)), (by (with_reducible repeat (first | apply Kd.R_alloc | apply Kd.R_drewN | apply Kd.R_drew)); exact Kd.R_mono HO217.out (fun _ hk => hk.2)), (by (with_reducible repeat (first | refine blk_drewN ?_ _ | refine blk_drew ?_ | refine blk_alloc ?_ _)); exact BK209.out), (by (with_reducible repeat (first | refine blk_drewN ?_ _ | refine blk_drew ?_ | refine blk_alloc ?_ _)); exact BK210.out), (by (with_reducible repeat (first | refine blk_drewN ?_ _ | refine blk_drew ?_ | refine blk_alloc ?_ _)); exact BK211.out), (by (with_reducible repeat (first | refine blk_drewN ?_ _ | refine blk_drew ?_ | refine blk_alloc ?_ _)); exact BK218.out), GW218.out, GE218.out, NB209_218.out, NB218_209.out, NB210_218.out, NB218_210.out, NB211_218.out, NB218_211.out, Own.bl⟩)
  ·
   skip
   refine box_step ?hg (N := 6) ?hd (cs := #[.slice none 0 0, .slice none 0 0]) (t := 26) ?hr ?_; (case hd => rfl); (case hg => rfl); (case hr => first | (go_simp; done) | (go_simp; rfl))
   intro gb218 hg w43 hbox hb
   have n0_ := Own.bb BK209.out hb
   have n1_ := Own.bb BK210.out hb
   have n2_ := Own.bb BK211.out hb
   have n3_ := Own.bs hb
   have n4_ := Aside0.mk (hbox)
   have n5_ := (Own.gs hg : Aside0 (w.heap.size ≤ gb218))
   have n6_ := (Own.gs hg : Aside0 (w.heap.size ≤ gb218))
   have n7_ := Own.nl hg BK209.out
   have n8_ := Aside0.mk ((by rw [hg]; exact Nat.ne_of_gt (blk_lt (Own.bkf BK209.out)) : gb218 ≠ gb209))
   have n9_ := Own.nl hg BK210.out
   have n10_ := Aside0.mk ((by rw [hg]; exact Nat.ne_of_gt (blk_lt (Own.bkf BK210.out)) : gb218 ≠ gb210))
   have n11_ := Own.nl hg BK211.out
   have n12_ := Aside0.mk ((by rw [hg]; exact Nat.ne_of_gt (blk_lt (Own.bkf BK211.out)) : gb218 ≠ gb211))
   clear BK209
   clear BK210
   clear BK211
   clear HB
   have BK209 := n0_
   have BK210 := n1_
   have BK211 := n2_
   have HB := n3_
   have BK218 := n4_
   have GW218 := n5_
   have GE218 := n6_
   have NB209_218 := n7_
   have NB218_209 := n8_
   have NB210_218 := n9_
   have NB218_210 := n10_
   have NB211_218 := n11_
   have NB218_211 := n12_
   clear n0_ n1_ n2_ n3_ n4_ n5_ n6_ n7_ n8_ n9_ n10_ n11_ n12_
   clear hb hbox hg
   refine hK.out _ _ ⟨(blk_cell BK209.out 0).trans rfl, (blk_cell BK209.out 1).trans rfl, (blk_cell BK210.out 0).trans rfl, (blk_cell BK210.out 1).trans rfl⟩ (fun hHeld => ?_)
   clear hK K
   refine norm_ (a' := ?_) ?_ ?_
   rotate_left
   ·
    show Act.put _ (some 6) _ = _
    simp only [Own.ps]
    rfl
   refine one_ (i := 4) (N := some 11) #[true, true, true, true, true, true, true, true, true, false, false, true, false] rfl rfl (one_of HT_.out (by kernel_rfl)) (by decide) (fun K hK => ?_)
   refine goes_ Try.func32 (by kernel_rfl) rfl #[.slice A0_0 l0_0.length c0_0, .slice A1_0 l1_0.length c1_0] (by rfl) rfl rfl Own.ha ?_
   with_reducible refine (impl_united.calls _ _ l0_0 _ _ l1_0 t212 _ ?side1 ?side2 ?side3 ?side4 A3.out).mono ?_
   (case side1 => exact Kd.C_below HR0_0.out Own.bl)
   (case side2 => exact HC0_0.out)
   (case side3 => exact Kd.C_below HR1_0.out Own.bl)
   (case side4 => exact HC1_0.out)
   rintro e w44 ⟨v213, rfl, ho0, hb⟩
   refine ⟨_, rfl, ?_⟩
   have n0_ := Aside0.mk (Kd.R_lower ho0 (below_size Own.bl))
   have n1_ := Own.bb BK209.out hb
   have n2_ := Own.bb BK210.out hb
   have n3_ := Own.bb BK211.out hb
   have n4_ := Own.bb BK218.out hb
   have n5_ := Own.bs hb
   clear BK209
   clear BK210
   clear BK211
   clear BK218
   clear HB
   have HO214 := n0_
   have BK209 := n1_
   have BK210 := n2_
   have BK211 := n3_
   have BK218 := n4_
   have HB := n5_
   clear n0_ n1_ n2_ n3_ n4_ n5_
   (try clear hb)
   (try clear hb2)
   (try clear hk)
   (try clear hi)
   (try clear ho0)
   refine hK.out _ _ ⟨(blk_cell BK209.out 0).trans rfl, (blk_cell BK209.out 1).trans rfl, (blk_cell BK210.out 0).trans rfl, (blk_cell BK210.out 1).trans rfl⟩ (fun hHeld => ?_)
   clear hK K
   refine norm_ (a' := ?_) ?_ ?_
   rotate_left
   ·
    show Act.put _ (some 11) _ = _
    simp only [Own.ps]
    rfl
   refine one_ (i := 9) (N := some 16) #[true, true, true, true, true, true, true, true, true, true, false, true, false] rfl rfl (one_of HT_.out (by kernel_rfl)) (by decide) (fun K hK => ?_)
   refine goes_ Try.func32 (by kernel_rfl) rfl #[.slice A0_1 l0_1.length c0_1, .slice A1_1 l1_1.length c1_1] (by rfl) rfl rfl Own.ha ?_
   with_reducible refine (impl_united.calls _ _ l0_1 _ _ l1_1 t215 _ ?side1 ?side2 ?side3 ?side4 A4.out).mono ?_
   (case side1 => exact Kd.C_below HR0_1.out Own.bl)
   (case side2 => exact HC0_1.out)
   (case side3 => exact Kd.C_below HR1_1.out Own.bl)
   (case side4 => exact HC1_1.out)
   rintro e w45 ⟨v216, rfl, ho0, hb⟩
   refine ⟨_, rfl, ?_⟩
   have n0_ := Aside0.mk (Kd.R_elder' (Own.rd HO214.out) (Kd.R_base ho0) hb)
   have n1_ := Aside0.mk (Kd.R_lower (Kd.R_new' ho0 (Kd.R_lt (Own.rd HO214.out))) (below_size Own.bl))
   have n2_ := Own.bb BK209.out hb
   have n3_ := Own.bb BK210.out hb
   have n4_ := Own.bb BK211.out hb
   have n5_ := Own.bb BK218.out hb
   have n6_ := Own.bs hb
   clear HO214
   clear BK209
   clear BK210
   clear BK211
   clear BK218
   clear HB
   have HO214 := n0_
   have HO217 := n1_
   have BK209 := n2_
   have BK210 := n3_
   have BK211 := n4_
   have BK218 := n5_
   have HB := n6_
   clear n0_ n1_ n2_ n3_ n4_ n5_ n6_
   (try clear hb)
   (try clear hb2)
   (try clear hk)
   (try clear hi)
   (try clear ho0)
   obtain ⟨Ao46, co46, eo46⟩ := Kd.R_slice HO217.out
   (first | subst eo46 | (injection eo46 with f1_ f2_ f3_; have f4_ := f1_.symm; have f5_ := f3_.symm; clear f1_ f2_ f3_; subst f4_; subst f5_))
   obtain ⟨Ao47, co47, eo47⟩ := Kd.R_slice HO214.out
   (first | subst eo47 | (injection eo47 with f1_ f2_ f3_; have f4_ := f1_.symm; have f5_ := f3_.symm; clear f1_ f2_ f3_; subst f4_; subst f5_))
   refine hK.out _ _ ⟨(blk_cell BK209.out 0).trans rfl, (blk_cell BK209.out 1).trans rfl, (blk_cell BK210.out 0).trans rfl, (blk_cell BK210.out 1).trans rfl⟩ (fun hHeld => ?_)
   clear hK K
   refine norm_ (a' := ?_) ?_ ?_
   rotate_left
   ·
    show Act.put _ (some 16) _ = _
    simp only [Own.ps]
    rfl
   refine pure_ (i := 10) (N := some 17) (v := ?_) (a' := ?_) #[true, true, true, true, true, true, true, true, true, true, true, true, false] rfl rfl (any_of HT_.out (by kernel_rfl)) (fun _ _ _ h => h) (Or.inl ⟨by rfl, ?_⟩) ?_ ?_
   rotate_left
   ·
    intro w'
    go_simp
    with_reducible rfl
   rotate_left
   ·
    simp only [Own.ps]
    rfl
   exact norm_ (by simp only [putAll, Act.put, List.setIfInBounds_toArray, List.set_cons_zero, List.set_cons_succ]) (hCont (.slice Ao47 t212.length co47, .slice Ao46 t215.length co46, gb218) _ ⟨hHeld, (by (with_reducible repeat (first | apply Kd.R_alloc | apply Kd.R_drewN | apply Kd.R_drew)); exact Kd.R_mono HO214.out (fun _ hk => hk.2)), (by (with_reducible repeat (first | apply Kd.R_alloc | apply Kd.R_drewN | apply Kd.R_drew)); exact Kd.R_mono HO217.out (fun _ hk => hk.2)), (by (with_reducible repeat (first | refine blk_drewN ?_ _ | refine blk_drew ?_ | refine blk_alloc ?_ _)); exact BK209.out), (by (with_reducible repeat (first | refine blk_drewN ?_ _ | refine blk_drew ?_ | refine blk_alloc ?_ _)); exact BK210.out), (by (with_reducible repeat (first | refine blk_drewN ?_ _ | refine blk_drew ?_ | refine blk_alloc ?_ _)); exact BK211.out), (by (with_reducible repeat (first | refine blk_drewN ?_ _ | refine blk_drew ?_ | refine blk_alloc ?_ _)); exact BK218.out), GW218.out, GE218.out, NB209_218.out, NB218_209.out, NB210_218.out, NB218_210.out, NB211_218.out, NB218_211.out, Own.bl⟩)
 rintro ⟨v213, v216, gb218⟩ w48 ⟨hS_, h0_, h1_, h2_, h3_, h4_, h5_, h6_, h7_, h8_, h9_, h10_, h11_, h12_, h13_, h14_⟩
 have n0_ : Aside0 (Kd.R (Kd.int .i64) 3 w48 w.heap.size (fun k_ => some k_ ≠ (v216 : Value).ownBlock) v213 t212) := ⟨h0_⟩
 have n1_ : Aside0 (Kd.R (Kd.int .i64) 3 w48 w.heap.size (fun k_ => some k_ ≠ (v213 : Value).ownBlock) v216 t215) := ⟨h1_⟩
 have n2_ : Aside0 (w48.heap[gb209]? = some (.cells #[.slice A0_0 l0_0.length c0_0, .slice A0_1 l0_1.length c0_1] 26 (0, 0))) := ⟨h2_⟩
 have n3_ : Aside0 (w48.heap[gb210]? = some (.cells #[.slice A1_0 l1_0.length c1_0, .slice A1_1 l1_1.length c1_1] 26 (0, 0))) := ⟨h3_⟩
 have n4_ : Aside0 (w48.heap[gb211]? = some (.cells #[.slice none 0 0, .slice none 0 0] 26 (0, 0))) := ⟨h4_⟩
 have n5_ : Aside0 (w48.heap[gb218]? = some (.cells #[.slice none 0 0, .slice none 0 0] 26 (0, 0))) := ⟨h5_⟩
 have n6_ : Aside0 (w.heap.size ≤ gb218) := ⟨h6_⟩
 have n7_ : Aside0 (w.heap.size ≤ gb218) := ⟨h7_⟩
 have n8_ : Aside0 (gb209 ≠ gb218) := ⟨h8_⟩
 have n9_ : Aside0 (gb218 ≠ gb209) := ⟨h9_⟩
 have n10_ : Aside0 (gb210 ≠ gb218) := ⟨h10_⟩
 have n11_ : Aside0 (gb218 ≠ gb210) := ⟨h11_⟩
 have n12_ : Aside0 (gb211 ≠ gb218) := ⟨h12_⟩
 have n13_ : Aside0 (gb218 ≠ gb211) := ⟨h13_⟩
 have n14_ : Aside0 (Below w.heap.size w w48) := ⟨h14_⟩
 clear BK209
 clear BK210
 clear BK211
 clear HB
 clear h0_ h1_ h2_ h3_ h4_ h5_ h6_ h7_ h8_ h9_ h10_ h11_ h12_ h13_ h14_
 have HO214 := n0_
 have HO217 := n1_
 have BK209 := n2_
 have BK210 := n3_
 have BK211 := n4_
 have BK218 := n5_
 have GW218 := n6_
 have GE218 := n7_
 have NB209_218 := n8_
 have NB218_209 := n9_
 have NB210_218 := n10_
 have NB218_210 := n11_
 have NB211_218 := n12_
 have NB218_211 := n13_
 have HB := n14_
 clear n0_ n1_ n2_ n3_ n4_ n5_ n6_ n7_ n8_ n9_ n10_ n11_ n12_ n13_ n14_
 have hHeld : w48.cell? ⟨gb209, 0, none⟩ = some (.slice A0_0 l0_0.length c0_0) ∧ w48.cell? ⟨gb209, 1, none⟩ = some (.slice A0_1 l0_1.length c0_1) ∧ w48.cell? ⟨gb210, 0, none⟩ = some (.slice A1_0 l1_0.length c1_0) ∧ w48.cell? ⟨gb210, 1, none⟩ = some (.slice A1_1 l1_1.length c1_1) := hS_
 obtain ⟨Ao49, co49, eo49⟩ := Kd.R_slice HO217.out
 (first | subst eo49 | (injection eo49 with f1_ f2_ f3_; have f4_ := f1_.symm; have f5_ := f3_.symm; clear f1_ f2_ f3_; subst f4_; subst f5_))
 obtain ⟨Ao50, co50, eo50⟩ := Kd.R_slice HO214.out
 (first | subst eo50 | (injection eo50 with f1_ f2_ f3_; have f4_ := f1_.symm; have f5_ := f3_.symm; clear f1_ f2_ f3_; subst f4_; subst f5_))
 refine norm_ (a' := ?_) ?_ ?_
 rotate_left
 ·
  simp only [putAll, Act.put, List.setIfInBounds_toArray, List.set_cons_zero, List.set_cons_succ]
  rfl
 refine one_ (i := 12) (N := none) #[true, true, true, true, true, true, true, true, true, true, true, true, true] rfl rfl (one_of HT_.out (by kernel_rfl)) (by decide) (fun K hK => ?_)
 have hs51 : w48.cell? ⟨gb218, 0, none⟩ = some (.slice none 0 0) := (blk_cell BK218.out 0).trans rfl
 have hfs51 := blk_frozen BK218.out 0
 have hns51_0 := NB209_218.out
 have hns51_1 := NB210_218.out
 have hns51_2 := NB211_218.out
 have hms51_0 := NB218_209.out
 have hms51_1 := NB218_210.out
 have hms51_2 := NB218_211.out
 have hs52 : w48.cell? ⟨gb218, 1, none⟩ = some (.slice none 0 0) := (blk_cell BK218.out 1).trans rfl
 have hfs52 := blk_frozen BK218.out 1
 have hns52_0 := NB209_218.out
 have hns52_1 := NB210_218.out
 have hns52_2 := NB211_218.out
 have hms52_0 := NB218_209.out
 have hms52_1 := NB218_210.out
 have hms52_2 := NB218_211.out
 refine skip_ (w1 := ?_) (by rfl) rfl ?_ ?_
 rotate_left
 ·
  go_simp
  rfl
 refine hK.out _ _ ⟨((cell_far (p := ⟨gb218, _, none⟩) NB209_218.out _).trans (((cell_far (p := ⟨gb218, _, none⟩) NB209_218.out _).trans (hHeld.1)))), ((cell_far (p := ⟨gb218, _, none⟩) NB209_218.out _).trans (((cell_far (p := ⟨gb218, _, none⟩) NB209_218.out _).trans (hHeld.2.1)))), ((cell_far (p := ⟨gb218, _, none⟩) NB210_218.out _).trans (((cell_far (p := ⟨gb218, _, none⟩) NB210_218.out _).trans (hHeld.2.2.1)))), ((cell_far (p := ⟨gb218, _, none⟩) NB210_218.out _).trans (((cell_far (p := ⟨gb218, _, none⟩) NB210_218.out _).trans (hHeld.2.2.2))))⟩ (fun hHeld => ?_)
 clear hK K
 refine done_ (done_of HT_.out (by kernel_rfl)) ?_
 have hnb53 := NB209_210.out
 have hnc53 := NB210_209.out
 have hnb54 := NB209_211.out
 have hnc54 := NB211_209.out
 have hnb55 := NB209_218.out
 have hnc55 := NB218_209.out
 obtain ⟨z56_0, z56_1, y56_0, y56_1⟩ := Own.box2 BK209.out
 try go_wp2_with (first | ((with_reducible refine gate_callee (f := 20) rfl ?_); refine goesL_ (some 19) rfl rfl Try.func20 (by kernel_rfl) rfl #[.agg #[.slice A0_0 l0_0.length c0_0, .slice A0_1 l0_1.length c0_1]] rfl Own.ha ?_; (with_reducible refine (impl_IsValidCalendar.calls k _ _ l0_0 _ _ l0_1 true _ ?side1 ?side2 ?side3 ?side4 A5.out).mono ?_); (case side1 => exact Kd.C_below HR0_0.out Own.bl); (case side2 => exact HC0_0.out); (case side3 => exact Kd.C_below HR0_1.out Own.bl); (case side4 => exact HC0_1.out); rintro e w57 ⟨rfl, hb⟩; refine ⟨_, rfl, ?_⟩; replace HO214 := Aside0.mk (Kd.R_below (by (with_reducible repeat (first | apply Kd.R_alloc | apply Kd.R_drewN | apply Kd.R_drew)); exact (Kd.R_mono (Kd.R_far (p := ⟨gb218, 1, none⟩) (Kd.R_far (p := ⟨gb218, 0, none⟩) (Kd.R_types HO214.out BK218.out (by decide)) (fun _ hk => hk.2) (.slice Ao50 t212.length co50)) (fun _ hk => hk.2) (.slice Ao49 t215.length co49)) (fun _ h_ => h_.1))) hb); replace HO217 := Aside0.mk (Kd.R_below (by (with_reducible repeat (first | apply Kd.R_alloc | apply Kd.R_drewN | apply Kd.R_drew)); exact (Kd.R_mono (Kd.R_far (p := ⟨gb218, 1, none⟩) (Kd.R_far (p := ⟨gb218, 0, none⟩) (Kd.R_types HO217.out BK218.out (by decide)) (fun _ hk => hk.2) (.slice Ao50 t212.length co50)) (fun _ hk => hk.2) (.slice Ao49 t215.length co49)) (fun _ h_ => h_.1))) hb); replace BK209 := Own.bb BK209.out hb; replace BK210 := Own.bb BK210.out hb; replace BK211 := Own.bb BK211.out hb; replace BK218 := Aside0.mk (blk_below (g := gb218) (o := .cells #[.slice Ao50 t212.length co50, .slice Ao49 t215.length co49] 26 (0, 0)) (by (with_reducible repeat (first | refine blk_drewN ?_ _ | refine blk_drew ?_ | refine blk_alloc ?_ _)); with_reducible exact Own.put2 BK218.out) hb); replace HB := Own.bs hb; (try clear hb); (try clear hk); have hnb58 := NB210_211.out; have hnc58 := NB211_210.out; have hnb59 := NB210_218.out; have hnc59 := NB218_210.out; obtain ⟨z60_0, z60_1, y60_0, y60_1⟩ := Own.box2 BK210.out) | (go_at_call 20; (with_reducible refine (impl_IsValidCalendar.calls k _ _ l1_0 _ _ l1_1 true _ ?side1 ?side2 ?side3 ?side4 A7.out).mono ?_); (case side1 => exact Kd.C_below HR1_0.out Own.bl); (case side2 => exact HC1_0.out); (case side3 => exact Kd.C_below HR1_1.out Own.bl); (case side4 => exact HC1_1.out); rintro e w61 ⟨rfl, hb⟩; replace HO214 := Aside0.mk (Kd.R_below (Own.rd HO214.out) hb); replace HO217 := Aside0.mk (Kd.R_below (Own.rd HO217.out) hb); replace BK209 := Own.bb BK209.out hb; replace BK210 := Own.bb BK210.out hb; replace BK211 := Own.bb BK211.out hb; replace BK218 := Own.bb BK218.out hb; replace HB := Own.bs hb; (try clear hb); (try clear hk); have hnb62 := NB218_211.out; have hnc62 := NB211_218.out; obtain ⟨z63_0, z63_1, y63_0, y63_1⟩ := Own.box2 BK218.out) | (go_at_call 20; (with_reducible refine (impl_IsValidCalendar.calls k _ _ t212 _ _ t215 false _ ?side1 ?side2 ?side3 ?side4 A9.out).mono ?_); (case side1 => repeat (first | exact (Kd.R_reads' HO214.out).2.2 | (with_reducible refine Kd.C_alloc ?_ _) | (with_reducible refine Kd.C_drewN ?_ _) | (with_reducible refine Kd.C_drew ?_))); (case side2 => exact (Kd.R_reads' HO214.out).2.1); (case side3 => repeat (first | exact (Kd.R_reads' HO217.out).2.2 | (with_reducible refine Kd.C_alloc ?_ _) | (with_reducible refine Kd.C_drewN ?_ _) | (with_reducible refine Kd.C_drew ?_))); (case side4 => exact (Kd.R_reads' HO217.out).2.1); rintro e w64 ⟨rfl, hb⟩; replace HO214 := Aside0.mk (Kd.R_below (Own.rd HO214.out) hb); replace HO217 := Aside0.mk (Kd.R_below (Own.rd HO217.out) hb); replace BK209 := Own.bb BK209.out hb; replace BK210 := Own.bb BK210.out hb; replace BK211 := Own.bb BK211.out hb; replace BK218 := Own.bb BK218.out hb; replace HB := Own.bs hb; (try clear hb); (try clear hk); obtain ⟨z65_0, z65_1, y65_0, y65_1⟩ := Own.box2 BK211.out))
 refine bodyPost_ret (results_ct rfl _ _ gb211 26 #[.slice none 0 0, .slice none 0 0] (0, 0) _ rfl (by (with_reducible repeat (first | refine blk_drewN ?_ _ | refine blk_drew ?_ | refine blk_alloc ?_ _)); with_reducible exact Own.put2 BK211.out) Try.underlying26 rfl (by kernel_rfl)) rfl ?_
 exact ⟨_, _, Own.rr, by first | exact Kd.R_nil _ _ _ _ _ | exact Kd.N_nil _ _ _ _ _ | exact Kd.V_nil _ _ _ _ _ | exact Kd.Q_nil _ _ _ _ _ | exact Kd.S_nil _ _ _ _ _, by first | exact Kd.R_nil _ _ _ _ _ | exact Kd.N_nil _ _ _ _ _ | exact Kd.V_nil _ _ _ _ _ | exact Kd.Q_nil _ _ _ _ _ | exact Kd.S_nil _ _ _ _ _, Own.bl⟩

end Go.Proofs.Ytaallhcmhennkaa.QFnExactJoinCalendars
