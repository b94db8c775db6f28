-- Written by a program of this session out of the translation; Lean checks it.
import Derived.Test.YtdfbfcgjcfbmpaaGreatDoorQFnExactClausesOfx0
namespace Go.Proofs.YtdfbfcgjcfbmpaaGreatDoor.QFnExactClausesOf
open Go.RowKit Go.Proofs.YtdfbfcgjcfbmpaaGreatDoorW.PrintWords Go.Proofs.YtdfbfcgjcfbmpaaGreatDoorW.PrintLast Go.Proofs.YtdfbfcgjcfbmpaaGreatDoorW.PrintMore
attribute [local go_sem] Instr.field asAgg Own.str_leq Own.str_gtr Own.str_geq
attribute [local go_sem] max2_int min2_int max_two min_two max_three min_three max_four min_four   -- for this text's walks alone
set_option linter.unusedVariables false
set_option linter.unusedSimpArgs false

/-! ### spec_l5Put: function 87 -/
def spec_l5Put.l0 : Nat → List ByteArray → ByteArray → Int → Option (List ByteArray)
 | 0, _, _, _ => none
 | k + 1, x0, x1, x5 => if x5 < (x0.length : Int) then (if 0 ≤ x5 then (if (Op.bytesLess ((rdOf ByteArray.empty x0 x5).toList) x1.toList) = true then (spec_l5Put.l0 k x0 x1 (wrap64 (x5 + 1))) else (if (rdOf ByteArray.empty x0 x5).toList = x1.toList then (some x0) else ((some (([] : List ByteArray) : List ByteArray)).bind fun y244 => (if x5 ≤ (x0.length : Int) then ((some (x0.take (x5 : Int).toNat : List ByteArray)).bind fun y247 => (if y244.length + y247.length < 8796093022208 then ((some (y244 ++ y247 : List ByteArray)).bind fun y252 => ((some (([x1] : List ByteArray) : List ByteArray)).bind fun y255 => (if y252.length + y255.length < 8796093022208 then ((some (y252 ++ y255 : List ByteArray)).bind fun y258 => ((some (x0.drop (x5 : Int).toNat : List ByteArray)).bind fun y261 => (if y258.length + y261.length < 8796093022208 then (some (y258 ++ y261)) else (none)))) else (none)))) else (none))) else (none))))) else (none)) else ((some (([] : List ByteArray) : List ByteArray)).bind fun y269 => (if 0 ≤ x5 then (if x5 ≤ (x0.length : Int) then ((some (x0.take (x5 : Int).toNat : List ByteArray)).bind fun y272 => (if y269.length + y272.length < 8796093022208 then ((some (y269 ++ y272 : List ByteArray)).bind fun y277 => ((some (([x1] : List ByteArray) : List ByteArray)).bind fun y280 => (if y277.length + y280.length < 8796093022208 then ((some (y277 ++ y280 : List ByteArray)).bind fun y283 => ((some (x0.drop (x5 : Int).toNat : List ByteArray)).bind fun y286 => (if y283.length + y286.length < 8796093022208 then (some (y283 ++ y286)) else (none)))) else (none)))) else (none))) else (none)) else (none)))
def spec_l5Put.f (k : Nat) (l0 : List ByteArray) (a1 : ByteArray) : Option (List ByteArray) := spec_l5Put.l0 k l0 a1 0
theorem spec_l5Put.mono_l : ∀ k, (∀ y0 y1 y2, LeO (spec_l5Put.l0 k y0 y1 y2) (spec_l5Put.l0 (k + 1) y0 y1 y2))
 | 0 => fun _ _ _ r h => by simp [spec_l5Put.l0] at h
 | k + 1 => by
  have ih0 := spec_l5Put.mono_l k
  ·
   intro y0 y1 y2
   unfold spec_l5Put.l0
   repeat' first
   | (with_reducible first | exact ih0 _ _ _ | exact LeO.refl _ | exact LeO.none _ | refine LeO.ite ?_ ?_ | refine LeO.bind ?_ (fun _ => ?_))
theorem spec_l5Put.mono : ∀ a0 a1 k, LeO (spec_l5Put.f k a0 a1) (spec_l5Put.f (k + 1) a0 a1) := by
 intro a0 a1 k
 have ih0 := spec_l5Put.mono_l k
 unfold spec_l5Put.f
 repeat' first
   | (with_reducible first | exact ih0 _ _ _ | exact LeO.refl _ | exact LeO.none _ | refine LeO.ite ?_ ?_ | refine LeO.bind ?_ (fun _ => ?_))
def spec_l5Put.T6 : Bool × List (List Nat × List Nat) := (true, [([], []), ([], []), ([], []), ([1, 2], [1, 2]), ([0, 3], [0, 3]), ([], []), ([5], [5]), ([4, 6, 4], [4, 6]), ([], []), ([], []), ([8, 9], [8, 9]), ([7, 10, 7], [7, 10]), ([11, 11, 0, 1, 2, 3, 4, 5, 6, 7, 8, 9, 10, 11], [11])])
def spec_l5Put.B6 : List Nat := [0, 0, 0, 6, 15, 0, 32, 127, 0, 0, 768, 2047, 4095]
theorem spec_l5Put.tab6 : rtab .any (opsOf Tryz.f87 6) = spec_l5Put.T6 := by kernel_rfl
theorem spec_l5Put.bits6 : waitsOk spec_l5Put.T6.2 spec_l5Put.B6 = true := by kernel_rfl
set_option maxHeartbeats 8000000 in
set_option maxRecDepth 100000 in
theorem spec_l5Put.calls (k : Nat) (P0_ : Nat → Prop) (A0 : Option Addr) (c0 : Nat) (l0 : List ByteArray) (a1 : ByteArray) (r : List ByteArray) (w : World) (hs0 : Kd.V Kd.string 9 w w.heap.size (fun k_ => P0_ k_) (.slice A0 l0.length c0) l0) (h : spec_l5Put.f k l0 a1 = some r) :
  Calls Tryz.prog 87 #[.slice A0 l0.length c0, .string a1] w fun e w' => ∃ v0_ : Value, e = .returned (v0_) ∧ Kd.V Kd.string 9 w' w.heap.size (fun k_ => (P0_ k_ ∨ w.heap.size ≤ k_)) v0_ r ∧ Below w.heap.size w w' := by
 have HO0 := Aside0.mk (show Kd.V Kd.string 9 w w.heap.size (fun k_ => (P0_ k_ ∨ w.heap.size ≤ k_)) (.slice A0 l0.length c0) l0 from Kd.V_mono hs0 (fun k_ hk => .inl hk))
 have HB := Aside0.mk (Below.refl w.heap.size w)
 have H : (spec_l5Put.l0 k l0 a1 0) = some r := h
 clear h
 have H' := Aside0.mk H
 clear H
 go_enter Tryz.func87, Tryz.ntmps87
 go_wp2
 go_loopg [5] k (fun kq v5 w' => ∃ (x5_1 : Int), v5 = .int .i64 x5_1 ∧ Aside0 (spec_l5Put.l0 kq l0 a1 x5_1 = some r) ∧ Aside0 (kq ≤ k) ∧ Aside0 (Kd.V Kd.string 9 w' w.heap.size (fun k_ => (P0_ k_ ∨ w.heap.size ≤ k_)) (.slice A0 l0.length c0) l0) ∧ Aside0 (Below w.heap.size w w'))
 case atStart => exact ⟨(0), Own.rs, H', ⟨Nat.le_refl _⟩, ⟨Own.vd HO0.out⟩, ⟨Own.bl⟩⟩
 case round =>
  clear H'
  try clear p2
  obtain ⟨x5_1, rfl, HA, HK1, HO_0, HB⟩ := hrel
  cases gk with
  | zero => exact absurd HA.out (by simp [spec_l5Put.l0])
  | succ k1 =>
   have H := HA.out
   clear HA
   simp only [spec_l5Put.l0] at H
   by_cases c3 : x5_1 < (l0.length : Int)
   rotate_left
   ·
    rw [if_neg c3] at H
    replace c3 := decide_eq_false c3
    obtain ⟨y269, hy269⟩ : ∃ y_ : List ByteArray, y_ = (([] : List ByteArray)) := ⟨_, rfl⟩
    replace H : (if 0 ≤ x5_1 then (if x5_1 ≤ (l0.length : Int) then ((some (l0.take (x5_1 : Int).toNat : List ByteArray)).bind fun y272 => (if y269.length + y272.length < 8796093022208 then ((some (y269 ++ y272 : List ByteArray)).bind fun y277 => ((some (([a1] : List ByteArray) : List ByteArray)).bind fun y280 => (if y277.length + y280.length < 8796093022208 then ((some (y277 ++ y280 : List ByteArray)).bind fun y283 => ((some (l0.drop (x5_1 : Int).toNat : List ByteArray)).bind fun y286 => (if y283.length + y286.length < 8796093022208 then (some (y283 ++ y286)) else (none)))) else (none)))) else (none))) else (none)) else (none)) = some r := by first | (rw [hy269]; with_reducible exact H) | (have H2_ := (Option.bind_some _ _).symm.trans H; rw [hy269]; with_reducible exact H2_) | (have H2_ := (Option.bind_some _ _).symm.trans H; with_reducible exact H2_) | with_reducible exact H | (rw [hy269]; exact H) | exact H
    have Ny269 := Aside0.mk hy269
    clear hy269
    replace H := Own.ifn H; obtain ⟨c26, H⟩ := H
    have c26b0 := eq_true c26
    have c26b1 : decide (0 ≤ x5_1) = true := decide_eq_true c26
    clear c26
    replace H := Own.ifn H; obtain ⟨c27, H⟩ := H
    have c27b0 := eq_true c27
    have c27b1 : decide (x5_1 ≤ (l0.length : Int)) = true := decide_eq_true c27
    clear c27
    obtain ⟨y272, hy272⟩ : ∃ y_ : List ByteArray, y_ = (l0.take (x5_1 : Int).toNat) := ⟨_, rfl⟩
    replace H : (if y269.length + y272.length < 8796093022208 then ((some (y269 ++ y272 : List ByteArray)).bind fun y277 => ((some (([a1] : List ByteArray) : List ByteArray)).bind fun y280 => (if y277.length + y280.length < 8796093022208 then ((some (y277 ++ y280 : List ByteArray)).bind fun y283 => ((some (l0.drop (x5_1 : Int).toNat : List ByteArray)).bind fun y286 => (if y283.length + y286.length < 8796093022208 then (some (y283 ++ y286)) else (none)))) else (none)))) else (none)) = some r := by first | (rw [hy272]; with_reducible exact H) | (have H2_ := (Option.bind_some _ _).symm.trans H; rw [hy272]; with_reducible exact H2_) | (have H2_ := (Option.bind_some _ _).symm.trans H; with_reducible exact H2_) | with_reducible exact H | (rw [hy272]; exact H) | exact H
    have Ny272 := Aside0.mk hy272
    clear hy272
    replace H := Own.ifn H; obtain ⟨c28, H⟩ := H
    have LMc28 := Aside0.mk c28
    clear c28
    obtain ⟨y277, hy277⟩ : ∃ y_ : List ByteArray, y_ = (y269 ++ y272) := ⟨_, rfl⟩
    replace H : ((some (([a1] : List ByteArray) : List ByteArray)).bind fun y280 => (if y277.length + y280.length < 8796093022208 then ((some (y277 ++ y280 : List ByteArray)).bind fun y283 => ((some (l0.drop (x5_1 : Int).toNat : List ByteArray)).bind fun y286 => (if y283.length + y286.length < 8796093022208 then (some (y283 ++ y286)) else (none)))) else (none))) = some r := by first | (rw [hy277]; with_reducible exact H) | (have H2_ := (Option.bind_some _ _).symm.trans H; rw [hy277]; with_reducible exact H2_) | (have H2_ := (Option.bind_some _ _).symm.trans H; with_reducible exact H2_) | with_reducible exact H | (rw [hy277]; exact H) | exact H
    have Ny277 := Aside0.mk hy277
    clear hy277
    obtain ⟨y280, hy280⟩ : ∃ y_ : List ByteArray, y_ = (([a1] : List ByteArray)) := ⟨_, rfl⟩
    replace H : (if y277.length + y280.length < 8796093022208 then ((some (y277 ++ y280 : List ByteArray)).bind fun y283 => ((some (l0.drop (x5_1 : Int).toNat : List ByteArray)).bind fun y286 => (if y283.length + y286.length < 8796093022208 then (some (y283 ++ y286)) else (none)))) else (none)) = some r := by first | (rw [hy280]; with_reducible exact H) | (have H2_ := (Option.bind_some _ _).symm.trans H; rw [hy280]; with_reducible exact H2_) | (have H2_ := (Option.bind_some _ _).symm.trans H; with_reducible exact H2_) | with_reducible exact H | (rw [hy280]; exact H) | exact H
    have Ny280 := Aside0.mk hy280
    clear hy280
    replace H := Own.ifn H; obtain ⟨c29, H⟩ := H
    have LMc29 := Aside0.mk c29
    clear c29
    obtain ⟨y283, hy283⟩ : ∃ y_ : List ByteArray, y_ = (y277 ++ y280) := ⟨_, rfl⟩
    replace H : ((some (l0.drop (x5_1 : Int).toNat : List ByteArray)).bind fun y286 => (if y283.length + y286.length < 8796093022208 then (some (y283 ++ y286)) else (none))) = some r := by first | (rw [hy283]; with_reducible exact H) | (have H2_ := (Option.bind_some _ _).symm.trans H; rw [hy283]; with_reducible exact H2_) | (have H2_ := (Option.bind_some _ _).symm.trans H; with_reducible exact H2_) | with_reducible exact H | (rw [hy283]; exact H) | exact H
    have Ny283 := Aside0.mk hy283
    clear hy283
    have c30b0 := eq_true (Own.dp : 0 ≤ x5_1)
    have c31b0 := eq_true (Own.dp : x5_1 ≤ (l0.length : Int))
    obtain ⟨y286, hy286⟩ : ∃ y_ : List ByteArray, y_ = (l0.drop (x5_1 : Int).toNat) := ⟨_, rfl⟩
    replace H : (if y283.length + y286.length < 8796093022208 then (some (y283 ++ y286)) else (none)) = some r := by first | (rw [hy286]; with_reducible exact H) | (have H2_ := (Option.bind_some _ _).symm.trans H; rw [hy286]; with_reducible exact H2_) | (have H2_ := (Option.bind_some _ _).symm.trans H; with_reducible exact H2_) | with_reducible exact H | (rw [hy286]; exact H) | exact H
    have Ny286 := Aside0.mk hy286
    clear hy286
    replace H := Own.ifn H; obtain ⟨c32, H⟩ := H
    have LMc32 := Aside0.mk c32
    clear c32
    obtain ⟨y291, hy291⟩ : ∃ y_ : List ByteArray, y_ = (y283 ++ y286) := ⟨_, rfl⟩
    replace H : (some y291) = some r := by first | (rw [hy291]; with_reducible exact H) | (have H2_ := (Option.bind_some _ _).symm.trans H; rw [hy291]; with_reducible exact H2_) | (have H2_ := (Option.bind_some _ _).symm.trans H; with_reducible exact H2_) | with_reducible exact H | (rw [hy291]; exact H) | exact H
    have Ny291 := Aside0.mk hy291
    clear hy291
    obtain rfl := Option.some.inj H
    try go_wp2
    have n0_ := Aside0.mk (Kd.V_drew HO_0.out)
    have n1_ := Aside0.mk (below_drew1 HB.out)
    clear HO_0
    clear HB
    have HO_0 := n0_
    have HB := n1_
    clear n0_ n1_
    have q34 : (x5_1 : Int) ≤ ((l0.length : Int) : Int) := Own.dp
    obtain ⟨i034, hi034, _, hsz34, _⟩ := info_parts info9
    have hroom34 : l0.length ≤ c0 := (Kd.V_reads' HO_0.out).2.1
    have hC34 : Kd.F Kd.string _ _ A0 l0.length l0 := (Kd.V_at (base := w.heap.size) HO_0.out).2.2
    have hcut34 := cut_to (P := Tryz.prog) 22 9 .i64 Tryz.underlying22 hi034 A0 l0.length c0 x5_1 (Own.dp) q34 hroom34
    have hr34 := Kd.F_take (m := (x5_1 : Int).toNat) hC34 (by omega)
    have hy34 : y272.length = (x5_1 : Int).toNat := (by rw [Ny272.out, List.length_take]; omega)
    rw [← Ny272.out] at hr34
    rw [← hy34] at hcut34
    have HO276 := Aside0.mk (show Kd.V Kd.string 9 _ w.heap.size _ (.slice A0 y272.length c0) y272 from Kd.V_mk (by omega) hr34)
    have HC276 := Aside0.mk (show y272.length ≤ c0 from by omega)
    clear hr34 hC34 hroom34 hi034 hsz34
    have KY34 := Aside0.mk hy34
    clear hy34
    replace q34 := eq_true q34
    have q35 : (x5_1 : Int) ≤ ((l0.length : Int) : Int) := Own.dp
    obtain ⟨i035, hi035, _, hsz35, _⟩ := info_parts info9
    have hroom35 : l0.length ≤ c0 := (Kd.V_reads' HO_0.out).2.1
    have hC35 : Kd.F Kd.string _ _ A0 l0.length l0 := (Kd.V_at (base := w.heap.size) HO_0.out).2.2
    have q035 : (0 : Int) ≤ (x5_1 : Int) := Own.dp
    have hcut35 := cut_from (P := Tryz.prog) 22 9 .i64 Tryz.underlying22 hi035 1 hsz35 A0 l0.length c0 x5_1 q035 q35
    have hr35 := Kd.F_cut (m := (x5_1 : Int).toNat) (c := c0) hC35 (by omega) hroom35
    obtain ⟨A35, hA35⟩ : ∃ A1, A1 = (if c0 = (x5_1 : Int).toNat then A0 else (A0 : Option Addr).map (·.add ((x5_1 : Int).toNat * 1))) := ⟨_, rfl⟩
    obtain ⟨c35, hc35⟩ : ∃ c1, c1 = c0 - (x5_1 : Int).toNat := ⟨_, rfl⟩
    have hy35 : y286.length = l0.length - (x5_1 : Int).toNat := (by rw [Ny286.out, List.length_drop] <;> omega)
    rw [show (l0).drop (x5_1 : Int).toNat = y286 from Ny286.out.symm] at hr35
    replace hr35 : Kd.F Kd.string _ _ A35 y286.length y286 := (by rw [hA35]; exact hr35)
    rw [← hy35, ← hA35, ← hc35] at hcut35
    have HO290 := Aside0.mk (show Kd.V Kd.string 9 _ w.heap.size _ (.slice A35 y286.length c35) y286 from Kd.V_mk (by rw [hy35, hc35]; exact Nat.sub_le_sub_right hroom35 _) hr35)
    have HC290 := Aside0.mk (show y286.length ≤ c35 from by rw [hy35, hc35]; exact Nat.sub_le_sub_right hroom35 _)
    clear hr35 hC35 hroom35 hi035 hsz35 hc35
    have KY35 := Aside0.mk hy35
    have KA35 := Aside0.mk hA35
    clear hy35 hA35
    replace q35 := eq_true q35
    refine start_ (n := 13) (S := fun w' => True) (ds := []) #[false, false, false, false, false, false, false, false, false, false, false, false, false] (by kernel_rfl) rfl rfl trivial (fun hHeld => ?_); refine with_tabW spec_l5Put.tab6 spec_l5Put.bits6 (fun HT_ HW_ => ?_)
    generalize wr.drew = w33 at HO_0 HB HO276 HO290 hHeld ⊢
    refine pure_ (i := 1) (N := some 34) (v := ?_) (a' := ?_) #[false, true, false, false, false, false, false, false, false, false, false, false, false] rfl rfl (any_of HT_.out (by kernel_rfl)) (fun _ _ _ h => h) (Or.inl ⟨by rfl, ?_⟩) ?_ ?_
    rotate_left
    ·
     intro w'
     go_simp
     with_reducible rfl
    rotate_left
    ·
     simp only [Own.ps]
     rfl
    refine pure_ (i := 2) (N := some 35) (v := ?_) (a' := ?_) #[false, true, true, false, false, false, false, false, false, false, false, false, false] rfl rfl (any_of HT_.out (by kernel_rfl)) (fun _ _ _ h => h) (Or.inl ⟨by rfl, ?_⟩) ?_ ?_
    rotate_left
    ·
     intro w'
     go_simp
     with_reducible rfl
    rotate_left
    ·
     simp only [Own.ps]
     rfl
    refine pure_ (i := 3) (N := some 36) (v := ?_) (a' := ?_) #[false, true, true, true, false, false, false, false, false, false, false, false, false] rfl rfl (any_of HT_.out (by kernel_rfl)) (fun _ _ _ h => h) (Or.inl ⟨by rfl, ?_⟩) ?_ ?_
    rotate_left
    ·
     intro w'
     go_simp
     with_reducible rfl
    rotate_left
    ·
     simp only [Own.ps]
     rfl
    refine pure_ (i := 5) (N := some 38) (v := ?_) (a' := ?_) #[false, true, true, true, false, true, false, false, false, false, false, false, false] rfl rfl (any_of HT_.out (by kernel_rfl)) (fun _ _ _ h => h) (Or.inl ⟨by rfl, ?_⟩) ?_ ?_
    rotate_left
    ·
     intro w'
     go_simp
     with_reducible rfl
    rotate_left
    ·
     simp only [Own.ps]
     rfl
    refine pure_ (i := 8) (N := some 41) (v := ?_) (a' := ?_) #[false, true, true, true, false, true, false, false, true, false, false, false, false] rfl rfl (any_of HT_.out (by kernel_rfl)) (fun _ _ _ h => h) (Or.inl ⟨by rfl, ?_⟩) ?_ ?_
    rotate_left
    ·
     intro w'
     go_simp
     with_reducible rfl
    rotate_left
    ·
     simp only [Own.ps]
     rfl
    refine pure_ (i := 9) (N := some 42) (v := ?_) (a' := ?_) #[false, true, true, true, false, true, false, false, true, true, false, false, false] rfl rfl (any_of HT_.out (by kernel_rfl)) (fun _ _ _ h => h) (Or.inl ⟨by rfl, ?_⟩) ?_ ?_
    rotate_left
    ·
     intro w'
     go_simp
     with_reducible rfl
    rotate_left
    ·
     simp only [Own.ps]
     rfl
    refine pure_ (i := 10) (N := some 43) (v := ?_) (a' := ?_) #[false, true, true, true, false, true, false, false, true, true, true, false, false] rfl rfl (any_of HT_.out (by kernel_rfl)) (fun _ _ _ h => h) (Or.inl ⟨by rfl, ?_⟩) ?_ ?_
    rotate_left
    ·
     intro w'
     go_simp
     with_reducible rfl
    rotate_left
    ·
     simp only [Own.ps]
     rfl
    refine join_ (σ := Value × Value × Value) 3 #[true, true, true, true, true, true, true, false, true, true, true, false, false] (fun s_ => [(33, s_.1), (37, s_.2.1), (39, s_.2.2)]) (fun s_ w' => (Kd.V Kd.string 9 w' w.heap.size (fun k_ => (P0_ k_ ∨ w.heap.size ≤ k_) ∧ some k_ ≠ (s_.2.1 : Value).ownBlock ∧ some k_ ≠ (s_.2.2 : Value).ownBlock) (.slice A0 y272.length c0) y272) ∧ (Kd.R Kd.string 9 w' w.heap.size (fun k_ => (w.heap.size ≤ k_) ∧ some k_ ≠ (s_.2.2 : Value).ownBlock) s_.2.1 y277) ∧ (Kd.R Kd.string 9 w' w.heap.size (fun k_ => (w.heap.size ≤ k_) ∧ some k_ ≠ (s_.2.1 : Value).ownBlock) s_.2.2 y280) ∧ (Kd.V Kd.string 9 w' w.heap.size (fun k_ => (P0_ k_ ∨ w.heap.size ≤ k_) ∧ some k_ ≠ (s_.2.1 : Value).ownBlock ∧ some k_ ≠ (s_.2.2 : Value).ownBlock) (.slice A35 y286.length c35) y286) ∧ (Kd.V Kd.string 9 w' w.heap.size (fun k_ => (P0_ k_ ∨ w.heap.size ≤ k_) ∧ some k_ ≠ (s_.2.1 : Value).ownBlock ∧ some k_ ≠ (s_.2.2 : Value).ownBlock) (.slice A0 l0.length c0) l0) ∧ (Below w.heap.size w w')) ?_ ?_
    rotate_left
    ·
     intro hCont
     refine two_ (i := 0) (j := 6) (Ni := some 33) (Nj := some 39) #[true, true, true, true, false, true, false, false, true, true, true, false, false] #[false, true, true, true, false, true, true, false, true, true, true, false, false] rfl rfl rfl rfl (two_of HT_.out (by kernel_rfl)) (by decide) (by decide) (fun K hK => ?_) (fun K hK => ?_)
     ·
      skip
      refine Kd.R_lit_step Kd.string _ 9 ?hg (N := 33) ?hd (xs := ([] : List ByteArray)) (inner := []) (ok := fun _ => True) (okp := fun _ => True) ?hr ?hp (fun _ hk => hk) trivial (Below.refl _ _) (Nat.le_refl _) (by simp) ?_; (case hd => rfl); (case hg => rfl); (case hr => first | (go_simp; done) | (go_simp; rfl)); (case hp => exact (Reps.none _ _))
      intro v270 w36 ho37 hb hg_ hnew_
      clear hg_ hnew_
      (first | rw [← Ny269.out] at ho37 | (simp only [Int.reduceToNat] at ho37; rw [← Ny269.out] at ho37))
      have n0_ := Aside0.mk (Kd.V_elder' (Own.vd HO_0.out) (Kd.R_base ho37) hb)
      have n1_ := Aside0.mk (Kd.V_elder' (Own.vd HO276.out) (Kd.R_base ho37) hb)
      have n2_ := Aside0.mk (Kd.V_elder' (Own.vd HO290.out) (Kd.R_base ho37) hb)
      have n3_ := Aside0.mk (Kd.R_lower (Kd.R_newM (M := fun k_ => (w.heap.size ≤ k_)) ho37 (below_size Own.bl) (fun k_ h_ => h_)) (below_size Own.bl))
      have n4_ := Own.bs hb
      clear HO_0
      clear HO276
      clear HO290
      clear HB
      have HO_0 := n0_
      have HO276 := n1_
      have HO290 := n2_
      have HO271 := n3_
      have HB := n4_
      clear n0_ n1_ n2_ n3_ n4_
      clear hb ho37
      refine hK.out _ _ trivial (fun hHeld => ?_)
      clear hK K
      refine norm_ (a' := ?_) ?_ ?_
      rotate_left
      ·
       show Act.put _ (some 33) _ = _
       simp only [Own.ps]
       rfl
      refine two_ (i := 4) (j := 6) (Ni := some 37) (Nj := some 39) #[true, true, true, true, true, true, false, false, true, true, true, false, false] #[true, true, true, true, false, true, true, false, true, true, true, false, false] rfl rfl rfl rfl (two_of HT_.out (by kernel_rfl)) (by decide) (by decide) (fun K hK => ?_) (fun K hK => ?_)
      ·
       skip
       refine Kd.R_append_rows_step Kd.string (w0 := w) w.heap.size (by rfl) (.tmp 33) (.tmp 36) 22 9 (.string ⟨#[]⟩) 16 rfl Tryz.underlying22 info9 rfl (by decide) (by omega) v270 y269 y272 _ _ _ (fun k_ => (w.heap.size ≤ k_)) (fun _ => False) rfl rfl ?aO ?aR (fun _ _ h => h) (fun _ h => h.elim) ?aF ?aB ?aS ?aL ?_
       (case aR => repeat (first | exact (Kd.V_reads' HO276.out).2.2 | (with_reducible refine Kd.C_alloc ?_ _) | (with_reducible refine Kd.C_drewN ?_ _) | (with_reducible refine Kd.C_drew ?_)))
       (case aB => exact Own.bl)
       (case aF => exact (fun k_ hk => (Nat.le_trans (below_size Own.bl) hk)))
       (case aO => exact (by (with_reducible repeat (first | apply Kd.R_alloc | apply Kd.R_drewN | apply Kd.R_drew)); exact Kd.R_mono HO271.out (fun _ hk => hk.1)))
       (case aS => exact (below_size Own.bl))
       (case aL => have := LMc28.out; omega)
       intro v278 w38 ho hb hg hat
       rw [← Ny277.out] at ho
       have n0_ := Aside0.mk (Kd.V_afterv (ok := (fun k_ => (P0_ k_ ∨ w.heap.size ≤ k_))) (Own.vd HO_0.out) hg hat)
       have n1_ := Aside0.mk (Kd.V_afterv (ok := (fun k_ => (P0_ k_ ∨ w.heap.size ≤ k_))) (Own.vd HO276.out) hg hat)
       have n2_ := Aside0.mk (Kd.V_afterv (ok := (fun k_ => (P0_ k_ ∨ w.heap.size ≤ k_))) (Own.vd HO290.out) hg hat)
       have n3_ := Aside0.mk (hb)
       have n4_ := Aside0.mk (ho)
       clear HO_0
       clear HO276
       clear HO290
       clear HB
       clear HO271
       have HO_0 := n0_
       have HO276 := n1_
       have HO290 := n2_
       have HB := n3_
       have HO279 := n4_
       clear n0_ n1_ n2_ n3_ n4_
       clear ho hb hg hat
       refine hK.out _ _ trivial (fun hHeld => ?_)
       clear hK K
       refine norm_ (a' := ?_) ?_ ?_
       rotate_left
       ·
        show Act.put _ (some 37) _ = _
        simp only [Own.ps]
        rfl
       refine one_ (i := 6) (N := some 39) #[true, true, true, true, true, true, true, false, true, true, true, false, false] rfl rfl (one_of HT_.out (by kernel_rfl)) (by decide) (fun K hK => ?_)
       refine Kd.R_lit_step Kd.string _ 9 ?hg (N := 39) ?hd (xs := ([a1] : List ByteArray)) (inner := [.string a1]) (ok := fun _ => True) (okp := fun _ => True) ?hr ?hp (fun _ hk => hk) trivial (Below.refl _ _) (Nat.le_refl _) (by simp) ?_; (case hd => rfl); (case hg => rfl); (case hr => first | (go_simp; done) | (go_simp; rfl)); (case hp => exact (Reps.one (show Kd.M Kd.string _ _ _ a1 [.string a1] from rfl) (Reps.none _ _)))
       intro v281 w39 ho40 hb hg_ hnew_
       clear hg_ hnew_
       (first | rw [← Ny280.out] at ho40 | (simp only [Int.reduceToNat] at ho40; rw [← Ny280.out] at ho40))
       have n0_ := Aside0.mk (Kd.V_elder' (Own.vd HO_0.out) (Kd.R_base ho40) hb)
       have n1_ := Aside0.mk (Kd.V_elder' (Own.vd HO276.out) (Kd.R_base ho40) hb)
       have n2_ := Aside0.mk (Kd.V_elder' (Own.vd HO290.out) (Kd.R_base ho40) hb)
       have n3_ := Aside0.mk (Kd.R_elder' (Own.rd HO279.out) (Kd.R_base ho40) hb)
       have n4_ := Aside0.mk (Kd.R_lower (Kd.R_new' (Kd.R_newM (M := fun k_ => (w.heap.size ≤ k_)) ho40 (below_size Own.bl) (fun k_ h_ => h_)) (Kd.R_lt (Own.rd HO279.out))) (below_size Own.bl))
       have n5_ := Own.bs hb
       clear HO_0
       clear HO276
       clear HO290
       clear HO279
       clear HB
       have HO_0 := n0_
       have HO276 := n1_
       have HO290 := n2_
       have HO279 := n3_
       have HO282 := n4_
       have HB := n5_
       clear n0_ n1_ n2_ n3_ n4_ n5_
       clear hb ho40
       refine hK.out _ _ trivial (fun hHeld => ?_)
       clear hK K
       refine norm_ (a' := ?_) ?_ ?_
       rotate_left
       ·
        show Act.put _ (some 39) _ = _
        simp only [Own.ps]
        rfl
       exact norm_ (by simp only [putAll, Act.put, List.setIfInBounds_toArray, List.set_cons_zero, List.set_cons_succ]) (hCont (v270, v278, v281) _ ⟨(by (with_reducible repeat (first | apply Kd.V_alloc | apply Kd.V_drewN | apply Kd.V_drew)); exact Kd.V_mono HO276.out (fun _ hk => ⟨hk.1.1, ⟨hk.1.2, hk.2⟩⟩)), (Own.rd HO279.out), (by (with_reducible repeat (first | apply Kd.R_alloc | apply Kd.R_drewN | apply Kd.R_drew)); exact Kd.R_mono HO282.out (fun _ hk => ⟨hk.1.1, hk.2⟩)), (by (with_reducible repeat (first | apply Kd.V_alloc | apply Kd.V_drewN | apply Kd.V_drew)); exact Kd.V_mono HO290.out (fun _ hk => ⟨hk.1.1, ⟨hk.1.2, hk.2⟩⟩)), (by (with_reducible repeat (first | apply Kd.V_alloc | apply Kd.V_drewN | apply Kd.V_drew)); exact Kd.V_mono HO_0.out (fun _ hk => ⟨hk.1.1, ⟨hk.1.2, hk.2⟩⟩)), Own.bl⟩)
      ·
       skip
       refine Kd.R_lit_step Kd.string _ 9 ?hg (N := 39) ?hd (xs := ([a1] : List ByteArray)) (inner := [.string a1]) (ok := fun _ => True) (okp := fun _ => True) ?hr ?hp (fun _ hk => hk) trivial (Below.refl _ _) (Nat.le_refl _) (by simp) ?_; (case hd => rfl); (case hg => rfl); (case hr => first | (go_simp; done) | (go_simp; rfl)); (case hp => exact (Reps.one (show Kd.M Kd.string _ _ _ a1 [.string a1] from rfl) (Reps.none _ _)))
       intro v281 w38 ho39 hb hg_ hnew_
       clear hg_ hnew_
       (first | rw [← Ny280.out] at ho39 | (simp only [Int.reduceToNat] at ho39; rw [← Ny280.out] at ho39))
       have n0_ := Aside0.mk (Kd.V_elder' (Own.vd HO_0.out) (Kd.R_base ho39) hb)
       have n1_ := Aside0.mk (Kd.V_elder' (Own.vd HO276.out) (Kd.R_base ho39) hb)
       have n2_ := Aside0.mk (Kd.V_elder' (Own.vd HO290.out) (Kd.R_base ho39) hb)
       have n3_ := Aside0.mk (Kd.R_elder' (Own.rd HO271.out) (Kd.R_base ho39) hb)
       have n4_ := Aside0.mk (Kd.R_lower (Kd.R_new' (Kd.R_newM (M := fun k_ => (w.heap.size ≤ k_)) ho39 (below_size Own.bl) (fun k_ h_ => h_)) (Kd.R_lt (Own.rd HO271.out))) (below_size Own.bl))
       have n5_ := Own.bs hb
       clear HO_0
       clear HO276
       clear HO290
       clear HO271
       clear HB
       have HO_0 := n0_
       have HO276 := n1_
       have HO290 := n2_
       have HO271 := n3_
       have HO282 := n4_
       have HB := n5_
       clear n0_ n1_ n2_ n3_ n4_ n5_
       clear hb ho39
       refine hK.out _ _ trivial (fun hHeld => ?_)
       clear hK K
       refine norm_ (a' := ?_) ?_ ?_
       rotate_left
       ·
        show Act.put _ (some 39) _ = _
        simp only [Own.ps]
        rfl
       refine one_ (i := 4) (N := some 37) #[true, true, true, true, true, true, true, false, true, true, true, false, false] rfl rfl (one_of HT_.out (by kernel_rfl)) (by decide) (fun K hK => ?_)
       refine Kd.R_append_rows_step Kd.string (w0 := w) w.heap.size (by rfl) (.tmp 33) (.tmp 36) 22 9 (.string ⟨#[]⟩) 16 rfl Tryz.underlying22 info9 rfl (by decide) (by omega) v270 y269 y272 _ _ _ (fun k_ => (w.heap.size ≤ k_) ∧ some k_ ≠ (v281 : Value).ownBlock) (fun _ => False) rfl rfl ?aO ?aR (fun _ _ h => h) (fun _ h => h.elim) ?aF ?aB ?aS ?aL ?_
       (case aR => repeat (first | exact (Kd.V_reads' HO276.out).2.2 | (with_reducible refine Kd.C_alloc ?_ _) | (with_reducible refine Kd.C_drewN ?_ _) | (with_reducible refine Kd.C_drew ?_)))
       (case aB => exact Own.bl)
       (case aF => exact (fun k_ hk => ⟨(Nat.le_trans (below_size Own.bl) hk), Kd.fresh' (Kd.R_lt (Own.rd HO282.out)) k_ hk⟩))
       (case aO => exact (by (with_reducible repeat (first | apply Kd.R_alloc | apply Kd.R_drewN | apply Kd.R_drew)); exact Kd.R_mono HO271.out (fun _ hk => ⟨hk.1.1, hk.2⟩)))
       (case aS => exact (below_size Own.bl))
       (case aL => have := LMc28.out; omega)
       intro v278 w40 ho hb hg hat
       rw [← Ny277.out] at ho
       have n0_ := Aside0.mk (Kd.V_afterv (ok := (fun k_ => (P0_ k_ ∨ w.heap.size ≤ k_) ∧ some k_ ≠ (v281 : Value).ownBlock)) (by (with_reducible repeat (first | apply Kd.V_alloc | apply Kd.V_drewN | apply Kd.V_drew)); exact Kd.V_mono HO_0.out (fun _ hk => ⟨⟨hk.1.1, hk.2⟩, hk.1.2⟩)) hg hat)
       have n1_ := Aside0.mk (Kd.V_afterv (ok := (fun k_ => (P0_ k_ ∨ w.heap.size ≤ k_) ∧ some k_ ≠ (v281 : Value).ownBlock)) (by (with_reducible repeat (first | apply Kd.V_alloc | apply Kd.V_drewN | apply Kd.V_drew)); exact Kd.V_mono HO276.out (fun _ hk => ⟨⟨hk.1.1, hk.2⟩, hk.1.2⟩)) hg hat)
       have n2_ := Aside0.mk (Kd.V_afterv (ok := (fun k_ => (P0_ k_ ∨ w.heap.size ≤ k_) ∧ some k_ ≠ (v281 : Value).ownBlock)) (by (with_reducible repeat (first | apply Kd.V_alloc | apply Kd.V_drewN | apply Kd.V_drew)); exact Kd.V_mono HO290.out (fun _ hk => ⟨⟨hk.1.1, hk.2⟩, hk.1.2⟩)) hg hat)
       have n3_ := Aside0.mk (Kd.R_after (ok := (fun k_ => (w.heap.size ≤ k_))) (by (with_reducible repeat (first | apply Kd.R_alloc | apply Kd.R_drewN | apply Kd.R_drew)); exact Kd.R_mono HO282.out (fun _ hk => ⟨hk.1.1, hk.2⟩)) hg hat)
       have n4_ := Aside0.mk (hb)
       have n5_ := Aside0.mk (ho)
       clear HO_0
       clear HO276
       clear HO290
       clear HO282
       clear HB
       clear HO271
       have HO_0 := n0_
       have HO276 := n1_
       have HO290 := n2_
       have HO282 := n3_
       have HB := n4_
       have HO279 := n5_
       clear n0_ n1_ n2_ n3_ n4_ n5_
       clear ho hb hg hat
       refine hK.out _ _ trivial (fun hHeld => ?_)
       clear hK K
       refine norm_ (a' := ?_) ?_ ?_
       rotate_left
       ·
        show Act.put _ (some 37) _ = _
        simp only [Own.ps]
        rfl
       exact norm_ (by simp only [putAll, Act.put, List.setIfInBounds_toArray, List.set_cons_zero, List.set_cons_succ]) (hCont (v270, v278, v281) _ ⟨(by (with_reducible repeat (first | apply Kd.V_alloc | apply Kd.V_drewN | apply Kd.V_drew)); exact Kd.V_mono HO276.out (fun _ hk => ⟨hk.1.1, ⟨hk.2, hk.1.2⟩⟩)), (Own.rd HO279.out), (Own.rd HO282.out), (by (with_reducible repeat (first | apply Kd.V_alloc | apply Kd.V_drewN | apply Kd.V_drew)); exact Kd.V_mono HO290.out (fun _ hk => ⟨hk.1.1, ⟨hk.2, hk.1.2⟩⟩)), (by (with_reducible repeat (first | apply Kd.V_alloc | apply Kd.V_drewN | apply Kd.V_drew)); exact Kd.V_mono HO_0.out (fun _ hk => ⟨hk.1.1, ⟨hk.2, hk.1.2⟩⟩)), Own.bl⟩)
     ·
      skip
      refine Kd.R_lit_step Kd.string _ 9 ?hg (N := 39) ?hd (xs := ([a1] : List ByteArray)) (inner := [.string a1]) (ok := fun _ => True) (okp := fun _ => True) ?hr ?hp (fun _ hk => hk) trivial (Below.refl _ _) (Nat.le_refl _) (by simp) ?_; (case hd => rfl); (case hg => rfl); (case hr => first | (go_simp; done) | (go_simp; rfl)); (case hp => exact (Reps.one (show Kd.M Kd.string _ _ _ a1 [.string a1] from rfl) (Reps.none _ _)))
      intro v281 w36 ho37 hb hg_ hnew_
      clear hg_ hnew_
      (first | rw [← Ny280.out] at ho37 | (simp only [Int.reduceToNat] at ho37; rw [← Ny280.out] at ho37))
      have n0_ := Aside0.mk (Kd.V_elder' (Own.vd HO_0.out) (Kd.R_base ho37) hb)
      have n1_ := Aside0.mk (Kd.V_elder' (Own.vd HO276.out) (Kd.R_base ho37) hb)
      have n2_ := Aside0.mk (Kd.V_elder' (Own.vd HO290.out) (Kd.R_base ho37) hb)
      have n3_ := Aside0.mk (Kd.R_lower (Kd.R_newM (M := fun k_ => (w.heap.size ≤ k_)) ho37 (below_size Own.bl) (fun k_ h_ => h_)) (below_size Own.bl))
      have n4_ := Own.bs hb
      clear HO_0
      clear HO276
      clear HO290
      clear HB
      have HO_0 := n0_
      have HO276 := n1_
      have HO290 := n2_
      have HO282 := n3_
      have HB := n4_
      clear n0_ n1_ n2_ n3_ n4_
      clear hb ho37
      refine hK.out _ _ trivial (fun hHeld => ?_)
      clear hK K
      refine norm_ (a' := ?_) ?_ ?_
      rotate_left
      ·
       show Act.put _ (some 39) _ = _
       simp only [Own.ps]
       rfl
      refine one_ (i := 0) (N := some 33) #[true, true, true, true, false, true, true, false, true, true, true, false, false] rfl rfl (one_of HT_.out (by kernel_rfl)) (by decide) (fun K hK => ?_)
      refine Kd.R_lit_step Kd.string _ 9 ?hg (N := 33) ?hd (xs := ([] : List ByteArray)) (inner := []) (ok := fun _ => True) (okp := fun _ => True) ?hr ?hp (fun _ hk => hk) trivial (Below.refl _ _) (Nat.le_refl _) (by simp) ?_; (case hd => rfl); (case hg => rfl); (case hr => first | (go_simp; done) | (go_simp; rfl)); (case hp => exact (Reps.none _ _))
      intro v270 w38 ho39 hb hg_ hnew_
      clear hg_ hnew_
      (first | rw [← Ny269.out] at ho39 | (simp only [Int.reduceToNat] at ho39; rw [← Ny269.out] at ho39))
      have n0_ := Aside0.mk (Kd.V_elder' (Own.vd HO_0.out) (Kd.R_base ho39) hb)
      have n1_ := Aside0.mk (Kd.V_elder' (Own.vd HO276.out) (Kd.R_base ho39) hb)
      have n2_ := Aside0.mk (Kd.V_elder' (Own.vd HO290.out) (Kd.R_base ho39) hb)
      have n3_ := Aside0.mk (Kd.R_elder' (Own.rd HO282.out) (Kd.R_base ho39) hb)
      have n4_ := Aside0.mk (Kd.R_lower (Kd.R_new' (Kd.R_newM (M := fun k_ => (w.heap.size ≤ k_)) ho39 (below_size Own.bl) (fun k_ h_ => h_)) (Kd.R_lt (Own.rd HO282.out))) (below_size Own.bl))
      have n5_ := Own.bs hb
      clear HO_0
      clear HO276
      clear HO290
      clear HO282
      clear HB
      have HO_0 := n0_
      have HO276 := n1_
      have HO290 := n2_
      have HO282 := n3_
      have HO271 := n4_
      have HB := n5_
      clear n0_ n1_ n2_ n3_ n4_ n5_
      clear hb ho39
      refine hK.out _ _ trivial (fun hHeld => ?_)
      clear hK K
      refine norm_ (a' := ?_) ?_ ?_
      rotate_left
      ·
       show Act.put _ (some 33) _ = _
       simp only [Own.ps]
       rfl
      refine one_ (i := 4) (N := some 37) #[true, true, true, true, true, true, true, false, true, true, true, false, false] rfl rfl (one_of HT_.out (by kernel_rfl)) (by decide) (fun K hK => ?_)
      refine Kd.R_append_rows_step Kd.string (w0 := w) w.heap.size (by rfl) (.tmp 33) (.tmp 36) 22 9 (.string ⟨#[]⟩) 16 rfl Tryz.underlying22 info9 rfl (by decide) (by omega) v270 y269 y272 _ _ _ (fun k_ => (w.heap.size ≤ k_) ∧ some k_ ≠ (v281 : Value).ownBlock) (fun _ => False) rfl rfl ?aO ?aR (fun _ _ h => h) (fun _ h => h.elim) ?aF ?aB ?aS ?aL ?_
      (case aR => repeat (first | exact (Kd.V_reads' HO276.out).2.2 | (with_reducible refine Kd.C_alloc ?_ _) | (with_reducible refine Kd.C_drewN ?_ _) | (with_reducible refine Kd.C_drew ?_)))
      (case aB => exact Own.bl)
      (case aF => exact (fun k_ hk => ⟨(Nat.le_trans (below_size Own.bl) hk), Kd.fresh' (Kd.R_lt (Own.rd HO282.out)) k_ hk⟩))
      (case aO => exact (by (with_reducible repeat (first | apply Kd.R_alloc | apply Kd.R_drewN | apply Kd.R_drew)); exact Kd.R_mono HO271.out (fun _ hk => ⟨hk.1.1, hk.2⟩)))
      (case aS => exact (below_size Own.bl))
      (case aL => have := LMc28.out; omega)
      intro v278 w40 ho hb hg hat
      rw [← Ny277.out] at ho
      have n0_ := Aside0.mk (Kd.V_afterv (ok := (fun k_ => (P0_ k_ ∨ w.heap.size ≤ k_) ∧ some k_ ≠ (v281 : Value).ownBlock)) (Own.vd HO_0.out) hg hat)
      have n1_ := Aside0.mk (Kd.V_afterv (ok := (fun k_ => (P0_ k_ ∨ w.heap.size ≤ k_) ∧ some k_ ≠ (v281 : Value).ownBlock)) (Own.vd HO276.out) hg hat)
      have n2_ := Aside0.mk (Kd.V_afterv (ok := (fun k_ => (P0_ k_ ∨ w.heap.size ≤ k_) ∧ some k_ ≠ (v281 : Value).ownBlock)) (Own.vd HO290.out) hg hat)
      have n3_ := Aside0.mk (Kd.R_after (ok := (fun k_ => (w.heap.size ≤ k_))) (by (with_reducible repeat (first | apply Kd.R_alloc | apply Kd.R_drewN | apply Kd.R_drew)); exact Kd.R_mono HO282.out (fun _ hk => ⟨hk.1.1, hk.2⟩)) hg hat)
      have n4_ := Aside0.mk (hb)
      have n5_ := Aside0.mk (ho)
      clear HO_0
      clear HO276
      clear HO290
      clear HO282
      clear HB
      clear HO271
      have HO_0 := n0_
      have HO276 := n1_
      have HO290 := n2_
      have HO282 := n3_
      have HB := n4_
      have HO279 := n5_
      clear n0_ n1_ n2_ n3_ n4_ n5_
      clear ho hb hg hat
      refine hK.out _ _ trivial (fun hHeld => ?_)
      clear hK K
      refine norm_ (a' := ?_) ?_ ?_
      rotate_left
      ·
       show Act.put _ (some 37) _ = _
       simp only [Own.ps]
       rfl
      exact norm_ (by simp only [putAll, Act.put, List.setIfInBounds_toArray, List.set_cons_zero, List.set_cons_succ]) (hCont (v270, v278, v281) _ ⟨(by (with_reducible repeat (first | apply Kd.V_alloc | apply Kd.V_drewN | apply Kd.V_drew)); exact Kd.V_mono HO276.out (fun _ hk => ⟨hk.1.1, ⟨hk.2, hk.1.2⟩⟩)), (Own.rd HO279.out), (Own.rd HO282.out), (by (with_reducible repeat (first | apply Kd.V_alloc | apply Kd.V_drewN | apply Kd.V_drew)); exact Kd.V_mono HO290.out (fun _ hk => ⟨hk.1.1, ⟨hk.2, hk.1.2⟩⟩)), (by (with_reducible repeat (first | apply Kd.V_alloc | apply Kd.V_drewN | apply Kd.V_drew)); exact Kd.V_mono HO_0.out (fun _ hk => ⟨hk.1.1, ⟨hk.2, hk.1.2⟩⟩)), Own.bl⟩)
    rintro ⟨v270, v278, v281⟩ w41 ⟨h0_, h1_, h2_, h3_, h4_, h5_⟩
    have n0_ : Aside0 (Kd.V Kd.string 9 w41 w.heap.size (fun k_ => (P0_ k_ ∨ w.heap.size ≤ k_) ∧ some k_ ≠ (v278 : Value).ownBlock ∧ some k_ ≠ (v281 : Value).ownBlock) (.slice A0 y272.length c0) y272) := ⟨h0_⟩
    have n1_ : Aside0 (Kd.R Kd.string 9 w41 w.heap.size (fun k_ => (w.heap.size ≤ k_) ∧ some k_ ≠ (v281 : Value).ownBlock) v278 y277) := ⟨h1_⟩
    have n2_ : Aside0 (Kd.R Kd.string 9 w41 w.heap.size (fun k_ => (w.heap.size ≤ k_) ∧ some k_ ≠ (v278 : Value).ownBlock) v281 y280) := ⟨h2_⟩
    have n3_ : Aside0 (Kd.V Kd.string 9 w41 w.heap.size (fun k_ => (P0_ k_ ∨ w.heap.size ≤ k_) ∧ some k_ ≠ (v278 : Value).ownBlock ∧ some k_ ≠ (v281 : Value).ownBlock) (.slice A35 y286.length c35) y286) := ⟨h3_⟩
    have n4_ : Aside0 (Kd.V Kd.string 9 w41 w.heap.size (fun k_ => (P0_ k_ ∨ w.heap.size ≤ k_) ∧ some k_ ≠ (v278 : Value).ownBlock ∧ some k_ ≠ (v281 : Value).ownBlock) (.slice A0 l0.length c0) l0) := ⟨h4_⟩
    have n5_ : Aside0 (Below w.heap.size w w41) := ⟨h5_⟩
    clear HO_0
    clear HB
    clear h0_ h1_ h2_ h3_ h4_ h5_
    have HO276 := n0_
    have HO279 := n1_
    have HO282 := n2_
    have HO290 := n3_
    have HO_0 := n4_
    have HB := n5_
    clear n0_ n1_ n2_ n3_ n4_ n5_
    have hHeld := trivial
    obtain ⟨Ao43, co43, eo43⟩ := Kd.R_slice HO282.out
    (first | subst eo43 | (injection eo43 with f1_ f2_ f3_; have f4_ := f1_.symm; have f5_ := f3_.symm; clear f1_ f2_ f3_; subst f4_; subst f5_))
    refine norm_ (a' := ?_) ?_ ?_
    rotate_left
    ·
     simp only [putAll, Act.put, List.setIfInBounds_toArray, List.set_cons_zero, List.set_cons_succ]
     rfl
    refine one_ (i := 7) (N := some 40) #[true, true, true, true, true, true, true, true, true, true, true, false, false] rfl rfl (one_of HT_.out (by kernel_rfl)) (by decide) (fun K hK => ?_)
    refine Kd.R_append_rows_step Kd.string (w0 := w) w.heap.size (by rfl) (.tmp 37) (.tmp 39) 22 9 (.string ⟨#[]⟩) 16 rfl Tryz.underlying22 info9 rfl (by decide) (by omega) v278 y277 y280 _ _ _ (fun k_ => (w.heap.size ≤ k_) ∧ some k_ ≠ (.slice Ao43 y280.length co43 : Value).ownBlock) (fun _ => False) rfl rfl ?aO ?aR (fun _ _ h => h) (fun _ h => h.elim) ?aF ?aB ?aS ?aL ?_
    (case aR => repeat (first | exact (Kd.R_reads' HO282.out).2.2 | (with_reducible refine Kd.C_alloc ?_ _) | (with_reducible refine Kd.C_drewN ?_ _) | (with_reducible refine Kd.C_drew ?_)))
    (case aB => exact Own.bl)
    (case aF => exact (fun k_ hk => ⟨(Nat.le_trans (below_size Own.bl) hk), Kd.fresh' (Kd.R_lt (Own.rd HO282.out)) k_ hk⟩))
    (case aO => exact (Own.rd HO279.out))
    (case aS => exact (below_size Own.bl))
    (case aL => have := LMc29.out; omega)
    intro v284 w42 ho hb hg hat
    rw [← Ny283.out] at ho
    have n0_ := Aside0.mk (Kd.V_afterv (ok := (fun k_ => (P0_ k_ ∨ w.heap.size ≤ k_) ∧ some k_ ≠ (.slice Ao43 y280.length co43 : Value).ownBlock)) (by (with_reducible repeat (first | apply Kd.V_alloc | apply Kd.V_drewN | apply Kd.V_drew)); exact Kd.V_mono HO_0.out (fun _ hk => ⟨⟨hk.1, hk.2.2⟩, hk.2.1⟩)) hg hat)
    have n1_ := Aside0.mk (Kd.V_afterv (ok := (fun k_ => (P0_ k_ ∨ w.heap.size ≤ k_) ∧ some k_ ≠ (.slice Ao43 y280.length co43 : Value).ownBlock)) (by (with_reducible repeat (first | apply Kd.V_alloc | apply Kd.V_drewN | apply Kd.V_drew)); exact Kd.V_mono HO276.out (fun _ hk => ⟨⟨hk.1, hk.2.2⟩, hk.2.1⟩)) hg hat)
    have n2_ := Aside0.mk (Kd.V_afterv (ok := (fun k_ => (P0_ k_ ∨ w.heap.size ≤ k_) ∧ some k_ ≠ (.slice Ao43 y280.length co43 : Value).ownBlock)) (by (with_reducible repeat (first | apply Kd.V_alloc | apply Kd.V_drewN | apply Kd.V_drew)); exact Kd.V_mono HO290.out (fun _ hk => ⟨⟨hk.1, hk.2.2⟩, hk.2.1⟩)) hg hat)
    have n3_ := Aside0.mk (Kd.R_after (ok := (fun k_ => (w.heap.size ≤ k_))) (Own.rd HO282.out) hg hat)
    have n4_ := Aside0.mk (hb)
    have n5_ := Aside0.mk (ho)
    clear HO_0
    clear HO276
    clear HO290
    clear HO282
    clear HB
    clear HO279
    have HO_0 := n0_
    have HO276 := n1_
    have HO290 := n2_
    have HO282 := n3_
    have HB := n4_
    have HO285 := n5_
    clear n0_ n1_ n2_ n3_ n4_ n5_
    clear ho hb hg hat
    refine hK.out _ _ trivial (fun hHeld => ?_)
    clear hK K
    refine norm_ (a' := ?_) ?_ ?_
    rotate_left
    ·
     show Act.put _ (some 40) _ = _
     simp only [Own.ps]
     rfl
    refine one_ (i := 11) (N := some 44) #[true, true, true, true, true, true, true, true, true, true, true, true, false] rfl rfl (one_of HT_.out (by kernel_rfl)) (by decide) (fun K hK => ?_)
    refine Kd.R_append_rows_step Kd.string (w0 := w) w.heap.size (by rfl) (.tmp 40) (.tmp 43) 22 9 (.string ⟨#[]⟩) 16 rfl Tryz.underlying22 info9 rfl (by decide) (by omega) v284 y283 y286 _ _ _ (fun k_ => (w.heap.size ≤ k_) ∧ some k_ ≠ (.slice Ao43 y280.length co43 : Value).ownBlock) (fun _ => False) rfl rfl ?aO ?aR (fun _ _ h => h) (fun _ h => h.elim) ?aF ?aB ?aS ?aL ?_
    (case aR => repeat (first | exact (Kd.V_reads' HO290.out).2.2 | (with_reducible refine Kd.C_alloc ?_ _) | (with_reducible refine Kd.C_drewN ?_ _) | (with_reducible refine Kd.C_drew ?_)))
    (case aB => exact Own.bl)
    (case aF => exact (fun k_ hk => ⟨(Nat.le_trans (below_size Own.bl) hk), Kd.fresh' (Kd.R_lt (Own.rd HO282.out)) k_ hk⟩))
    (case aO => exact (Own.rd HO285.out))
    (case aS => exact (below_size Own.bl))
    (case aL => have := LMc32.out; omega)
    intro v292 w44 ho hb hg hat
    rw [← Ny291.out] at ho
    have n0_ := Aside0.mk (Kd.V_afterv (ok := (fun k_ => (P0_ k_ ∨ w.heap.size ≤ k_) ∧ some k_ ≠ (.slice Ao43 y280.length co43 : Value).ownBlock)) (Own.vd HO_0.out) hg hat)
    have n1_ := Aside0.mk (Kd.V_afterv (ok := (fun k_ => (P0_ k_ ∨ w.heap.size ≤ k_) ∧ some k_ ≠ (.slice Ao43 y280.length co43 : Value).ownBlock)) (Own.vd HO276.out) hg hat)
    have n2_ := Aside0.mk (Kd.V_afterv (ok := (fun k_ => (P0_ k_ ∨ w.heap.size ≤ k_) ∧ some k_ ≠ (.slice Ao43 y280.length co43 : Value).ownBlock)) (Own.vd HO290.out) hg hat)
    have n3_ := Aside0.mk (Kd.R_after (ok := (fun k_ => (w.heap.size ≤ k_))) (Own.rd HO282.out) hg hat)
    have n4_ := Aside0.mk (hb)
    have n5_ := Aside0.mk (ho)
    clear HO_0
    clear HO276
    clear HO290
    clear HO282
    clear HB
    clear HO285
    have HO_0 := n0_
    have HO276 := n1_
    have HO290 := n2_
    have HO282 := n3_
    have HB := n4_
    have HO293 := n5_
    clear n0_ n1_ n2_ n3_ n4_ n5_
    clear ho hb hg hat
    refine hK.out _ _ trivial (fun hHeld => ?_)
    clear hK K
    refine norm_ (a' := ?_) ?_ ?_
    rotate_left
    ·
     show Act.put _ (some 44) _ = _
     simp only [Own.ps]
     rfl
    refine pure_ (i := 12) (N := some 4) (v := ?_) (a' := ?_) #[true, true, true, true, true, true, true, true, true, true, true, true, true] rfl rfl (any_of HT_.out (by kernel_rfl)) (fun _ _ _ h => h) (Or.inl ⟨by rfl, ?_⟩) ?_ ?_
    rotate_left
    ·
     intro w'
     go_simp
     with_reducible rfl
    rotate_left
    ·
     simp only [Own.ps]
     rfl
    refine done_ (done_of HT_.out (by kernel_rfl)) ?_
    try go_wp2
    go_ret
    exact ⟨_, Own.rr, Kd.V_mono (Kd.R_V (by (with_reducible repeat (first | apply Kd.R_alloc | apply Kd.R_drewN | apply Kd.R_drew)); exact Kd.R_mono HO293.out (fun _ hk => hk.1))) (fun k_ hk => by first | exact ⟨(.inr (hk.1)), hk.2⟩ | exact (.inr (hk))), Own.bl⟩
   rw [if_pos c3] at H
   replace c3 := decide_eq_true c3
   replace H := Own.ifd H; obtain ⟨c4, H⟩ := H
   by_cases c5 : (Op.bytesLess ((rdOf ByteArray.empty l0 x5_1).toList) a1.toList) = true
   ·
    rw [if_pos c5] at H
    have c5b0 : (Op.bytesLess ((rdOf ByteArray.empty l0 x5_1).toList) a1.toList) = true := c5
    clear c5
    have H' := Aside0.mk H
    clear H
    have p242 : 0 ≤ (x5_1 : Int) := Own.dp
    have q242 : x5_1 < (l0.length : Int) := Own.dp
    obtain ⟨ad242, e242, hx242_0⟩ := Kd.at_string (Kd.V_reads' HO_0.out).2.2 x5_1 p242 q242
    cases e242
    replace p242 := eq_true p242
    replace q242 := eq_true q242
    go_wp2
    go_roundg k1
    case measure => have := HK1.out; omega
    case rel => exact ⟨(wrap64 (x5_1 + 1)), Own.rs, H', ⟨by have := HK1.out; omega⟩, ⟨Own.vd HO_0.out⟩, ⟨Own.bl⟩⟩
   rw [if_neg c5] at H
   have c5b0 : (Op.bytesLess ((rdOf ByteArray.empty l0 x5_1).toList) a1.toList) = false := by simpa using c5
   clear c5
   by_cases c6 : (rdOf ByteArray.empty l0 x5_1).toList = a1.toList
   ·
    rw [if_pos c6] at H
    have c6b0 : ((rdOf ByteArray.empty l0 x5_1).toList == a1.toList) = true := beq_iff_eq.mpr c6
    have c6b1 : ((rdOf ByteArray.empty l0 x5_1).toList != a1.toList) = false := bne_eq_false_iff_eq.mpr c6
    clear c6
    obtain rfl := Option.some.inj H
    have p242 : 0 ≤ (x5_1 : Int) := Own.dp
    have q242 : x5_1 < (l0.length : Int) := Own.dp
    obtain ⟨ad242, e242, hx242_0⟩ := Kd.at_string (Kd.V_reads' HO_0.out).2.2 x5_1 p242 q242
    cases e242
    replace p242 := eq_true p242
    replace q242 := eq_true q242
    have p243 : 0 ≤ (x5_1 : Int) := Own.dp
    have q243 : x5_1 < (l0.length : Int) := Own.dp
    obtain ⟨ad243, e243, hx243_0⟩ := Kd.at_string (Kd.V_reads' HO_0.out).2.2 x5_1 p243 q243
    obtain rfl : ad242 = ad243 := (by injection e243)
    replace p243 := eq_true p243
    replace q243 := eq_true q243
    go_wp2
    go_ret
    exact ⟨_, Own.rr, Own.vd HO_0.out, Own.bl⟩
   rw [if_neg c6] at H
   have c6b0 : ((rdOf ByteArray.empty l0 x5_1).toList == a1.toList) = false := beq_eq_false_iff_ne.mpr c6
   have c6b1 : ((rdOf ByteArray.empty l0 x5_1).toList != a1.toList) = true := bne_iff_ne.mpr c6
   obtain ⟨y244, hy244⟩ : ∃ y_ : List ByteArray, y_ = (([] : List ByteArray)) := ⟨_, rfl⟩
   replace H : (if x5_1 ≤ (l0.length : Int) then ((some (l0.take (x5_1 : Int).toNat : List ByteArray)).bind fun y247 => (if y244.length + y247.length < 8796093022208 then ((some (y244 ++ y247 : List ByteArray)).bind fun y252 => ((some (([a1] : List ByteArray) : List ByteArray)).bind fun y255 => (if y252.length + y255.length < 8796093022208 then ((some (y252 ++ y255 : List ByteArray)).bind fun y258 => ((some (l0.drop (x5_1 : Int).toNat : List ByteArray)).bind fun y261 => (if y258.length + y261.length < 8796093022208 then (some (y258 ++ y261)) else (none)))) else (none)))) else (none))) else (none)) = some r := by first | (rw [hy244]; with_reducible exact H) | (have H2_ := (Option.bind_some _ _).symm.trans H; rw [hy244]; with_reducible exact H2_) | (have H2_ := (Option.bind_some _ _).symm.trans H; with_reducible exact H2_) | with_reducible exact H | (rw [hy244]; exact H) | exact H
   have Ny244 := Aside0.mk hy244
   clear hy244
   have c7b0 := eq_true (Own.dp : 0 ≤ x5_1)
   replace H := Own.ifn H; obtain ⟨c8, H⟩ := H
   have c8b0 := eq_true c8
   have c8b1 : decide (x5_1 ≤ (l0.length : Int)) = true := decide_eq_true c8
   clear c8
   obtain ⟨y247, hy247⟩ : ∃ y_ : List ByteArray, y_ = (l0.take (x5_1 : Int).toNat) := ⟨_, rfl⟩
   replace H : (if y244.length + y247.length < 8796093022208 then ((some (y244 ++ y247 : List ByteArray)).bind fun y252 => ((some (([a1] : List ByteArray) : List ByteArray)).bind fun y255 => (if y252.length + y255.length < 8796093022208 then ((some (y252 ++ y255 : List ByteArray)).bind fun y258 => ((some (l0.drop (x5_1 : Int).toNat : List ByteArray)).bind fun y261 => (if y258.length + y261.length < 8796093022208 then (some (y258 ++ y261)) else (none)))) else (none)))) else (none)) = some r := by first | (rw [hy247]; with_reducible exact H) | (have H2_ := (Option.bind_some _ _).symm.trans H; rw [hy247]; with_reducible exact H2_) | (have H2_ := (Option.bind_some _ _).symm.trans H; with_reducible exact H2_) | with_reducible exact H | (rw [hy247]; exact H) | exact H
   have Ny247 := Aside0.mk hy247
   clear hy247
   replace H := Own.ifn H; obtain ⟨c9, H⟩ := H
   have LMc9 := Aside0.mk c9
   clear c9
   obtain ⟨y252, hy252⟩ : ∃ y_ : List ByteArray, y_ = (y244 ++ y247) := ⟨_, rfl⟩
   replace H : ((some (([a1] : List ByteArray) : List ByteArray)).bind fun y255 => (if y252.length + y255.length < 8796093022208 then ((some (y252 ++ y255 : List ByteArray)).bind fun y258 => ((some (l0.drop (x5_1 : Int).toNat : List ByteArray)).bind fun y261 => (if y258.length + y261.length < 8796093022208 then (some (y258 ++ y261)) else (none)))) else (none))) = some r := by first | (rw [hy252]; with_reducible exact H) | (have H2_ := (Option.bind_some _ _).symm.trans H; rw [hy252]; with_reducible exact H2_) | (have H2_ := (Option.bind_some _ _).symm.trans H; with_reducible exact H2_) | with_reducible exact H | (rw [hy252]; exact H) | exact H
   have Ny252 := Aside0.mk hy252
   clear hy252
   obtain ⟨y255, hy255⟩ : ∃ y_ : List ByteArray, y_ = (([a1] : List ByteArray)) := ⟨_, rfl⟩
   replace H : (if y252.length + y255.length < 8796093022208 then ((some (y252 ++ y255 : List ByteArray)).bind fun y258 => ((some (l0.drop (x5_1 : Int).toNat : List ByteArray)).bind fun y261 => (if y258.length + y261.length < 8796093022208 then (some (y258 ++ y261)) else (none)))) else (none)) = some r := by first | (rw [hy255]; with_reducible exact H) | (have H2_ := (Option.bind_some _ _).symm.trans H; rw [hy255]; with_reducible exact H2_) | (have H2_ := (Option.bind_some _ _).symm.trans H; with_reducible exact H2_) | with_reducible exact H | (rw [hy255]; exact H) | exact H
   have Ny255 := Aside0.mk hy255
   clear hy255
   replace H := Own.ifn H; obtain ⟨c10, H⟩ := H
   have LMc10 := Aside0.mk c10
   clear c10
   obtain ⟨y258, hy258⟩ : ∃ y_ : List ByteArray, y_ = (y252 ++ y255) := ⟨_, rfl⟩
   replace H : ((some (l0.drop (x5_1 : Int).toNat : List ByteArray)).bind fun y261 => (if y258.length + y261.length < 8796093022208 then (some (y258 ++ y261)) else (none))) = some r := by first | (rw [hy258]; with_reducible exact H) | (have H2_ := (Option.bind_some _ _).symm.trans H; rw [hy258]; with_reducible exact H2_) | (have H2_ := (Option.bind_some _ _).symm.trans H; with_reducible exact H2_) | with_reducible exact H | (rw [hy258]; exact H) | exact H
   have Ny258 := Aside0.mk hy258
   clear hy258
   have c11b0 := eq_true (Own.dp : 0 ≤ x5_1)
   have c12b0 := eq_true (Own.dp : x5_1 ≤ (l0.length : Int))
   obtain ⟨y261, hy261⟩ : ∃ y_ : List ByteArray, y_ = (l0.drop (x5_1 : Int).toNat) := ⟨_, rfl⟩
   replace H : (if y258.length + y261.length < 8796093022208 then (some (y258 ++ y261)) else (none)) = some r := by first | (rw [hy261]; with_reducible exact H) | (have H2_ := (Option.bind_some _ _).symm.trans H; rw [hy261]; with_reducible exact H2_) | (have H2_ := (Option.bind_some _ _).symm.trans H; with_reducible exact H2_) | with_reducible exact H | (rw [hy261]; exact H) | exact H
   have Ny261 := Aside0.mk hy261
   clear hy261
   replace H := Own.ifn H; obtain ⟨c13, H⟩ := H
   have LMc13 := Aside0.mk c13
   clear c13
   obtain ⟨y266, hy266⟩ : ∃ y_ : List ByteArray, y_ = (y258 ++ y261) := ⟨_, rfl⟩
   replace H : (some y266) = some r := by first | (rw [hy266]; with_reducible exact H) | (have H2_ := (Option.bind_some _ _).symm.trans H; rw [hy266]; with_reducible exact H2_) | (have H2_ := (Option.bind_some _ _).symm.trans H; with_reducible exact H2_) | with_reducible exact H | (rw [hy266]; exact H) | exact H
   have Ny266 := Aside0.mk hy266
   clear hy266
   obtain rfl := Option.some.inj H
   have p242 : 0 ≤ (x5_1 : Int) := Own.dp
   have q242 : x5_1 < (l0.length : Int) := Own.dp
   obtain ⟨ad242, e242, hx242_0⟩ := Kd.at_string (Kd.V_reads' HO_0.out).2.2 x5_1 p242 q242
   cases e242
   replace p242 := eq_true p242
   replace q242 := eq_true q242
   have p243 : 0 ≤ (x5_1 : Int) := Own.dp
   have q243 : x5_1 < (l0.length : Int) := Own.dp
   obtain ⟨ad243, e243, hx243_0⟩ := Kd.at_string (Kd.V_reads' HO_0.out).2.2 x5_1 p243 q243
   obtain rfl : ad242 = ad243 := (by injection e243)
   replace p243 := eq_true p243
   replace q243 := eq_true q243
   try go_wp2
   have n0_ := Aside0.mk (Kd.V_drew HO_0.out)
   have n1_ := Aside0.mk (below_drew1 HB.out)
   clear HO_0
   clear HB
   have HO_0 := n0_
   have HB := n1_
   clear n0_ n1_
   have q15 : (x5_1 : Int) ≤ ((l0.length : Int) : Int) := Own.dp
   obtain ⟨i015, hi015, _, hsz15, _⟩ := info_parts info9
   have hroom15 : l0.length ≤ c0 := (Kd.V_reads' HO_0.out).2.1
   have hC15 : Kd.F Kd.string _ _ (some ad242) l0.length l0 := (Kd.V_at (base := w.heap.size) HO_0.out).2.2
   have hcut15 := cut_to (P := Tryz.prog) 22 9 .i64 Tryz.underlying22 hi015 (some ad242) l0.length c0 x5_1 (Own.dp) q15 hroom15
   have hr15 := Kd.F_take (m := (x5_1 : Int).toNat) hC15 (by omega)
   have hy15 : y247.length = (x5_1 : Int).toNat := (by rw [Ny247.out, List.length_take]; omega)
   rw [← Ny247.out] at hr15
   rw [← hy15] at hcut15
   have HO251 := Aside0.mk (show Kd.V Kd.string 9 _ w.heap.size _ (.slice (some ad242) y247.length c0) y247 from Kd.V_mk (by omega) hr15)
   have HC251 := Aside0.mk (show y247.length ≤ c0 from by omega)
   clear hr15 hC15 hroom15 hi015 hsz15
   have KY15 := Aside0.mk hy15
   clear hy15
   replace q15 := eq_true q15
   have q16 : (x5_1 : Int) ≤ ((l0.length : Int) : Int) := Own.dp
   obtain ⟨i016, hi016, _, hsz16, _⟩ := info_parts info9
   have hroom16 : l0.length ≤ c0 := (Kd.V_reads' HO_0.out).2.1
   have hC16 : Kd.F Kd.string _ _ (some ad242) l0.length l0 := (Kd.V_at (base := w.heap.size) HO_0.out).2.2
   have q016 : (0 : Int) ≤ (x5_1 : Int) := Own.dp
   have hcut16 := cut_from (P := Tryz.prog) 22 9 .i64 Tryz.underlying22 hi016 1 hsz16 (some ad242) l0.length c0 x5_1 q016 q16
   have hr16 := Kd.F_cut (m := (x5_1 : Int).toNat) (c := c0) hC16 (by omega) hroom16
   obtain ⟨A16, hA16⟩ : ∃ A1, A1 = (if c0 = (x5_1 : Int).toNat then (some ad242) else ((some ad242) : Option Addr).map (·.add ((x5_1 : Int).toNat * 1))) := ⟨_, rfl⟩
   obtain ⟨c16, hc16⟩ : ∃ c1, c1 = c0 - (x5_1 : Int).toNat := ⟨_, rfl⟩
   have hy16 : y261.length = l0.length - (x5_1 : Int).toNat := (by rw [Ny261.out, List.length_drop] <;> omega)
   rw [show (l0).drop (x5_1 : Int).toNat = y261 from Ny261.out.symm] at hr16
   replace hr16 : Kd.F Kd.string _ _ A16 y261.length y261 := (by rw [hA16]; exact hr16)
   rw [← hy16, ← hA16, ← hc16] at hcut16
   have HO265 := Aside0.mk (show Kd.V Kd.string 9 _ w.heap.size _ (.slice A16 y261.length c16) y261 from Kd.V_mk (by rw [hy16, hc16]; exact Nat.sub_le_sub_right hroom16 _) hr16)
   have HC265 := Aside0.mk (show y261.length ≤ c16 from by rw [hy16, hc16]; exact Nat.sub_le_sub_right hroom16 _)
   clear hr16 hC16 hroom16 hi016 hsz16 hc16
   have KY16 := Aside0.mk hy16
   have KA16 := Aside0.mk hA16
   clear hy16 hA16
   replace q16 := eq_true q16
   refine start_ (n := 13) (S := fun w' => True) (ds := []) #[false, false, false, false, false, false, false, false, false, false, false, false, false] (by kernel_rfl) rfl rfl trivial (fun hHeld => ?_); refine with_tabW spec_l5Put.tab6 spec_l5Put.bits6 (fun HT_ HW_ => ?_)
   generalize wr.drew = w14 at HO_0 HB HO251 HO265 hHeld ⊢
   refine pure_ (i := 1) (N := some 34) (v := ?_) (a' := ?_) #[false, true, false, false, false, false, false, false, false, false, false, false, false] rfl rfl (any_of HT_.out (by kernel_rfl)) (fun _ _ _ h => h) (Or.inl ⟨by rfl, ?_⟩) ?_ ?_
   rotate_left
   ·
    intro w'
    go_simp
    with_reducible rfl
   rotate_left
   ·
    simp only [Own.ps]
    rfl
   refine pure_ (i := 2) (N := some 35) (v := ?_) (a' := ?_) #[false, true, true, false, false, false, false, false, false, false, false, false, false] rfl rfl (any_of HT_.out (by kernel_rfl)) (fun _ _ _ h => h) (Or.inl ⟨by rfl, ?_⟩) ?_ ?_
   rotate_left
   ·
    intro w'
    go_simp
    with_reducible rfl
   rotate_left
   ·
    simp only [Own.ps]
    rfl
   refine pure_ (i := 3) (N := some 36) (v := ?_) (a' := ?_) #[false, true, true, true, false, false, false, false, false, false, false, false, false] rfl rfl (any_of HT_.out (by kernel_rfl)) (fun _ _ _ h => h) (Or.inl ⟨by rfl, ?_⟩) ?_ ?_
   rotate_left
   ·
    intro w'
    go_simp
    with_reducible rfl
   rotate_left
   ·
    simp only [Own.ps]
    rfl
   refine pure_ (i := 5) (N := some 38) (v := ?_) (a' := ?_) #[false, true, true, true, false, true, false, false, false, false, false, false, false] rfl rfl (any_of HT_.out (by kernel_rfl)) (fun _ _ _ h => h) (Or.inl ⟨by rfl, ?_⟩) ?_ ?_
   rotate_left
   ·
    intro w'
    go_simp
    with_reducible rfl
   rotate_left
   ·
    simp only [Own.ps]
    rfl
   refine pure_ (i := 8) (N := some 41) (v := ?_) (a' := ?_) #[false, true, true, true, false, true, false, false, true, false, false, false, false] rfl rfl (any_of HT_.out (by kernel_rfl)) (fun _ _ _ h => h) (Or.inl ⟨by rfl, ?_⟩) ?_ ?_
   rotate_left
   ·
    intro w'
    go_simp
    with_reducible rfl
   rotate_left
   ·
    simp only [Own.ps]
    rfl
   refine pure_ (i := 9) (N := some 42) (v := ?_) (a' := ?_) #[false, true, true, true, false, true, false, false, true, true, false, false, false] rfl rfl (any_of HT_.out (by kernel_rfl)) (fun _ _ _ h => h) (Or.inl ⟨by rfl, ?_⟩) ?_ ?_
   rotate_left
   ·
    intro w'
    go_simp
    with_reducible rfl
   rotate_left
   ·
    simp only [Own.ps]
    rfl
   refine pure_ (i := 10) (N := some 43) (v := ?_) (a' := ?_) #[false, true, true, true, false, true, false, false, true, true, true, false, false] rfl rfl (any_of HT_.out (by kernel_rfl)) (fun _ _ _ h => h) (Or.inl ⟨by rfl, ?_⟩) ?_ ?_
   rotate_left
   ·
    intro w'
    go_simp
    with_reducible rfl
   rotate_left
   ·
    simp only [Own.ps]
    rfl
   refine join_ (σ := Value × Value × Value) 3 #[true, true, true, true, true, true, true, false, true, true, true, false, false] (fun s_ => [(33, s_.1), (37, s_.2.1), (39, s_.2.2)]) (fun s_ w' => (Kd.V Kd.string 9 w' w.heap.size (fun k_ => (P0_ k_ ∨ w.heap.size ≤ k_) ∧ some k_ ≠ (s_.2.1 : Value).ownBlock ∧ some k_ ≠ (s_.2.2 : Value).ownBlock) (.slice (some ad242) y247.length c0) y247) ∧ (Kd.R Kd.string 9 w' w.heap.size (fun k_ => (w.heap.size ≤ k_) ∧ some k_ ≠ (s_.2.2 : Value).ownBlock) s_.2.1 y252) ∧ (Kd.R Kd.string 9 w' w.heap.size (fun k_ => (w.heap.size ≤ k_) ∧ some k_ ≠ (s_.2.1 : Value).ownBlock) s_.2.2 y255) ∧ (Kd.V Kd.string 9 w' w.heap.size (fun k_ => (P0_ k_ ∨ w.heap.size ≤ k_) ∧ some k_ ≠ (s_.2.1 : Value).ownBlock ∧ some k_ ≠ (s_.2.2 : Value).ownBlock) (.slice A16 y261.length c16) y261) ∧ (Kd.V Kd.string 9 w' w.heap.size (fun k_ => (P0_ k_ ∨ w.heap.size ≤ k_) ∧ some k_ ≠ (s_.2.1 : Value).ownBlock ∧ some k_ ≠ (s_.2.2 : Value).ownBlock) (.slice (some ad242) l0.length c0) l0) ∧ (Below w.heap.size w w')) ?_ ?_
   rotate_left
   ·
    intro hCont
    refine two_ (i := 0) (j := 6) (Ni := some 33) (Nj := some 39) #[true, true, true, true, false, true, false, false, true, true, true, false, false] #[false, true, true, true, false, true, true, false, true, true, true, false, false] rfl rfl rfl rfl (two_of HT_.out (by kernel_rfl)) (by decide) (by decide) (fun K hK => ?_) (fun K hK => ?_)
    ·
     skip
     refine Kd.R_lit_step Kd.string _ 9 ?hg (N := 33) ?hd (xs := ([] : List ByteArray)) (inner := []) (ok := fun _ => True) (okp := fun _ => True) ?hr ?hp (fun _ hk => hk) trivial (Below.refl _ _) (Nat.le_refl _) (by simp) ?_; (case hd => rfl); (case hg => rfl); (case hr => first | (go_simp; done) | (go_simp; rfl)); (case hp => exact (Reps.none _ _))
     intro v245 w17 ho18 hb hg_ hnew_
     clear hg_ hnew_
     (first | rw [← Ny244.out] at ho18 | (simp only [Int.reduceToNat] at ho18; rw [← Ny244.out] at ho18))
     have n0_ := Aside0.mk (Kd.V_elder' (Own.vd HO_0.out) (Kd.R_base ho18) hb)
     have n1_ := Aside0.mk (Kd.V_elder' (Own.vd HO251.out) (Kd.R_base ho18) hb)
     have n2_ := Aside0.mk (Kd.V_elder' (Own.vd HO265.out) (Kd.R_base ho18) hb)
     have n3_ := Aside0.mk (Kd.R_lower (Kd.R_newM (M := fun k_ => (w.heap.size ≤ k_)) ho18 (below_size Own.bl) (fun k_ h_ => h_)) (below_size Own.bl))
     have n4_ := Own.bs hb
     clear HO_0
     clear HO251
     clear HO265
     clear HB
     have HO_0 := n0_
     have HO251 := n1_
     have HO265 := n2_
     have HO246 := n3_
     have HB := n4_
     clear n0_ n1_ n2_ n3_ n4_
     clear hb ho18
     refine hK.out _ _ trivial (fun hHeld => ?_)
     clear hK K
     refine norm_ (a' := ?_) ?_ ?_
     rotate_left
     ·
      show Act.put _ (some 33) _ = _
      simp only [Own.ps]
      rfl
     refine two_ (i := 4) (j := 6) (Ni := some 37) (Nj := some 39) #[true, true, true, true, true, true, false, false, true, true, true, false, false] #[true, true, true, true, false, true, true, false, true, true, true, false, false] rfl rfl rfl rfl (two_of HT_.out (by kernel_rfl)) (by decide) (by decide) (fun K hK => ?_) (fun K hK => ?_)
     ·
      skip
      refine Kd.R_append_rows_step Kd.string (w0 := w) w.heap.size (by rfl) (.tmp 33) (.tmp 36) 22 9 (.string ⟨#[]⟩) 16 rfl Tryz.underlying22 info9 rfl (by decide) (by omega) v245 y244 y247 _ _ _ (fun k_ => (w.heap.size ≤ k_)) (fun _ => False) rfl rfl ?aO ?aR (fun _ _ h => h) (fun _ h => h.elim) ?aF ?aB ?aS ?aL ?_
      (case aR => repeat (first | exact (Kd.V_reads' HO251.out).2.2 | (with_reducible refine Kd.C_alloc ?_ _) | (with_reducible refine Kd.C_drewN ?_ _) | (with_reducible refine Kd.C_drew ?_)))
      (case aB => exact Own.bl)
      (case aF => exact (fun k_ hk => (Nat.le_trans (below_size Own.bl) hk)))
      (case aO => exact (by (with_reducible repeat (first | apply Kd.R_alloc | apply Kd.R_drewN | apply Kd.R_drew)); exact Kd.R_mono HO246.out (fun _ hk => hk.1)))
      (case aS => exact (below_size Own.bl))
      (case aL => have := LMc9.out; omega)
      intro v253 w19 ho hb hg hat
      rw [← Ny252.out] at ho
      have n0_ := Aside0.mk (Kd.V_afterv (ok := (fun k_ => (P0_ k_ ∨ w.heap.size ≤ k_))) (Own.vd HO_0.out) hg hat)
      have n1_ := Aside0.mk (Kd.V_afterv (ok := (fun k_ => (P0_ k_ ∨ w.heap.size ≤ k_))) (Own.vd HO251.out) hg hat)
      have n2_ := Aside0.mk (Kd.V_afterv (ok := (fun k_ => (P0_ k_ ∨ w.heap.size ≤ k_))) (Own.vd HO265.out) hg hat)
      have n3_ := Aside0.mk (hb)
      have n4_ := Aside0.mk (ho)
      clear HO_0
      clear HO251
      clear HO265
      clear HB
      clear HO246
      have HO_0 := n0_
      have HO251 := n1_
      have HO265 := n2_
      have HB := n3_
      have HO254 := n4_
      clear n0_ n1_ n2_ n3_ n4_
      clear ho hb hg hat
      refine hK.out _ _ trivial (fun hHeld => ?_)
      clear hK K
      refine norm_ (a' := ?_) ?_ ?_
      rotate_left
      ·
       show Act.put _ (some 37) _ = _
       simp only [Own.ps]
       rfl
      refine one_ (i := 6) (N := some 39) #[true, true, true, true, true, true, true, false, true, true, true, false, false] rfl rfl (one_of HT_.out (by kernel_rfl)) (by decide) (fun K hK => ?_)
      refine Kd.R_lit_step Kd.string _ 9 ?hg (N := 39) ?hd (xs := ([a1] : List ByteArray)) (inner := [.string a1]) (ok := fun _ => True) (okp := fun _ => True) ?hr ?hp (fun _ hk => hk) trivial (Below.refl _ _) (Nat.le_refl _) (by simp) ?_; (case hd => rfl); (case hg => rfl); (case hr => first | (go_simp; done) | (go_simp; rfl)); (case hp => exact (Reps.one (show Kd.M Kd.string _ _ _ a1 [.string a1] from rfl) (Reps.none _ _)))
      intro v256 w20 ho21 hb hg_ hnew_
      clear hg_ hnew_
      (first | rw [← Ny255.out] at ho21 | (simp only [Int.reduceToNat] at ho21; rw [← Ny255.out] at ho21))
      have n0_ := Aside0.mk (Kd.V_elder' (Own.vd HO_0.out) (Kd.R_base ho21) hb)
      have n1_ := Aside0.mk (Kd.V_elder' (Own.vd HO251.out) (Kd.R_base ho21) hb)
      have n2_ := Aside0.mk (Kd.V_elder' (Own.vd HO265.out) (Kd.R_base ho21) hb)
      have n3_ := Aside0.mk (Kd.R_elder' (Own.rd HO254.out) (Kd.R_base ho21) hb)
      have n4_ := Aside0.mk (Kd.R_lower (Kd.R_new' (Kd.R_newM (M := fun k_ => (w.heap.size ≤ k_)) ho21 (below_size Own.bl) (fun k_ h_ => h_)) (Kd.R_lt (Own.rd HO254.out))) (below_size Own.bl))
      have n5_ := Own.bs hb
      clear HO_0
      clear HO251
      clear HO265
      clear HO254
      clear HB
      have HO_0 := n0_
      have HO251 := n1_
      have HO265 := n2_
      have HO254 := n3_
      have HO257 := n4_
      have HB := n5_
      clear n0_ n1_ n2_ n3_ n4_ n5_
      clear hb ho21
      refine hK.out _ _ trivial (fun hHeld => ?_)
      clear hK K
      refine norm_ (a' := ?_) ?_ ?_
      rotate_left
      ·
       show Act.put _ (some 39) _ = _
       simp only [Own.ps]
       rfl
      exact norm_ (by simp only [putAll, Act.put, List.setIfInBounds_toArray, List.set_cons_zero, List.set_cons_succ]) (hCont (v245, v253, v256) _ ⟨(by (with_reducible repeat (first | apply Kd.V_alloc | apply Kd.V_drewN | apply Kd.V_drew)); exact Kd.V_mono HO251.out (fun _ hk => ⟨hk.1.1, ⟨hk.1.2, hk.2⟩⟩)), (Own.rd HO254.out), (by (with_reducible repeat (first | apply Kd.R_alloc | apply Kd.R_drewN | apply Kd.R_drew)); exact Kd.R_mono HO257.out (fun _ hk => ⟨hk.1.1, hk.2⟩)), (by (with_reducible repeat (first | apply Kd.V_alloc | apply Kd.V_drewN | apply Kd.V_drew)); exact Kd.V_mono HO265.out (fun _ hk => ⟨hk.1.1, ⟨hk.1.2, hk.2⟩⟩)), (by (with_reducible repeat (first | apply Kd.V_alloc | apply Kd.V_drewN | apply Kd.V_drew)); exact Kd.V_mono HO_0.out (fun _ hk => ⟨hk.1.1, ⟨hk.1.2, hk.2⟩⟩)), Own.bl⟩)
     ·
      skip
      refine Kd.R_lit_step Kd.string _ 9 ?hg (N := 39) ?hd (xs := ([a1] : List ByteArray)) (inner := [.string a1]) (ok := fun _ => True) (okp := fun _ => True) ?hr ?hp (fun _ hk => hk) trivial (Below.refl _ _) (Nat.le_refl _) (by simp) ?_; (case hd => rfl); (case hg => rfl); (case hr => first | (go_simp; done) | (go_simp; rfl)); (case hp => exact (Reps.one (show Kd.M Kd.string _ _ _ a1 [.string a1] from rfl) (Reps.none _ _)))
      intro v256 w19 ho20 hb hg_ hnew_
      clear hg_ hnew_
      (first | rw [← Ny255.out] at ho20 | (simp only [Int.reduceToNat] at ho20; rw [← Ny255.out] at ho20))
      have n0_ := Aside0.mk (Kd.V_elder' (Own.vd HO_0.out) (Kd.R_base ho20) hb)
      have n1_ := Aside0.mk (Kd.V_elder' (Own.vd HO251.out) (Kd.R_base ho20) hb)
      have n2_ := Aside0.mk (Kd.V_elder' (Own.vd HO265.out) (Kd.R_base ho20) hb)
      have n3_ := Aside0.mk (Kd.R_elder' (Own.rd HO246.out) (Kd.R_base ho20) hb)
      have n4_ := Aside0.mk (Kd.R_lower (Kd.R_new' (Kd.R_newM (M := fun k_ => (w.heap.size ≤ k_)) ho20 (below_size Own.bl) (fun k_ h_ => h_)) (Kd.R_lt (Own.rd HO246.out))) (below_size Own.bl))
      have n5_ := Own.bs hb
      clear HO_0
      clear HO251
      clear HO265
      clear HO246
      clear HB
      have HO_0 := n0_
      have HO251 := n1_
      have HO265 := n2_
      have HO246 := n3_
      have HO257 := n4_
      have HB := n5_
      clear n0_ n1_ n2_ n3_ n4_ n5_
      clear hb ho20
      refine hK.out _ _ trivial (fun hHeld => ?_)
      clear hK K
      refine norm_ (a' := ?_) ?_ ?_
      rotate_left
      ·
       show Act.put _ (some 39) _ = _
       simp only [Own.ps]
       rfl
      refine one_ (i := 4) (N := some 37) #[true, true, true, true, true, true, true, false, true, true, true, false, false] rfl rfl (one_of HT_.out (by kernel_rfl)) (by decide) (fun K hK => ?_)
      refine Kd.R_append_rows_step Kd.string (w0 := w) w.heap.size (by rfl) (.tmp 33) (.tmp 36) 22 9 (.string ⟨#[]⟩) 16 rfl Tryz.underlying22 info9 rfl (by decide) (by omega) v245 y244 y247 _ _ _ (fun k_ => (w.heap.size ≤ k_) ∧ some k_ ≠ (v256 : Value).ownBlock) (fun _ => False) rfl rfl ?aO ?aR (fun _ _ h => h) (fun _ h => h.elim) ?aF ?aB ?aS ?aL ?_
      (case aR => repeat (first | exact (Kd.V_reads' HO251.out).2.2 | (with_reducible refine Kd.C_alloc ?_ _) | (with_reducible refine Kd.C_drewN ?_ _) | (with_reducible refine Kd.C_drew ?_)))
      (case aB => exact Own.bl)
      (case aF => exact (fun k_ hk => ⟨(Nat.le_trans (below_size Own.bl) hk), Kd.fresh' (Kd.R_lt (Own.rd HO257.out)) k_ hk⟩))
      (case aO => exact (by (with_reducible repeat (first | apply Kd.R_alloc | apply Kd.R_drewN | apply Kd.R_drew)); exact Kd.R_mono HO246.out (fun _ hk => ⟨hk.1.1, hk.2⟩)))
      (case aS => exact (below_size Own.bl))
      (case aL => have := LMc9.out; omega)
      intro v253 w21 ho hb hg hat
      rw [← Ny252.out] at ho
      have n0_ := Aside0.mk (Kd.V_afterv (ok := (fun k_ => (P0_ k_ ∨ w.heap.size ≤ k_) ∧ some k_ ≠ (v256 : Value).ownBlock)) (by (with_reducible repeat (first | apply Kd.V_alloc | apply Kd.V_drewN | apply Kd.V_drew)); exact Kd.V_mono HO_0.out (fun _ hk => ⟨⟨hk.1.1, hk.2⟩, hk.1.2⟩)) hg hat)
      have n1_ := Aside0.mk (Kd.V_afterv (ok := (fun k_ => (P0_ k_ ∨ w.heap.size ≤ k_) ∧ some k_ ≠ (v256 : Value).ownBlock)) (by (with_reducible repeat (first | apply Kd.V_alloc | apply Kd.V_drewN | apply Kd.V_drew)); exact Kd.V_mono HO251.out (fun _ hk => ⟨⟨hk.1.1, hk.2⟩, hk.1.2⟩)) hg hat)
      have n2_ := Aside0.mk (Kd.V_afterv (ok := (fun k_ => (P0_ k_ ∨ w.heap.size ≤ k_) ∧ some k_ ≠ (v256 : Value).ownBlock)) (by (with_reducible repeat (first | apply Kd.V_alloc | apply Kd.V_drewN | apply Kd.V_drew)); exact Kd.V_mono HO265.out (fun _ hk => ⟨⟨hk.1.1, hk.2⟩, hk.1.2⟩)) hg hat)
      have n3_ := Aside0.mk (Kd.R_after (ok := (fun k_ => (w.heap.size ≤ k_))) (by (with_reducible repeat (first | apply Kd.R_alloc | apply Kd.R_drewN | apply Kd.R_drew)); exact Kd.R_mono HO257.out (fun _ hk => ⟨hk.1.1, hk.2⟩)) hg hat)
      have n4_ := Aside0.mk (hb)
      have n5_ := Aside0.mk (ho)
      clear HO_0
      clear HO251
      clear HO265
      clear HO257
      clear HB
      clear HO246
      have HO_0 := n0_
      have HO251 := n1_
      have HO265 := n2_
      have HO257 := n3_
      have HB := n4_
      have HO254 := n5_
      clear n0_ n1_ n2_ n3_ n4_ n5_
      clear ho hb hg hat
      refine hK.out _ _ trivial (fun hHeld => ?_)
      clear hK K
      refine norm_ (a' := ?_) ?_ ?_
      rotate_left
      ·
       show Act.put _ (some 37) _ = _
       simp only [Own.ps]
       rfl
      exact norm_ (by simp only [putAll, Act.put, List.setIfInBounds_toArray, List.set_cons_zero, List.set_cons_succ]) (hCont (v245, v253, v256) _ ⟨(by (with_reducible repeat (first | apply Kd.V_alloc | apply Kd.V_drewN | apply Kd.V_drew)); exact Kd.V_mono HO251.out (fun _ hk => ⟨hk.1.1, ⟨hk.2, hk.1.2⟩⟩)), (Own.rd HO254.out), (Own.rd HO257.out), (by (with_reducible repeat (first | apply Kd.V_alloc | apply Kd.V_drewN | apply Kd.V_drew)); exact Kd.V_mono HO265.out (fun _ hk => ⟨hk.1.1, ⟨hk.2, hk.1.2⟩⟩)), (by (with_reducible repeat (first | apply Kd.V_alloc | apply Kd.V_drewN | apply Kd.V_drew)); exact Kd.V_mono HO_0.out (fun _ hk => ⟨hk.1.1, ⟨hk.2, hk.1.2⟩⟩)), Own.bl⟩)
    ·
     skip
     refine Kd.R_lit_step Kd.string _ 9 ?hg (N := 39) ?hd (xs := ([a1] : List ByteArray)) (inner := [.string a1]) (ok := fun _ => True) (okp := fun _ => True) ?hr ?hp (fun _ hk => hk) trivial (Below.refl _ _) (Nat.le_refl _) (by simp) ?_; (case hd => rfl); (case hg => rfl); (case hr => first | (go_simp; done) | (go_simp; rfl)); (case hp => exact (Reps.one (show Kd.M Kd.string _ _ _ a1 [.string a1] from rfl) (Reps.none _ _)))
     intro v256 w17 ho18 hb hg_ hnew_
     clear hg_ hnew_
     (first | rw [← Ny255.out] at ho18 | (simp only [Int.reduceToNat] at ho18; rw [← Ny255.out] at ho18))
     have n0_ := Aside0.mk (Kd.V_elder' (Own.vd HO_0.out) (Kd.R_base ho18) hb)
     have n1_ := Aside0.mk (Kd.V_elder' (Own.vd HO251.out) (Kd.R_base ho18) hb)
     have n2_ := Aside0.mk (Kd.V_elder' (Own.vd HO265.out) (Kd.R_base ho18) hb)
     have n3_ := Aside0.mk (Kd.R_lower (Kd.R_newM (M := fun k_ => (w.heap.size ≤ k_)) ho18 (below_size Own.bl) (fun k_ h_ => h_)) (below_size Own.bl))
     have n4_ := Own.bs hb
     clear HO_0
     clear HO251
     clear HO265
     clear HB
     have HO_0 := n0_
     have HO251 := n1_
     have HO265 := n2_
     have HO257 := n3_
     have HB := n4_
     clear n0_ n1_ n2_ n3_ n4_
     clear hb ho18
     refine hK.out _ _ trivial (fun hHeld => ?_)
     clear hK K
     refine norm_ (a' := ?_) ?_ ?_
     rotate_left
     ·
      show Act.put _ (some 39) _ = _
      simp only [Own.ps]
      rfl
     refine one_ (i := 0) (N := some 33) #[true, true, true, true, false, true, true, false, true, true, true, false, false] rfl rfl (one_of HT_.out (by kernel_rfl)) (by decide) (fun K hK => ?_)
     refine Kd.R_lit_step Kd.string _ 9 ?hg (N := 33) ?hd (xs := ([] : List ByteArray)) (inner := []) (ok := fun _ => True) (okp := fun _ => True) ?hr ?hp (fun _ hk => hk) trivial (Below.refl _ _) (Nat.le_refl _) (by simp) ?_; (case hd => rfl); (case hg => rfl); (case hr => first | (go_simp; done) | (go_simp; rfl)); (case hp => exact (Reps.none _ _))
     intro v245 w19 ho20 hb hg_ hnew_
     clear hg_ hnew_
     (first | rw [← Ny244.out] at ho20 | (simp only [Int.reduceToNat] at ho20; rw [← Ny244.out] at ho20))
     have n0_ := Aside0.mk (Kd.V_elder' (Own.vd HO_0.out) (Kd.R_base ho20) hb)
     have n1_ := Aside0.mk (Kd.V_elder' (Own.vd HO251.out) (Kd.R_base ho20) hb)
     have n2_ := Aside0.mk (Kd.V_elder' (Own.vd HO265.out) (Kd.R_base ho20) hb)
     have n3_ := Aside0.mk (Kd.R_elder' (Own.rd HO257.out) (Kd.R_base ho20) hb)
     have n4_ := Aside0.mk (Kd.R_lower (Kd.R_new' (Kd.R_newM (M := fun k_ => (w.heap.size ≤ k_)) ho20 (below_size Own.bl) (fun k_ h_ => h_)) (Kd.R_lt (Own.rd HO257.out))) (below_size Own.bl))
     have n5_ := Own.bs hb
     clear HO_0
     clear HO251
     clear HO265
     clear HO257
     clear HB
     have HO_0 := n0_
     have HO251 := n1_
     have HO265 := n2_
     have HO257 := n3_
     have HO246 := n4_
     have HB := n5_
     clear n0_ n1_ n2_ n3_ n4_ n5_
     clear hb ho20
     refine hK.out _ _ trivial (fun hHeld => ?_)
     clear hK K
     refine norm_ (a' := ?_) ?_ ?_
     rotate_left
     ·
      show Act.put _ (some 33) _ = _
      simp only [Own.ps]
      rfl
     refine one_ (i := 4) (N := some 37) #[true, true, true, true, true, true, true, false, true, true, true, false, false] rfl rfl (one_of HT_.out (by kernel_rfl)) (by decide) (fun K hK => ?_)
     refine Kd.R_append_rows_step Kd.string (w0 := w) w.heap.size (by rfl) (.tmp 33) (.tmp 36) 22 9 (.string ⟨#[]⟩) 16 rfl Tryz.underlying22 info9 rfl (by decide) (by omega) v245 y244 y247 _ _ _ (fun k_ => (w.heap.size ≤ k_) ∧ some k_ ≠ (v256 : Value).ownBlock) (fun _ => False) rfl rfl ?aO ?aR (fun _ _ h => h) (fun _ h => h.elim) ?aF ?aB ?aS ?aL ?_
     (case aR => repeat (first | exact (Kd.V_reads' HO251.out).2.2 | (with_reducible refine Kd.C_alloc ?_ _) | (with_reducible refine Kd.C_drewN ?_ _) | (with_reducible refine Kd.C_drew ?_)))
     (case aB => exact Own.bl)
     (case aF => exact (fun k_ hk => ⟨(Nat.le_trans (below_size Own.bl) hk), Kd.fresh' (Kd.R_lt (Own.rd HO257.out)) k_ hk⟩))
     (case aO => exact (by (with_reducible repeat (first | apply Kd.R_alloc | apply Kd.R_drewN | apply Kd.R_drew)); exact Kd.R_mono HO246.out (fun _ hk => ⟨hk.1.1, hk.2⟩)))
     (case aS => exact (below_size Own.bl))
     (case aL => have := LMc9.out; omega)
     intro v253 w21 ho hb hg hat
     rw [← Ny252.out] at ho
     have n0_ := Aside0.mk (Kd.V_afterv (ok := (fun k_ => (P0_ k_ ∨ w.heap.size ≤ k_) ∧ some k_ ≠ (v256 : Value).ownBlock)) (Own.vd HO_0.out) hg hat)
     have n1_ := Aside0.mk (Kd.V_afterv (ok := (fun k_ => (P0_ k_ ∨ w.heap.size ≤ k_) ∧ some k_ ≠ (v256 : Value).ownBlock)) (Own.vd HO251.out) hg hat)
     have n2_ := Aside0.mk (Kd.V_afterv (ok := (fun k_ => (P0_ k_ ∨ w.heap.size ≤ k_) ∧ some k_ ≠ (v256 : Value).ownBlock)) (Own.vd HO265.out) hg hat)
     have n3_ := Aside0.mk (Kd.R_after (ok := (fun k_ => (w.heap.size ≤ k_))) (by (with_reducible repeat (first | apply Kd.R_alloc | apply Kd.R_drewN | apply Kd.R_drew)); exact Kd.R_mono HO257.out (fun _ hk => ⟨hk.1.1, hk.2⟩)) hg hat)
     have n4_ := Aside0.mk (hb)
     have n5_ := Aside0.mk (ho)
     clear HO_0
     clear HO251
     clear HO265
     clear HO257
     clear HB
     clear HO246
     have HO_0 := n0_
     have HO251 := n1_
     have HO265 := n2_
     have HO257 := n3_
     have HB := n4_
     have HO254 := n5_
     clear n0_ n1_ n2_ n3_ n4_ n5_
     clear ho hb hg hat
     refine hK.out _ _ trivial (fun hHeld => ?_)
     clear hK K
     refine norm_ (a' := ?_) ?_ ?_
     rotate_left
     ·
      show Act.put _ (some 37) _ = _
      simp only [Own.ps]
      rfl
     exact norm_ (by simp only [putAll, Act.put, List.setIfInBounds_toArray, List.set_cons_zero, List.set_cons_succ]) (hCont (v245, v253, v256) _ ⟨(by (with_reducible repeat (first | apply Kd.V_alloc | apply Kd.V_drewN | apply Kd.V_drew)); exact Kd.V_mono HO251.out (fun _ hk => ⟨hk.1.1, ⟨hk.2, hk.1.2⟩⟩)), (Own.rd HO254.out), (Own.rd HO257.out), (by (with_reducible repeat (first | apply Kd.V_alloc | apply Kd.V_drewN | apply Kd.V_drew)); exact Kd.V_mono HO265.out (fun _ hk => ⟨hk.1.1, ⟨hk.2, hk.1.2⟩⟩)), (by (with_reducible repeat (first | apply Kd.V_alloc | apply Kd.V_drewN | apply Kd.V_drew)); exact Kd.V_mono HO_0.out (fun _ hk => ⟨hk.1.1, ⟨hk.2, hk.1.2⟩⟩)), Own.bl⟩)
   rintro ⟨v245, v253, v256⟩ w22 ⟨h0_, h1_, h2_, h3_, h4_, h5_⟩
   have n0_ : Aside0 (Kd.V Kd.string 9 w22 w.heap.size (fun k_ => (P0_ k_ ∨ w.heap.size ≤ k_) ∧ some k_ ≠ (v253 : Value).ownBlock ∧ some k_ ≠ (v256 : Value).ownBlock) (.slice (some ad242) y247.length c0) y247) := ⟨h0_⟩
   have n1_ : Aside0 (Kd.R Kd.string 9 w22 w.heap.size (fun k_ => (w.heap.size ≤ k_) ∧ some k_ ≠ (v256 : Value).ownBlock) v253 y252) := ⟨h1_⟩
   have n2_ : Aside0 (Kd.R Kd.string 9 w22 w.heap.size (fun k_ => (w.heap.size ≤ k_) ∧ some k_ ≠ (v253 : Value).ownBlock) v256 y255) := ⟨h2_⟩
   have n3_ : Aside0 (Kd.V Kd.string 9 w22 w.heap.size (fun k_ => (P0_ k_ ∨ w.heap.size ≤ k_) ∧ some k_ ≠ (v253 : Value).ownBlock ∧ some k_ ≠ (v256 : Value).ownBlock) (.slice A16 y261.length c16) y261) := ⟨h3_⟩
   have n4_ : Aside0 (Kd.V Kd.string 9 w22 w.heap.size (fun k_ => (P0_ k_ ∨ w.heap.size ≤ k_) ∧ some k_ ≠ (v253 : Value).ownBlock ∧ some k_ ≠ (v256 : Value).ownBlock) (.slice (some ad242) l0.length c0) l0) := ⟨h4_⟩
   have n5_ : Aside0 (Below w.heap.size w w22) := ⟨h5_⟩
   clear HO_0
   clear HB
   clear h0_ h1_ h2_ h3_ h4_ h5_
   have HO251 := n0_
   have HO254 := n1_
   have HO257 := n2_
   have HO265 := n3_
   have HO_0 := n4_
   have HB := n5_
   clear n0_ n1_ n2_ n3_ n4_ n5_
   have hHeld := trivial
   obtain ⟨Ao24, co24, eo24⟩ := Kd.R_slice HO257.out
   (first | subst eo24 | (injection eo24 with f1_ f2_ f3_; have f4_ := f1_.symm; have f5_ := f3_.symm; clear f1_ f2_ f3_; subst f4_; subst f5_))
   refine norm_ (a' := ?_) ?_ ?_
   rotate_left
   ·
    simp only [putAll, Act.put, List.setIfInBounds_toArray, List.set_cons_zero, List.set_cons_succ]
    rfl
   refine one_ (i := 7) (N := some 40) #[true, true, true, true, true, true, true, true, true, true, true, false, false] rfl rfl (one_of HT_.out (by kernel_rfl)) (by decide) (fun K hK => ?_)
   refine Kd.R_append_rows_step Kd.string (w0 := w) w.heap.size (by rfl) (.tmp 37) (.tmp 39) 22 9 (.string ⟨#[]⟩) 16 rfl Tryz.underlying22 info9 rfl (by decide) (by omega) v253 y252 y255 _ _ _ (fun k_ => (w.heap.size ≤ k_) ∧ some k_ ≠ (.slice Ao24 y255.length co24 : Value).ownBlock) (fun _ => False) rfl rfl ?aO ?aR (fun _ _ h => h) (fun _ h => h.elim) ?aF ?aB ?aS ?aL ?_
   (case aR => repeat (first | exact (Kd.R_reads' HO257.out).2.2 | (with_reducible refine Kd.C_alloc ?_ _) | (with_reducible refine Kd.C_drewN ?_ _) | (with_reducible refine Kd.C_drew ?_)))
   (case aB => exact Own.bl)
   (case aF => exact (fun k_ hk => ⟨(Nat.le_trans (below_size Own.bl) hk), Kd.fresh' (Kd.R_lt (Own.rd HO257.out)) k_ hk⟩))
   (case aO => exact (Own.rd HO254.out))
   (case aS => exact (below_size Own.bl))
   (case aL => have := LMc10.out; omega)
   intro v259 w23 ho hb hg hat
   rw [← Ny258.out] at ho
   have n0_ := Aside0.mk (Kd.V_afterv (ok := (fun k_ => (P0_ k_ ∨ w.heap.size ≤ k_) ∧ some k_ ≠ (.slice Ao24 y255.length co24 : Value).ownBlock)) (by (with_reducible repeat (first | apply Kd.V_alloc | apply Kd.V_drewN | apply Kd.V_drew)); exact Kd.V_mono HO_0.out (fun _ hk => ⟨⟨hk.1, hk.2.2⟩, hk.2.1⟩)) hg hat)
   have n1_ := Aside0.mk (Kd.V_afterv (ok := (fun k_ => (P0_ k_ ∨ w.heap.size ≤ k_) ∧ some k_ ≠ (.slice Ao24 y255.length co24 : Value).ownBlock)) (by (with_reducible repeat (first | apply Kd.V_alloc | apply Kd.V_drewN | apply Kd.V_drew)); exact Kd.V_mono HO251.out (fun _ hk => ⟨⟨hk.1, hk.2.2⟩, hk.2.1⟩)) hg hat)
   have n2_ := Aside0.mk (Kd.V_afterv (ok := (fun k_ => (P0_ k_ ∨ w.heap.size ≤ k_) ∧ some k_ ≠ (.slice Ao24 y255.length co24 : Value).ownBlock)) (by (with_reducible repeat (first | apply Kd.V_alloc | apply Kd.V_drewN | apply Kd.V_drew)); exact Kd.V_mono HO265.out (fun _ hk => ⟨⟨hk.1, hk.2.2⟩, hk.2.1⟩)) hg hat)
   have n3_ := Aside0.mk (Kd.R_after (ok := (fun k_ => (w.heap.size ≤ k_))) (Own.rd HO257.out) hg hat)
   have n4_ := Aside0.mk (hb)
   have n5_ := Aside0.mk (ho)
   clear HO_0
   clear HO251
   clear HO265
   clear HO257
   clear HB
   clear HO254
   have HO_0 := n0_
   have HO251 := n1_
   have HO265 := n2_
   have HO257 := n3_
   have HB := n4_
   have HO260 := n5_
   clear n0_ n1_ n2_ n3_ n4_ n5_
   clear ho hb hg hat
   refine hK.out _ _ trivial (fun hHeld => ?_)
   clear hK K
   refine norm_ (a' := ?_) ?_ ?_
   rotate_left
   ·
    show Act.put _ (some 40) _ = _
    simp only [Own.ps]
    rfl
   refine one_ (i := 11) (N := some 44) #[true, true, true, true, true, true, true, true, true, true, true, true, false] rfl rfl (one_of HT_.out (by kernel_rfl)) (by decide) (fun K hK => ?_)
   refine Kd.R_append_rows_step Kd.string (w0 := w) w.heap.size (by rfl) (.tmp 40) (.tmp 43) 22 9 (.string ⟨#[]⟩) 16 rfl Tryz.underlying22 info9 rfl (by decide) (by omega) v259 y258 y261 _ _ _ (fun k_ => (w.heap.size ≤ k_) ∧ some k_ ≠ (.slice Ao24 y255.length co24 : Value).ownBlock) (fun _ => False) rfl rfl ?aO ?aR (fun _ _ h => h) (fun _ h => h.elim) ?aF ?aB ?aS ?aL ?_
   (case aR => repeat (first | exact (Kd.V_reads' HO265.out).2.2 | (with_reducible refine Kd.C_alloc ?_ _) | (with_reducible refine Kd.C_drewN ?_ _) | (with_reducible refine Kd.C_drew ?_)))
   (case aB => exact Own.bl)
   (case aF => exact (fun k_ hk => ⟨(Nat.le_trans (below_size Own.bl) hk), Kd.fresh' (Kd.R_lt (Own.rd HO257.out)) k_ hk⟩))
   (case aO => exact (Own.rd HO260.out))
   (case aS => exact (below_size Own.bl))
   (case aL => have := LMc13.out; omega)
   intro v267 w25 ho hb hg hat
   rw [← Ny266.out] at ho
   have n0_ := Aside0.mk (Kd.V_afterv (ok := (fun k_ => (P0_ k_ ∨ w.heap.size ≤ k_) ∧ some k_ ≠ (.slice Ao24 y255.length co24 : Value).ownBlock)) (Own.vd HO_0.out) hg hat)
   have n1_ := Aside0.mk (Kd.V_afterv (ok := (fun k_ => (P0_ k_ ∨ w.heap.size ≤ k_) ∧ some k_ ≠ (.slice Ao24 y255.length co24 : Value).ownBlock)) (Own.vd HO251.out) hg hat)
   have n2_ := Aside0.mk (Kd.V_afterv (ok := (fun k_ => (P0_ k_ ∨ w.heap.size ≤ k_) ∧ some k_ ≠ (.slice Ao24 y255.length co24 : Value).ownBlock)) (Own.vd HO265.out) hg hat)
   have n3_ := Aside0.mk (Kd.R_after (ok := (fun k_ => (w.heap.size ≤ k_))) (Own.rd HO257.out) hg hat)
   have n4_ := Aside0.mk (hb)
   have n5_ := Aside0.mk (ho)
   clear HO_0
   clear HO251
   clear HO265
   clear HO257
   clear HB
   clear HO260
   have HO_0 := n0_
   have HO251 := n1_
   have HO265 := n2_
   have HO257 := n3_
   have HB := n4_
   have HO268 := n5_
   clear n0_ n1_ n2_ n3_ n4_ n5_
   clear ho hb hg hat
   refine hK.out _ _ trivial (fun hHeld => ?_)
   clear hK K
   refine norm_ (a' := ?_) ?_ ?_
   rotate_left
   ·
    show Act.put _ (some 44) _ = _
    simp only [Own.ps]
    rfl
   refine pure_ (i := 12) (N := some 4) (v := ?_) (a' := ?_) #[true, true, true, true, true, true, true, true, true, true, true, true, true] rfl rfl (any_of HT_.out (by kernel_rfl)) (fun _ _ _ h => h) (Or.inl ⟨by rfl, ?_⟩) ?_ ?_
   rotate_left
   ·
    intro w'
    go_simp
    with_reducible rfl
   rotate_left
   ·
    simp only [Own.ps]
    rfl
   refine done_ (done_of HT_.out (by kernel_rfl)) ?_
   try go_wp2
   go_ret
   exact ⟨_, Own.rr, Kd.V_mono (Kd.R_V (by (with_reducible repeat (first | apply Kd.R_alloc | apply Kd.R_drewN | apply Kd.R_drew)); exact Kd.R_mono HO268.out (fun _ hk => hk.1))) (fun k_ hk => by first | exact ⟨(.inr (hk.1)), hk.2⟩ | exact (.inr (hk))), Own.bl⟩

end Go.Proofs.YtdfbfcgjcfbmpaaGreatDoor.QFnExactClausesOf
