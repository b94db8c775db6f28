-- Written by a program of this session out of the translation; Lean checks it.
import Derived.Test.YtghcjheaicmpbaaGreatDoorQFnExactAddClausex0
namespace Go.Proofs.YtghcjheaicmpbaaGreatDoor.QFnExactAddClause
open Go.RowKit Go.Proofs.YtghcjheaicmpbaaGreatDoorW.PrintWords Go.Proofs.YtghcjheaicmpbaaGreatDoorW.PrintLast
attribute [local go_sem] Instr.field asAgg
set_option linter.unusedVariables false
set_option linter.unusedSimpArgs false
/-! ### spec_l5Put: function 56 -/
def spec_l5Put.l0 : Nat → List ByteArray → ByteArray → Int → Option (List ByteArray)
 | 0, _, _, _ => none
 | k + 1, x0, x1, x5 => if x5 < (x0.length : Int) then (if 0 ≤ x5 then (if (Op.bytesLess ((rdOf ByteArray.empty x0 x5).toList) x1.toList) = true then (spec_l5Put.l0 k x0 x1 (wrap64 (x5 + 1))) else (if (rdOf ByteArray.empty x0 x5).toList = x1.toList then (some x0) else ((some (([] : List ByteArray) : List ByteArray)).bind fun y187 => (if x5 ≤ (x0.length : Int) then ((some (x0.take (x5 : Int).toNat : List ByteArray)).bind fun y190 => (if y187.length + y190.length < 8796093022208 then ((some (y187 ++ y190 : List ByteArray)).bind fun y195 => ((some (([x1] : List ByteArray) : List ByteArray)).bind fun y198 => (if y195.length + y198.length < 8796093022208 then ((some (y195 ++ y198 : List ByteArray)).bind fun y201 => ((some (x0.drop (x5 : Int).toNat : List ByteArray)).bind fun y204 => (if y201.length + y204.length < 8796093022208 then (some (y201 ++ y204)) else (none)))) else (none)))) else (none))) else (none))))) else (none)) else ((some (([] : List ByteArray) : List ByteArray)).bind fun y212 => (if 0 ≤ x5 then (if x5 ≤ (x0.length : Int) then ((some (x0.take (x5 : Int).toNat : List ByteArray)).bind fun y215 => (if y212.length + y215.length < 8796093022208 then ((some (y212 ++ y215 : List ByteArray)).bind fun y220 => ((some (([x1] : List ByteArray) : List ByteArray)).bind fun y223 => (if y220.length + y223.length < 8796093022208 then ((some (y220 ++ y223 : List ByteArray)).bind fun y226 => ((some (x0.drop (x5 : Int).toNat : List ByteArray)).bind fun y229 => (if y226.length + y229.length < 8796093022208 then (some (y226 ++ y229)) else (none)))) else (none)))) else (none))) else (none)) else (none)))
def spec_l5Put.f (k : Nat) (l0 : List ByteArray) (a1 : ByteArray) : Option (List ByteArray) := spec_l5Put.l0 k l0 a1 0
def spec_l5Put.T6 : Bool × List (List Nat × List Nat) := (true, [([], []), ([], []), ([], []), ([1, 2], [1, 2]), ([0, 3], [0, 3]), ([], []), ([5], [5]), ([4, 6, 4], [4, 6]), ([], []), ([], []), ([8, 9], [8, 9]), ([7, 10, 7], [7, 10]), ([11, 11, 0, 1, 2, 3, 4, 5, 6, 7, 8, 9, 10, 11], [11])])
def spec_l5Put.B6 : List Nat := [0, 0, 0, 6, 15, 0, 32, 127, 0, 0, 768, 2047, 4095]
theorem spec_l5Put.tab6 : rtab .any (opsOf Tryz.f56 6) = spec_l5Put.T6 := by kernel_rfl
theorem spec_l5Put.bits6 : waitsOk spec_l5Put.T6.2 spec_l5Put.B6 = true := by kernel_rfl
set_option maxHeartbeats 8000000 in
set_option maxRecDepth 100000 in
theorem spec_l5Put.calls (k : Nat) (P0_ : Nat → Prop) (A0 : Option Addr) (c0 : Nat) (l0 : List ByteArray) (a1 : ByteArray) (r : List ByteArray) (w : World) (hs0 : Kd.V Kd.string 9 w w.heap.size (fun k_ => P0_ k_) (.slice A0 l0.length c0) l0) (h : spec_l5Put.f k l0 a1 = some r) :
  Calls Tryz.prog 56 #[.slice A0 l0.length c0, .string a1] w fun e w' => ∃ v0_ : Value, e = .returned (v0_) ∧ Kd.V Kd.string 9 w' w.heap.size (fun k_ => (P0_ k_ ∨ w.heap.size ≤ k_)) v0_ r ∧ Below w.heap.size w w' := by
 have HO0 := Aside0.mk (show Kd.V Kd.string 9 w w.heap.size (fun k_ => (P0_ k_ ∨ w.heap.size ≤ k_)) (.slice A0 l0.length c0) l0 from Kd.V_mono hs0 (fun k_ hk => .inl hk))
 have HB := Aside0.mk (Below.refl w.heap.size w)
 have H : (spec_l5Put.l0 k l0 a1 0) = some r := h
 clear h
 have H' := Aside0.mk H
 clear H
 go_enter Tryz.func56, Tryz.ntmps56
 go_wp2
 go_loopg [5] k (fun kq v5 w' => ∃ (x5_1 : Int), v5 = .int .i64 x5_1 ∧ Aside0 (spec_l5Put.l0 kq l0 a1 x5_1 = some r) ∧ Aside0 (kq ≤ k) ∧ Aside0 (Kd.V Kd.string 9 w' w.heap.size (fun k_ => (P0_ k_ ∨ w.heap.size ≤ k_)) (.slice A0 l0.length c0) l0) ∧ Aside0 (Below w.heap.size w w'))
 case atStart => exact ⟨(0), Own.rs, H', ⟨Nat.le_refl _⟩, ⟨Own.vd HO0.out⟩, ⟨Own.bl⟩⟩
 case round =>
  clear H'; try clear p2
  obtain ⟨x5_1, rfl, HA, HK1, HO_0, HB⟩ := hrel
  cases gk with
  | zero => exact absurd HA.out (by simp [spec_l5Put.l0])
  | succ k1 =>
   have H := HA.out; clear HA
   simp only [spec_l5Put.l0] at H
   by_cases c3 : x5_1 < (l0.length : Int)
   rotate_left
   ·
    rw [if_neg c3] at H; replace c3 := decide_eq_false c3
    obtain ⟨y212, hy212⟩ : ∃ y_ : List ByteArray, y_ = (([] : List ByteArray)) := ⟨_, rfl⟩
    replace H : (if 0 ≤ x5_1 then (if x5_1 ≤ (l0.length : Int) then ((some (l0.take (x5_1 : Int).toNat : List ByteArray)).bind fun y215 => (if y212.length + y215.length < 8796093022208 then ((some (y212 ++ y215 : List ByteArray)).bind fun y220 => ((some (([a1] : List ByteArray) : List ByteArray)).bind fun y223 => (if y220.length + y223.length < 8796093022208 then ((some (y220 ++ y223 : List ByteArray)).bind fun y226 => ((some (l0.drop (x5_1 : Int).toNat : List ByteArray)).bind fun y229 => (if y226.length + y229.length < 8796093022208 then (some (y226 ++ y229)) else (none)))) else (none)))) else (none))) else (none)) else (none)) = some r := by first | (rw [hy212]; with_reducible exact H) | (have H2_ := (Option.bind_some _ _).symm.trans H; rw [hy212]; with_reducible exact H2_) | (have H2_ := (Option.bind_some _ _).symm.trans H; with_reducible exact H2_) | with_reducible exact H | (rw [hy212]; exact H) | exact H
    have Ny212 := Aside0.mk hy212; clear hy212
    replace H := Own.ifn H; obtain ⟨c26, H⟩ := H; have c26b0 := eq_true c26
    have c26b1 : decide (0 ≤ x5_1) = true := decide_eq_true c26
    clear c26
    replace H := Own.ifn H; obtain ⟨c27, H⟩ := H; have c27b0 := eq_true c27
    have c27b1 : decide (x5_1 ≤ (l0.length : Int)) = true := decide_eq_true c27
    clear c27
    obtain ⟨y215, hy215⟩ : ∃ y_ : List ByteArray, y_ = (l0.take (x5_1 : Int).toNat) := ⟨_, rfl⟩
    replace H : (if y212.length + y215.length < 8796093022208 then ((some (y212 ++ y215 : List ByteArray)).bind fun y220 => ((some (([a1] : List ByteArray) : List ByteArray)).bind fun y223 => (if y220.length + y223.length < 8796093022208 then ((some (y220 ++ y223 : List ByteArray)).bind fun y226 => ((some (l0.drop (x5_1 : Int).toNat : List ByteArray)).bind fun y229 => (if y226.length + y229.length < 8796093022208 then (some (y226 ++ y229)) else (none)))) else (none)))) else (none)) = some r := by first | (rw [hy215]; with_reducible exact H) | (have H2_ := (Option.bind_some _ _).symm.trans H; rw [hy215]; with_reducible exact H2_) | (have H2_ := (Option.bind_some _ _).symm.trans H; with_reducible exact H2_) | with_reducible exact H | (rw [hy215]; exact H) | exact H
    have Ny215 := Aside0.mk hy215; clear hy215
    replace H := Own.ifn H; obtain ⟨c28, H⟩ := H; have LMc28 := Aside0.mk c28; clear c28
    obtain ⟨y220, hy220⟩ : ∃ y_ : List ByteArray, y_ = (y212 ++ y215) := ⟨_, rfl⟩
    replace H : ((some (([a1] : List ByteArray) : List ByteArray)).bind fun y223 => (if y220.length + y223.length < 8796093022208 then ((some (y220 ++ y223 : List ByteArray)).bind fun y226 => ((some (l0.drop (x5_1 : Int).toNat : List ByteArray)).bind fun y229 => (if y226.length + y229.length < 8796093022208 then (some (y226 ++ y229)) else (none)))) else (none))) = some r := by first | (rw [hy220]; with_reducible exact H) | (have H2_ := (Option.bind_some _ _).symm.trans H; rw [hy220]; with_reducible exact H2_) | (have H2_ := (Option.bind_some _ _).symm.trans H; with_reducible exact H2_) | with_reducible exact H | (rw [hy220]; exact H) | exact H
    have Ny220 := Aside0.mk hy220; clear hy220
    obtain ⟨y223, hy223⟩ : ∃ y_ : List ByteArray, y_ = (([a1] : List ByteArray)) := ⟨_, rfl⟩
    replace H : (if y220.length + y223.length < 8796093022208 then ((some (y220 ++ y223 : List ByteArray)).bind fun y226 => ((some (l0.drop (x5_1 : Int).toNat : List ByteArray)).bind fun y229 => (if y226.length + y229.length < 8796093022208 then (some (y226 ++ y229)) else (none)))) else (none)) = some r := by first | (rw [hy223]; with_reducible exact H) | (have H2_ := (Option.bind_some _ _).symm.trans H; rw [hy223]; with_reducible exact H2_) | (have H2_ := (Option.bind_some _ _).symm.trans H; with_reducible exact H2_) | with_reducible exact H | (rw [hy223]; exact H) | exact H
    have Ny223 := Aside0.mk hy223; clear hy223
    replace H := Own.ifn H; obtain ⟨c29, H⟩ := H; have LMc29 := Aside0.mk c29; clear c29
    obtain ⟨y226, hy226⟩ : ∃ y_ : List ByteArray, y_ = (y220 ++ y223) := ⟨_, rfl⟩
    replace H : ((some (l0.drop (x5_1 : Int).toNat : List ByteArray)).bind fun y229 => (if y226.length + y229.length < 8796093022208 then (some (y226 ++ y229)) else (none))) = some r := by first | (rw [hy226]; with_reducible exact H) | (have H2_ := (Option.bind_some _ _).symm.trans H; rw [hy226]; with_reducible exact H2_) | (have H2_ := (Option.bind_some _ _).symm.trans H; with_reducible exact H2_) | with_reducible exact H | (rw [hy226]; exact H) | exact H
    have Ny226 := Aside0.mk hy226; clear hy226
    have c30b0 := eq_true (Own.dp : 0 ≤ x5_1)
    have c31b0 := eq_true (Own.dp : x5_1 ≤ (l0.length : Int))
    obtain ⟨y229, hy229⟩ : ∃ y_ : List ByteArray, y_ = (l0.drop (x5_1 : Int).toNat) := ⟨_, rfl⟩
    replace H : (if y226.length + y229.length < 8796093022208 then (some (y226 ++ y229)) else (none)) = some r := by first | (rw [hy229]; with_reducible exact H) | (have H2_ := (Option.bind_some _ _).symm.trans H; rw [hy229]; with_reducible exact H2_) | (have H2_ := (Option.bind_some _ _).symm.trans H; with_reducible exact H2_) | with_reducible exact H | (rw [hy229]; exact H) | exact H
    have Ny229 := Aside0.mk hy229; clear hy229
    replace H := Own.ifn H; obtain ⟨c32, H⟩ := H; have LMc32 := Aside0.mk c32; clear c32
    obtain ⟨y234, hy234⟩ : ∃ y_ : List ByteArray, y_ = (y226 ++ y229) := ⟨_, rfl⟩
    replace H : (some y234) = some r := by first | (rw [hy234]; with_reducible exact H) | (have H2_ := (Option.bind_some _ _).symm.trans H; rw [hy234]; with_reducible exact H2_) | (have H2_ := (Option.bind_some _ _).symm.trans H; with_reducible exact H2_) | with_reducible exact H | (rw [hy234]; exact H) | exact H
    have Ny234 := Aside0.mk hy234; clear hy234; obtain rfl := Option.some.inj H
    try go_wp2
    have n0_ := Aside0.mk (Kd.V_drew HO_0.out)
    have n1_ := Aside0.mk (below_drew1 HB.out)
    clear HO_0; clear HB; have HO_0 := n0_; have HB := n1_; clear n0_ n1_
    have q34 : (x5_1 : Int) ≤ ((l0.length : Int) : Int) := Own.dp
    obtain ⟨i034, hi034, _, hsz34, _⟩ := info_parts info9
    have hroom34 : l0.length ≤ c0 := (Kd.V_reads' HO_0.out).2.1
    have hC34 : Kd.F Kd.string _ _ A0 l0.length l0 := (Kd.V_at (base := w.heap.size) HO_0.out).2.2
    have hcut34 := cut_to (P := Tryz.prog) 22 9 .i64 Tryz.underlying22 hi034 A0 l0.length c0 x5_1 (Own.dp) q34 hroom34
    have hr34 := Kd.F_take (m := (x5_1 : Int).toNat) hC34 (by omega)
    have hy34 : y215.length = (x5_1 : Int).toNat := (by rw [Ny215.out, List.length_take]; omega)
    rw [← Ny215.out] at hr34; rw [← hy34] at hcut34
    have HO219 := Aside0.mk (show Kd.V Kd.string 9 _ w.heap.size _ (.slice A0 y215.length c0) y215 from Kd.V_mk (by omega) hr34)
    have HC219 := Aside0.mk (show y215.length ≤ c0 from by omega)
    clear hr34 hC34 hroom34 hi034 hsz34; have KY34 := Aside0.mk hy34; clear hy34; replace q34 := eq_true q34
    have q35 : (x5_1 : Int) ≤ ((l0.length : Int) : Int) := Own.dp
    obtain ⟨i035, hi035, _, hsz35, _⟩ := info_parts info9
    have hroom35 : l0.length ≤ c0 := (Kd.V_reads' HO_0.out).2.1
    have hC35 : Kd.F Kd.string _ _ A0 l0.length l0 := (Kd.V_at (base := w.heap.size) HO_0.out).2.2
    have q035 : (0 : Int) ≤ (x5_1 : Int) := Own.dp
    have hcut35 := cut_from (P := Tryz.prog) 22 9 .i64 Tryz.underlying22 hi035 1 hsz35 A0 l0.length c0 x5_1 q035 q35
    have hr35 := Kd.F_cut (m := (x5_1 : Int).toNat) (c := c0) hC35 (by omega) hroom35
    obtain ⟨A35, hA35⟩ : ∃ A1, A1 = (if c0 = (x5_1 : Int).toNat then A0 else (A0 : Option Addr).map (·.add ((x5_1 : Int).toNat * 1))) := ⟨_, rfl⟩
    obtain ⟨c35, hc35⟩ : ∃ c1, c1 = c0 - (x5_1 : Int).toNat := ⟨_, rfl⟩
    have hy35 : y229.length = l0.length - (x5_1 : Int).toNat := (by rw [Ny229.out, List.length_drop] <;> omega)
    rw [show (l0).drop (x5_1 : Int).toNat = y229 from Ny229.out.symm] at hr35
    replace hr35 : Kd.F Kd.string _ _ A35 y229.length y229 := (by rw [hA35]; exact hr35)
    rw [← hy35, ← hA35, ← hc35] at hcut35
    have HO233 := Aside0.mk (show Kd.V Kd.string 9 _ w.heap.size _ (.slice A35 y229.length c35) y229 from Kd.V_mk (by rw [hy35, hc35]; exact Nat.sub_le_sub_right hroom35 _) hr35)
    have HC233 := Aside0.mk (show y229.length ≤ c35 from by rw [hy35, hc35]; exact Nat.sub_le_sub_right hroom35 _)
    clear hr35 hC35 hroom35 hi035 hsz35 hc35; have KY35 := Aside0.mk hy35; have KA35 := Aside0.mk hA35; clear hy35 hA35; replace q35 := eq_true q35
    refine start_ (n := 13) (S := fun w' => True) (ds := []) (Own.fl 13 0) (by kernel_rfl) rfl rfl trivial (fun hHeld => ?_); refine with_tabW spec_l5Put.tab6 spec_l5Put.bits6 (fun HT_ HW_ => ?_)
    generalize wr.drew = w33 at HO_0 HB HO219 HO233 hHeld ⊢
    refine pure_ (i := 1) (N := some 34) (v := ?_) (a' := ?_) (Own.fl 13 2) rfl rfl (any_of HT_.out (by kernel_rfl)) (fun _ _ _ h => h) (Or.inl ⟨by rfl, ?_⟩) ?_ ?_; rotate_left; intro w'; go_simp; with_reducible rfl; rotate_left; simp only [Own.ps]; rfl
    refine pure_ (i := 2) (N := some 35) (v := ?_) (a' := ?_) (Own.fl 13 6) rfl rfl (any_of HT_.out (by kernel_rfl)) (fun _ _ _ h => h) (Or.inl ⟨by rfl, ?_⟩) ?_ ?_; rotate_left; intro w'; go_simp; with_reducible rfl; rotate_left; simp only [Own.ps]; rfl
    refine pure_ (i := 3) (N := some 36) (v := ?_) (a' := ?_) (Own.fl 13 14) rfl rfl (any_of HT_.out (by kernel_rfl)) (fun _ _ _ h => h) (Or.inl ⟨by rfl, ?_⟩) ?_ ?_; rotate_left; intro w'; go_simp; with_reducible rfl; rotate_left; simp only [Own.ps]; rfl
    refine pure_ (i := 5) (N := some 38) (v := ?_) (a' := ?_) (Own.fl 13 46) rfl rfl (any_of HT_.out (by kernel_rfl)) (fun _ _ _ h => h) (Or.inl ⟨by rfl, ?_⟩) ?_ ?_; rotate_left; intro w'; go_simp; with_reducible rfl; rotate_left; simp only [Own.ps]; rfl
    refine pure_ (i := 8) (N := some 41) (v := ?_) (a' := ?_) (Own.fl 13 302) rfl rfl (any_of HT_.out (by kernel_rfl)) (fun _ _ _ h => h) (Or.inl ⟨by rfl, ?_⟩) ?_ ?_; rotate_left; intro w'; go_simp; with_reducible rfl; rotate_left; simp only [Own.ps]; rfl
    refine pure_ (i := 9) (N := some 42) (v := ?_) (a' := ?_) (Own.fl 13 814) rfl rfl (any_of HT_.out (by kernel_rfl)) (fun _ _ _ h => h) (Or.inl ⟨by rfl, ?_⟩) ?_ ?_; rotate_left; intro w'; go_simp; with_reducible rfl; rotate_left; simp only [Own.ps]; rfl
    refine pure_ (i := 10) (N := some 43) (v := ?_) (a' := ?_) (Own.fl 13 1838) rfl rfl (any_of HT_.out (by kernel_rfl)) (fun _ _ _ h => h) (Or.inl ⟨by rfl, ?_⟩) ?_ ?_; rotate_left; intro w'; go_simp; with_reducible rfl; rotate_left; simp only [Own.ps]; rfl
    refine join_ (σ := Value × Value × Value) 3 (Own.fl 13 1919) (fun s_ => [(33, s_.1), (37, s_.2.1), (39, s_.2.2)]) (fun s_ w' => (Kd.V Kd.string 9 w' w.heap.size (fun k_ => (P0_ k_ ∨ w.heap.size ≤ k_) ∧ some k_ ≠ (s_.2.1 : Value).ownBlock ∧ some k_ ≠ (s_.2.2 : Value).ownBlock) (.slice A0 y215.length c0) y215) ∧ (Kd.R Kd.string 9 w' w.heap.size (fun k_ => (w.heap.size ≤ k_) ∧ some k_ ≠ (s_.2.2 : Value).ownBlock) s_.2.1 y220) ∧ (Kd.R Kd.string 9 w' w.heap.size (fun k_ => (w.heap.size ≤ k_) ∧ some k_ ≠ (s_.2.1 : Value).ownBlock) s_.2.2 y223) ∧ (Kd.V Kd.string 9 w' w.heap.size (fun k_ => (P0_ k_ ∨ w.heap.size ≤ k_) ∧ some k_ ≠ (s_.2.1 : Value).ownBlock ∧ some k_ ≠ (s_.2.2 : Value).ownBlock) (.slice A35 y229.length c35) y229) ∧ (Kd.V Kd.string 9 w' w.heap.size (fun k_ => (P0_ k_ ∨ w.heap.size ≤ k_) ∧ some k_ ≠ (s_.2.1 : Value).ownBlock ∧ some k_ ≠ (s_.2.2 : Value).ownBlock) (.slice A0 l0.length c0) l0) ∧ (Below w.heap.size w w')) ?_ ?_
    rotate_left
    ·
     intro hCont
     refine two_ (i := 0) (j := 6) (Ni := some 33) (Nj := some 39) (Own.fl 13 1839) (Own.fl 13 1902) rfl rfl rfl rfl (two_of HT_.out (by kernel_rfl)) (by decide) (by decide) (fun K hK => ?_) (fun K hK => ?_)
     ·
      skip
      refine Kd.R_lit_step Kd.string _ 9 ?hg (N := 33) ?hd (xs := ([] : List ByteArray)) (inner := []) (ok := fun _ => True) (okp := fun _ => True) ?hr ?hp (fun _ hk => hk) trivial (Below.refl _ _) (Nat.le_refl _) (by simp) ?_; (case hd => rfl); (case hg => rfl); (case hr => first | (go_simp; done) | (go_simp; rfl)); (case hp => exact (Reps.none _ _))
      intro v213 w36 ho37 hb hg_ hnew_; clear hg_ hnew_
      (first | rw [← Ny212.out] at ho37 | (simp only [Int.reduceToNat] at ho37; rw [← Ny212.out] at ho37))
      have n0_ := Aside0.mk (Kd.V_elder' (Own.vd HO_0.out) (Kd.R_base ho37) hb)
      have n1_ := Aside0.mk (Kd.V_elder' (Own.vd HO219.out) (Kd.R_base ho37) hb)
      have n2_ := Aside0.mk (Kd.V_elder' (Own.vd HO233.out) (Kd.R_base ho37) hb)
      have n3_ := Aside0.mk (Kd.R_lower (Kd.R_newM (M := fun k_ => (w.heap.size ≤ k_)) ho37 (below_size Own.bl) (fun k_ h_ => h_)) (below_size Own.bl))
      have n4_ := Own.bs hb; clear HO_0; clear HO219; clear HO233; clear HB; have HO_0 := n0_; have HO219 := n1_; have HO233 := n2_; have HO214 := n3_; have HB := n4_; clear n0_ n1_ n2_ n3_ n4_; clear hb ho37
      refine hK.out _ _ trivial (fun hHeld => ?_)
      clear hK K; refine norm_ (a' := ?_) ?_ ?_; rotate_left; show Act.put _ (some 33) _ = _; simp only [Own.ps]; rfl
      refine two_ (i := 4) (j := 6) (Ni := some 37) (Nj := some 39) (Own.fl 13 1855) (Own.fl 13 1903) rfl rfl rfl rfl (two_of HT_.out (by kernel_rfl)) (by decide) (by decide) (fun K hK => ?_) (fun K hK => ?_)
      ·
       skip
       refine Kd.R_append_rows_step Kd.string (w0 := w) w.heap.size (by rfl) (.tmp 33) (.tmp 36) 22 9 (.string ⟨#[]⟩) 16 rfl Tryz.underlying22 info9 rfl (by decide) (by omega) v213 y212 y215 _ _ _ (fun k_ => (w.heap.size ≤ k_)) (fun _ => False) rfl rfl ?aO ?aR (fun _ _ h => h) (fun _ h => h.elim) ?aF ?aB ?aS ?aL ?_
       (case aR => repeat (first | exact (Kd.V_reads' HO219.out).2.2 | (with_reducible refine Kd.C_alloc ?_ _) | (with_reducible refine Kd.C_drewN ?_ _) | (with_reducible refine Kd.C_drew ?_)))
       (case aB => exact Own.bl)
       (case aF => exact (fun k_ hk => (Nat.le_trans (below_size Own.bl) hk)))
       (case aO => exact (by (with_reducible repeat (first | apply Kd.R_alloc | apply Kd.R_drewN | apply Kd.R_drew)); exact Kd.R_mono HO214.out (fun _ hk => hk.1)))
       (case aS => exact (below_size Own.bl))
       (case aL => have := LMc28.out; omega)
       intro v221 w38 ho hb hg hat; rw [← Ny220.out] at ho
       have n0_ := Aside0.mk (Kd.V_afterv (ok := (fun k_ => (P0_ k_ ∨ w.heap.size ≤ k_))) (Own.vd HO_0.out) hg hat)
       have n1_ := Aside0.mk (Kd.V_afterv (ok := (fun k_ => (P0_ k_ ∨ w.heap.size ≤ k_))) (Own.vd HO219.out) hg hat)
       have n2_ := Aside0.mk (Kd.V_afterv (ok := (fun k_ => (P0_ k_ ∨ w.heap.size ≤ k_))) (Own.vd HO233.out) hg hat)
       have n3_ := Aside0.mk (hb)
       have n4_ := Aside0.mk (ho)
       clear HO_0; clear HO219; clear HO233; clear HB; clear HO214; have HO_0 := n0_; have HO219 := n1_; have HO233 := n2_; have HB := n3_; have HO222 := n4_; clear n0_ n1_ n2_ n3_ n4_; clear ho hb hg hat
       refine hK.out _ _ trivial (fun hHeld => ?_)
       clear hK K; refine norm_ (a' := ?_) ?_ ?_; rotate_left; show Act.put _ (some 37) _ = _; simp only [Own.ps]; rfl
       refine one_ (i := 6) (N := some 39) (Own.fl 13 1919) rfl rfl (one_of HT_.out (by kernel_rfl)) (by decide) (fun K hK => ?_)
       refine Kd.R_lit_step Kd.string _ 9 ?hg (N := 39) ?hd (xs := ([a1] : List ByteArray)) (inner := [.string a1]) (ok := fun _ => True) (okp := fun _ => True) ?hr ?hp (fun _ hk => hk) trivial (Below.refl _ _) (Nat.le_refl _) (by simp) ?_; (case hd => rfl); (case hg => rfl); (case hr => first | (go_simp; done) | (go_simp; rfl)); (case hp => exact (Reps.one (show Kd.M Kd.string _ _ _ a1 [.string a1] from rfl) (Reps.none _ _)))
       intro v224 w39 ho40 hb hg_ hnew_; clear hg_ hnew_
       (first | rw [← Ny223.out] at ho40 | (simp only [Int.reduceToNat] at ho40; rw [← Ny223.out] at ho40))
       have n0_ := Aside0.mk (Kd.V_elder' (Own.vd HO_0.out) (Kd.R_base ho40) hb)
       have n1_ := Aside0.mk (Kd.V_elder' (Own.vd HO219.out) (Kd.R_base ho40) hb)
       have n2_ := Aside0.mk (Kd.V_elder' (Own.vd HO233.out) (Kd.R_base ho40) hb)
       have n3_ := Aside0.mk (Kd.R_elder' (Own.rd HO222.out) (Kd.R_base ho40) hb)
       have n4_ := Aside0.mk (Kd.R_lower (Kd.R_new' (Kd.R_newM (M := fun k_ => (w.heap.size ≤ k_)) ho40 (below_size Own.bl) (fun k_ h_ => h_)) (Kd.R_lt (Own.rd HO222.out))) (below_size Own.bl))
       have n5_ := Own.bs hb; clear HO_0; clear HO219; clear HO233; clear HO222; clear HB; have HO_0 := n0_; have HO219 := n1_; have HO233 := n2_; have HO222 := n3_; have HO225 := n4_; have HB := n5_; clear n0_ n1_ n2_ n3_ n4_ n5_; clear hb ho40
       refine hK.out _ _ trivial (fun hHeld => ?_)
       clear hK K; refine norm_ (a' := ?_) ?_ ?_; rotate_left; show Act.put _ (some 39) _ = _; simp only [Own.ps]; rfl
       exact norm_ (by simp only [putAll, Act.put, List.setIfInBounds_toArray, List.set_cons_zero, List.set_cons_succ]) (hCont (v213, v221, v224) _ ⟨(by (with_reducible repeat (first | apply Kd.V_alloc | apply Kd.V_drewN | apply Kd.V_drew)); exact Kd.V_mono HO219.out (fun _ hk => ⟨hk.1.1, ⟨hk.1.2, hk.2⟩⟩)), (Own.rd HO222.out), (by (with_reducible repeat (first | apply Kd.R_alloc | apply Kd.R_drewN | apply Kd.R_drew)); exact Kd.R_mono HO225.out (fun _ hk => ⟨hk.1.1, hk.2⟩)), (by (with_reducible repeat (first | apply Kd.V_alloc | apply Kd.V_drewN | apply Kd.V_drew)); exact Kd.V_mono HO233.out (fun _ hk => ⟨hk.1.1, ⟨hk.1.2, hk.2⟩⟩)), (by (with_reducible repeat (first | apply Kd.V_alloc | apply Kd.V_drewN | apply Kd.V_drew)); exact Kd.V_mono HO_0.out (fun _ hk => ⟨hk.1.1, ⟨hk.1.2, hk.2⟩⟩)), Own.bl⟩)
      ·
       skip
       refine Kd.R_lit_step Kd.string _ 9 ?hg (N := 39) ?hd (xs := ([a1] : List ByteArray)) (inner := [.string a1]) (ok := fun _ => True) (okp := fun _ => True) ?hr ?hp (fun _ hk => hk) trivial (Below.refl _ _) (Nat.le_refl _) (by simp) ?_; (case hd => rfl); (case hg => rfl); (case hr => first | (go_simp; done) | (go_simp; rfl)); (case hp => exact (Reps.one (show Kd.M Kd.string _ _ _ a1 [.string a1] from rfl) (Reps.none _ _)))
       intro v224 w38 ho39 hb hg_ hnew_; clear hg_ hnew_
       (first | rw [← Ny223.out] at ho39 | (simp only [Int.reduceToNat] at ho39; rw [← Ny223.out] at ho39))
       have n0_ := Aside0.mk (Kd.V_elder' (Own.vd HO_0.out) (Kd.R_base ho39) hb)
       have n1_ := Aside0.mk (Kd.V_elder' (Own.vd HO219.out) (Kd.R_base ho39) hb)
       have n2_ := Aside0.mk (Kd.V_elder' (Own.vd HO233.out) (Kd.R_base ho39) hb)
       have n3_ := Aside0.mk (Kd.R_elder' (Own.rd HO214.out) (Kd.R_base ho39) hb)
       have n4_ := Aside0.mk (Kd.R_lower (Kd.R_new' (Kd.R_newM (M := fun k_ => (w.heap.size ≤ k_)) ho39 (below_size Own.bl) (fun k_ h_ => h_)) (Kd.R_lt (Own.rd HO214.out))) (below_size Own.bl))
       have n5_ := Own.bs hb; clear HO_0; clear HO219; clear HO233; clear HO214; clear HB; have HO_0 := n0_; have HO219 := n1_; have HO233 := n2_; have HO214 := n3_; have HO225 := n4_; have HB := n5_; clear n0_ n1_ n2_ n3_ n4_ n5_; clear hb ho39
       refine hK.out _ _ trivial (fun hHeld => ?_)
       clear hK K; refine norm_ (a' := ?_) ?_ ?_; rotate_left; show Act.put _ (some 39) _ = _; simp only [Own.ps]; rfl
       refine one_ (i := 4) (N := some 37) (Own.fl 13 1919) rfl rfl (one_of HT_.out (by kernel_rfl)) (by decide) (fun K hK => ?_)
       refine Kd.R_append_rows_step Kd.string (w0 := w) w.heap.size (by rfl) (.tmp 33) (.tmp 36) 22 9 (.string ⟨#[]⟩) 16 rfl Tryz.underlying22 info9 rfl (by decide) (by omega) v213 y212 y215 _ _ _ (fun k_ => (w.heap.size ≤ k_) ∧ some k_ ≠ (v224 : Value).ownBlock) (fun _ => False) rfl rfl ?aO ?aR (fun _ _ h => h) (fun _ h => h.elim) ?aF ?aB ?aS ?aL ?_
       (case aR => repeat (first | exact (Kd.V_reads' HO219.out).2.2 | (with_reducible refine Kd.C_alloc ?_ _) | (with_reducible refine Kd.C_drewN ?_ _) | (with_reducible refine Kd.C_drew ?_)))
       (case aB => exact Own.bl)
       (case aF => exact (fun k_ hk => ⟨(Nat.le_trans (below_size Own.bl) hk), Kd.fresh' (Kd.R_lt (Own.rd HO225.out)) k_ hk⟩))
       (case aO => exact (by (with_reducible repeat (first | apply Kd.R_alloc | apply Kd.R_drewN | apply Kd.R_drew)); exact Kd.R_mono HO214.out (fun _ hk => ⟨hk.1.1, hk.2⟩)))
       (case aS => exact (below_size Own.bl))
       (case aL => have := LMc28.out; omega)
       intro v221 w40 ho hb hg hat; rw [← Ny220.out] at ho
       have n0_ := Aside0.mk (Kd.V_afterv (ok := (fun k_ => (P0_ k_ ∨ w.heap.size ≤ k_) ∧ some k_ ≠ (v224 : Value).ownBlock)) (by (with_reducible repeat (first | apply Kd.V_alloc | apply Kd.V_drewN | apply Kd.V_drew)); exact Kd.V_mono HO_0.out (fun _ hk => ⟨⟨hk.1.1, hk.2⟩, hk.1.2⟩)) hg hat)
       have n1_ := Aside0.mk (Kd.V_afterv (ok := (fun k_ => (P0_ k_ ∨ w.heap.size ≤ k_) ∧ some k_ ≠ (v224 : Value).ownBlock)) (by (with_reducible repeat (first | apply Kd.V_alloc | apply Kd.V_drewN | apply Kd.V_drew)); exact Kd.V_mono HO219.out (fun _ hk => ⟨⟨hk.1.1, hk.2⟩, hk.1.2⟩)) hg hat)
       have n2_ := Aside0.mk (Kd.V_afterv (ok := (fun k_ => (P0_ k_ ∨ w.heap.size ≤ k_) ∧ some k_ ≠ (v224 : Value).ownBlock)) (by (with_reducible repeat (first | apply Kd.V_alloc | apply Kd.V_drewN | apply Kd.V_drew)); exact Kd.V_mono HO233.out (fun _ hk => ⟨⟨hk.1.1, hk.2⟩, hk.1.2⟩)) hg hat)
       have n3_ := Aside0.mk (Kd.R_after (ok := (fun k_ => (w.heap.size ≤ k_))) (by (with_reducible repeat (first | apply Kd.R_alloc | apply Kd.R_drewN | apply Kd.R_drew)); exact Kd.R_mono HO225.out (fun _ hk => ⟨hk.1.1, hk.2⟩)) hg hat)
       have n4_ := Aside0.mk (hb)
       have n5_ := Aside0.mk (ho)
       clear HO_0; clear HO219; clear HO233; clear HO225; clear HB; clear HO214; have HO_0 := n0_; have HO219 := n1_; have HO233 := n2_; have HO225 := n3_; have HB := n4_; have HO222 := n5_; clear n0_ n1_ n2_ n3_ n4_ n5_; clear ho hb hg hat
       refine hK.out _ _ trivial (fun hHeld => ?_)
       clear hK K; refine norm_ (a' := ?_) ?_ ?_; rotate_left; show Act.put _ (some 37) _ = _; simp only [Own.ps]; rfl
       exact norm_ (by simp only [putAll, Act.put, List.setIfInBounds_toArray, List.set_cons_zero, List.set_cons_succ]) (hCont (v213, v221, v224) _ ⟨(by (with_reducible repeat (first | apply Kd.V_alloc | apply Kd.V_drewN | apply Kd.V_drew)); exact Kd.V_mono HO219.out (fun _ hk => ⟨hk.1.1, ⟨hk.2, hk.1.2⟩⟩)), (Own.rd HO222.out), (Own.rd HO225.out), (by (with_reducible repeat (first | apply Kd.V_alloc | apply Kd.V_drewN | apply Kd.V_drew)); exact Kd.V_mono HO233.out (fun _ hk => ⟨hk.1.1, ⟨hk.2, hk.1.2⟩⟩)), (by (with_reducible repeat (first | apply Kd.V_alloc | apply Kd.V_drewN | apply Kd.V_drew)); exact Kd.V_mono HO_0.out (fun _ hk => ⟨hk.1.1, ⟨hk.2, hk.1.2⟩⟩)), Own.bl⟩)
     ·
      skip
      refine Kd.R_lit_step Kd.string _ 9 ?hg (N := 39) ?hd (xs := ([a1] : List ByteArray)) (inner := [.string a1]) (ok := fun _ => True) (okp := fun _ => True) ?hr ?hp (fun _ hk => hk) trivial (Below.refl _ _) (Nat.le_refl _) (by simp) ?_; (case hd => rfl); (case hg => rfl); (case hr => first | (go_simp; done) | (go_simp; rfl)); (case hp => exact (Reps.one (show Kd.M Kd.string _ _ _ a1 [.string a1] from rfl) (Reps.none _ _)))
      intro v224 w36 ho37 hb hg_ hnew_; clear hg_ hnew_
      (first | rw [← Ny223.out] at ho37 | (simp only [Int.reduceToNat] at ho37; rw [← Ny223.out] at ho37))
      have n0_ := Aside0.mk (Kd.V_elder' (Own.vd HO_0.out) (Kd.R_base ho37) hb)
      have n1_ := Aside0.mk (Kd.V_elder' (Own.vd HO219.out) (Kd.R_base ho37) hb)
      have n2_ := Aside0.mk (Kd.V_elder' (Own.vd HO233.out) (Kd.R_base ho37) hb)
      have n3_ := Aside0.mk (Kd.R_lower (Kd.R_newM (M := fun k_ => (w.heap.size ≤ k_)) ho37 (below_size Own.bl) (fun k_ h_ => h_)) (below_size Own.bl))
      have n4_ := Own.bs hb; clear HO_0; clear HO219; clear HO233; clear HB; have HO_0 := n0_; have HO219 := n1_; have HO233 := n2_; have HO225 := n3_; have HB := n4_; clear n0_ n1_ n2_ n3_ n4_; clear hb ho37
      refine hK.out _ _ trivial (fun hHeld => ?_)
      clear hK K; refine norm_ (a' := ?_) ?_ ?_; rotate_left; show Act.put _ (some 39) _ = _; simp only [Own.ps]; rfl
      refine one_ (i := 0) (N := some 33) (Own.fl 13 1903) rfl rfl (one_of HT_.out (by kernel_rfl)) (by decide) (fun K hK => ?_)
      refine Kd.R_lit_step Kd.string _ 9 ?hg (N := 33) ?hd (xs := ([] : List ByteArray)) (inner := []) (ok := fun _ => True) (okp := fun _ => True) ?hr ?hp (fun _ hk => hk) trivial (Below.refl _ _) (Nat.le_refl _) (by simp) ?_; (case hd => rfl); (case hg => rfl); (case hr => first | (go_simp; done) | (go_simp; rfl)); (case hp => exact (Reps.none _ _))
      intro v213 w38 ho39 hb hg_ hnew_; clear hg_ hnew_
      (first | rw [← Ny212.out] at ho39 | (simp only [Int.reduceToNat] at ho39; rw [← Ny212.out] at ho39))
      have n0_ := Aside0.mk (Kd.V_elder' (Own.vd HO_0.out) (Kd.R_base ho39) hb)
      have n1_ := Aside0.mk (Kd.V_elder' (Own.vd HO219.out) (Kd.R_base ho39) hb)
      have n2_ := Aside0.mk (Kd.V_elder' (Own.vd HO233.out) (Kd.R_base ho39) hb)
      have n3_ := Aside0.mk (Kd.R_elder' (Own.rd HO225.out) (Kd.R_base ho39) hb)
      have n4_ := Aside0.mk (Kd.R_lower (Kd.R_new' (Kd.R_newM (M := fun k_ => (w.heap.size ≤ k_)) ho39 (below_size Own.bl) (fun k_ h_ => h_)) (Kd.R_lt (Own.rd HO225.out))) (below_size Own.bl))
      have n5_ := Own.bs hb; clear HO_0; clear HO219; clear HO233; clear HO225; clear HB; have HO_0 := n0_; have HO219 := n1_; have HO233 := n2_; have HO225 := n3_; have HO214 := n4_; have HB := n5_; clear n0_ n1_ n2_ n3_ n4_ n5_; clear hb ho39
      refine hK.out _ _ trivial (fun hHeld => ?_)
      clear hK K; refine norm_ (a' := ?_) ?_ ?_; rotate_left; show Act.put _ (some 33) _ = _; simp only [Own.ps]; rfl
      refine one_ (i := 4) (N := some 37) (Own.fl 13 1919) rfl rfl (one_of HT_.out (by kernel_rfl)) (by decide) (fun K hK => ?_)
      refine Kd.R_append_rows_step Kd.string (w0 := w) w.heap.size (by rfl) (.tmp 33) (.tmp 36) 22 9 (.string ⟨#[]⟩) 16 rfl Tryz.underlying22 info9 rfl (by decide) (by omega) v213 y212 y215 _ _ _ (fun k_ => (w.heap.size ≤ k_) ∧ some k_ ≠ (v224 : Value).ownBlock) (fun _ => False) rfl rfl ?aO ?aR (fun _ _ h => h) (fun _ h => h.elim) ?aF ?aB ?aS ?aL ?_
      (case aR => repeat (first | exact (Kd.V_reads' HO219.out).2.2 | (with_reducible refine Kd.C_alloc ?_ _) | (with_reducible refine Kd.C_drewN ?_ _) | (with_reducible refine Kd.C_drew ?_)))
      (case aB => exact Own.bl)
      (case aF => exact (fun k_ hk => ⟨(Nat.le_trans (below_size Own.bl) hk), Kd.fresh' (Kd.R_lt (Own.rd HO225.out)) k_ hk⟩))
      (case aO => exact (by (with_reducible repeat (first | apply Kd.R_alloc | apply Kd.R_drewN | apply Kd.R_drew)); exact Kd.R_mono HO214.out (fun _ hk => ⟨hk.1.1, hk.2⟩)))
      (case aS => exact (below_size Own.bl))
      (case aL => have := LMc28.out; omega)
      intro v221 w40 ho hb hg hat; rw [← Ny220.out] at ho
      have n0_ := Aside0.mk (Kd.V_afterv (ok := (fun k_ => (P0_ k_ ∨ w.heap.size ≤ k_) ∧ some k_ ≠ (v224 : Value).ownBlock)) (Own.vd HO_0.out) hg hat)
      have n1_ := Aside0.mk (Kd.V_afterv (ok := (fun k_ => (P0_ k_ ∨ w.heap.size ≤ k_) ∧ some k_ ≠ (v224 : Value).ownBlock)) (Own.vd HO219.out) hg hat)
      have n2_ := Aside0.mk (Kd.V_afterv (ok := (fun k_ => (P0_ k_ ∨ w.heap.size ≤ k_) ∧ some k_ ≠ (v224 : Value).ownBlock)) (Own.vd HO233.out) hg hat)
      have n3_ := Aside0.mk (Kd.R_after (ok := (fun k_ => (w.heap.size ≤ k_))) (by (with_reducible repeat (first | apply Kd.R_alloc | apply Kd.R_drewN | apply Kd.R_drew)); exact Kd.R_mono HO225.out (fun _ hk => ⟨hk.1.1, hk.2⟩)) hg hat)
      have n4_ := Aside0.mk (hb)
      have n5_ := Aside0.mk (ho)
      clear HO_0; clear HO219; clear HO233; clear HO225; clear HB; clear HO214; have HO_0 := n0_; have HO219 := n1_; have HO233 := n2_; have HO225 := n3_; have HB := n4_; have HO222 := n5_; clear n0_ n1_ n2_ n3_ n4_ n5_; clear ho hb hg hat
      refine hK.out _ _ trivial (fun hHeld => ?_)
      clear hK K; refine norm_ (a' := ?_) ?_ ?_; rotate_left; show Act.put _ (some 37) _ = _; simp only [Own.ps]; rfl
      exact norm_ (by simp only [putAll, Act.put, List.setIfInBounds_toArray, List.set_cons_zero, List.set_cons_succ]) (hCont (v213, v221, v224) _ ⟨(by (with_reducible repeat (first | apply Kd.V_alloc | apply Kd.V_drewN | apply Kd.V_drew)); exact Kd.V_mono HO219.out (fun _ hk => ⟨hk.1.1, ⟨hk.2, hk.1.2⟩⟩)), (Own.rd HO222.out), (Own.rd HO225.out), (by (with_reducible repeat (first | apply Kd.V_alloc | apply Kd.V_drewN | apply Kd.V_drew)); exact Kd.V_mono HO233.out (fun _ hk => ⟨hk.1.1, ⟨hk.2, hk.1.2⟩⟩)), (by (with_reducible repeat (first | apply Kd.V_alloc | apply Kd.V_drewN | apply Kd.V_drew)); exact Kd.V_mono HO_0.out (fun _ hk => ⟨hk.1.1, ⟨hk.2, hk.1.2⟩⟩)), Own.bl⟩)
    rintro ⟨v213, v221, v224⟩ w41 ⟨h0_, h1_, h2_, h3_, h4_, h5_⟩
    have n0_ : Aside0 (Kd.V Kd.string 9 w41 w.heap.size (fun k_ => (P0_ k_ ∨ w.heap.size ≤ k_) ∧ some k_ ≠ (v221 : Value).ownBlock ∧ some k_ ≠ (v224 : Value).ownBlock) (.slice A0 y215.length c0) y215) := ⟨h0_⟩
    have n1_ : Aside0 (Kd.R Kd.string 9 w41 w.heap.size (fun k_ => (w.heap.size ≤ k_) ∧ some k_ ≠ (v224 : Value).ownBlock) v221 y220) := ⟨h1_⟩
    have n2_ : Aside0 (Kd.R Kd.string 9 w41 w.heap.size (fun k_ => (w.heap.size ≤ k_) ∧ some k_ ≠ (v221 : Value).ownBlock) v224 y223) := ⟨h2_⟩
    have n3_ : Aside0 (Kd.V Kd.string 9 w41 w.heap.size (fun k_ => (P0_ k_ ∨ w.heap.size ≤ k_) ∧ some k_ ≠ (v221 : Value).ownBlock ∧ some k_ ≠ (v224 : Value).ownBlock) (.slice A35 y229.length c35) y229) := ⟨h3_⟩
    have n4_ : Aside0 (Kd.V Kd.string 9 w41 w.heap.size (fun k_ => (P0_ k_ ∨ w.heap.size ≤ k_) ∧ some k_ ≠ (v221 : Value).ownBlock ∧ some k_ ≠ (v224 : Value).ownBlock) (.slice A0 l0.length c0) l0) := ⟨h4_⟩
    have n5_ : Aside0 (Below w.heap.size w w41) := ⟨h5_⟩
    clear HO_0; clear HB; clear h0_ h1_ h2_ h3_ h4_ h5_; have HO219 := n0_; have HO222 := n1_; have HO225 := n2_; have HO233 := n3_; have HO_0 := n4_; have HB := n5_; clear n0_ n1_ n2_ n3_ n4_ n5_; have hHeld := trivial; obtain ⟨Ao43, co43, eo43⟩ := Kd.R_slice HO225.out
    (first | subst eo43 | (injection eo43 with f1_ f2_ f3_; have f4_ := f1_.symm; have f5_ := f3_.symm; clear f1_ f2_ f3_; subst f4_; subst f5_))
    refine norm_ (a' := ?_) ?_ ?_
    rotate_left
    ·
     simp only [putAll, Act.put, List.setIfInBounds_toArray, List.set_cons_zero, List.set_cons_succ]
     rfl
    refine one_ (i := 7) (N := some 40) (Own.fl 13 2047) rfl rfl (one_of HT_.out (by kernel_rfl)) (by decide) (fun K hK => ?_)
    refine Kd.R_append_rows_step Kd.string (w0 := w) w.heap.size (by rfl) (.tmp 37) (.tmp 39) 22 9 (.string ⟨#[]⟩) 16 rfl Tryz.underlying22 info9 rfl (by decide) (by omega) v221 y220 y223 _ _ _ (fun k_ => (w.heap.size ≤ k_) ∧ some k_ ≠ (.slice Ao43 y223.length co43 : Value).ownBlock) (fun _ => False) rfl rfl ?aO ?aR (fun _ _ h => h) (fun _ h => h.elim) ?aF ?aB ?aS ?aL ?_
    (case aR => repeat (first | exact (Kd.R_reads' HO225.out).2.2 | (with_reducible refine Kd.C_alloc ?_ _) | (with_reducible refine Kd.C_drewN ?_ _) | (with_reducible refine Kd.C_drew ?_)))
    (case aB => exact Own.bl)
    (case aF => exact (fun k_ hk => ⟨(Nat.le_trans (below_size Own.bl) hk), Kd.fresh' (Kd.R_lt (Own.rd HO225.out)) k_ hk⟩))
    (case aO => exact (Own.rd HO222.out))
    (case aS => exact (below_size Own.bl))
    (case aL => have := LMc29.out; omega)
    intro v227 w42 ho hb hg hat; rw [← Ny226.out] at ho
    have n0_ := Aside0.mk (Kd.V_afterv (ok := (fun k_ => (P0_ k_ ∨ w.heap.size ≤ k_) ∧ some k_ ≠ (.slice Ao43 y223.length co43 : Value).ownBlock)) (by (with_reducible repeat (first | apply Kd.V_alloc | apply Kd.V_drewN | apply Kd.V_drew)); exact Kd.V_mono HO_0.out (fun _ hk => ⟨⟨hk.1, hk.2.2⟩, hk.2.1⟩)) hg hat)
    have n1_ := Aside0.mk (Kd.V_afterv (ok := (fun k_ => (P0_ k_ ∨ w.heap.size ≤ k_) ∧ some k_ ≠ (.slice Ao43 y223.length co43 : Value).ownBlock)) (by (with_reducible repeat (first | apply Kd.V_alloc | apply Kd.V_drewN | apply Kd.V_drew)); exact Kd.V_mono HO219.out (fun _ hk => ⟨⟨hk.1, hk.2.2⟩, hk.2.1⟩)) hg hat)
    have n2_ := Aside0.mk (Kd.V_afterv (ok := (fun k_ => (P0_ k_ ∨ w.heap.size ≤ k_) ∧ some k_ ≠ (.slice Ao43 y223.length co43 : Value).ownBlock)) (by (with_reducible repeat (first | apply Kd.V_alloc | apply Kd.V_drewN | apply Kd.V_drew)); exact Kd.V_mono HO233.out (fun _ hk => ⟨⟨hk.1, hk.2.2⟩, hk.2.1⟩)) hg hat)
    have n3_ := Aside0.mk (Kd.R_after (ok := (fun k_ => (w.heap.size ≤ k_))) (Own.rd HO225.out) hg hat)
    have n4_ := Aside0.mk (hb)
    have n5_ := Aside0.mk (ho)
    clear HO_0; clear HO219; clear HO233; clear HO225; clear HB; clear HO222; have HO_0 := n0_; have HO219 := n1_; have HO233 := n2_; have HO225 := n3_; have HB := n4_; have HO228 := n5_; clear n0_ n1_ n2_ n3_ n4_ n5_; clear ho hb hg hat
    refine hK.out _ _ trivial (fun hHeld => ?_)
    clear hK K; refine norm_ (a' := ?_) ?_ ?_; rotate_left; show Act.put _ (some 40) _ = _; simp only [Own.ps]; rfl
    refine one_ (i := 11) (N := some 44) (Own.fl 13 4095) rfl rfl (one_of HT_.out (by kernel_rfl)) (by decide) (fun K hK => ?_)
    refine Kd.R_append_rows_step Kd.string (w0 := w) w.heap.size (by rfl) (.tmp 40) (.tmp 43) 22 9 (.string ⟨#[]⟩) 16 rfl Tryz.underlying22 info9 rfl (by decide) (by omega) v227 y226 y229 _ _ _ (fun k_ => (w.heap.size ≤ k_) ∧ some k_ ≠ (.slice Ao43 y223.length co43 : Value).ownBlock) (fun _ => False) rfl rfl ?aO ?aR (fun _ _ h => h) (fun _ h => h.elim) ?aF ?aB ?aS ?aL ?_
    (case aR => repeat (first | exact (Kd.V_reads' HO233.out).2.2 | (with_reducible refine Kd.C_alloc ?_ _) | (with_reducible refine Kd.C_drewN ?_ _) | (with_reducible refine Kd.C_drew ?_)))
    (case aB => exact Own.bl)
    (case aF => exact (fun k_ hk => ⟨(Nat.le_trans (below_size Own.bl) hk), Kd.fresh' (Kd.R_lt (Own.rd HO225.out)) k_ hk⟩))
    (case aO => exact (Own.rd HO228.out))
    (case aS => exact (below_size Own.bl))
    (case aL => have := LMc32.out; omega)
    intro v235 w44 ho hb hg hat; rw [← Ny234.out] at ho
    have n0_ := Aside0.mk (Kd.V_afterv (ok := (fun k_ => (P0_ k_ ∨ w.heap.size ≤ k_) ∧ some k_ ≠ (.slice Ao43 y223.length co43 : Value).ownBlock)) (Own.vd HO_0.out) hg hat)
    have n1_ := Aside0.mk (Kd.V_afterv (ok := (fun k_ => (P0_ k_ ∨ w.heap.size ≤ k_) ∧ some k_ ≠ (.slice Ao43 y223.length co43 : Value).ownBlock)) (Own.vd HO219.out) hg hat)
    have n2_ := Aside0.mk (Kd.V_afterv (ok := (fun k_ => (P0_ k_ ∨ w.heap.size ≤ k_) ∧ some k_ ≠ (.slice Ao43 y223.length co43 : Value).ownBlock)) (Own.vd HO233.out) hg hat)
    have n3_ := Aside0.mk (Kd.R_after (ok := (fun k_ => (w.heap.size ≤ k_))) (Own.rd HO225.out) hg hat)
    have n4_ := Aside0.mk (hb)
    have n5_ := Aside0.mk (ho)
    clear HO_0; clear HO219; clear HO233; clear HO225; clear HB; clear HO228; have HO_0 := n0_; have HO219 := n1_; have HO233 := n2_; have HO225 := n3_; have HB := n4_; have HO236 := n5_; clear n0_ n1_ n2_ n3_ n4_ n5_; clear ho hb hg hat
    refine hK.out _ _ trivial (fun hHeld => ?_)
    clear hK K; refine norm_ (a' := ?_) ?_ ?_; rotate_left; show Act.put _ (some 44) _ = _; simp only [Own.ps]; rfl
    refine pure_ (i := 12) (N := some 4) (v := ?_) (a' := ?_) (Own.fl 13 8191) rfl rfl (any_of HT_.out (by kernel_rfl)) (fun _ _ _ h => h) (Or.inl ⟨by rfl, ?_⟩) ?_ ?_; rotate_left; intro w'; go_simp; with_reducible rfl; rotate_left; simp only [Own.ps]; rfl
    refine done_ (done_of HT_.out (by kernel_rfl)) ?_
    try go_wp2
    go_ret
    exact ⟨_, Own.rr, Kd.V_mono (Kd.R_V (by (with_reducible repeat (first | apply Kd.R_alloc | apply Kd.R_drewN | apply Kd.R_drew)); exact Kd.R_mono HO236.out (fun _ hk => hk.1))) (fun k_ hk => by first | exact ⟨(.inr (hk.1)), hk.2⟩ | exact (.inr (hk))), Own.bl⟩
   rw [if_pos c3] at H; replace c3 := decide_eq_true c3
   replace H := Own.ifd H; obtain ⟨c4, H⟩ := H
   by_cases c5 : (Op.bytesLess ((rdOf ByteArray.empty l0 x5_1).toList) a1.toList) = true
   ·
    rw [if_pos c5] at H
    have c5b0 : (Op.bytesLess ((rdOf ByteArray.empty l0 x5_1).toList) a1.toList) = true := c5
    clear c5; have H' := Aside0.mk H; clear H
    have p185 : 0 ≤ (x5_1 : Int) := Own.dp
    have q185 : x5_1 < (l0.length : Int) := Own.dp
    obtain ⟨ad185, e185, hx185_0⟩ := Kd.at_string (Kd.V_reads' HO_0.out).2.2 x5_1 p185 q185; cases e185; replace p185 := eq_true p185; replace q185 := eq_true q185
    go_wp2
    go_roundg k1
    case measure => have := HK1.out; omega
    case rel => exact ⟨(wrap64 (x5_1 + 1)), Own.rs, H', ⟨by have := HK1.out; omega⟩, ⟨Own.vd HO_0.out⟩, ⟨Own.bl⟩⟩
   rw [if_neg c5] at H
   have c5b0 : (Op.bytesLess ((rdOf ByteArray.empty l0 x5_1).toList) a1.toList) = false := by simpa using c5
   clear c5
   by_cases c6 : (rdOf ByteArray.empty l0 x5_1).toList = a1.toList
   ·
    rw [if_pos c6] at H
    have c6b0 : ((rdOf ByteArray.empty l0 x5_1).toList == a1.toList) = true := beq_iff_eq.mpr c6
    have c6b1 : ((rdOf ByteArray.empty l0 x5_1).toList != a1.toList) = false := bne_eq_false_iff_eq.mpr c6
    clear c6; obtain rfl := Option.some.inj H
    have p185 : 0 ≤ (x5_1 : Int) := Own.dp
    have q185 : x5_1 < (l0.length : Int) := Own.dp
    obtain ⟨ad185, e185, hx185_0⟩ := Kd.at_string (Kd.V_reads' HO_0.out).2.2 x5_1 p185 q185; cases e185; replace p185 := eq_true p185; replace q185 := eq_true q185
    have p186 : 0 ≤ (x5_1 : Int) := Own.dp
    have q186 : x5_1 < (l0.length : Int) := Own.dp
    obtain ⟨ad186, e186, hx186_0⟩ := Kd.at_string (Kd.V_reads' HO_0.out).2.2 x5_1 p186 q186
    obtain rfl : ad185 = ad186 := (by injection e186)
    replace p186 := eq_true p186; replace q186 := eq_true q186
    go_wp2
    go_ret
    exact ⟨_, Own.rr, Own.vd HO_0.out, Own.bl⟩
   rw [if_neg c6] at H
   have c6b0 : ((rdOf ByteArray.empty l0 x5_1).toList == a1.toList) = false := beq_eq_false_iff_ne.mpr c6
   have c6b1 : ((rdOf ByteArray.empty l0 x5_1).toList != a1.toList) = true := bne_iff_ne.mpr c6
   obtain ⟨y187, hy187⟩ : ∃ y_ : List ByteArray, y_ = (([] : List ByteArray)) := ⟨_, rfl⟩
   replace H : (if x5_1 ≤ (l0.length : Int) then ((some (l0.take (x5_1 : Int).toNat : List ByteArray)).bind fun y190 => (if y187.length + y190.length < 8796093022208 then ((some (y187 ++ y190 : List ByteArray)).bind fun y195 => ((some (([a1] : List ByteArray) : List ByteArray)).bind fun y198 => (if y195.length + y198.length < 8796093022208 then ((some (y195 ++ y198 : List ByteArray)).bind fun y201 => ((some (l0.drop (x5_1 : Int).toNat : List ByteArray)).bind fun y204 => (if y201.length + y204.length < 8796093022208 then (some (y201 ++ y204)) else (none)))) else (none)))) else (none))) else (none)) = some r := by first | (rw [hy187]; with_reducible exact H) | (have H2_ := (Option.bind_some _ _).symm.trans H; rw [hy187]; with_reducible exact H2_) | (have H2_ := (Option.bind_some _ _).symm.trans H; with_reducible exact H2_) | with_reducible exact H | (rw [hy187]; exact H) | exact H
   have Ny187 := Aside0.mk hy187; clear hy187
   have c7b0 := eq_true (Own.dp : 0 ≤ x5_1)
   replace H := Own.ifn H; obtain ⟨c8, H⟩ := H; have c8b0 := eq_true c8
   have c8b1 : decide (x5_1 ≤ (l0.length : Int)) = true := decide_eq_true c8
   clear c8
   obtain ⟨y190, hy190⟩ : ∃ y_ : List ByteArray, y_ = (l0.take (x5_1 : Int).toNat) := ⟨_, rfl⟩
   replace H : (if y187.length + y190.length < 8796093022208 then ((some (y187 ++ y190 : List ByteArray)).bind fun y195 => ((some (([a1] : List ByteArray) : List ByteArray)).bind fun y198 => (if y195.length + y198.length < 8796093022208 then ((some (y195 ++ y198 : List ByteArray)).bind fun y201 => ((some (l0.drop (x5_1 : Int).toNat : List ByteArray)).bind fun y204 => (if y201.length + y204.length < 8796093022208 then (some (y201 ++ y204)) else (none)))) else (none)))) else (none)) = some r := by first | (rw [hy190]; with_reducible exact H) | (have H2_ := (Option.bind_some _ _).symm.trans H; rw [hy190]; with_reducible exact H2_) | (have H2_ := (Option.bind_some _ _).symm.trans H; with_reducible exact H2_) | with_reducible exact H | (rw [hy190]; exact H) | exact H
   have Ny190 := Aside0.mk hy190; clear hy190
   replace H := Own.ifn H; obtain ⟨c9, H⟩ := H; have LMc9 := Aside0.mk c9; clear c9
   obtain ⟨y195, hy195⟩ : ∃ y_ : List ByteArray, y_ = (y187 ++ y190) := ⟨_, rfl⟩
   replace H : ((some (([a1] : List ByteArray) : List ByteArray)).bind fun y198 => (if y195.length + y198.length < 8796093022208 then ((some (y195 ++ y198 : List ByteArray)).bind fun y201 => ((some (l0.drop (x5_1 : Int).toNat : List ByteArray)).bind fun y204 => (if y201.length + y204.length < 8796093022208 then (some (y201 ++ y204)) else (none)))) else (none))) = some r := by first | (rw [hy195]; with_reducible exact H) | (have H2_ := (Option.bind_some _ _).symm.trans H; rw [hy195]; with_reducible exact H2_) | (have H2_ := (Option.bind_some _ _).symm.trans H; with_reducible exact H2_) | with_reducible exact H | (rw [hy195]; exact H) | exact H
   have Ny195 := Aside0.mk hy195; clear hy195
   obtain ⟨y198, hy198⟩ : ∃ y_ : List ByteArray, y_ = (([a1] : List ByteArray)) := ⟨_, rfl⟩
   replace H : (if y195.length + y198.length < 8796093022208 then ((some (y195 ++ y198 : List ByteArray)).bind fun y201 => ((some (l0.drop (x5_1 : Int).toNat : List ByteArray)).bind fun y204 => (if y201.length + y204.length < 8796093022208 then (some (y201 ++ y204)) else (none)))) else (none)) = some r := by first | (rw [hy198]; with_reducible exact H) | (have H2_ := (Option.bind_some _ _).symm.trans H; rw [hy198]; with_reducible exact H2_) | (have H2_ := (Option.bind_some _ _).symm.trans H; with_reducible exact H2_) | with_reducible exact H | (rw [hy198]; exact H) | exact H
   have Ny198 := Aside0.mk hy198; clear hy198
   replace H := Own.ifn H; obtain ⟨c10, H⟩ := H; have LMc10 := Aside0.mk c10; clear c10
   obtain ⟨y201, hy201⟩ : ∃ y_ : List ByteArray, y_ = (y195 ++ y198) := ⟨_, rfl⟩
   replace H : ((some (l0.drop (x5_1 : Int).toNat : List ByteArray)).bind fun y204 => (if y201.length + y204.length < 8796093022208 then (some (y201 ++ y204)) else (none))) = some r := by first | (rw [hy201]; with_reducible exact H) | (have H2_ := (Option.bind_some _ _).symm.trans H; rw [hy201]; with_reducible exact H2_) | (have H2_ := (Option.bind_some _ _).symm.trans H; with_reducible exact H2_) | with_reducible exact H | (rw [hy201]; exact H) | exact H
   have Ny201 := Aside0.mk hy201; clear hy201
   have c11b0 := eq_true (Own.dp : 0 ≤ x5_1)
   have c12b0 := eq_true (Own.dp : x5_1 ≤ (l0.length : Int))
   obtain ⟨y204, hy204⟩ : ∃ y_ : List ByteArray, y_ = (l0.drop (x5_1 : Int).toNat) := ⟨_, rfl⟩
   replace H : (if y201.length + y204.length < 8796093022208 then (some (y201 ++ y204)) else (none)) = some r := by first | (rw [hy204]; with_reducible exact H) | (have H2_ := (Option.bind_some _ _).symm.trans H; rw [hy204]; with_reducible exact H2_) | (have H2_ := (Option.bind_some _ _).symm.trans H; with_reducible exact H2_) | with_reducible exact H | (rw [hy204]; exact H) | exact H
   have Ny204 := Aside0.mk hy204; clear hy204
   replace H := Own.ifn H; obtain ⟨c13, H⟩ := H; have LMc13 := Aside0.mk c13; clear c13
   obtain ⟨y209, hy209⟩ : ∃ y_ : List ByteArray, y_ = (y201 ++ y204) := ⟨_, rfl⟩
   replace H : (some y209) = some r := by first | (rw [hy209]; with_reducible exact H) | (have H2_ := (Option.bind_some _ _).symm.trans H; rw [hy209]; with_reducible exact H2_) | (have H2_ := (Option.bind_some _ _).symm.trans H; with_reducible exact H2_) | with_reducible exact H | (rw [hy209]; exact H) | exact H
   have Ny209 := Aside0.mk hy209; clear hy209; obtain rfl := Option.some.inj H
   have p185 : 0 ≤ (x5_1 : Int) := Own.dp
   have q185 : x5_1 < (l0.length : Int) := Own.dp
   obtain ⟨ad185, e185, hx185_0⟩ := Kd.at_string (Kd.V_reads' HO_0.out).2.2 x5_1 p185 q185; cases e185; replace p185 := eq_true p185; replace q185 := eq_true q185
   have p186 : 0 ≤ (x5_1 : Int) := Own.dp
   have q186 : x5_1 < (l0.length : Int) := Own.dp
   obtain ⟨ad186, e186, hx186_0⟩ := Kd.at_string (Kd.V_reads' HO_0.out).2.2 x5_1 p186 q186
   obtain rfl : ad185 = ad186 := (by injection e186)
   replace p186 := eq_true p186; replace q186 := eq_true q186
   try go_wp2
   have n0_ := Aside0.mk (Kd.V_drew HO_0.out)
   have n1_ := Aside0.mk (below_drew1 HB.out)
   clear HO_0; clear HB; have HO_0 := n0_; have HB := n1_; clear n0_ n1_
   have q15 : (x5_1 : Int) ≤ ((l0.length : Int) : Int) := Own.dp
   obtain ⟨i015, hi015, _, hsz15, _⟩ := info_parts info9
   have hroom15 : l0.length ≤ c0 := (Kd.V_reads' HO_0.out).2.1
   have hC15 : Kd.F Kd.string _ _ (some ad185) l0.length l0 := (Kd.V_at (base := w.heap.size) HO_0.out).2.2
   have hcut15 := cut_to (P := Tryz.prog) 22 9 .i64 Tryz.underlying22 hi015 (some ad185) l0.length c0 x5_1 (Own.dp) q15 hroom15
   have hr15 := Kd.F_take (m := (x5_1 : Int).toNat) hC15 (by omega)
   have hy15 : y190.length = (x5_1 : Int).toNat := (by rw [Ny190.out, List.length_take]; omega)
   rw [← Ny190.out] at hr15; rw [← hy15] at hcut15
   have HO194 := Aside0.mk (show Kd.V Kd.string 9 _ w.heap.size _ (.slice (some ad185) y190.length c0) y190 from Kd.V_mk (by omega) hr15)
   have HC194 := Aside0.mk (show y190.length ≤ c0 from by omega)
   clear hr15 hC15 hroom15 hi015 hsz15; have KY15 := Aside0.mk hy15; clear hy15; replace q15 := eq_true q15
   have q16 : (x5_1 : Int) ≤ ((l0.length : Int) : Int) := Own.dp
   obtain ⟨i016, hi016, _, hsz16, _⟩ := info_parts info9
   have hroom16 : l0.length ≤ c0 := (Kd.V_reads' HO_0.out).2.1
   have hC16 : Kd.F Kd.string _ _ (some ad185) l0.length l0 := (Kd.V_at (base := w.heap.size) HO_0.out).2.2
   have q016 : (0 : Int) ≤ (x5_1 : Int) := Own.dp
   have hcut16 := cut_from (P := Tryz.prog) 22 9 .i64 Tryz.underlying22 hi016 1 hsz16 (some ad185) l0.length c0 x5_1 q016 q16
   have hr16 := Kd.F_cut (m := (x5_1 : Int).toNat) (c := c0) hC16 (by omega) hroom16
   obtain ⟨A16, hA16⟩ : ∃ A1, A1 = (if c0 = (x5_1 : Int).toNat then (some ad185) else ((some ad185) : Option Addr).map (·.add ((x5_1 : Int).toNat * 1))) := ⟨_, rfl⟩
   obtain ⟨c16, hc16⟩ : ∃ c1, c1 = c0 - (x5_1 : Int).toNat := ⟨_, rfl⟩
   have hy16 : y204.length = l0.length - (x5_1 : Int).toNat := (by rw [Ny204.out, List.length_drop] <;> omega)
   rw [show (l0).drop (x5_1 : Int).toNat = y204 from Ny204.out.symm] at hr16
   replace hr16 : Kd.F Kd.string _ _ A16 y204.length y204 := (by rw [hA16]; exact hr16)
   rw [← hy16, ← hA16, ← hc16] at hcut16
   have HO208 := Aside0.mk (show Kd.V Kd.string 9 _ w.heap.size _ (.slice A16 y204.length c16) y204 from Kd.V_mk (by rw [hy16, hc16]; exact Nat.sub_le_sub_right hroom16 _) hr16)
   have HC208 := Aside0.mk (show y204.length ≤ c16 from by rw [hy16, hc16]; exact Nat.sub_le_sub_right hroom16 _)
   clear hr16 hC16 hroom16 hi016 hsz16 hc16; have KY16 := Aside0.mk hy16; have KA16 := Aside0.mk hA16; clear hy16 hA16; replace q16 := eq_true q16
   refine start_ (n := 13) (S := fun w' => True) (ds := []) (Own.fl 13 0) (by kernel_rfl) rfl rfl trivial (fun hHeld => ?_); refine with_tabW spec_l5Put.tab6 spec_l5Put.bits6 (fun HT_ HW_ => ?_)
   generalize wr.drew = w14 at HO_0 HB HO194 HO208 hHeld ⊢
   refine pure_ (i := 1) (N := some 34) (v := ?_) (a' := ?_) (Own.fl 13 2) rfl rfl (any_of HT_.out (by kernel_rfl)) (fun _ _ _ h => h) (Or.inl ⟨by rfl, ?_⟩) ?_ ?_; rotate_left; intro w'; go_simp; with_reducible rfl; rotate_left; simp only [Own.ps]; rfl
   refine pure_ (i := 2) (N := some 35) (v := ?_) (a' := ?_) (Own.fl 13 6) rfl rfl (any_of HT_.out (by kernel_rfl)) (fun _ _ _ h => h) (Or.inl ⟨by rfl, ?_⟩) ?_ ?_; rotate_left; intro w'; go_simp; with_reducible rfl; rotate_left; simp only [Own.ps]; rfl
   refine pure_ (i := 3) (N := some 36) (v := ?_) (a' := ?_) (Own.fl 13 14) rfl rfl (any_of HT_.out (by kernel_rfl)) (fun _ _ _ h => h) (Or.inl ⟨by rfl, ?_⟩) ?_ ?_; rotate_left; intro w'; go_simp; with_reducible rfl; rotate_left; simp only [Own.ps]; rfl
   refine pure_ (i := 5) (N := some 38) (v := ?_) (a' := ?_) (Own.fl 13 46) rfl rfl (any_of HT_.out (by kernel_rfl)) (fun _ _ _ h => h) (Or.inl ⟨by rfl, ?_⟩) ?_ ?_; rotate_left; intro w'; go_simp; with_reducible rfl; rotate_left; simp only [Own.ps]; rfl
   refine pure_ (i := 8) (N := some 41) (v := ?_) (a' := ?_) (Own.fl 13 302) rfl rfl (any_of HT_.out (by kernel_rfl)) (fun _ _ _ h => h) (Or.inl ⟨by rfl, ?_⟩) ?_ ?_; rotate_left; intro w'; go_simp; with_reducible rfl; rotate_left; simp only [Own.ps]; rfl
   refine pure_ (i := 9) (N := some 42) (v := ?_) (a' := ?_) (Own.fl 13 814) rfl rfl (any_of HT_.out (by kernel_rfl)) (fun _ _ _ h => h) (Or.inl ⟨by rfl, ?_⟩) ?_ ?_; rotate_left; intro w'; go_simp; with_reducible rfl; rotate_left; simp only [Own.ps]; rfl
   refine pure_ (i := 10) (N := some 43) (v := ?_) (a' := ?_) (Own.fl 13 1838) rfl rfl (any_of HT_.out (by kernel_rfl)) (fun _ _ _ h => h) (Or.inl ⟨by rfl, ?_⟩) ?_ ?_; rotate_left; intro w'; go_simp; with_reducible rfl; rotate_left; simp only [Own.ps]; rfl
   refine join_ (σ := Value × Value × Value) 3 (Own.fl 13 1919) (fun s_ => [(33, s_.1), (37, s_.2.1), (39, s_.2.2)]) (fun s_ w' => (Kd.V Kd.string 9 w' w.heap.size (fun k_ => (P0_ k_ ∨ w.heap.size ≤ k_) ∧ some k_ ≠ (s_.2.1 : Value).ownBlock ∧ some k_ ≠ (s_.2.2 : Value).ownBlock) (.slice (some ad185) y190.length c0) y190) ∧ (Kd.R Kd.string 9 w' w.heap.size (fun k_ => (w.heap.size ≤ k_) ∧ some k_ ≠ (s_.2.2 : Value).ownBlock) s_.2.1 y195) ∧ (Kd.R Kd.string 9 w' w.heap.size (fun k_ => (w.heap.size ≤ k_) ∧ some k_ ≠ (s_.2.1 : Value).ownBlock) s_.2.2 y198) ∧ (Kd.V Kd.string 9 w' w.heap.size (fun k_ => (P0_ k_ ∨ w.heap.size ≤ k_) ∧ some k_ ≠ (s_.2.1 : Value).ownBlock ∧ some k_ ≠ (s_.2.2 : Value).ownBlock) (.slice A16 y204.length c16) y204) ∧ (Kd.V Kd.string 9 w' w.heap.size (fun k_ => (P0_ k_ ∨ w.heap.size ≤ k_) ∧ some k_ ≠ (s_.2.1 : Value).ownBlock ∧ some k_ ≠ (s_.2.2 : Value).ownBlock) (.slice (some ad185) l0.length c0) l0) ∧ (Below w.heap.size w w')) ?_ ?_
   rotate_left
   ·
    intro hCont
    refine two_ (i := 0) (j := 6) (Ni := some 33) (Nj := some 39) (Own.fl 13 1839) (Own.fl 13 1902) rfl rfl rfl rfl (two_of HT_.out (by kernel_rfl)) (by decide) (by decide) (fun K hK => ?_) (fun K hK => ?_)
    ·
     skip
     refine Kd.R_lit_step Kd.string _ 9 ?hg (N := 33) ?hd (xs := ([] : List ByteArray)) (inner := []) (ok := fun _ => True) (okp := fun _ => True) ?hr ?hp (fun _ hk => hk) trivial (Below.refl _ _) (Nat.le_refl _) (by simp) ?_; (case hd => rfl); (case hg => rfl); (case hr => first | (go_simp; done) | (go_simp; rfl)); (case hp => exact (Reps.none _ _))
     intro v188 w17 ho18 hb hg_ hnew_; clear hg_ hnew_
     (first | rw [← Ny187.out] at ho18 | (simp only [Int.reduceToNat] at ho18; rw [← Ny187.out] at ho18))
     have n0_ := Aside0.mk (Kd.V_elder' (Own.vd HO_0.out) (Kd.R_base ho18) hb)
     have n1_ := Aside0.mk (Kd.V_elder' (Own.vd HO194.out) (Kd.R_base ho18) hb)
     have n2_ := Aside0.mk (Kd.V_elder' (Own.vd HO208.out) (Kd.R_base ho18) hb)
     have n3_ := Aside0.mk (Kd.R_lower (Kd.R_newM (M := fun k_ => (w.heap.size ≤ k_)) ho18 (below_size Own.bl) (fun k_ h_ => h_)) (below_size Own.bl))
     have n4_ := Own.bs hb; clear HO_0; clear HO194; clear HO208; clear HB; have HO_0 := n0_; have HO194 := n1_; have HO208 := n2_; have HO189 := n3_; have HB := n4_; clear n0_ n1_ n2_ n3_ n4_; clear hb ho18
     refine hK.out _ _ trivial (fun hHeld => ?_)
     clear hK K; refine norm_ (a' := ?_) ?_ ?_; rotate_left; show Act.put _ (some 33) _ = _; simp only [Own.ps]; rfl
     refine two_ (i := 4) (j := 6) (Ni := some 37) (Nj := some 39) (Own.fl 13 1855) (Own.fl 13 1903) rfl rfl rfl rfl (two_of HT_.out (by kernel_rfl)) (by decide) (by decide) (fun K hK => ?_) (fun K hK => ?_)
     ·
      skip
      refine Kd.R_append_rows_step Kd.string (w0 := w) w.heap.size (by rfl) (.tmp 33) (.tmp 36) 22 9 (.string ⟨#[]⟩) 16 rfl Tryz.underlying22 info9 rfl (by decide) (by omega) v188 y187 y190 _ _ _ (fun k_ => (w.heap.size ≤ k_)) (fun _ => False) rfl rfl ?aO ?aR (fun _ _ h => h) (fun _ h => h.elim) ?aF ?aB ?aS ?aL ?_
      (case aR => repeat (first | exact (Kd.V_reads' HO194.out).2.2 | (with_reducible refine Kd.C_alloc ?_ _) | (with_reducible refine Kd.C_drewN ?_ _) | (with_reducible refine Kd.C_drew ?_)))
      (case aB => exact Own.bl)
      (case aF => exact (fun k_ hk => (Nat.le_trans (below_size Own.bl) hk)))
      (case aO => exact (by (with_reducible repeat (first | apply Kd.R_alloc | apply Kd.R_drewN | apply Kd.R_drew)); exact Kd.R_mono HO189.out (fun _ hk => hk.1)))
      (case aS => exact (below_size Own.bl))
      (case aL => have := LMc9.out; omega)
      intro v196 w19 ho hb hg hat; rw [← Ny195.out] at ho
      have n0_ := Aside0.mk (Kd.V_afterv (ok := (fun k_ => (P0_ k_ ∨ w.heap.size ≤ k_))) (Own.vd HO_0.out) hg hat)
      have n1_ := Aside0.mk (Kd.V_afterv (ok := (fun k_ => (P0_ k_ ∨ w.heap.size ≤ k_))) (Own.vd HO194.out) hg hat)
      have n2_ := Aside0.mk (Kd.V_afterv (ok := (fun k_ => (P0_ k_ ∨ w.heap.size ≤ k_))) (Own.vd HO208.out) hg hat)
      have n3_ := Aside0.mk (hb)
      have n4_ := Aside0.mk (ho)
      clear HO_0; clear HO194; clear HO208; clear HB; clear HO189; have HO_0 := n0_; have HO194 := n1_; have HO208 := n2_; have HB := n3_; have HO197 := n4_; clear n0_ n1_ n2_ n3_ n4_; clear ho hb hg hat
      refine hK.out _ _ trivial (fun hHeld => ?_)
      clear hK K; refine norm_ (a' := ?_) ?_ ?_; rotate_left; show Act.put _ (some 37) _ = _; simp only [Own.ps]; rfl
      refine one_ (i := 6) (N := some 39) (Own.fl 13 1919) rfl rfl (one_of HT_.out (by kernel_rfl)) (by decide) (fun K hK => ?_)
      refine Kd.R_lit_step Kd.string _ 9 ?hg (N := 39) ?hd (xs := ([a1] : List ByteArray)) (inner := [.string a1]) (ok := fun _ => True) (okp := fun _ => True) ?hr ?hp (fun _ hk => hk) trivial (Below.refl _ _) (Nat.le_refl _) (by simp) ?_; (case hd => rfl); (case hg => rfl); (case hr => first | (go_simp; done) | (go_simp; rfl)); (case hp => exact (Reps.one (show Kd.M Kd.string _ _ _ a1 [.string a1] from rfl) (Reps.none _ _)))
      intro v199 w20 ho21 hb hg_ hnew_; clear hg_ hnew_
      (first | rw [← Ny198.out] at ho21 | (simp only [Int.reduceToNat] at ho21; rw [← Ny198.out] at ho21))
      have n0_ := Aside0.mk (Kd.V_elder' (Own.vd HO_0.out) (Kd.R_base ho21) hb)
      have n1_ := Aside0.mk (Kd.V_elder' (Own.vd HO194.out) (Kd.R_base ho21) hb)
      have n2_ := Aside0.mk (Kd.V_elder' (Own.vd HO208.out) (Kd.R_base ho21) hb)
      have n3_ := Aside0.mk (Kd.R_elder' (Own.rd HO197.out) (Kd.R_base ho21) hb)
      have n4_ := Aside0.mk (Kd.R_lower (Kd.R_new' (Kd.R_newM (M := fun k_ => (w.heap.size ≤ k_)) ho21 (below_size Own.bl) (fun k_ h_ => h_)) (Kd.R_lt (Own.rd HO197.out))) (below_size Own.bl))
      have n5_ := Own.bs hb; clear HO_0; clear HO194; clear HO208; clear HO197; clear HB; have HO_0 := n0_; have HO194 := n1_; have HO208 := n2_; have HO197 := n3_; have HO200 := n4_; have HB := n5_; clear n0_ n1_ n2_ n3_ n4_ n5_; clear hb ho21
      refine hK.out _ _ trivial (fun hHeld => ?_)
      clear hK K; refine norm_ (a' := ?_) ?_ ?_; rotate_left; show Act.put _ (some 39) _ = _; simp only [Own.ps]; rfl
      exact norm_ (by simp only [putAll, Act.put, List.setIfInBounds_toArray, List.set_cons_zero, List.set_cons_succ]) (hCont (v188, v196, v199) _ ⟨(by (with_reducible repeat (first | apply Kd.V_alloc | apply Kd.V_drewN | apply Kd.V_drew)); exact Kd.V_mono HO194.out (fun _ hk => ⟨hk.1.1, ⟨hk.1.2, hk.2⟩⟩)), (Own.rd HO197.out), (by (with_reducible repeat (first | apply Kd.R_alloc | apply Kd.R_drewN | apply Kd.R_drew)); exact Kd.R_mono HO200.out (fun _ hk => ⟨hk.1.1, hk.2⟩)), (by (with_reducible repeat (first | apply Kd.V_alloc | apply Kd.V_drewN | apply Kd.V_drew)); exact Kd.V_mono HO208.out (fun _ hk => ⟨hk.1.1, ⟨hk.1.2, hk.2⟩⟩)), (by (with_reducible repeat (first | apply Kd.V_alloc | apply Kd.V_drewN | apply Kd.V_drew)); exact Kd.V_mono HO_0.out (fun _ hk => ⟨hk.1.1, ⟨hk.1.2, hk.2⟩⟩)), Own.bl⟩)
     ·
      skip
      refine Kd.R_lit_step Kd.string _ 9 ?hg (N := 39) ?hd (xs := ([a1] : List ByteArray)) (inner := [.string a1]) (ok := fun _ => True) (okp := fun _ => True) ?hr ?hp (fun _ hk => hk) trivial (Below.refl _ _) (Nat.le_refl _) (by simp) ?_; (case hd => rfl); (case hg => rfl); (case hr => first | (go_simp; done) | (go_simp; rfl)); (case hp => exact (Reps.one (show Kd.M Kd.string _ _ _ a1 [.string a1] from rfl) (Reps.none _ _)))
      intro v199 w19 ho20 hb hg_ hnew_; clear hg_ hnew_
      (first | rw [← Ny198.out] at ho20 | (simp only [Int.reduceToNat] at ho20; rw [← Ny198.out] at ho20))
      have n0_ := Aside0.mk (Kd.V_elder' (Own.vd HO_0.out) (Kd.R_base ho20) hb)
      have n1_ := Aside0.mk (Kd.V_elder' (Own.vd HO194.out) (Kd.R_base ho20) hb)
      have n2_ := Aside0.mk (Kd.V_elder' (Own.vd HO208.out) (Kd.R_base ho20) hb)
      have n3_ := Aside0.mk (Kd.R_elder' (Own.rd HO189.out) (Kd.R_base ho20) hb)
      have n4_ := Aside0.mk (Kd.R_lower (Kd.R_new' (Kd.R_newM (M := fun k_ => (w.heap.size ≤ k_)) ho20 (below_size Own.bl) (fun k_ h_ => h_)) (Kd.R_lt (Own.rd HO189.out))) (below_size Own.bl))
      have n5_ := Own.bs hb; clear HO_0; clear HO194; clear HO208; clear HO189; clear HB; have HO_0 := n0_; have HO194 := n1_; have HO208 := n2_; have HO189 := n3_; have HO200 := n4_; have HB := n5_; clear n0_ n1_ n2_ n3_ n4_ n5_; clear hb ho20
      refine hK.out _ _ trivial (fun hHeld => ?_)
      clear hK K; refine norm_ (a' := ?_) ?_ ?_; rotate_left; show Act.put _ (some 39) _ = _; simp only [Own.ps]; rfl
      refine one_ (i := 4) (N := some 37) (Own.fl 13 1919) rfl rfl (one_of HT_.out (by kernel_rfl)) (by decide) (fun K hK => ?_)
      refine Kd.R_append_rows_step Kd.string (w0 := w) w.heap.size (by rfl) (.tmp 33) (.tmp 36) 22 9 (.string ⟨#[]⟩) 16 rfl Tryz.underlying22 info9 rfl (by decide) (by omega) v188 y187 y190 _ _ _ (fun k_ => (w.heap.size ≤ k_) ∧ some k_ ≠ (v199 : Value).ownBlock) (fun _ => False) rfl rfl ?aO ?aR (fun _ _ h => h) (fun _ h => h.elim) ?aF ?aB ?aS ?aL ?_
      (case aR => repeat (first | exact (Kd.V_reads' HO194.out).2.2 | (with_reducible refine Kd.C_alloc ?_ _) | (with_reducible refine Kd.C_drewN ?_ _) | (with_reducible refine Kd.C_drew ?_)))
      (case aB => exact Own.bl)
      (case aF => exact (fun k_ hk => ⟨(Nat.le_trans (below_size Own.bl) hk), Kd.fresh' (Kd.R_lt (Own.rd HO200.out)) k_ hk⟩))
      (case aO => exact (by (with_reducible repeat (first | apply Kd.R_alloc | apply Kd.R_drewN | apply Kd.R_drew)); exact Kd.R_mono HO189.out (fun _ hk => ⟨hk.1.1, hk.2⟩)))
      (case aS => exact (below_size Own.bl))
      (case aL => have := LMc9.out; omega)
      intro v196 w21 ho hb hg hat; rw [← Ny195.out] at ho
      have n0_ := Aside0.mk (Kd.V_afterv (ok := (fun k_ => (P0_ k_ ∨ w.heap.size ≤ k_) ∧ some k_ ≠ (v199 : Value).ownBlock)) (by (with_reducible repeat (first | apply Kd.V_alloc | apply Kd.V_drewN | apply Kd.V_drew)); exact Kd.V_mono HO_0.out (fun _ hk => ⟨⟨hk.1.1, hk.2⟩, hk.1.2⟩)) hg hat)
      have n1_ := Aside0.mk (Kd.V_afterv (ok := (fun k_ => (P0_ k_ ∨ w.heap.size ≤ k_) ∧ some k_ ≠ (v199 : Value).ownBlock)) (by (with_reducible repeat (first | apply Kd.V_alloc | apply Kd.V_drewN | apply Kd.V_drew)); exact Kd.V_mono HO194.out (fun _ hk => ⟨⟨hk.1.1, hk.2⟩, hk.1.2⟩)) hg hat)
      have n2_ := Aside0.mk (Kd.V_afterv (ok := (fun k_ => (P0_ k_ ∨ w.heap.size ≤ k_) ∧ some k_ ≠ (v199 : Value).ownBlock)) (by (with_reducible repeat (first | apply Kd.V_alloc | apply Kd.V_drewN | apply Kd.V_drew)); exact Kd.V_mono HO208.out (fun _ hk => ⟨⟨hk.1.1, hk.2⟩, hk.1.2⟩)) hg hat)
      have n3_ := Aside0.mk (Kd.R_after (ok := (fun k_ => (w.heap.size ≤ k_))) (by (with_reducible repeat (first | apply Kd.R_alloc | apply Kd.R_drewN | apply Kd.R_drew)); exact Kd.R_mono HO200.out (fun _ hk => ⟨hk.1.1, hk.2⟩)) hg hat)
      have n4_ := Aside0.mk (hb)
      have n5_ := Aside0.mk (ho)
      clear HO_0; clear HO194; clear HO208; clear HO200; clear HB; clear HO189; have HO_0 := n0_; have HO194 := n1_; have HO208 := n2_; have HO200 := n3_; have HB := n4_; have HO197 := n5_; clear n0_ n1_ n2_ n3_ n4_ n5_; clear ho hb hg hat
      refine hK.out _ _ trivial (fun hHeld => ?_)
      clear hK K; refine norm_ (a' := ?_) ?_ ?_; rotate_left; show Act.put _ (some 37) _ = _; simp only [Own.ps]; rfl
      exact norm_ (by simp only [putAll, Act.put, List.setIfInBounds_toArray, List.set_cons_zero, List.set_cons_succ]) (hCont (v188, v196, v199) _ ⟨(by (with_reducible repeat (first | apply Kd.V_alloc | apply Kd.V_drewN | apply Kd.V_drew)); exact Kd.V_mono HO194.out (fun _ hk => ⟨hk.1.1, ⟨hk.2, hk.1.2⟩⟩)), (Own.rd HO197.out), (Own.rd HO200.out), (by (with_reducible repeat (first | apply Kd.V_alloc | apply Kd.V_drewN | apply Kd.V_drew)); exact Kd.V_mono HO208.out (fun _ hk => ⟨hk.1.1, ⟨hk.2, hk.1.2⟩⟩)), (by (with_reducible repeat (first | apply Kd.V_alloc | apply Kd.V_drewN | apply Kd.V_drew)); exact Kd.V_mono HO_0.out (fun _ hk => ⟨hk.1.1, ⟨hk.2, hk.1.2⟩⟩)), Own.bl⟩)
    ·
     skip
     refine Kd.R_lit_step Kd.string _ 9 ?hg (N := 39) ?hd (xs := ([a1] : List ByteArray)) (inner := [.string a1]) (ok := fun _ => True) (okp := fun _ => True) ?hr ?hp (fun _ hk => hk) trivial (Below.refl _ _) (Nat.le_refl _) (by simp) ?_; (case hd => rfl); (case hg => rfl); (case hr => first | (go_simp; done) | (go_simp; rfl)); (case hp => exact (Reps.one (show Kd.M Kd.string _ _ _ a1 [.string a1] from rfl) (Reps.none _ _)))
     intro v199 w17 ho18 hb hg_ hnew_; clear hg_ hnew_
     (first | rw [← Ny198.out] at ho18 | (simp only [Int.reduceToNat] at ho18; rw [← Ny198.out] at ho18))
     have n0_ := Aside0.mk (Kd.V_elder' (Own.vd HO_0.out) (Kd.R_base ho18) hb)
     have n1_ := Aside0.mk (Kd.V_elder' (Own.vd HO194.out) (Kd.R_base ho18) hb)
     have n2_ := Aside0.mk (Kd.V_elder' (Own.vd HO208.out) (Kd.R_base ho18) hb)
     have n3_ := Aside0.mk (Kd.R_lower (Kd.R_newM (M := fun k_ => (w.heap.size ≤ k_)) ho18 (below_size Own.bl) (fun k_ h_ => h_)) (below_size Own.bl))
     have n4_ := Own.bs hb; clear HO_0; clear HO194; clear HO208; clear HB; have HO_0 := n0_; have HO194 := n1_; have HO208 := n2_; have HO200 := n3_; have HB := n4_; clear n0_ n1_ n2_ n3_ n4_; clear hb ho18
     refine hK.out _ _ trivial (fun hHeld => ?_)
     clear hK K; refine norm_ (a' := ?_) ?_ ?_; rotate_left; show Act.put _ (some 39) _ = _; simp only [Own.ps]; rfl
     refine one_ (i := 0) (N := some 33) (Own.fl 13 1903) rfl rfl (one_of HT_.out (by kernel_rfl)) (by decide) (fun K hK => ?_)
     refine Kd.R_lit_step Kd.string _ 9 ?hg (N := 33) ?hd (xs := ([] : List ByteArray)) (inner := []) (ok := fun _ => True) (okp := fun _ => True) ?hr ?hp (fun _ hk => hk) trivial (Below.refl _ _) (Nat.le_refl _) (by simp) ?_; (case hd => rfl); (case hg => rfl); (case hr => first | (go_simp; done) | (go_simp; rfl)); (case hp => exact (Reps.none _ _))
     intro v188 w19 ho20 hb hg_ hnew_; clear hg_ hnew_
     (first | rw [← Ny187.out] at ho20 | (simp only [Int.reduceToNat] at ho20; rw [← Ny187.out] at ho20))
     have n0_ := Aside0.mk (Kd.V_elder' (Own.vd HO_0.out) (Kd.R_base ho20) hb)
     have n1_ := Aside0.mk (Kd.V_elder' (Own.vd HO194.out) (Kd.R_base ho20) hb)
     have n2_ := Aside0.mk (Kd.V_elder' (Own.vd HO208.out) (Kd.R_base ho20) hb)
     have n3_ := Aside0.mk (Kd.R_elder' (Own.rd HO200.out) (Kd.R_base ho20) hb)
     have n4_ := Aside0.mk (Kd.R_lower (Kd.R_new' (Kd.R_newM (M := fun k_ => (w.heap.size ≤ k_)) ho20 (below_size Own.bl) (fun k_ h_ => h_)) (Kd.R_lt (Own.rd HO200.out))) (below_size Own.bl))
     have n5_ := Own.bs hb; clear HO_0; clear HO194; clear HO208; clear HO200; clear HB; have HO_0 := n0_; have HO194 := n1_; have HO208 := n2_; have HO200 := n3_; have HO189 := n4_; have HB := n5_; clear n0_ n1_ n2_ n3_ n4_ n5_; clear hb ho20
     refine hK.out _ _ trivial (fun hHeld => ?_)
     clear hK K; refine norm_ (a' := ?_) ?_ ?_; rotate_left; show Act.put _ (some 33) _ = _; simp only [Own.ps]; rfl
     refine one_ (i := 4) (N := some 37) (Own.fl 13 1919) rfl rfl (one_of HT_.out (by kernel_rfl)) (by decide) (fun K hK => ?_)
     refine Kd.R_append_rows_step Kd.string (w0 := w) w.heap.size (by rfl) (.tmp 33) (.tmp 36) 22 9 (.string ⟨#[]⟩) 16 rfl Tryz.underlying22 info9 rfl (by decide) (by omega) v188 y187 y190 _ _ _ (fun k_ => (w.heap.size ≤ k_) ∧ some k_ ≠ (v199 : Value).ownBlock) (fun _ => False) rfl rfl ?aO ?aR (fun _ _ h => h) (fun _ h => h.elim) ?aF ?aB ?aS ?aL ?_
     (case aR => repeat (first | exact (Kd.V_reads' HO194.out).2.2 | (with_reducible refine Kd.C_alloc ?_ _) | (with_reducible refine Kd.C_drewN ?_ _) | (with_reducible refine Kd.C_drew ?_)))
     (case aB => exact Own.bl)
     (case aF => exact (fun k_ hk => ⟨(Nat.le_trans (below_size Own.bl) hk), Kd.fresh' (Kd.R_lt (Own.rd HO200.out)) k_ hk⟩))
     (case aO => exact (by (with_reducible repeat (first | apply Kd.R_alloc | apply Kd.R_drewN | apply Kd.R_drew)); exact Kd.R_mono HO189.out (fun _ hk => ⟨hk.1.1, hk.2⟩)))
     (case aS => exact (below_size Own.bl))
     (case aL => have := LMc9.out; omega)
     intro v196 w21 ho hb hg hat; rw [← Ny195.out] at ho
     have n0_ := Aside0.mk (Kd.V_afterv (ok := (fun k_ => (P0_ k_ ∨ w.heap.size ≤ k_) ∧ some k_ ≠ (v199 : Value).ownBlock)) (Own.vd HO_0.out) hg hat)
     have n1_ := Aside0.mk (Kd.V_afterv (ok := (fun k_ => (P0_ k_ ∨ w.heap.size ≤ k_) ∧ some k_ ≠ (v199 : Value).ownBlock)) (Own.vd HO194.out) hg hat)
     have n2_ := Aside0.mk (Kd.V_afterv (ok := (fun k_ => (P0_ k_ ∨ w.heap.size ≤ k_) ∧ some k_ ≠ (v199 : Value).ownBlock)) (Own.vd HO208.out) hg hat)
     have n3_ := Aside0.mk (Kd.R_after (ok := (fun k_ => (w.heap.size ≤ k_))) (by (with_reducible repeat (first | apply Kd.R_alloc | apply Kd.R_drewN | apply Kd.R_drew)); exact Kd.R_mono HO200.out (fun _ hk => ⟨hk.1.1, hk.2⟩)) hg hat)
     have n4_ := Aside0.mk (hb)
     have n5_ := Aside0.mk (ho)
     clear HO_0; clear HO194; clear HO208; clear HO200; clear HB; clear HO189; have HO_0 := n0_; have HO194 := n1_; have HO208 := n2_; have HO200 := n3_; have HB := n4_; have HO197 := n5_; clear n0_ n1_ n2_ n3_ n4_ n5_; clear ho hb hg hat
     refine hK.out _ _ trivial (fun hHeld => ?_)
     clear hK K; refine norm_ (a' := ?_) ?_ ?_; rotate_left; show Act.put _ (some 37) _ = _; simp only [Own.ps]; rfl
     exact norm_ (by simp only [putAll, Act.put, List.setIfInBounds_toArray, List.set_cons_zero, List.set_cons_succ]) (hCont (v188, v196, v199) _ ⟨(by (with_reducible repeat (first | apply Kd.V_alloc | apply Kd.V_drewN | apply Kd.V_drew)); exact Kd.V_mono HO194.out (fun _ hk => ⟨hk.1.1, ⟨hk.2, hk.1.2⟩⟩)), (Own.rd HO197.out), (Own.rd HO200.out), (by (with_reducible repeat (first | apply Kd.V_alloc | apply Kd.V_drewN | apply Kd.V_drew)); exact Kd.V_mono HO208.out (fun _ hk => ⟨hk.1.1, ⟨hk.2, hk.1.2⟩⟩)), (by (with_reducible repeat (first | apply Kd.V_alloc | apply Kd.V_drewN | apply Kd.V_drew)); exact Kd.V_mono HO_0.out (fun _ hk => ⟨hk.1.1, ⟨hk.2, hk.1.2⟩⟩)), Own.bl⟩)
   rintro ⟨v188, v196, v199⟩ w22 ⟨h0_, h1_, h2_, h3_, h4_, h5_⟩
   have n0_ : Aside0 (Kd.V Kd.string 9 w22 w.heap.size (fun k_ => (P0_ k_ ∨ w.heap.size ≤ k_) ∧ some k_ ≠ (v196 : Value).ownBlock ∧ some k_ ≠ (v199 : Value).ownBlock) (.slice (some ad185) y190.length c0) y190) := ⟨h0_⟩
   have n1_ : Aside0 (Kd.R Kd.string 9 w22 w.heap.size (fun k_ => (w.heap.size ≤ k_) ∧ some k_ ≠ (v199 : Value).ownBlock) v196 y195) := ⟨h1_⟩
   have n2_ : Aside0 (Kd.R Kd.string 9 w22 w.heap.size (fun k_ => (w.heap.size ≤ k_) ∧ some k_ ≠ (v196 : Value).ownBlock) v199 y198) := ⟨h2_⟩
   have n3_ : Aside0 (Kd.V Kd.string 9 w22 w.heap.size (fun k_ => (P0_ k_ ∨ w.heap.size ≤ k_) ∧ some k_ ≠ (v196 : Value).ownBlock ∧ some k_ ≠ (v199 : Value).ownBlock) (.slice A16 y204.length c16) y204) := ⟨h3_⟩
   have n4_ : Aside0 (Kd.V Kd.string 9 w22 w.heap.size (fun k_ => (P0_ k_ ∨ w.heap.size ≤ k_) ∧ some k_ ≠ (v196 : Value).ownBlock ∧ some k_ ≠ (v199 : Value).ownBlock) (.slice (some ad185) l0.length c0) l0) := ⟨h4_⟩
   have n5_ : Aside0 (Below w.heap.size w w22) := ⟨h5_⟩
   clear HO_0; clear HB; clear h0_ h1_ h2_ h3_ h4_ h5_; have HO194 := n0_; have HO197 := n1_; have HO200 := n2_; have HO208 := n3_; have HO_0 := n4_; have HB := n5_; clear n0_ n1_ n2_ n3_ n4_ n5_; have hHeld := trivial; obtain ⟨Ao24, co24, eo24⟩ := Kd.R_slice HO200.out
   (first | subst eo24 | (injection eo24 with f1_ f2_ f3_; have f4_ := f1_.symm; have f5_ := f3_.symm; clear f1_ f2_ f3_; subst f4_; subst f5_))
   refine norm_ (a' := ?_) ?_ ?_
   rotate_left
   ·
    simp only [putAll, Act.put, List.setIfInBounds_toArray, List.set_cons_zero, List.set_cons_succ]
    rfl
   refine one_ (i := 7) (N := some 40) (Own.fl 13 2047) rfl rfl (one_of HT_.out (by kernel_rfl)) (by decide) (fun K hK => ?_)
   refine Kd.R_append_rows_step Kd.string (w0 := w) w.heap.size (by rfl) (.tmp 37) (.tmp 39) 22 9 (.string ⟨#[]⟩) 16 rfl Tryz.underlying22 info9 rfl (by decide) (by omega) v196 y195 y198 _ _ _ (fun k_ => (w.heap.size ≤ k_) ∧ some k_ ≠ (.slice Ao24 y198.length co24 : Value).ownBlock) (fun _ => False) rfl rfl ?aO ?aR (fun _ _ h => h) (fun _ h => h.elim) ?aF ?aB ?aS ?aL ?_
   (case aR => repeat (first | exact (Kd.R_reads' HO200.out).2.2 | (with_reducible refine Kd.C_alloc ?_ _) | (with_reducible refine Kd.C_drewN ?_ _) | (with_reducible refine Kd.C_drew ?_)))
   (case aB => exact Own.bl)
   (case aF => exact (fun k_ hk => ⟨(Nat.le_trans (below_size Own.bl) hk), Kd.fresh' (Kd.R_lt (Own.rd HO200.out)) k_ hk⟩))
   (case aO => exact (Own.rd HO197.out))
   (case aS => exact (below_size Own.bl))
   (case aL => have := LMc10.out; omega)
   intro v202 w23 ho hb hg hat; rw [← Ny201.out] at ho
   have n0_ := Aside0.mk (Kd.V_afterv (ok := (fun k_ => (P0_ k_ ∨ w.heap.size ≤ k_) ∧ some k_ ≠ (.slice Ao24 y198.length co24 : Value).ownBlock)) (by (with_reducible repeat (first | apply Kd.V_alloc | apply Kd.V_drewN | apply Kd.V_drew)); exact Kd.V_mono HO_0.out (fun _ hk => ⟨⟨hk.1, hk.2.2⟩, hk.2.1⟩)) hg hat)
   have n1_ := Aside0.mk (Kd.V_afterv (ok := (fun k_ => (P0_ k_ ∨ w.heap.size ≤ k_) ∧ some k_ ≠ (.slice Ao24 y198.length co24 : Value).ownBlock)) (by (with_reducible repeat (first | apply Kd.V_alloc | apply Kd.V_drewN | apply Kd.V_drew)); exact Kd.V_mono HO194.out (fun _ hk => ⟨⟨hk.1, hk.2.2⟩, hk.2.1⟩)) hg hat)
   have n2_ := Aside0.mk (Kd.V_afterv (ok := (fun k_ => (P0_ k_ ∨ w.heap.size ≤ k_) ∧ some k_ ≠ (.slice Ao24 y198.length co24 : Value).ownBlock)) (by (with_reducible repeat (first | apply Kd.V_alloc | apply Kd.V_drewN | apply Kd.V_drew)); exact Kd.V_mono HO208.out (fun _ hk => ⟨⟨hk.1, hk.2.2⟩, hk.2.1⟩)) hg hat)
   have n3_ := Aside0.mk (Kd.R_after (ok := (fun k_ => (w.heap.size ≤ k_))) (Own.rd HO200.out) hg hat)
   have n4_ := Aside0.mk (hb)
   have n5_ := Aside0.mk (ho)
   clear HO_0; clear HO194; clear HO208; clear HO200; clear HB; clear HO197; have HO_0 := n0_; have HO194 := n1_; have HO208 := n2_; have HO200 := n3_; have HB := n4_; have HO203 := n5_; clear n0_ n1_ n2_ n3_ n4_ n5_; clear ho hb hg hat
   refine hK.out _ _ trivial (fun hHeld => ?_)
   clear hK K; refine norm_ (a' := ?_) ?_ ?_; rotate_left; show Act.put _ (some 40) _ = _; simp only [Own.ps]; rfl
   refine one_ (i := 11) (N := some 44) (Own.fl 13 4095) rfl rfl (one_of HT_.out (by kernel_rfl)) (by decide) (fun K hK => ?_)
   refine Kd.R_append_rows_step Kd.string (w0 := w) w.heap.size (by rfl) (.tmp 40) (.tmp 43) 22 9 (.string ⟨#[]⟩) 16 rfl Tryz.underlying22 info9 rfl (by decide) (by omega) v202 y201 y204 _ _ _ (fun k_ => (w.heap.size ≤ k_) ∧ some k_ ≠ (.slice Ao24 y198.length co24 : Value).ownBlock) (fun _ => False) rfl rfl ?aO ?aR (fun _ _ h => h) (fun _ h => h.elim) ?aF ?aB ?aS ?aL ?_
   (case aR => repeat (first | exact (Kd.V_reads' HO208.out).2.2 | (with_reducible refine Kd.C_alloc ?_ _) | (with_reducible refine Kd.C_drewN ?_ _) | (with_reducible refine Kd.C_drew ?_)))
   (case aB => exact Own.bl)
   (case aF => exact (fun k_ hk => ⟨(Nat.le_trans (below_size Own.bl) hk), Kd.fresh' (Kd.R_lt (Own.rd HO200.out)) k_ hk⟩))
   (case aO => exact (Own.rd HO203.out))
   (case aS => exact (below_size Own.bl))
   (case aL => have := LMc13.out; omega)
   intro v210 w25 ho hb hg hat; rw [← Ny209.out] at ho
   have n0_ := Aside0.mk (Kd.V_afterv (ok := (fun k_ => (P0_ k_ ∨ w.heap.size ≤ k_) ∧ some k_ ≠ (.slice Ao24 y198.length co24 : Value).ownBlock)) (Own.vd HO_0.out) hg hat)
   have n1_ := Aside0.mk (Kd.V_afterv (ok := (fun k_ => (P0_ k_ ∨ w.heap.size ≤ k_) ∧ some k_ ≠ (.slice Ao24 y198.length co24 : Value).ownBlock)) (Own.vd HO194.out) hg hat)
   have n2_ := Aside0.mk (Kd.V_afterv (ok := (fun k_ => (P0_ k_ ∨ w.heap.size ≤ k_) ∧ some k_ ≠ (.slice Ao24 y198.length co24 : Value).ownBlock)) (Own.vd HO208.out) hg hat)
   have n3_ := Aside0.mk (Kd.R_after (ok := (fun k_ => (w.heap.size ≤ k_))) (Own.rd HO200.out) hg hat)
   have n4_ := Aside0.mk (hb)
   have n5_ := Aside0.mk (ho)
   clear HO_0; clear HO194; clear HO208; clear HO200; clear HB; clear HO203; have HO_0 := n0_; have HO194 := n1_; have HO208 := n2_; have HO200 := n3_; have HB := n4_; have HO211 := n5_; clear n0_ n1_ n2_ n3_ n4_ n5_; clear ho hb hg hat
   refine hK.out _ _ trivial (fun hHeld => ?_)
   clear hK K; refine norm_ (a' := ?_) ?_ ?_; rotate_left; show Act.put _ (some 44) _ = _; simp only [Own.ps]; rfl
   refine pure_ (i := 12) (N := some 4) (v := ?_) (a' := ?_) (Own.fl 13 8191) rfl rfl (any_of HT_.out (by kernel_rfl)) (fun _ _ _ h => h) (Or.inl ⟨by rfl, ?_⟩) ?_ ?_; rotate_left; intro w'; go_simp; with_reducible rfl; rotate_left; simp only [Own.ps]; rfl
   refine done_ (done_of HT_.out (by kernel_rfl)) ?_
   try go_wp2
   go_ret
   exact ⟨_, Own.rr, Kd.V_mono (Kd.R_V (by (with_reducible repeat (first | apply Kd.R_alloc | apply Kd.R_drewN | apply Kd.R_drew)); exact Kd.R_mono HO211.out (fun _ hk => hk.1))) (fun k_ hk => by first | exact ⟨(.inr (hk.1)), hk.2⟩ | exact (.inr (hk))), Own.bl⟩
end Go.Proofs.YtghcjheaicmpbaaGreatDoor.QFnExactAddClause
