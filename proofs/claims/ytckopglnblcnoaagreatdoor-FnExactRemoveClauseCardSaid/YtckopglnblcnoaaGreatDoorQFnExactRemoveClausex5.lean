-- Written by a program of this session out of the translation; Lean checks it.
import Derived.Test.YtckopglnblcnoaaGreatDoorQFnExactRemoveClausex0
namespace Go.Proofs.YtckopglnblcnoaaGreatDoor.QFnExactRemoveClause
open Go.RowKit Go.Proofs.YtckopglnblcnoaaGreatDoorW.PrintWords Go.Proofs.YtckopglnblcnoaaGreatDoorW.PrintLast
attribute [local go_sem] Instr.field asAgg
set_option linter.unusedVariables false
set_option linter.unusedSimpArgs false
/-! ### spec_l5Put: function 51 -/
def spec_l5Put.l0 : Nat → List ByteArray → ByteArray → Int → Option (List ByteArray)
 | 0, _, _, _ => none
 | k + 1, x0, x1, x5 => if x5 < (x0.length : Int) then (if 0 ≤ x5 then (if (Op.bytesLess ((rdOf ByteArray.empty x0 x5).toList) x1.toList) = true then (spec_l5Put.l0 k x0 x1 (wrap64 (x5 + 1))) else (if (rdOf ByteArray.empty x0 x5).toList = x1.toList then (some x0) else ((some (([] : List ByteArray) : List ByteArray)).bind fun y154 => (if x5 ≤ (x0.length : Int) then ((some (x0.take (x5 : Int).toNat : List ByteArray)).bind fun y157 => (if y154.length + y157.length < 8796093022208 then ((some (y154 ++ y157 : List ByteArray)).bind fun y162 => ((some (([x1] : List ByteArray) : List ByteArray)).bind fun y165 => (if y162.length + y165.length < 8796093022208 then ((some (y162 ++ y165 : List ByteArray)).bind fun y168 => ((some (x0.drop (x5 : Int).toNat : List ByteArray)).bind fun y171 => (if y168.length + y171.length < 8796093022208 then (some (y168 ++ y171)) else (none)))) else (none)))) else (none))) else (none))))) else (none)) else ((some (([] : List ByteArray) : List ByteArray)).bind fun y179 => (if 0 ≤ x5 then (if x5 ≤ (x0.length : Int) then ((some (x0.take (x5 : Int).toNat : List ByteArray)).bind fun y182 => (if y179.length + y182.length < 8796093022208 then ((some (y179 ++ y182 : List ByteArray)).bind fun y187 => ((some (([x1] : List ByteArray) : List ByteArray)).bind fun y190 => (if y187.length + y190.length < 8796093022208 then ((some (y187 ++ y190 : List ByteArray)).bind fun y193 => ((some (x0.drop (x5 : Int).toNat : List ByteArray)).bind fun y196 => (if y193.length + y196.length < 8796093022208 then (some (y193 ++ y196)) else (none)))) else (none)))) else (none))) else (none)) else (none)))
def spec_l5Put.f (k : Nat) (l0 : List ByteArray) (a1 : ByteArray) : Option (List ByteArray) := spec_l5Put.l0 k l0 a1 0
def spec_l5Put.T6 : Bool × List (List Nat × List Nat) := (true, [([], []), ([], []), ([], []), ([1, 2], [1, 2]), ([0, 3], [0, 3]), ([], []), ([5], [5]), ([4, 6, 4], [4, 6]), ([], []), ([], []), ([8, 9], [8, 9]), ([7, 10, 7], [7, 10]), ([11, 11, 0, 1, 2, 3, 4, 5, 6, 7, 8, 9, 10, 11], [11])])
def spec_l5Put.B6 : List Nat := [0, 0, 0, 6, 15, 0, 32, 127, 0, 0, 768, 2047, 4095]
theorem spec_l5Put.tab6 : rtab .any (opsOf Tryz.f51 6) = spec_l5Put.T6 := by kernel_rfl
theorem spec_l5Put.bits6 : waitsOk spec_l5Put.T6.2 spec_l5Put.B6 = true := by kernel_rfl
set_option maxHeartbeats 8000000 in
set_option maxRecDepth 100000 in
theorem spec_l5Put.calls (k : Nat) (P0_ : Nat → Prop) (A0 : Option Addr) (c0 : Nat) (l0 : List ByteArray) (a1 : ByteArray) (r : List ByteArray) (w : World) (hs0 : Kd.V Kd.string 9 w w.heap.size (fun k_ => P0_ k_) (.slice A0 l0.length c0) l0) (h : spec_l5Put.f k l0 a1 = some r) :
  Calls Tryz.prog 51 #[.slice A0 l0.length c0, .string a1] w fun e w' => ∃ v0_ : Value, e = .returned (v0_) ∧ Kd.V Kd.string 9 w' w.heap.size (fun k_ => (P0_ k_ ∨ w.heap.size ≤ k_)) v0_ r ∧ Below w.heap.size w w' := by
 have HO0 := Aside0.mk (show Kd.V Kd.string 9 w w.heap.size (fun k_ => (P0_ k_ ∨ w.heap.size ≤ k_)) (.slice A0 l0.length c0) l0 from Kd.V_mono hs0 (fun k_ hk => .inl hk))
 have HB := Aside0.mk (Below.refl w.heap.size w)
 have H : (spec_l5Put.l0 k l0 a1 0) = some r := h
 clear h
 have H' := Aside0.mk H
 clear H
 go_enter Tryz.func51, Tryz.ntmps51
 go_wp2
 go_loopg [5] k (fun kq v5 w' => ∃ (x5_1 : Int), v5 = .int .i64 x5_1 ∧ Aside0 (spec_l5Put.l0 kq l0 a1 x5_1 = some r) ∧ Aside0 (kq ≤ k) ∧ Aside0 (Kd.V Kd.string 9 w' w.heap.size (fun k_ => (P0_ k_ ∨ w.heap.size ≤ k_)) (.slice A0 l0.length c0) l0) ∧ Aside0 (Below w.heap.size w w'))
 case atStart => exact ⟨(0), Own.rs, H', ⟨Nat.le_refl _⟩, ⟨Own.vd HO0.out⟩, ⟨Own.bl⟩⟩
 case round =>
  clear H'; try clear p2
  obtain ⟨x5_1, rfl, HA, HK1, HO_0, HB⟩ := hrel
  cases gk with
  | zero => exact absurd HA.out (by simp [spec_l5Put.l0])
  | succ k1 =>
   have H := HA.out; clear HA
   simp only [spec_l5Put.l0] at H
   by_cases c3 : x5_1 < (l0.length : Int)
   rotate_left
   ·
    rw [if_neg c3] at H; replace c3 := decide_eq_false c3
    obtain ⟨y179, hy179⟩ : ∃ y_ : List ByteArray, y_ = (([] : List ByteArray)) := ⟨_, rfl⟩
    replace H : (if 0 ≤ x5_1 then (if x5_1 ≤ (l0.length : Int) then ((some (l0.take (x5_1 : Int).toNat : List ByteArray)).bind fun y182 => (if y179.length + y182.length < 8796093022208 then ((some (y179 ++ y182 : List ByteArray)).bind fun y187 => ((some (([a1] : List ByteArray) : List ByteArray)).bind fun y190 => (if y187.length + y190.length < 8796093022208 then ((some (y187 ++ y190 : List ByteArray)).bind fun y193 => ((some (l0.drop (x5_1 : Int).toNat : List ByteArray)).bind fun y196 => (if y193.length + y196.length < 8796093022208 then (some (y193 ++ y196)) else (none)))) else (none)))) else (none))) else (none)) else (none)) = some r := by first | (rw [hy179]; with_reducible exact H) | (have H2_ := (Option.bind_some _ _).symm.trans H; rw [hy179]; with_reducible exact H2_) | (have H2_ := (Option.bind_some _ _).symm.trans H; with_reducible exact H2_) | with_reducible exact H | (rw [hy179]; exact H) | exact H
    have Ny179 := Aside0.mk hy179; clear hy179
    replace H := Own.ifn H; obtain ⟨c26, H⟩ := H; have c26b0 := eq_true c26
    have c26b1 : decide (0 ≤ x5_1) = true := decide_eq_true c26
    clear c26
    replace H := Own.ifn H; obtain ⟨c27, H⟩ := H; have c27b0 := eq_true c27
    have c27b1 : decide (x5_1 ≤ (l0.length : Int)) = true := decide_eq_true c27
    clear c27
    obtain ⟨y182, hy182⟩ : ∃ y_ : List ByteArray, y_ = (l0.take (x5_1 : Int).toNat) := ⟨_, rfl⟩
    replace H : (if y179.length + y182.length < 8796093022208 then ((some (y179 ++ y182 : List ByteArray)).bind fun y187 => ((some (([a1] : List ByteArray) : List ByteArray)).bind fun y190 => (if y187.length + y190.length < 8796093022208 then ((some (y187 ++ y190 : List ByteArray)).bind fun y193 => ((some (l0.drop (x5_1 : Int).toNat : List ByteArray)).bind fun y196 => (if y193.length + y196.length < 8796093022208 then (some (y193 ++ y196)) else (none)))) else (none)))) else (none)) = some r := by first | (rw [hy182]; with_reducible exact H) | (have H2_ := (Option.bind_some _ _).symm.trans H; rw [hy182]; with_reducible exact H2_) | (have H2_ := (Option.bind_some _ _).symm.trans H; with_reducible exact H2_) | with_reducible exact H | (rw [hy182]; exact H) | exact H
    have Ny182 := Aside0.mk hy182; clear hy182
    replace H := Own.ifn H; obtain ⟨c28, H⟩ := H; have LMc28 := Aside0.mk c28; clear c28
    obtain ⟨y187, hy187⟩ : ∃ y_ : List ByteArray, y_ = (y179 ++ y182) := ⟨_, rfl⟩
    replace H : ((some (([a1] : List ByteArray) : List ByteArray)).bind fun y190 => (if y187.length + y190.length < 8796093022208 then ((some (y187 ++ y190 : List ByteArray)).bind fun y193 => ((some (l0.drop (x5_1 : Int).toNat : List ByteArray)).bind fun y196 => (if y193.length + y196.length < 8796093022208 then (some (y193 ++ y196)) else (none)))) else (none))) = some r := by first | (rw [hy187]; with_reducible exact H) | (have H2_ := (Option.bind_some _ _).symm.trans H; rw [hy187]; with_reducible exact H2_) | (have H2_ := (Option.bind_some _ _).symm.trans H; with_reducible exact H2_) | with_reducible exact H | (rw [hy187]; exact H) | exact H
    have Ny187 := Aside0.mk hy187; clear hy187
    obtain ⟨y190, hy190⟩ : ∃ y_ : List ByteArray, y_ = (([a1] : List ByteArray)) := ⟨_, rfl⟩
    replace H : (if y187.length + y190.length < 8796093022208 then ((some (y187 ++ y190 : List ByteArray)).bind fun y193 => ((some (l0.drop (x5_1 : Int).toNat : List ByteArray)).bind fun y196 => (if y193.length + y196.length < 8796093022208 then (some (y193 ++ y196)) else (none)))) else (none)) = some r := by first | (rw [hy190]; with_reducible exact H) | (have H2_ := (Option.bind_some _ _).symm.trans H; rw [hy190]; with_reducible exact H2_) | (have H2_ := (Option.bind_some _ _).symm.trans H; with_reducible exact H2_) | with_reducible exact H | (rw [hy190]; exact H) | exact H
    have Ny190 := Aside0.mk hy190; clear hy190
    replace H := Own.ifn H; obtain ⟨c29, H⟩ := H; have LMc29 := Aside0.mk c29; clear c29
    obtain ⟨y193, hy193⟩ : ∃ y_ : List ByteArray, y_ = (y187 ++ y190) := ⟨_, rfl⟩
    replace H : ((some (l0.drop (x5_1 : Int).toNat : List ByteArray)).bind fun y196 => (if y193.length + y196.length < 8796093022208 then (some (y193 ++ y196)) else (none))) = some r := by first | (rw [hy193]; with_reducible exact H) | (have H2_ := (Option.bind_some _ _).symm.trans H; rw [hy193]; with_reducible exact H2_) | (have H2_ := (Option.bind_some _ _).symm.trans H; with_reducible exact H2_) | with_reducible exact H | (rw [hy193]; exact H) | exact H
    have Ny193 := Aside0.mk hy193; clear hy193
    have c30b0 := eq_true (Own.dp : 0 ≤ x5_1)
    have c31b0 := eq_true (Own.dp : x5_1 ≤ (l0.length : Int))
    obtain ⟨y196, hy196⟩ : ∃ y_ : List ByteArray, y_ = (l0.drop (x5_1 : Int).toNat) := ⟨_, rfl⟩
    replace H : (if y193.length + y196.length < 8796093022208 then (some (y193 ++ y196)) else (none)) = some r := by first | (rw [hy196]; with_reducible exact H) | (have H2_ := (Option.bind_some _ _).symm.trans H; rw [hy196]; with_reducible exact H2_) | (have H2_ := (Option.bind_some _ _).symm.trans H; with_reducible exact H2_) | with_reducible exact H | (rw [hy196]; exact H) | exact H
    have Ny196 := Aside0.mk hy196; clear hy196
    replace H := Own.ifn H; obtain ⟨c32, H⟩ := H; have LMc32 := Aside0.mk c32; clear c32
    obtain ⟨y201, hy201⟩ : ∃ y_ : List ByteArray, y_ = (y193 ++ y196) := ⟨_, rfl⟩
    replace H : (some y201) = some r := by first | (rw [hy201]; with_reducible exact H) | (have H2_ := (Option.bind_some _ _).symm.trans H; rw [hy201]; with_reducible exact H2_) | (have H2_ := (Option.bind_some _ _).symm.trans H; with_reducible exact H2_) | with_reducible exact H | (rw [hy201]; exact H) | exact H
    have Ny201 := Aside0.mk hy201; clear hy201; obtain rfl := Option.some.inj H
    try go_wp2
    have n0_ := Aside0.mk (Kd.V_drew HO_0.out)
    have n1_ := Aside0.mk (below_drew1 HB.out)
    clear HO_0; clear HB; have HO_0 := n0_; have HB := n1_; clear n0_ n1_
    have q34 : (x5_1 : Int) ≤ ((l0.length : Int) : Int) := Own.dp
    obtain ⟨i034, hi034, _, hsz34, _⟩ := info_parts info9
    have hroom34 : l0.length ≤ c0 := (Kd.V_reads' HO_0.out).2.1
    have hC34 : Kd.F Kd.string _ _ A0 l0.length l0 := (Kd.V_at (base := w.heap.size) HO_0.out).2.2
    have hcut34 := cut_to (P := Tryz.prog) 22 9 .i64 Tryz.underlying22 hi034 A0 l0.length c0 x5_1 (Own.dp) q34 hroom34
    have hr34 := Kd.F_take (m := (x5_1 : Int).toNat) hC34 (by omega)
    have hy34 : y182.length = (x5_1 : Int).toNat := (by rw [Ny182.out, List.length_take]; omega)
    rw [← Ny182.out] at hr34; rw [← hy34] at hcut34
    have HO186 := Aside0.mk (show Kd.V Kd.string 9 _ w.heap.size _ (.slice A0 y182.length c0) y182 from Kd.V_mk (by omega) hr34)
    have HC186 := Aside0.mk (show y182.length ≤ c0 from by omega)
    clear hr34 hC34 hroom34 hi034 hsz34; have KY34 := Aside0.mk hy34; clear hy34; replace q34 := eq_true q34
    have q35 : (x5_1 : Int) ≤ ((l0.length : Int) : Int) := Own.dp
    obtain ⟨i035, hi035, _, hsz35, _⟩ := info_parts info9
    have hroom35 : l0.length ≤ c0 := (Kd.V_reads' HO_0.out).2.1
    have hC35 : Kd.F Kd.string _ _ A0 l0.length l0 := (Kd.V_at (base := w.heap.size) HO_0.out).2.2
    have q035 : (0 : Int) ≤ (x5_1 : Int) := Own.dp
    have hcut35 := cut_from (P := Tryz.prog) 22 9 .i64 Tryz.underlying22 hi035 1 hsz35 A0 l0.length c0 x5_1 q035 q35
    have hr35 := Kd.F_cut (m := (x5_1 : Int).toNat) (c := c0) hC35 (by omega) hroom35
    obtain ⟨A35, hA35⟩ : ∃ A1, A1 = (if c0 = (x5_1 : Int).toNat then A0 else (A0 : Option Addr).map (·.add ((x5_1 : Int).toNat * 1))) := ⟨_, rfl⟩
    obtain ⟨c35, hc35⟩ : ∃ c1, c1 = c0 - (x5_1 : Int).toNat := ⟨_, rfl⟩
    have hy35 : y196.length = l0.length - (x5_1 : Int).toNat := (by rw [Ny196.out, List.length_drop] <;> omega)
    rw [show (l0).drop (x5_1 : Int).toNat = y196 from Ny196.out.symm] at hr35
    replace hr35 : Kd.F Kd.string _ _ A35 y196.length y196 := (by rw [hA35]; exact hr35)
    rw [← hy35, ← hA35, ← hc35] at hcut35
    have HO200 := Aside0.mk (show Kd.V Kd.string 9 _ w.heap.size _ (.slice A35 y196.length c35) y196 from Kd.V_mk (by rw [hy35, hc35]; exact Nat.sub_le_sub_right hroom35 _) hr35)
    have HC200 := Aside0.mk (show y196.length ≤ c35 from by rw [hy35, hc35]; exact Nat.sub_le_sub_right hroom35 _)
    clear hr35 hC35 hroom35 hi035 hsz35 hc35; have KY35 := Aside0.mk hy35; have KA35 := Aside0.mk hA35; clear hy35 hA35; replace q35 := eq_true q35
    refine start_ (n := 13) (S := fun w' => True) (ds := []) (Own.fl 13 0) (by kernel_rfl) rfl rfl trivial (fun hHeld => ?_); refine with_tabW spec_l5Put.tab6 spec_l5Put.bits6 (fun HT_ HW_ => ?_)
    generalize wr.drew = w33 at HO_0 HB HO186 HO200 hHeld ⊢
    refine pure_ (i := 1) (N := some 34) (v := ?_) (a' := ?_) (Own.fl 13 2) rfl rfl (any_of HT_.out (by kernel_rfl)) (fun _ _ _ h => h) (Or.inl ⟨by rfl, ?_⟩) ?_ ?_; rotate_left; intro w'; go_simp; with_reducible rfl; rotate_left; simp only [Own.ps]; rfl
    refine pure_ (i := 2) (N := some 35) (v := ?_) (a' := ?_) (Own.fl 13 6) rfl rfl (any_of HT_.out (by kernel_rfl)) (fun _ _ _ h => h) (Or.inl ⟨by rfl, ?_⟩) ?_ ?_; rotate_left; intro w'; go_simp; with_reducible rfl; rotate_left; simp only [Own.ps]; rfl
    refine pure_ (i := 3) (N := some 36) (v := ?_) (a' := ?_) (Own.fl 13 14) rfl rfl (any_of HT_.out (by kernel_rfl)) (fun _ _ _ h => h) (Or.inl ⟨by rfl, ?_⟩) ?_ ?_; rotate_left; intro w'; go_simp; with_reducible rfl; rotate_left; simp only [Own.ps]; rfl
    refine pure_ (i := 5) (N := some 38) (v := ?_) (a' := ?_) (Own.fl 13 46) rfl rfl (any_of HT_.out (by kernel_rfl)) (fun _ _ _ h => h) (Or.inl ⟨by rfl, ?_⟩) ?_ ?_; rotate_left; intro w'; go_simp; with_reducible rfl; rotate_left; simp only [Own.ps]; rfl
    refine pure_ (i := 8) (N := some 41) (v := ?_) (a' := ?_) (Own.fl 13 302) rfl rfl (any_of HT_.out (by kernel_rfl)) (fun _ _ _ h => h) (Or.inl ⟨by rfl, ?_⟩) ?_ ?_; rotate_left; intro w'; go_simp; with_reducible rfl; rotate_left; simp only [Own.ps]; rfl
    refine pure_ (i := 9) (N := some 42) (v := ?_) (a' := ?_) (Own.fl 13 814) rfl rfl (any_of HT_.out (by kernel_rfl)) (fun _ _ _ h => h) (Or.inl ⟨by rfl, ?_⟩) ?_ ?_; rotate_left; intro w'; go_simp; with_reducible rfl; rotate_left; simp only [Own.ps]; rfl
    refine pure_ (i := 10) (N := some 43) (v := ?_) (a' := ?_) (Own.fl 13 1838) rfl rfl (any_of HT_.out (by kernel_rfl)) (fun _ _ _ h => h) (Or.inl ⟨by rfl, ?_⟩) ?_ ?_; rotate_left; intro w'; go_simp; with_reducible rfl; rotate_left; simp only [Own.ps]; rfl
    refine join_ (σ := Value × Value × Value) 3 (Own.fl 13 1919) (fun s_ => [(33, s_.1), (37, s_.2.1), (39, s_.2.2)]) (fun s_ w' => (Kd.V Kd.string 9 w' w.heap.size (fun k_ => (P0_ k_ ∨ w.heap.size ≤ k_) ∧ some k_ ≠ (s_.2.1 : Value).ownBlock ∧ some k_ ≠ (s_.2.2 : Value).ownBlock) (.slice A0 y182.length c0) y182) ∧ (Kd.R Kd.string 9 w' w.heap.size (fun k_ => (w.heap.size ≤ k_) ∧ some k_ ≠ (s_.2.2 : Value).ownBlock) s_.2.1 y187) ∧ (Kd.R Kd.string 9 w' w.heap.size (fun k_ => (w.heap.size ≤ k_) ∧ some k_ ≠ (s_.2.1 : Value).ownBlock) s_.2.2 y190) ∧ (Kd.V Kd.string 9 w' w.heap.size (fun k_ => (P0_ k_ ∨ w.heap.size ≤ k_) ∧ some k_ ≠ (s_.2.1 : Value).ownBlock ∧ some k_ ≠ (s_.2.2 : Value).ownBlock) (.slice A35 y196.length c35) y196) ∧ (Kd.V Kd.string 9 w' w.heap.size (fun k_ => (P0_ k_ ∨ w.heap.size ≤ k_) ∧ some k_ ≠ (s_.2.1 : Value).ownBlock ∧ some k_ ≠ (s_.2.2 : Value).ownBlock) (.slice A0 l0.length c0) l0) ∧ (Below w.heap.size w w')) ?_ ?_
    rotate_left
    ·
     intro hCont
     refine two_ (i := 0) (j := 6) (Ni := some 33) (Nj := some 39) (Own.fl 13 1839) (Own.fl 13 1902) rfl rfl rfl rfl (two_of HT_.out (by kernel_rfl)) (by decide) (by decide) (fun K hK => ?_) (fun K hK => ?_)
     ·
      skip
      refine Kd.R_lit_step Kd.string _ 9 ?hg (N := 33) ?hd (xs := ([] : List ByteArray)) (inner := []) (ok := fun _ => True) (okp := fun _ => True) ?hr ?hp (fun _ hk => hk) trivial (Below.refl _ _) (Nat.le_refl _) (by simp) ?_; (case hd => rfl); (case hg => rfl); (case hr => first | (go_simp; done) | (go_simp; rfl)); (case hp => exact (Reps.none _ _))
      intro v180 w36 ho37 hb hg_ hnew_; clear hg_ hnew_
      (first | rw [← Ny179.out] at ho37 | (simp only [Int.reduceToNat] at ho37; rw [← Ny179.out] at ho37))
      have n0_ := Aside0.mk (Kd.V_elder' (Own.vd HO_0.out) (Kd.R_base ho37) hb)
      have n1_ := Aside0.mk (Kd.V_elder' (Own.vd HO186.out) (Kd.R_base ho37) hb)
      have n2_ := Aside0.mk (Kd.V_elder' (Own.vd HO200.out) (Kd.R_base ho37) hb)
      have n3_ := Aside0.mk (Kd.R_lower (Kd.R_newM (M := fun k_ => (w.heap.size ≤ k_)) ho37 (below_size Own.bl) (fun k_ h_ => h_)) (below_size Own.bl))
      have n4_ := Own.bs hb; clear HO_0; clear HO186; clear HO200; clear HB; have HO_0 := n0_; have HO186 := n1_; have HO200 := n2_; have HO181 := n3_; have HB := n4_; clear n0_ n1_ n2_ n3_ n4_; clear hb ho37
      refine hK.out _ _ trivial (fun hHeld => ?_)
      clear hK K; refine norm_ (a' := ?_) ?_ ?_; rotate_left; show Act.put _ (some 33) _ = _; simp only [Own.ps]; rfl
      refine two_ (i := 4) (j := 6) (Ni := some 37) (Nj := some 39) (Own.fl 13 1855) (Own.fl 13 1903) rfl rfl rfl rfl (two_of HT_.out (by kernel_rfl)) (by decide) (by decide) (fun K hK => ?_) (fun K hK => ?_)
      ·
       skip
       refine Kd.R_append_rows_step Kd.string (w0 := w) w.heap.size (by rfl) (.tmp 33) (.tmp 36) 22 9 (.string ⟨#[]⟩) 16 rfl Tryz.underlying22 info9 rfl (by decide) (by omega) v180 y179 y182 _ _ _ (fun k_ => (w.heap.size ≤ k_)) (fun _ => False) rfl rfl ?aO ?aR (fun _ _ h => h) (fun _ h => h.elim) ?aF ?aB ?aS ?aL ?_
       (case aR => repeat (first | exact (Kd.V_reads' HO186.out).2.2 | (with_reducible refine Kd.C_alloc ?_ _) | (with_reducible refine Kd.C_drewN ?_ _) | (with_reducible refine Kd.C_drew ?_)))
       (case aB => exact Own.bl)
       (case aF => exact (fun k_ hk => (Nat.le_trans (below_size Own.bl) hk)))
       (case aO => exact (by (with_reducible repeat (first | apply Kd.R_alloc | apply Kd.R_drewN | apply Kd.R_drew)); exact Kd.R_mono HO181.out (fun _ hk => hk.1)))
       (case aS => exact (below_size Own.bl))
       (case aL => have := LMc28.out; omega)
       intro v188 w38 ho hb hg hat; rw [← Ny187.out] at ho
       have n0_ := Aside0.mk (Kd.V_afterv (ok := (fun k_ => (P0_ k_ ∨ w.heap.size ≤ k_))) (Own.vd HO_0.out) hg hat)
       have n1_ := Aside0.mk (Kd.V_afterv (ok := (fun k_ => (P0_ k_ ∨ w.heap.size ≤ k_))) (Own.vd HO186.out) hg hat)
       have n2_ := Aside0.mk (Kd.V_afterv (ok := (fun k_ => (P0_ k_ ∨ w.heap.size ≤ k_))) (Own.vd HO200.out) hg hat)
       have n3_ := Aside0.mk (hb)
       have n4_ := Aside0.mk (ho)
       clear HO_0; clear HO186; clear HO200; clear HB; clear HO181; have HO_0 := n0_; have HO186 := n1_; have HO200 := n2_; have HB := n3_; have HO189 := n4_; clear n0_ n1_ n2_ n3_ n4_; clear ho hb hg hat
       refine hK.out _ _ trivial (fun hHeld => ?_)
       clear hK K; refine norm_ (a' := ?_) ?_ ?_; rotate_left; show Act.put _ (some 37) _ = _; simp only [Own.ps]; rfl
       refine one_ (i := 6) (N := some 39) (Own.fl 13 1919) rfl rfl (one_of HT_.out (by kernel_rfl)) (by decide) (fun K hK => ?_)
       refine Kd.R_lit_step Kd.string _ 9 ?hg (N := 39) ?hd (xs := ([a1] : List ByteArray)) (inner := [.string a1]) (ok := fun _ => True) (okp := fun _ => True) ?hr ?hp (fun _ hk => hk) trivial (Below.refl _ _) (Nat.le_refl _) (by simp) ?_; (case hd => rfl); (case hg => rfl); (case hr => first | (go_simp; done) | (go_simp; rfl)); (case hp => exact (Reps.one (show Kd.M Kd.string _ _ _ a1 [.string a1] from rfl) (Reps.none _ _)))
       intro v191 w39 ho40 hb hg_ hnew_; clear hg_ hnew_
       (first | rw [← Ny190.out] at ho40 | (simp only [Int.reduceToNat] at ho40; rw [← Ny190.out] at ho40))
       have n0_ := Aside0.mk (Kd.V_elder' (Own.vd HO_0.out) (Kd.R_base ho40) hb)
       have n1_ := Aside0.mk (Kd.V_elder' (Own.vd HO186.out) (Kd.R_base ho40) hb)
       have n2_ := Aside0.mk (Kd.V_elder' (Own.vd HO200.out) (Kd.R_base ho40) hb)
       have n3_ := Aside0.mk (Kd.R_elder' (Own.rd HO189.out) (Kd.R_base ho40) hb)
       have n4_ := Aside0.mk (Kd.R_lower (Kd.R_new' (Kd.R_newM (M := fun k_ => (w.heap.size ≤ k_)) ho40 (below_size Own.bl) (fun k_ h_ => h_)) (Kd.R_lt (Own.rd HO189.out))) (below_size Own.bl))
       have n5_ := Own.bs hb; clear HO_0; clear HO186; clear HO200; clear HO189; clear HB; have HO_0 := n0_; have HO186 := n1_; have HO200 := n2_; have HO189 := n3_; have HO192 := n4_; have HB := n5_; clear n0_ n1_ n2_ n3_ n4_ n5_; clear hb ho40
       refine hK.out _ _ trivial (fun hHeld => ?_)
       clear hK K; refine norm_ (a' := ?_) ?_ ?_; rotate_left; show Act.put _ (some 39) _ = _; simp only [Own.ps]; rfl
       exact norm_ (by simp only [putAll, Act.put, List.setIfInBounds_toArray, List.set_cons_zero, List.set_cons_succ]) (hCont (v180, v188, v191) _ ⟨(by (with_reducible repeat (first | apply Kd.V_alloc | apply Kd.V_drewN | apply Kd.V_drew)); exact Kd.V_mono HO186.out (fun _ hk => ⟨hk.1.1, ⟨hk.1.2, hk.2⟩⟩)), (Own.rd HO189.out), (by (with_reducible repeat (first | apply Kd.R_alloc | apply Kd.R_drewN | apply Kd.R_drew)); exact Kd.R_mono HO192.out (fun _ hk => ⟨hk.1.1, hk.2⟩)), (by (with_reducible repeat (first | apply Kd.V_alloc | apply Kd.V_drewN | apply Kd.V_drew)); exact Kd.V_mono HO200.out (fun _ hk => ⟨hk.1.1, ⟨hk.1.2, hk.2⟩⟩)), (by (with_reducible repeat (first | apply Kd.V_alloc | apply Kd.V_drewN | apply Kd.V_drew)); exact Kd.V_mono HO_0.out (fun _ hk => ⟨hk.1.1, ⟨hk.1.2, hk.2⟩⟩)), Own.bl⟩)
      ·
       skip
       refine Kd.R_lit_step Kd.string _ 9 ?hg (N := 39) ?hd (xs := ([a1] : List ByteArray)) (inner := [.string a1]) (ok := fun _ => True) (okp := fun _ => True) ?hr ?hp (fun _ hk => hk) trivial (Below.refl _ _) (Nat.le_refl _) (by simp) ?_; (case hd => rfl); (case hg => rfl); (case hr => first | (go_simp; done) | (go_simp; rfl)); (case hp => exact (Reps.one (show Kd.M Kd.string _ _ _ a1 [.string a1] from rfl) (Reps.none _ _)))
       intro v191 w38 ho39 hb hg_ hnew_; clear hg_ hnew_
       (first | rw [← Ny190.out] at ho39 | (simp only [Int.reduceToNat] at ho39; rw [← Ny190.out] at ho39))
       have n0_ := Aside0.mk (Kd.V_elder' (Own.vd HO_0.out) (Kd.R_base ho39) hb)
       have n1_ := Aside0.mk (Kd.V_elder' (Own.vd HO186.out) (Kd.R_base ho39) hb)
       have n2_ := Aside0.mk (Kd.V_elder' (Own.vd HO200.out) (Kd.R_base ho39) hb)
       have n3_ := Aside0.mk (Kd.R_elder' (Own.rd HO181.out) (Kd.R_base ho39) hb)
       have n4_ := Aside0.mk (Kd.R_lower (Kd.R_new' (Kd.R_newM (M := fun k_ => (w.heap.size ≤ k_)) ho39 (below_size Own.bl) (fun k_ h_ => h_)) (Kd.R_lt (Own.rd HO181.out))) (below_size Own.bl))
       have n5_ := Own.bs hb; clear HO_0; clear HO186; clear HO200; clear HO181; clear HB; have HO_0 := n0_; have HO186 := n1_; have HO200 := n2_; have HO181 := n3_; have HO192 := n4_; have HB := n5_; clear n0_ n1_ n2_ n3_ n4_ n5_; clear hb ho39
       refine hK.out _ _ trivial (fun hHeld => ?_)
       clear hK K; refine norm_ (a' := ?_) ?_ ?_; rotate_left; show Act.put _ (some 39) _ = _; simp only [Own.ps]; rfl
       refine one_ (i := 4) (N := some 37) (Own.fl 13 1919) rfl rfl (one_of HT_.out (by kernel_rfl)) (by decide) (fun K hK => ?_)
       refine Kd.R_append_rows_step Kd.string (w0 := w) w.heap.size (by rfl) (.tmp 33) (.tmp 36) 22 9 (.string ⟨#[]⟩) 16 rfl Tryz.underlying22 info9 rfl (by decide) (by omega) v180 y179 y182 _ _ _ (fun k_ => (w.heap.size ≤ k_) ∧ some k_ ≠ (v191 : Value).ownBlock) (fun _ => False) rfl rfl ?aO ?aR (fun _ _ h => h) (fun _ h => h.elim) ?aF ?aB ?aS ?aL ?_
       (case aR => repeat (first | exact (Kd.V_reads' HO186.out).2.2 | (with_reducible refine Kd.C_alloc ?_ _) | (with_reducible refine Kd.C_drewN ?_ _) | (with_reducible refine Kd.C_drew ?_)))
       (case aB => exact Own.bl)
       (case aF => exact (fun k_ hk => ⟨(Nat.le_trans (below_size Own.bl) hk), Kd.fresh' (Kd.R_lt (Own.rd HO192.out)) k_ hk⟩))
       (case aO => exact (by (with_reducible repeat (first | apply Kd.R_alloc | apply Kd.R_drewN | apply Kd.R_drew)); exact Kd.R_mono HO181.out (fun _ hk => ⟨hk.1.1, hk.2⟩)))
       (case aS => exact (below_size Own.bl))
       (case aL => have := LMc28.out; omega)
       intro v188 w40 ho hb hg hat; rw [← Ny187.out] at ho
       have n0_ := Aside0.mk (Kd.V_afterv (ok := (fun k_ => (P0_ k_ ∨ w.heap.size ≤ k_) ∧ some k_ ≠ (v191 : Value).ownBlock)) (by (with_reducible repeat (first | apply Kd.V_alloc | apply Kd.V_drewN | apply Kd.V_drew)); exact Kd.V_mono HO_0.out (fun _ hk => ⟨⟨hk.1.1, hk.2⟩, hk.1.2⟩)) hg hat)
       have n1_ := Aside0.mk (Kd.V_afterv (ok := (fun k_ => (P0_ k_ ∨ w.heap.size ≤ k_) ∧ some k_ ≠ (v191 : Value).ownBlock)) (by (with_reducible repeat (first | apply Kd.V_alloc | apply Kd.V_drewN | apply Kd.V_drew)); exact Kd.V_mono HO186.out (fun _ hk => ⟨⟨hk.1.1, hk.2⟩, hk.1.2⟩)) hg hat)
       have n2_ := Aside0.mk (Kd.V_afterv (ok := (fun k_ => (P0_ k_ ∨ w.heap.size ≤ k_) ∧ some k_ ≠ (v191 : Value).ownBlock)) (by (with_reducible repeat (first | apply Kd.V_alloc | apply Kd.V_drewN | apply Kd.V_drew)); exact Kd.V_mono HO200.out (fun _ hk => ⟨⟨hk.1.1, hk.2⟩, hk.1.2⟩)) hg hat)
       have n3_ := Aside0.mk (Kd.R_after (ok := (fun k_ => (w.heap.size ≤ k_))) (by (with_reducible repeat (first | apply Kd.R_alloc | apply Kd.R_drewN | apply Kd.R_drew)); exact Kd.R_mono HO192.out (fun _ hk => ⟨hk.1.1, hk.2⟩)) hg hat)
       have n4_ := Aside0.mk (hb)
       have n5_ := Aside0.mk (ho)
       clear HO_0; clear HO186; clear HO200; clear HO192; clear HB; clear HO181; have HO_0 := n0_; have HO186 := n1_; have HO200 := n2_; have HO192 := n3_; have HB := n4_; have HO189 := n5_; clear n0_ n1_ n2_ n3_ n4_ n5_; clear ho hb hg hat
       refine hK.out _ _ trivial (fun hHeld => ?_)
       clear hK K; refine norm_ (a' := ?_) ?_ ?_; rotate_left; show Act.put _ (some 37) _ = _; simp only [Own.ps]; rfl
       exact norm_ (by simp only [putAll, Act.put, List.setIfInBounds_toArray, List.set_cons_zero, List.set_cons_succ]) (hCont (v180, v188, v191) _ ⟨(by (with_reducible repeat (first | apply Kd.V_alloc | apply Kd.V_drewN | apply Kd.V_drew)); exact Kd.V_mono HO186.out (fun _ hk => ⟨hk.1.1, ⟨hk.2, hk.1.2⟩⟩)), (Own.rd HO189.out), (Own.rd HO192.out), (by (with_reducible repeat (first | apply Kd.V_alloc | apply Kd.V_drewN | apply Kd.V_drew)); exact Kd.V_mono HO200.out (fun _ hk => ⟨hk.1.1, ⟨hk.2, hk.1.2⟩⟩)), (by (with_reducible repeat (first | apply Kd.V_alloc | apply Kd.V_drewN | apply Kd.V_drew)); exact Kd.V_mono HO_0.out (fun _ hk => ⟨hk.1.1, ⟨hk.2, hk.1.2⟩⟩)), Own.bl⟩)
     ·
      skip
      refine Kd.R_lit_step Kd.string _ 9 ?hg (N := 39) ?hd (xs := ([a1] : List ByteArray)) (inner := [.string a1]) (ok := fun _ => True) (okp := fun _ => True) ?hr ?hp (fun _ hk => hk) trivial (Below.refl _ _) (Nat.le_refl _) (by simp) ?_; (case hd => rfl); (case hg => rfl); (case hr => first | (go_simp; done) | (go_simp; rfl)); (case hp => exact (Reps.one (show Kd.M Kd.string _ _ _ a1 [.string a1] from rfl) (Reps.none _ _)))
      intro v191 w36 ho37 hb hg_ hnew_; clear hg_ hnew_
      (first | rw [← Ny190.out] at ho37 | (simp only [Int.reduceToNat] at ho37; rw [← Ny190.out] at ho37))
      have n0_ := Aside0.mk (Kd.V_elder' (Own.vd HO_0.out) (Kd.R_base ho37) hb)
      have n1_ := Aside0.mk (Kd.V_elder' (Own.vd HO186.out) (Kd.R_base ho37) hb)
      have n2_ := Aside0.mk (Kd.V_elder' (Own.vd HO200.out) (Kd.R_base ho37) hb)
      have n3_ := Aside0.mk (Kd.R_lower (Kd.R_newM (M := fun k_ => (w.heap.size ≤ k_)) ho37 (below_size Own.bl) (fun k_ h_ => h_)) (below_size Own.bl))
      have n4_ := Own.bs hb; clear HO_0; clear HO186; clear HO200; clear HB; have HO_0 := n0_; have HO186 := n1_; have HO200 := n2_; have HO192 := n3_; have HB := n4_; clear n0_ n1_ n2_ n3_ n4_; clear hb ho37
      refine hK.out _ _ trivial (fun hHeld => ?_)
      clear hK K; refine norm_ (a' := ?_) ?_ ?_; rotate_left; show Act.put _ (some 39) _ = _; simp only [Own.ps]; rfl
      refine one_ (i := 0) (N := some 33) (Own.fl 13 1903) rfl rfl (one_of HT_.out (by kernel_rfl)) (by decide) (fun K hK => ?_)
      refine Kd.R_lit_step Kd.string _ 9 ?hg (N := 33) ?hd (xs := ([] : List ByteArray)) (inner := []) (ok := fun _ => True) (okp := fun _ => True) ?hr ?hp (fun _ hk => hk) trivial (Below.refl _ _) (Nat.le_refl _) (by simp) ?_; (case hd => rfl); (case hg => rfl); (case hr => first | (go_simp; done) | (go_simp; rfl)); (case hp => exact (Reps.none _ _))
      intro v180 w38 ho39 hb hg_ hnew_; clear hg_ hnew_
      (first | rw [← Ny179.out] at ho39 | (simp only [Int.reduceToNat] at ho39; rw [← Ny179.out] at ho39))
      have n0_ := Aside0.mk (Kd.V_elder' (Own.vd HO_0.out) (Kd.R_base ho39) hb)
      have n1_ := Aside0.mk (Kd.V_elder' (Own.vd HO186.out) (Kd.R_base ho39) hb)
      have n2_ := Aside0.mk (Kd.V_elder' (Own.vd HO200.out) (Kd.R_base ho39) hb)
      have n3_ := Aside0.mk (Kd.R_elder' (Own.rd HO192.out) (Kd.R_base ho39) hb)
      have n4_ := Aside0.mk (Kd.R_lower (Kd.R_new' (Kd.R_newM (M := fun k_ => (w.heap.size ≤ k_)) ho39 (below_size Own.bl) (fun k_ h_ => h_)) (Kd.R_lt (Own.rd HO192.out))) (below_size Own.bl))
      have n5_ := Own.bs hb; clear HO_0; clear HO186; clear HO200; clear HO192; clear HB; have HO_0 := n0_; have HO186 := n1_; have HO200 := n2_; have HO192 := n3_; have HO181 := n4_; have HB := n5_; clear n0_ n1_ n2_ n3_ n4_ n5_; clear hb ho39
      refine hK.out _ _ trivial (fun hHeld => ?_)
      clear hK K; refine norm_ (a' := ?_) ?_ ?_; rotate_left; show Act.put _ (some 33) _ = _; simp only [Own.ps]; rfl
      refine one_ (i := 4) (N := some 37) (Own.fl 13 1919) rfl rfl (one_of HT_.out (by kernel_rfl)) (by decide) (fun K hK => ?_)
      refine Kd.R_append_rows_step Kd.string (w0 := w) w.heap.size (by rfl) (.tmp 33) (.tmp 36) 22 9 (.string ⟨#[]⟩) 16 rfl Tryz.underlying22 info9 rfl (by decide) (by omega) v180 y179 y182 _ _ _ (fun k_ => (w.heap.size ≤ k_) ∧ some k_ ≠ (v191 : Value).ownBlock) (fun _ => False) rfl rfl ?aO ?aR (fun _ _ h => h) (fun _ h => h.elim) ?aF ?aB ?aS ?aL ?_
      (case aR => repeat (first | exact (Kd.V_reads' HO186.out).2.2 | (with_reducible refine Kd.C_alloc ?_ _) | (with_reducible refine Kd.C_drewN ?_ _) | (with_reducible refine Kd.C_drew ?_)))
      (case aB => exact Own.bl)
      (case aF => exact (fun k_ hk => ⟨(Nat.le_trans (below_size Own.bl) hk), Kd.fresh' (Kd.R_lt (Own.rd HO192.out)) k_ hk⟩))
      (case aO => exact (by (with_reducible repeat (first | apply Kd.R_alloc | apply Kd.R_drewN | apply Kd.R_drew)); exact Kd.R_mono HO181.out (fun _ hk => ⟨hk.1.1, hk.2⟩)))
      (case aS => exact (below_size Own.bl))
      (case aL => have := LMc28.out; omega)
      intro v188 w40 ho hb hg hat; rw [← Ny187.out] at ho
      have n0_ := Aside0.mk (Kd.V_afterv (ok := (fun k_ => (P0_ k_ ∨ w.heap.size ≤ k_) ∧ some k_ ≠ (v191 : Value).ownBlock)) (Own.vd HO_0.out) hg hat)
      have n1_ := Aside0.mk (Kd.V_afterv (ok := (fun k_ => (P0_ k_ ∨ w.heap.size ≤ k_) ∧ some k_ ≠ (v191 : Value).ownBlock)) (Own.vd HO186.out) hg hat)
      have n2_ := Aside0.mk (Kd.V_afterv (ok := (fun k_ => (P0_ k_ ∨ w.heap.size ≤ k_) ∧ some k_ ≠ (v191 : Value).ownBlock)) (Own.vd HO200.out) hg hat)
      have n3_ := Aside0.mk (Kd.R_after (ok := (fun k_ => (w.heap.size ≤ k_))) (by (with_reducible repeat (first | apply Kd.R_alloc | apply Kd.R_drewN | apply Kd.R_drew)); exact Kd.R_mono HO192.out (fun _ hk => ⟨hk.1.1, hk.2⟩)) hg hat)
      have n4_ := Aside0.mk (hb)
      have n5_ := Aside0.mk (ho)
      clear HO_0; clear HO186; clear HO200; clear HO192; clear HB; clear HO181; have HO_0 := n0_; have HO186 := n1_; have HO200 := n2_; have HO192 := n3_; have HB := n4_; have HO189 := n5_; clear n0_ n1_ n2_ n3_ n4_ n5_; clear ho hb hg hat
      refine hK.out _ _ trivial (fun hHeld => ?_)
      clear hK K; refine norm_ (a' := ?_) ?_ ?_; rotate_left; show Act.put _ (some 37) _ = _; simp only [Own.ps]; rfl
      exact norm_ (by simp only [putAll, Act.put, List.setIfInBounds_toArray, List.set_cons_zero, List.set_cons_succ]) (hCont (v180, v188, v191) _ ⟨(by (with_reducible repeat (first | apply Kd.V_alloc | apply Kd.V_drewN | apply Kd.V_drew)); exact Kd.V_mono HO186.out (fun _ hk => ⟨hk.1.1, ⟨hk.2, hk.1.2⟩⟩)), (Own.rd HO189.out), (Own.rd HO192.out), (by (with_reducible repeat (first | apply Kd.V_alloc | apply Kd.V_drewN | apply Kd.V_drew)); exact Kd.V_mono HO200.out (fun _ hk => ⟨hk.1.1, ⟨hk.2, hk.1.2⟩⟩)), (by (with_reducible repeat (first | apply Kd.V_alloc | apply Kd.V_drewN | apply Kd.V_drew)); exact Kd.V_mono HO_0.out (fun _ hk => ⟨hk.1.1, ⟨hk.2, hk.1.2⟩⟩)), Own.bl⟩)
    rintro ⟨v180, v188, v191⟩ w41 ⟨h0_, h1_, h2_, h3_, h4_, h5_⟩
    have n0_ : Aside0 (Kd.V Kd.string 9 w41 w.heap.size (fun k_ => (P0_ k_ ∨ w.heap.size ≤ k_) ∧ some k_ ≠ (v188 : Value).ownBlock ∧ some k_ ≠ (v191 : Value).ownBlock) (.slice A0 y182.length c0) y182) := ⟨h0_⟩
    have n1_ : Aside0 (Kd.R Kd.string 9 w41 w.heap.size (fun k_ => (w.heap.size ≤ k_) ∧ some k_ ≠ (v191 : Value).ownBlock) v188 y187) := ⟨h1_⟩
    have n2_ : Aside0 (Kd.R Kd.string 9 w41 w.heap.size (fun k_ => (w.heap.size ≤ k_) ∧ some k_ ≠ (v188 : Value).ownBlock) v191 y190) := ⟨h2_⟩
    have n3_ : Aside0 (Kd.V Kd.string 9 w41 w.heap.size (fun k_ => (P0_ k_ ∨ w.heap.size ≤ k_) ∧ some k_ ≠ (v188 : Value).ownBlock ∧ some k_ ≠ (v191 : Value).ownBlock) (.slice A35 y196.length c35) y196) := ⟨h3_⟩
    have n4_ : Aside0 (Kd.V Kd.string 9 w41 w.heap.size (fun k_ => (P0_ k_ ∨ w.heap.size ≤ k_) ∧ some k_ ≠ (v188 : Value).ownBlock ∧ some k_ ≠ (v191 : Value).ownBlock) (.slice A0 l0.length c0) l0) := ⟨h4_⟩
    have n5_ : Aside0 (Below w.heap.size w w41) := ⟨h5_⟩
    clear HO_0; clear HB; clear h0_ h1_ h2_ h3_ h4_ h5_; have HO186 := n0_; have HO189 := n1_; have HO192 := n2_; have HO200 := n3_; have HO_0 := n4_; have HB := n5_; clear n0_ n1_ n2_ n3_ n4_ n5_; have hHeld := trivial; obtain ⟨Ao43, co43, eo43⟩ := Kd.R_slice HO192.out
    (first | subst eo43 | (injection eo43 with f1_ f2_ f3_; have f4_ := f1_.symm; have f5_ := f3_.symm; clear f1_ f2_ f3_; subst f4_; subst f5_))
    refine norm_ (a' := ?_) ?_ ?_
    rotate_left
    ·
     simp only [putAll, Act.put, List.setIfInBounds_toArray, List.set_cons_zero, List.set_cons_succ]
     rfl
    refine one_ (i := 7) (N := some 40) (Own.fl 13 2047) rfl rfl (one_of HT_.out (by kernel_rfl)) (by decide) (fun K hK => ?_)
    refine Kd.R_append_rows_step Kd.string (w0 := w) w.heap.size (by rfl) (.tmp 37) (.tmp 39) 22 9 (.string ⟨#[]⟩) 16 rfl Tryz.underlying22 info9 rfl (by decide) (by omega) v188 y187 y190 _ _ _ (fun k_ => (w.heap.size ≤ k_) ∧ some k_ ≠ (.slice Ao43 y190.length co43 : Value).ownBlock) (fun _ => False) rfl rfl ?aO ?aR (fun _ _ h => h) (fun _ h => h.elim) ?aF ?aB ?aS ?aL ?_
    (case aR => repeat (first | exact (Kd.R_reads' HO192.out).2.2 | (with_reducible refine Kd.C_alloc ?_ _) | (with_reducible refine Kd.C_drewN ?_ _) | (with_reducible refine Kd.C_drew ?_)))
    (case aB => exact Own.bl)
    (case aF => exact (fun k_ hk => ⟨(Nat.le_trans (below_size Own.bl) hk), Kd.fresh' (Kd.R_lt (Own.rd HO192.out)) k_ hk⟩))
    (case aO => exact (Own.rd HO189.out))
    (case aS => exact (below_size Own.bl))
    (case aL => have := LMc29.out; omega)
    intro v194 w42 ho hb hg hat; rw [← Ny193.out] at ho
    have n0_ := Aside0.mk (Kd.V_afterv (ok := (fun k_ => (P0_ k_ ∨ w.heap.size ≤ k_) ∧ some k_ ≠ (.slice Ao43 y190.length co43 : Value).ownBlock)) (by (with_reducible repeat (first | apply Kd.V_alloc | apply Kd.V_drewN | apply Kd.V_drew)); exact Kd.V_mono HO_0.out (fun _ hk => ⟨⟨hk.1, hk.2.2⟩, hk.2.1⟩)) hg hat)
    have n1_ := Aside0.mk (Kd.V_afterv (ok := (fun k_ => (P0_ k_ ∨ w.heap.size ≤ k_) ∧ some k_ ≠ (.slice Ao43 y190.length co43 : Value).ownBlock)) (by (with_reducible repeat (first | apply Kd.V_alloc | apply Kd.V_drewN | apply Kd.V_drew)); exact Kd.V_mono HO186.out (fun _ hk => ⟨⟨hk.1, hk.2.2⟩, hk.2.1⟩)) hg hat)
    have n2_ := Aside0.mk (Kd.V_afterv (ok := (fun k_ => (P0_ k_ ∨ w.heap.size ≤ k_) ∧ some k_ ≠ (.slice Ao43 y190.length co43 : Value).ownBlock)) (by (with_reducible repeat (first | apply Kd.V_alloc | apply Kd.V_drewN | apply Kd.V_drew)); exact Kd.V_mono HO200.out (fun _ hk => ⟨⟨hk.1, hk.2.2⟩, hk.2.1⟩)) hg hat)
    have n3_ := Aside0.mk (Kd.R_after (ok := (fun k_ => (w.heap.size ≤ k_))) (Own.rd HO192.out) hg hat)
    have n4_ := Aside0.mk (hb)
    have n5_ := Aside0.mk (ho)
    clear HO_0; clear HO186; clear HO200; clear HO192; clear HB; clear HO189; have HO_0 := n0_; have HO186 := n1_; have HO200 := n2_; have HO192 := n3_; have HB := n4_; have HO195 := n5_; clear n0_ n1_ n2_ n3_ n4_ n5_; clear ho hb hg hat
    refine hK.out _ _ trivial (fun hHeld => ?_)
    clear hK K; refine norm_ (a' := ?_) ?_ ?_; rotate_left; show Act.put _ (some 40) _ = _; simp only [Own.ps]; rfl
    refine one_ (i := 11) (N := some 44) (Own.fl 13 4095) rfl rfl (one_of HT_.out (by kernel_rfl)) (by decide) (fun K hK => ?_)
    refine Kd.R_append_rows_step Kd.string (w0 := w) w.heap.size (by rfl) (.tmp 40) (.tmp 43) 22 9 (.string ⟨#[]⟩) 16 rfl Tryz.underlying22 info9 rfl (by decide) (by omega) v194 y193 y196 _ _ _ (fun k_ => (w.heap.size ≤ k_) ∧ some k_ ≠ (.slice Ao43 y190.length co43 : Value).ownBlock) (fun _ => False) rfl rfl ?aO ?aR (fun _ _ h => h) (fun _ h => h.elim) ?aF ?aB ?aS ?aL ?_
    (case aR => repeat (first | exact (Kd.V_reads' HO200.out).2.2 | (with_reducible refine Kd.C_alloc ?_ _) | (with_reducible refine Kd.C_drewN ?_ _) | (with_reducible refine Kd.C_drew ?_)))
    (case aB => exact Own.bl)
    (case aF => exact (fun k_ hk => ⟨(Nat.le_trans (below_size Own.bl) hk), Kd.fresh' (Kd.R_lt (Own.rd HO192.out)) k_ hk⟩))
    (case aO => exact (Own.rd HO195.out))
    (case aS => exact (below_size Own.bl))
    (case aL => have := LMc32.out; omega)
    intro v202 w44 ho hb hg hat; rw [← Ny201.out] at ho
    have n0_ := Aside0.mk (Kd.V_afterv (ok := (fun k_ => (P0_ k_ ∨ w.heap.size ≤ k_) ∧ some k_ ≠ (.slice Ao43 y190.length co43 : Value).ownBlock)) (Own.vd HO_0.out) hg hat)
    have n1_ := Aside0.mk (Kd.V_afterv (ok := (fun k_ => (P0_ k_ ∨ w.heap.size ≤ k_) ∧ some k_ ≠ (.slice Ao43 y190.length co43 : Value).ownBlock)) (Own.vd HO186.out) hg hat)
    have n2_ := Aside0.mk (Kd.V_afterv (ok := (fun k_ => (P0_ k_ ∨ w.heap.size ≤ k_) ∧ some k_ ≠ (.slice Ao43 y190.length co43 : Value).ownBlock)) (Own.vd HO200.out) hg hat)
    have n3_ := Aside0.mk (Kd.R_after (ok := (fun k_ => (w.heap.size ≤ k_))) (Own.rd HO192.out) hg hat)
    have n4_ := Aside0.mk (hb)
    have n5_ := Aside0.mk (ho)
    clear HO_0; clear HO186; clear HO200; clear HO192; clear HB; clear HO195; have HO_0 := n0_; have HO186 := n1_; have HO200 := n2_; have HO192 := n3_; have HB := n4_; have HO203 := n5_; clear n0_ n1_ n2_ n3_ n4_ n5_; clear ho hb hg hat
    refine hK.out _ _ trivial (fun hHeld => ?_)
    clear hK K; refine norm_ (a' := ?_) ?_ ?_; rotate_left; show Act.put _ (some 44) _ = _; simp only [Own.ps]; rfl
    refine pure_ (i := 12) (N := some 4) (v := ?_) (a' := ?_) (Own.fl 13 8191) rfl rfl (any_of HT_.out (by kernel_rfl)) (fun _ _ _ h => h) (Or.inl ⟨by rfl, ?_⟩) ?_ ?_; rotate_left; intro w'; go_simp; with_reducible rfl; rotate_left; simp only [Own.ps]; rfl
    refine done_ (done_of HT_.out (by kernel_rfl)) ?_
    try go_wp2
    go_ret
    exact ⟨_, Own.rr, Kd.V_mono (Kd.R_V (by (with_reducible repeat (first | apply Kd.R_alloc | apply Kd.R_drewN | apply Kd.R_drew)); exact Kd.R_mono HO203.out (fun _ hk => hk.1))) (fun k_ hk => by first | exact ⟨(.inr (hk.1)), hk.2⟩ | exact (.inr (hk))), Own.bl⟩
   rw [if_pos c3] at H; replace c3 := decide_eq_true c3
   replace H := Own.ifd H; obtain ⟨c4, H⟩ := H
   by_cases c5 : (Op.bytesLess ((rdOf ByteArray.empty l0 x5_1).toList) a1.toList) = true
   ·
    rw [if_pos c5] at H
    have c5b0 : (Op.bytesLess ((rdOf ByteArray.empty l0 x5_1).toList) a1.toList) = true := c5
    clear c5; have H' := Aside0.mk H; clear H
    have p152 : 0 ≤ (x5_1 : Int) := Own.dp
    have q152 : x5_1 < (l0.length : Int) := Own.dp
    obtain ⟨ad152, e152, hx152_0⟩ := Kd.at_string (Kd.V_reads' HO_0.out).2.2 x5_1 p152 q152; cases e152; replace p152 := eq_true p152; replace q152 := eq_true q152
    go_wp2
    go_roundg k1
    case measure => have := HK1.out; omega
    case rel => exact ⟨(wrap64 (x5_1 + 1)), Own.rs, H', ⟨by have := HK1.out; omega⟩, ⟨Own.vd HO_0.out⟩, ⟨Own.bl⟩⟩
   rw [if_neg c5] at H
   have c5b0 : (Op.bytesLess ((rdOf ByteArray.empty l0 x5_1).toList) a1.toList) = false := by simpa using c5
   clear c5
   by_cases c6 : (rdOf ByteArray.empty l0 x5_1).toList = a1.toList
   ·
    rw [if_pos c6] at H
    have c6b0 : ((rdOf ByteArray.empty l0 x5_1).toList == a1.toList) = true := beq_iff_eq.mpr c6
    have c6b1 : ((rdOf ByteArray.empty l0 x5_1).toList != a1.toList) = false := bne_eq_false_iff_eq.mpr c6
    clear c6; obtain rfl := Option.some.inj H
    have p152 : 0 ≤ (x5_1 : Int) := Own.dp
    have q152 : x5_1 < (l0.length : Int) := Own.dp
    obtain ⟨ad152, e152, hx152_0⟩ := Kd.at_string (Kd.V_reads' HO_0.out).2.2 x5_1 p152 q152; cases e152; replace p152 := eq_true p152; replace q152 := eq_true q152
    have p153 : 0 ≤ (x5_1 : Int) := Own.dp
    have q153 : x5_1 < (l0.length : Int) := Own.dp
    obtain ⟨ad153, e153, hx153_0⟩ := Kd.at_string (Kd.V_reads' HO_0.out).2.2 x5_1 p153 q153
    obtain rfl : ad152 = ad153 := (by injection e153)
    replace p153 := eq_true p153; replace q153 := eq_true q153
    go_wp2
    go_ret
    exact ⟨_, Own.rr, Own.vd HO_0.out, Own.bl⟩
   rw [if_neg c6] at H
   have c6b0 : ((rdOf ByteArray.empty l0 x5_1).toList == a1.toList) = false := beq_eq_false_iff_ne.mpr c6
   have c6b1 : ((rdOf ByteArray.empty l0 x5_1).toList != a1.toList) = true := bne_iff_ne.mpr c6
   obtain ⟨y154, hy154⟩ : ∃ y_ : List ByteArray, y_ = (([] : List ByteArray)) := ⟨_, rfl⟩
   replace H : (if x5_1 ≤ (l0.length : Int) then ((some (l0.take (x5_1 : Int).toNat : List ByteArray)).bind fun y157 => (if y154.length + y157.length < 8796093022208 then ((some (y154 ++ y157 : List ByteArray)).bind fun y162 => ((some (([a1] : List ByteArray) : List ByteArray)).bind fun y165 => (if y162.length + y165.length < 8796093022208 then ((some (y162 ++ y165 : List ByteArray)).bind fun y168 => ((some (l0.drop (x5_1 : Int).toNat : List ByteArray)).bind fun y171 => (if y168.length + y171.length < 8796093022208 then (some (y168 ++ y171)) else (none)))) else (none)))) else (none))) else (none)) = some r := by first | (rw [hy154]; with_reducible exact H) | (have H2_ := (Option.bind_some _ _).symm.trans H; rw [hy154]; with_reducible exact H2_) | (have H2_ := (Option.bind_some _ _).symm.trans H; with_reducible exact H2_) | with_reducible exact H | (rw [hy154]; exact H) | exact H
   have Ny154 := Aside0.mk hy154; clear hy154
   have c7b0 := eq_true (Own.dp : 0 ≤ x5_1)
   replace H := Own.ifn H; obtain ⟨c8, H⟩ := H; have c8b0 := eq_true c8
   have c8b1 : decide (x5_1 ≤ (l0.length : Int)) = true := decide_eq_true c8
   clear c8
   obtain ⟨y157, hy157⟩ : ∃ y_ : List ByteArray, y_ = (l0.take (x5_1 : Int).toNat) := ⟨_, rfl⟩
   replace H : (if y154.length + y157.length < 8796093022208 then ((some (y154 ++ y157 : List ByteArray)).bind fun y162 => ((some (([a1] : List ByteArray) : List ByteArray)).bind fun y165 => (if y162.length + y165.length < 8796093022208 then ((some (y162 ++ y165 : List ByteArray)).bind fun y168 => ((some (l0.drop (x5_1 : Int).toNat : List ByteArray)).bind fun y171 => (if y168.length + y171.length < 8796093022208 then (some (y168 ++ y171)) else (none)))) else (none)))) else (none)) = some r := by first | (rw [hy157]; with_reducible exact H) | (have H2_ := (Option.bind_some _ _).symm.trans H; rw [hy157]; with_reducible exact H2_) | (have H2_ := (Option.bind_some _ _).symm.trans H; with_reducible exact H2_) | with_reducible exact H | (rw [hy157]; exact H) | exact H
   have Ny157 := Aside0.mk hy157; clear hy157
   replace H := Own.ifn H; obtain ⟨c9, H⟩ := H; have LMc9 := Aside0.mk c9; clear c9
   obtain ⟨y162, hy162⟩ : ∃ y_ : List ByteArray, y_ = (y154 ++ y157) := ⟨_, rfl⟩
   replace H : ((some (([a1] : List ByteArray) : List ByteArray)).bind fun y165 => (if y162.length + y165.length < 8796093022208 then ((some (y162 ++ y165 : List ByteArray)).bind fun y168 => ((some (l0.drop (x5_1 : Int).toNat : List ByteArray)).bind fun y171 => (if y168.length + y171.length < 8796093022208 then (some (y168 ++ y171)) else (none)))) else (none))) = some r := by first | (rw [hy162]; with_reducible exact H) | (have H2_ := (Option.bind_some _ _).symm.trans H; rw [hy162]; with_reducible exact H2_) | (have H2_ := (Option.bind_some _ _).symm.trans H; with_reducible exact H2_) | with_reducible exact H | (rw [hy162]; exact H) | exact H
   have Ny162 := Aside0.mk hy162; clear hy162
   obtain ⟨y165, hy165⟩ : ∃ y_ : List ByteArray, y_ = (([a1] : List ByteArray)) := ⟨_, rfl⟩
   replace H : (if y162.length + y165.length < 8796093022208 then ((some (y162 ++ y165 : List ByteArray)).bind fun y168 => ((some (l0.drop (x5_1 : Int).toNat : List ByteArray)).bind fun y171 => (if y168.length + y171.length < 8796093022208 then (some (y168 ++ y171)) else (none)))) else (none)) = some r := by first | (rw [hy165]; with_reducible exact H) | (have H2_ := (Option.bind_some _ _).symm.trans H; rw [hy165]; with_reducible exact H2_) | (have H2_ := (Option.bind_some _ _).symm.trans H; with_reducible exact H2_) | with_reducible exact H | (rw [hy165]; exact H) | exact H
   have Ny165 := Aside0.mk hy165; clear hy165
   replace H := Own.ifn H; obtain ⟨c10, H⟩ := H; have LMc10 := Aside0.mk c10; clear c10
   obtain ⟨y168, hy168⟩ : ∃ y_ : List ByteArray, y_ = (y162 ++ y165) := ⟨_, rfl⟩
   replace H : ((some (l0.drop (x5_1 : Int).toNat : List ByteArray)).bind fun y171 => (if y168.length + y171.length < 8796093022208 then (some (y168 ++ y171)) else (none))) = some r := by first | (rw [hy168]; with_reducible exact H) | (have H2_ := (Option.bind_some _ _).symm.trans H; rw [hy168]; with_reducible exact H2_) | (have H2_ := (Option.bind_some _ _).symm.trans H; with_reducible exact H2_) | with_reducible exact H | (rw [hy168]; exact H) | exact H
   have Ny168 := Aside0.mk hy168; clear hy168
   have c11b0 := eq_true (Own.dp : 0 ≤ x5_1)
   have c12b0 := eq_true (Own.dp : x5_1 ≤ (l0.length : Int))
   obtain ⟨y171, hy171⟩ : ∃ y_ : List ByteArray, y_ = (l0.drop (x5_1 : Int).toNat) := ⟨_, rfl⟩
   replace H : (if y168.length + y171.length < 8796093022208 then (some (y168 ++ y171)) else (none)) = some r := by first | (rw [hy171]; with_reducible exact H) | (have H2_ := (Option.bind_some _ _).symm.trans H; rw [hy171]; with_reducible exact H2_) | (have H2_ := (Option.bind_some _ _).symm.trans H; with_reducible exact H2_) | with_reducible exact H | (rw [hy171]; exact H) | exact H
   have Ny171 := Aside0.mk hy171; clear hy171
   replace H := Own.ifn H; obtain ⟨c13, H⟩ := H; have LMc13 := Aside0.mk c13; clear c13
   obtain ⟨y176, hy176⟩ : ∃ y_ : List ByteArray, y_ = (y168 ++ y171) := ⟨_, rfl⟩
   replace H : (some y176) = some r := by first | (rw [hy176]; with_reducible exact H) | (have H2_ := (Option.bind_some _ _).symm.trans H; rw [hy176]; with_reducible exact H2_) | (have H2_ := (Option.bind_some _ _).symm.trans H; with_reducible exact H2_) | with_reducible exact H | (rw [hy176]; exact H) | exact H
   have Ny176 := Aside0.mk hy176; clear hy176; obtain rfl := Option.some.inj H
   have p152 : 0 ≤ (x5_1 : Int) := Own.dp
   have q152 : x5_1 < (l0.length : Int) := Own.dp
   obtain ⟨ad152, e152, hx152_0⟩ := Kd.at_string (Kd.V_reads' HO_0.out).2.2 x5_1 p152 q152; cases e152; replace p152 := eq_true p152; replace q152 := eq_true q152
   have p153 : 0 ≤ (x5_1 : Int) := Own.dp
   have q153 : x5_1 < (l0.length : Int) := Own.dp
   obtain ⟨ad153, e153, hx153_0⟩ := Kd.at_string (Kd.V_reads' HO_0.out).2.2 x5_1 p153 q153
   obtain rfl : ad152 = ad153 := (by injection e153)
   replace p153 := eq_true p153; replace q153 := eq_true q153
   try go_wp2
   have n0_ := Aside0.mk (Kd.V_drew HO_0.out)
   have n1_ := Aside0.mk (below_drew1 HB.out)
   clear HO_0; clear HB; have HO_0 := n0_; have HB := n1_; clear n0_ n1_
   have q15 : (x5_1 : Int) ≤ ((l0.length : Int) : Int) := Own.dp
   obtain ⟨i015, hi015, _, hsz15, _⟩ := info_parts info9
   have hroom15 : l0.length ≤ c0 := (Kd.V_reads' HO_0.out).2.1
   have hC15 : Kd.F Kd.string _ _ (some ad152) l0.length l0 := (Kd.V_at (base := w.heap.size) HO_0.out).2.2
   have hcut15 := cut_to (P := Tryz.prog) 22 9 .i64 Tryz.underlying22 hi015 (some ad152) l0.length c0 x5_1 (Own.dp) q15 hroom15
   have hr15 := Kd.F_take (m := (x5_1 : Int).toNat) hC15 (by omega)
   have hy15 : y157.length = (x5_1 : Int).toNat := (by rw [Ny157.out, List.length_take]; omega)
   rw [← Ny157.out] at hr15; rw [← hy15] at hcut15
   have HO161 := Aside0.mk (show Kd.V Kd.string 9 _ w.heap.size _ (.slice (some ad152) y157.length c0) y157 from Kd.V_mk (by omega) hr15)
   have HC161 := Aside0.mk (show y157.length ≤ c0 from by omega)
   clear hr15 hC15 hroom15 hi015 hsz15; have KY15 := Aside0.mk hy15; clear hy15; replace q15 := eq_true q15
   have q16 : (x5_1 : Int) ≤ ((l0.length : Int) : Int) := Own.dp
   obtain ⟨i016, hi016, _, hsz16, _⟩ := info_parts info9
   have hroom16 : l0.length ≤ c0 := (Kd.V_reads' HO_0.out).2.1
   have hC16 : Kd.F Kd.string _ _ (some ad152) l0.length l0 := (Kd.V_at (base := w.heap.size) HO_0.out).2.2
   have q016 : (0 : Int) ≤ (x5_1 : Int) := Own.dp
   have hcut16 := cut_from (P := Tryz.prog) 22 9 .i64 Tryz.underlying22 hi016 1 hsz16 (some ad152) l0.length c0 x5_1 q016 q16
   have hr16 := Kd.F_cut (m := (x5_1 : Int).toNat) (c := c0) hC16 (by omega) hroom16
   obtain ⟨A16, hA16⟩ : ∃ A1, A1 = (if c0 = (x5_1 : Int).toNat then (some ad152) else ((some ad152) : Option Addr).map (·.add ((x5_1 : Int).toNat * 1))) := ⟨_, rfl⟩
   obtain ⟨c16, hc16⟩ : ∃ c1, c1 = c0 - (x5_1 : Int).toNat := ⟨_, rfl⟩
   have hy16 : y171.length = l0.length - (x5_1 : Int).toNat := (by rw [Ny171.out, List.length_drop] <;> omega)
   rw [show (l0).drop (x5_1 : Int).toNat = y171 from Ny171.out.symm] at hr16
   replace hr16 : Kd.F Kd.string _ _ A16 y171.length y171 := (by rw [hA16]; exact hr16)
   rw [← hy16, ← hA16, ← hc16] at hcut16
   have HO175 := Aside0.mk (show Kd.V Kd.string 9 _ w.heap.size _ (.slice A16 y171.length c16) y171 from Kd.V_mk (by rw [hy16, hc16]; exact Nat.sub_le_sub_right hroom16 _) hr16)
   have HC175 := Aside0.mk (show y171.length ≤ c16 from by rw [hy16, hc16]; exact Nat.sub_le_sub_right hroom16 _)
   clear hr16 hC16 hroom16 hi016 hsz16 hc16; have KY16 := Aside0.mk hy16; have KA16 := Aside0.mk hA16; clear hy16 hA16; replace q16 := eq_true q16
   refine start_ (n := 13) (S := fun w' => True) (ds := []) (Own.fl 13 0) (by kernel_rfl) rfl rfl trivial (fun hHeld => ?_); refine with_tabW spec_l5Put.tab6 spec_l5Put.bits6 (fun HT_ HW_ => ?_)
   generalize wr.drew = w14 at HO_0 HB HO161 HO175 hHeld ⊢
   refine pure_ (i := 1) (N := some 34) (v := ?_) (a' := ?_) (Own.fl 13 2) rfl rfl (any_of HT_.out (by kernel_rfl)) (fun _ _ _ h => h) (Or.inl ⟨by rfl, ?_⟩) ?_ ?_; rotate_left; intro w'; go_simp; with_reducible rfl; rotate_left; simp only [Own.ps]; rfl
   refine pure_ (i := 2) (N := some 35) (v := ?_) (a' := ?_) (Own.fl 13 6) rfl rfl (any_of HT_.out (by kernel_rfl)) (fun _ _ _ h => h) (Or.inl ⟨by rfl, ?_⟩) ?_ ?_; rotate_left; intro w'; go_simp; with_reducible rfl; rotate_left; simp only [Own.ps]; rfl
   refine pure_ (i := 3) (N := some 36) (v := ?_) (a' := ?_) (Own.fl 13 14) rfl rfl (any_of HT_.out (by kernel_rfl)) (fun _ _ _ h => h) (Or.inl ⟨by rfl, ?_⟩) ?_ ?_; rotate_left; intro w'; go_simp; with_reducible rfl; rotate_left; simp only [Own.ps]; rfl
   refine pure_ (i := 5) (N := some 38) (v := ?_) (a' := ?_) (Own.fl 13 46) rfl rfl (any_of HT_.out (by kernel_rfl)) (fun _ _ _ h => h) (Or.inl ⟨by rfl, ?_⟩) ?_ ?_; rotate_left; intro w'; go_simp; with_reducible rfl; rotate_left; simp only [Own.ps]; rfl
   refine pure_ (i := 8) (N := some 41) (v := ?_) (a' := ?_) (Own.fl 13 302) rfl rfl (any_of HT_.out (by kernel_rfl)) (fun _ _ _ h => h) (Or.inl ⟨by rfl, ?_⟩) ?_ ?_; rotate_left; intro w'; go_simp; with_reducible rfl; rotate_left; simp only [Own.ps]; rfl
   refine pure_ (i := 9) (N := some 42) (v := ?_) (a' := ?_) (Own.fl 13 814) rfl rfl (any_of HT_.out (by kernel_rfl)) (fun _ _ _ h => h) (Or.inl ⟨by rfl, ?_⟩) ?_ ?_; rotate_left; intro w'; go_simp; with_reducible rfl; rotate_left; simp only [Own.ps]; rfl
   refine pure_ (i := 10) (N := some 43) (v := ?_) (a' := ?_) (Own.fl 13 1838) rfl rfl (any_of HT_.out (by kernel_rfl)) (fun _ _ _ h => h) (Or.inl ⟨by rfl, ?_⟩) ?_ ?_; rotate_left; intro w'; go_simp; with_reducible rfl; rotate_left; simp only [Own.ps]; rfl
   refine join_ (σ := Value × Value × Value) 3 (Own.fl 13 1919) (fun s_ => [(33, s_.1), (37, s_.2.1), (39, s_.2.2)]) (fun s_ w' => (Kd.V Kd.string 9 w' w.heap.size (fun k_ => (P0_ k_ ∨ w.heap.size ≤ k_) ∧ some k_ ≠ (s_.2.1 : Value).ownBlock ∧ some k_ ≠ (s_.2.2 : Value).ownBlock) (.slice (some ad152) y157.length c0) y157) ∧ (Kd.R Kd.string 9 w' w.heap.size (fun k_ => (w.heap.size ≤ k_) ∧ some k_ ≠ (s_.2.2 : Value).ownBlock) s_.2.1 y162) ∧ (Kd.R Kd.string 9 w' w.heap.size (fun k_ => (w.heap.size ≤ k_) ∧ some k_ ≠ (s_.2.1 : Value).ownBlock) s_.2.2 y165) ∧ (Kd.V Kd.string 9 w' w.heap.size (fun k_ => (P0_ k_ ∨ w.heap.size ≤ k_) ∧ some k_ ≠ (s_.2.1 : Value).ownBlock ∧ some k_ ≠ (s_.2.2 : Value).ownBlock) (.slice A16 y171.length c16) y171) ∧ (Kd.V Kd.string 9 w' w.heap.size (fun k_ => (P0_ k_ ∨ w.heap.size ≤ k_) ∧ some k_ ≠ (s_.2.1 : Value).ownBlock ∧ some k_ ≠ (s_.2.2 : Value).ownBlock) (.slice (some ad152) l0.length c0) l0) ∧ (Below w.heap.size w w')) ?_ ?_
   rotate_left
   ·
    intro hCont
    refine two_ (i := 0) (j := 6) (Ni := some 33) (Nj := some 39) (Own.fl 13 1839) (Own.fl 13 1902) rfl rfl rfl rfl (two_of HT_.out (by kernel_rfl)) (by decide) (by decide) (fun K hK => ?_) (fun K hK => ?_)
    ·
     skip
     refine Kd.R_lit_step Kd.string _ 9 ?hg (N := 33) ?hd (xs := ([] : List ByteArray)) (inner := []) (ok := fun _ => True) (okp := fun _ => True) ?hr ?hp (fun _ hk => hk) trivial (Below.refl _ _) (Nat.le_refl _) (by simp) ?_; (case hd => rfl); (case hg => rfl); (case hr => first | (go_simp; done) | (go_simp; rfl)); (case hp => exact (Reps.none _ _))
     intro v155 w17 ho18 hb hg_ hnew_; clear hg_ hnew_
     (first | rw [← Ny154.out] at ho18 | (simp only [Int.reduceToNat] at ho18; rw [← Ny154.out] at ho18))
     have n0_ := Aside0.mk (Kd.V_elder' (Own.vd HO_0.out) (Kd.R_base ho18) hb)
     have n1_ := Aside0.mk (Kd.V_elder' (Own.vd HO161.out) (Kd.R_base ho18) hb)
     have n2_ := Aside0.mk (Kd.V_elder' (Own.vd HO175.out) (Kd.R_base ho18) hb)
     have n3_ := Aside0.mk (Kd.R_lower (Kd.R_newM (M := fun k_ => (w.heap.size ≤ k_)) ho18 (below_size Own.bl) (fun k_ h_ => h_)) (below_size Own.bl))
     have n4_ := Own.bs hb; clear HO_0; clear HO161; clear HO175; clear HB; have HO_0 := n0_; have HO161 := n1_; have HO175 := n2_; have HO156 := n3_; have HB := n4_; clear n0_ n1_ n2_ n3_ n4_; clear hb ho18
     refine hK.out _ _ trivial (fun hHeld => ?_)
     clear hK K; refine norm_ (a' := ?_) ?_ ?_; rotate_left; show Act.put _ (some 33) _ = _; simp only [Own.ps]; rfl
     refine two_ (i := 4) (j := 6) (Ni := some 37) (Nj := some 39) (Own.fl 13 1855) (Own.fl 13 1903) rfl rfl rfl rfl (two_of HT_.out (by kernel_rfl)) (by decide) (by decide) (fun K hK => ?_) (fun K hK => ?_)
     ·
      skip
      refine Kd.R_append_rows_step Kd.string (w0 := w) w.heap.size (by rfl) (.tmp 33) (.tmp 36) 22 9 (.string ⟨#[]⟩) 16 rfl Tryz.underlying22 info9 rfl (by decide) (by omega) v155 y154 y157 _ _ _ (fun k_ => (w.heap.size ≤ k_)) (fun _ => False) rfl rfl ?aO ?aR (fun _ _ h => h) (fun _ h => h.elim) ?aF ?aB ?aS ?aL ?_
      (case aR => repeat (first | exact (Kd.V_reads' HO161.out).2.2 | (with_reducible refine Kd.C_alloc ?_ _) | (with_reducible refine Kd.C_drewN ?_ _) | (with_reducible refine Kd.C_drew ?_)))
      (case aB => exact Own.bl)
      (case aF => exact (fun k_ hk => (Nat.le_trans (below_size Own.bl) hk)))
      (case aO => exact (by (with_reducible repeat (first | apply Kd.R_alloc | apply Kd.R_drewN | apply Kd.R_drew)); exact Kd.R_mono HO156.out (fun _ hk => hk.1)))
      (case aS => exact (below_size Own.bl))
      (case aL => have := LMc9.out; omega)
      intro v163 w19 ho hb hg hat; rw [← Ny162.out] at ho
      have n0_ := Aside0.mk (Kd.V_afterv (ok := (fun k_ => (P0_ k_ ∨ w.heap.size ≤ k_))) (Own.vd HO_0.out) hg hat)
      have n1_ := Aside0.mk (Kd.V_afterv (ok := (fun k_ => (P0_ k_ ∨ w.heap.size ≤ k_))) (Own.vd HO161.out) hg hat)
      have n2_ := Aside0.mk (Kd.V_afterv (ok := (fun k_ => (P0_ k_ ∨ w.heap.size ≤ k_))) (Own.vd HO175.out) hg hat)
      have n3_ := Aside0.mk (hb)
      have n4_ := Aside0.mk (ho)
      clear HO_0; clear HO161; clear HO175; clear HB; clear HO156; have HO_0 := n0_; have HO161 := n1_; have HO175 := n2_; have HB := n3_; have HO164 := n4_; clear n0_ n1_ n2_ n3_ n4_; clear ho hb hg hat
      refine hK.out _ _ trivial (fun hHeld => ?_)
      clear hK K; refine norm_ (a' := ?_) ?_ ?_; rotate_left; show Act.put _ (some 37) _ = _; simp only [Own.ps]; rfl
      refine one_ (i := 6) (N := some 39) (Own.fl 13 1919) rfl rfl (one_of HT_.out (by kernel_rfl)) (by decide) (fun K hK => ?_)
      refine Kd.R_lit_step Kd.string _ 9 ?hg (N := 39) ?hd (xs := ([a1] : List ByteArray)) (inner := [.string a1]) (ok := fun _ => True) (okp := fun _ => True) ?hr ?hp (fun _ hk => hk) trivial (Below.refl _ _) (Nat.le_refl _) (by simp) ?_; (case hd => rfl); (case hg => rfl); (case hr => first | (go_simp; done) | (go_simp; rfl)); (case hp => exact (Reps.one (show Kd.M Kd.string _ _ _ a1 [.string a1] from rfl) (Reps.none _ _)))
      intro v166 w20 ho21 hb hg_ hnew_; clear hg_ hnew_
      (first | rw [← Ny165.out] at ho21 | (simp only [Int.reduceToNat] at ho21; rw [← Ny165.out] at ho21))
      have n0_ := Aside0.mk (Kd.V_elder' (Own.vd HO_0.out) (Kd.R_base ho21) hb)
      have n1_ := Aside0.mk (Kd.V_elder' (Own.vd HO161.out) (Kd.R_base ho21) hb)
      have n2_ := Aside0.mk (Kd.V_elder' (Own.vd HO175.out) (Kd.R_base ho21) hb)
      have n3_ := Aside0.mk (Kd.R_elder' (Own.rd HO164.out) (Kd.R_base ho21) hb)
      have n4_ := Aside0.mk (Kd.R_lower (Kd.R_new' (Kd.R_newM (M := fun k_ => (w.heap.size ≤ k_)) ho21 (below_size Own.bl) (fun k_ h_ => h_)) (Kd.R_lt (Own.rd HO164.out))) (below_size Own.bl))
      have n5_ := Own.bs hb; clear HO_0; clear HO161; clear HO175; clear HO164; clear HB; have HO_0 := n0_; have HO161 := n1_; have HO175 := n2_; have HO164 := n3_; have HO167 := n4_; have HB := n5_; clear n0_ n1_ n2_ n3_ n4_ n5_; clear hb ho21
      refine hK.out _ _ trivial (fun hHeld => ?_)
      clear hK K; refine norm_ (a' := ?_) ?_ ?_; rotate_left; show Act.put _ (some 39) _ = _; simp only [Own.ps]; rfl
      exact norm_ (by simp only [putAll, Act.put, List.setIfInBounds_toArray, List.set_cons_zero, List.set_cons_succ]) (hCont (v155, v163, v166) _ ⟨(by (with_reducible repeat (first | apply Kd.V_alloc | apply Kd.V_drewN | apply Kd.V_drew)); exact Kd.V_mono HO161.out (fun _ hk => ⟨hk.1.1, ⟨hk.1.2, hk.2⟩⟩)), (Own.rd HO164.out), (by (with_reducible repeat (first | apply Kd.R_alloc | apply Kd.R_drewN | apply Kd.R_drew)); exact Kd.R_mono HO167.out (fun _ hk => ⟨hk.1.1, hk.2⟩)), (by (with_reducible repeat (first | apply Kd.V_alloc | apply Kd.V_drewN | apply Kd.V_drew)); exact Kd.V_mono HO175.out (fun _ hk => ⟨hk.1.1, ⟨hk.1.2, hk.2⟩⟩)), (by (with_reducible repeat (first | apply Kd.V_alloc | apply Kd.V_drewN | apply Kd.V_drew)); exact Kd.V_mono HO_0.out (fun _ hk => ⟨hk.1.1, ⟨hk.1.2, hk.2⟩⟩)), Own.bl⟩)
     ·
      skip
      refine Kd.R_lit_step Kd.string _ 9 ?hg (N := 39) ?hd (xs := ([a1] : List ByteArray)) (inner := [.string a1]) (ok := fun _ => True) (okp := fun _ => True) ?hr ?hp (fun _ hk => hk) trivial (Below.refl _ _) (Nat.le_refl _) (by simp) ?_; (case hd => rfl); (case hg => rfl); (case hr => first | (go_simp; done) | (go_simp; rfl)); (case hp => exact (Reps.one (show Kd.M Kd.string _ _ _ a1 [.string a1] from rfl) (Reps.none _ _)))
      intro v166 w19 ho20 hb hg_ hnew_; clear hg_ hnew_
      (first | rw [← Ny165.out] at ho20 | (simp only [Int.reduceToNat] at ho20; rw [← Ny165.out] at ho20))
      have n0_ := Aside0.mk (Kd.V_elder' (Own.vd HO_0.out) (Kd.R_base ho20) hb)
      have n1_ := Aside0.mk (Kd.V_elder' (Own.vd HO161.out) (Kd.R_base ho20) hb)
      have n2_ := Aside0.mk (Kd.V_elder' (Own.vd HO175.out) (Kd.R_base ho20) hb)
      have n3_ := Aside0.mk (Kd.R_elder' (Own.rd HO156.out) (Kd.R_base ho20) hb)
      have n4_ := Aside0.mk (Kd.R_lower (Kd.R_new' (Kd.R_newM (M := fun k_ => (w.heap.size ≤ k_)) ho20 (below_size Own.bl) (fun k_ h_ => h_)) (Kd.R_lt (Own.rd HO156.out))) (below_size Own.bl))
      have n5_ := Own.bs hb; clear HO_0; clear HO161; clear HO175; clear HO156; clear HB; have HO_0 := n0_; have HO161 := n1_; have HO175 := n2_; have HO156 := n3_; have HO167 := n4_; have HB := n5_; clear n0_ n1_ n2_ n3_ n4_ n5_; clear hb ho20
      refine hK.out _ _ trivial (fun hHeld => ?_)
      clear hK K; refine norm_ (a' := ?_) ?_ ?_; rotate_left; show Act.put _ (some 39) _ = _; simp only [Own.ps]; rfl
      refine one_ (i := 4) (N := some 37) (Own.fl 13 1919) rfl rfl (one_of HT_.out (by kernel_rfl)) (by decide) (fun K hK => ?_)
      refine Kd.R_append_rows_step Kd.string (w0 := w) w.heap.size (by rfl) (.tmp 33) (.tmp 36) 22 9 (.string ⟨#[]⟩) 16 rfl Tryz.underlying22 info9 rfl (by decide) (by omega) v155 y154 y157 _ _ _ (fun k_ => (w.heap.size ≤ k_) ∧ some k_ ≠ (v166 : Value).ownBlock) (fun _ => False) rfl rfl ?aO ?aR (fun _ _ h => h) (fun _ h => h.elim) ?aF ?aB ?aS ?aL ?_
      (case aR => repeat (first | exact (Kd.V_reads' HO161.out).2.2 | (with_reducible refine Kd.C_alloc ?_ _) | (with_reducible refine Kd.C_drewN ?_ _) | (with_reducible refine Kd.C_drew ?_)))
      (case aB => exact Own.bl)
      (case aF => exact (fun k_ hk => ⟨(Nat.le_trans (below_size Own.bl) hk), Kd.fresh' (Kd.R_lt (Own.rd HO167.out)) k_ hk⟩))
      (case aO => exact (by (with_reducible repeat (first | apply Kd.R_alloc | apply Kd.R_drewN | apply Kd.R_drew)); exact Kd.R_mono HO156.out (fun _ hk => ⟨hk.1.1, hk.2⟩)))
      (case aS => exact (below_size Own.bl))
      (case aL => have := LMc9.out; omega)
      intro v163 w21 ho hb hg hat; rw [← Ny162.out] at ho
      have n0_ := Aside0.mk (Kd.V_afterv (ok := (fun k_ => (P0_ k_ ∨ w.heap.size ≤ k_) ∧ some k_ ≠ (v166 : Value).ownBlock)) (by (with_reducible repeat (first | apply Kd.V_alloc | apply Kd.V_drewN | apply Kd.V_drew)); exact Kd.V_mono HO_0.out (fun _ hk => ⟨⟨hk.1.1, hk.2⟩, hk.1.2⟩)) hg hat)
      have n1_ := Aside0.mk (Kd.V_afterv (ok := (fun k_ => (P0_ k_ ∨ w.heap.size ≤ k_) ∧ some k_ ≠ (v166 : Value).ownBlock)) (by (with_reducible repeat (first | apply Kd.V_alloc | apply Kd.V_drewN | apply Kd.V_drew)); exact Kd.V_mono HO161.out (fun _ hk => ⟨⟨hk.1.1, hk.2⟩, hk.1.2⟩)) hg hat)
      have n2_ := Aside0.mk (Kd.V_afterv (ok := (fun k_ => (P0_ k_ ∨ w.heap.size ≤ k_) ∧ some k_ ≠ (v166 : Value).ownBlock)) (by (with_reducible repeat (first | apply Kd.V_alloc | apply Kd.V_drewN | apply Kd.V_drew)); exact Kd.V_mono HO175.out (fun _ hk => ⟨⟨hk.1.1, hk.2⟩, hk.1.2⟩)) hg hat)
      have n3_ := Aside0.mk (Kd.R_after (ok := (fun k_ => (w.heap.size ≤ k_))) (by (with_reducible repeat (first | apply Kd.R_alloc | apply Kd.R_drewN | apply Kd.R_drew)); exact Kd.R_mono HO167.out (fun _ hk => ⟨hk.1.1, hk.2⟩)) hg hat)
      have n4_ := Aside0.mk (hb)
      have n5_ := Aside0.mk (ho)
      clear HO_0; clear HO161; clear HO175; clear HO167; clear HB; clear HO156; have HO_0 := n0_; have HO161 := n1_; have HO175 := n2_; have HO167 := n3_; have HB := n4_; have HO164 := n5_; clear n0_ n1_ n2_ n3_ n4_ n5_; clear ho hb hg hat
      refine hK.out _ _ trivial (fun hHeld => ?_)
      clear hK K; refine norm_ (a' := ?_) ?_ ?_; rotate_left; show Act.put _ (some 37) _ = _; simp only [Own.ps]; rfl
      exact norm_ (by simp only [putAll, Act.put, List.setIfInBounds_toArray, List.set_cons_zero, List.set_cons_succ]) (hCont (v155, v163, v166) _ ⟨(by (with_reducible repeat (first | apply Kd.V_alloc | apply Kd.V_drewN | apply Kd.V_drew)); exact Kd.V_mono HO161.out (fun _ hk => ⟨hk.1.1, ⟨hk.2, hk.1.2⟩⟩)), (Own.rd HO164.out), (Own.rd HO167.out), (by (with_reducible repeat (first | apply Kd.V_alloc | apply Kd.V_drewN | apply Kd.V_drew)); exact Kd.V_mono HO175.out (fun _ hk => ⟨hk.1.1, ⟨hk.2, hk.1.2⟩⟩)), (by (with_reducible repeat (first | apply Kd.V_alloc | apply Kd.V_drewN | apply Kd.V_drew)); exact Kd.V_mono HO_0.out (fun _ hk => ⟨hk.1.1, ⟨hk.2, hk.1.2⟩⟩)), Own.bl⟩)
    ·
     skip
     refine Kd.R_lit_step Kd.string _ 9 ?hg (N := 39) ?hd (xs := ([a1] : List ByteArray)) (inner := [.string a1]) (ok := fun _ => True) (okp := fun _ => True) ?hr ?hp (fun _ hk => hk) trivial (Below.refl _ _) (Nat.le_refl _) (by simp) ?_; (case hd => rfl); (case hg => rfl); (case hr => first | (go_simp; done) | (go_simp; rfl)); (case hp => exact (Reps.one (show Kd.M Kd.string _ _ _ a1 [.string a1] from rfl) (Reps.none _ _)))
     intro v166 w17 ho18 hb hg_ hnew_; clear hg_ hnew_
     (first | rw [← Ny165.out] at ho18 | (simp only [Int.reduceToNat] at ho18; rw [← Ny165.out] at ho18))
     have n0_ := Aside0.mk (Kd.V_elder' (Own.vd HO_0.out) (Kd.R_base ho18) hb)
     have n1_ := Aside0.mk (Kd.V_elder' (Own.vd HO161.out) (Kd.R_base ho18) hb)
     have n2_ := Aside0.mk (Kd.V_elder' (Own.vd HO175.out) (Kd.R_base ho18) hb)
     have n3_ := Aside0.mk (Kd.R_lower (Kd.R_newM (M := fun k_ => (w.heap.size ≤ k_)) ho18 (below_size Own.bl) (fun k_ h_ => h_)) (below_size Own.bl))
     have n4_ := Own.bs hb; clear HO_0; clear HO161; clear HO175; clear HB; have HO_0 := n0_; have HO161 := n1_; have HO175 := n2_; have HO167 := n3_; have HB := n4_; clear n0_ n1_ n2_ n3_ n4_; clear hb ho18
     refine hK.out _ _ trivial (fun hHeld => ?_)
     clear hK K; refine norm_ (a' := ?_) ?_ ?_; rotate_left; show Act.put _ (some 39) _ = _; simp only [Own.ps]; rfl
     refine one_ (i := 0) (N := some 33) (Own.fl 13 1903) rfl rfl (one_of HT_.out (by kernel_rfl)) (by decide) (fun K hK => ?_)
     refine Kd.R_lit_step Kd.string _ 9 ?hg (N := 33) ?hd (xs := ([] : List ByteArray)) (inner := []) (ok := fun _ => True) (okp := fun _ => True) ?hr ?hp (fun _ hk => hk) trivial (Below.refl _ _) (Nat.le_refl _) (by simp) ?_; (case hd => rfl); (case hg => rfl); (case hr => first | (go_simp; done) | (go_simp; rfl)); (case hp => exact (Reps.none _ _))
     intro v155 w19 ho20 hb hg_ hnew_; clear hg_ hnew_
     (first | rw [← Ny154.out] at ho20 | (simp only [Int.reduceToNat] at ho20; rw [← Ny154.out] at ho20))
     have n0_ := Aside0.mk (Kd.V_elder' (Own.vd HO_0.out) (Kd.R_base ho20) hb)
     have n1_ := Aside0.mk (Kd.V_elder' (Own.vd HO161.out) (Kd.R_base ho20) hb)
     have n2_ := Aside0.mk (Kd.V_elder' (Own.vd HO175.out) (Kd.R_base ho20) hb)
     have n3_ := Aside0.mk (Kd.R_elder' (Own.rd HO167.out) (Kd.R_base ho20) hb)
     have n4_ := Aside0.mk (Kd.R_lower (Kd.R_new' (Kd.R_newM (M := fun k_ => (w.heap.size ≤ k_)) ho20 (below_size Own.bl) (fun k_ h_ => h_)) (Kd.R_lt (Own.rd HO167.out))) (below_size Own.bl))
     have n5_ := Own.bs hb; clear HO_0; clear HO161; clear HO175; clear HO167; clear HB; have HO_0 := n0_; have HO161 := n1_; have HO175 := n2_; have HO167 := n3_; have HO156 := n4_; have HB := n5_; clear n0_ n1_ n2_ n3_ n4_ n5_; clear hb ho20
     refine hK.out _ _ trivial (fun hHeld => ?_)
     clear hK K; refine norm_ (a' := ?_) ?_ ?_; rotate_left; show Act.put _ (some 33) _ = _; simp only [Own.ps]; rfl
     refine one_ (i := 4) (N := some 37) (Own.fl 13 1919) rfl rfl (one_of HT_.out (by kernel_rfl)) (by decide) (fun K hK => ?_)
     refine Kd.R_append_rows_step Kd.string (w0 := w) w.heap.size (by rfl) (.tmp 33) (.tmp 36) 22 9 (.string ⟨#[]⟩) 16 rfl Tryz.underlying22 info9 rfl (by decide) (by omega) v155 y154 y157 _ _ _ (fun k_ => (w.heap.size ≤ k_) ∧ some k_ ≠ (v166 : Value).ownBlock) (fun _ => False) rfl rfl ?aO ?aR (fun _ _ h => h) (fun _ h => h.elim) ?aF ?aB ?aS ?aL ?_
     (case aR => repeat (first | exact (Kd.V_reads' HO161.out).2.2 | (with_reducible refine Kd.C_alloc ?_ _) | (with_reducible refine Kd.C_drewN ?_ _) | (with_reducible refine Kd.C_drew ?_)))
     (case aB => exact Own.bl)
     (case aF => exact (fun k_ hk => ⟨(Nat.le_trans (below_size Own.bl) hk), Kd.fresh' (Kd.R_lt (Own.rd HO167.out)) k_ hk⟩))
     (case aO => exact (by (with_reducible repeat (first | apply Kd.R_alloc | apply Kd.R_drewN | apply Kd.R_drew)); exact Kd.R_mono HO156.out (fun _ hk => ⟨hk.1.1, hk.2⟩)))
     (case aS => exact (below_size Own.bl))
     (case aL => have := LMc9.out; omega)
     intro v163 w21 ho hb hg hat; rw [← Ny162.out] at ho
     have n0_ := Aside0.mk (Kd.V_afterv (ok := (fun k_ => (P0_ k_ ∨ w.heap.size ≤ k_) ∧ some k_ ≠ (v166 : Value).ownBlock)) (Own.vd HO_0.out) hg hat)
     have n1_ := Aside0.mk (Kd.V_afterv (ok := (fun k_ => (P0_ k_ ∨ w.heap.size ≤ k_) ∧ some k_ ≠ (v166 : Value).ownBlock)) (Own.vd HO161.out) hg hat)
     have n2_ := Aside0.mk (Kd.V_afterv (ok := (fun k_ => (P0_ k_ ∨ w.heap.size ≤ k_) ∧ some k_ ≠ (v166 : Value).ownBlock)) (Own.vd HO175.out) hg hat)
     have n3_ := Aside0.mk (Kd.R_after (ok := (fun k_ => (w.heap.size ≤ k_))) (by (with_reducible repeat (first | apply Kd.R_alloc | apply Kd.R_drewN | apply Kd.R_drew)); exact Kd.R_mono HO167.out (fun _ hk => ⟨hk.1.1, hk.2⟩)) hg hat)
     have n4_ := Aside0.mk (hb)
     have n5_ := Aside0.mk (ho)
     clear HO_0; clear HO161; clear HO175; clear HO167; clear HB; clear HO156; have HO_0 := n0_; have HO161 := n1_; have HO175 := n2_; have HO167 := n3_; have HB := n4_; have HO164 := n5_; clear n0_ n1_ n2_ n3_ n4_ n5_; clear ho hb hg hat
     refine hK.out _ _ trivial (fun hHeld => ?_)
     clear hK K; refine norm_ (a' := ?_) ?_ ?_; rotate_left; show Act.put _ (some 37) _ = _; simp only [Own.ps]; rfl
     exact norm_ (by simp only [putAll, Act.put, List.setIfInBounds_toArray, List.set_cons_zero, List.set_cons_succ]) (hCont (v155, v163, v166) _ ⟨(by (with_reducible repeat (first | apply Kd.V_alloc | apply Kd.V_drewN | apply Kd.V_drew)); exact Kd.V_mono HO161.out (fun _ hk => ⟨hk.1.1, ⟨hk.2, hk.1.2⟩⟩)), (Own.rd HO164.out), (Own.rd HO167.out), (by (with_reducible repeat (first | apply Kd.V_alloc | apply Kd.V_drewN | apply Kd.V_drew)); exact Kd.V_mono HO175.out (fun _ hk => ⟨hk.1.1, ⟨hk.2, hk.1.2⟩⟩)), (by (with_reducible repeat (first | apply Kd.V_alloc | apply Kd.V_drewN | apply Kd.V_drew)); exact Kd.V_mono HO_0.out (fun _ hk => ⟨hk.1.1, ⟨hk.2, hk.1.2⟩⟩)), Own.bl⟩)
   rintro ⟨v155, v163, v166⟩ w22 ⟨h0_, h1_, h2_, h3_, h4_, h5_⟩
   have n0_ : Aside0 (Kd.V Kd.string 9 w22 w.heap.size (fun k_ => (P0_ k_ ∨ w.heap.size ≤ k_) ∧ some k_ ≠ (v163 : Value).ownBlock ∧ some k_ ≠ (v166 : Value).ownBlock) (.slice (some ad152) y157.length c0) y157) := ⟨h0_⟩
   have n1_ : Aside0 (Kd.R Kd.string 9 w22 w.heap.size (fun k_ => (w.heap.size ≤ k_) ∧ some k_ ≠ (v166 : Value).ownBlock) v163 y162) := ⟨h1_⟩
   have n2_ : Aside0 (Kd.R Kd.string 9 w22 w.heap.size (fun k_ => (w.heap.size ≤ k_) ∧ some k_ ≠ (v163 : Value).ownBlock) v166 y165) := ⟨h2_⟩
   have n3_ : Aside0 (Kd.V Kd.string 9 w22 w.heap.size (fun k_ => (P0_ k_ ∨ w.heap.size ≤ k_) ∧ some k_ ≠ (v163 : Value).ownBlock ∧ some k_ ≠ (v166 : Value).ownBlock) (.slice A16 y171.length c16) y171) := ⟨h3_⟩
   have n4_ : Aside0 (Kd.V Kd.string 9 w22 w.heap.size (fun k_ => (P0_ k_ ∨ w.heap.size ≤ k_) ∧ some k_ ≠ (v163 : Value).ownBlock ∧ some k_ ≠ (v166 : Value).ownBlock) (.slice (some ad152) l0.length c0) l0) := ⟨h4_⟩
   have n5_ : Aside0 (Below w.heap.size w w22) := ⟨h5_⟩
   clear HO_0; clear HB; clear h0_ h1_ h2_ h3_ h4_ h5_; have HO161 := n0_; have HO164 := n1_; have HO167 := n2_; have HO175 := n3_; have HO_0 := n4_; have HB := n5_; clear n0_ n1_ n2_ n3_ n4_ n5_; have hHeld := trivial; obtain ⟨Ao24, co24, eo24⟩ := Kd.R_slice HO167.out
   (first | subst eo24 | (injection eo24 with f1_ f2_ f3_; have f4_ := f1_.symm; have f5_ := f3_.symm; clear f1_ f2_ f3_; subst f4_; subst f5_))
   refine norm_ (a' := ?_) ?_ ?_
   rotate_left
   ·
    simp only [putAll, Act.put, List.setIfInBounds_toArray, List.set_cons_zero, List.set_cons_succ]
    rfl
   refine one_ (i := 7) (N := some 40) (Own.fl 13 2047) rfl rfl (one_of HT_.out (by kernel_rfl)) (by decide) (fun K hK => ?_)
   refine Kd.R_append_rows_step Kd.string (w0 := w) w.heap.size (by rfl) (.tmp 37) (.tmp 39) 22 9 (.string ⟨#[]⟩) 16 rfl Tryz.underlying22 info9 rfl (by decide) (by omega) v163 y162 y165 _ _ _ (fun k_ => (w.heap.size ≤ k_) ∧ some k_ ≠ (.slice Ao24 y165.length co24 : Value).ownBlock) (fun _ => False) rfl rfl ?aO ?aR (fun _ _ h => h) (fun _ h => h.elim) ?aF ?aB ?aS ?aL ?_
   (case aR => repeat (first | exact (Kd.R_reads' HO167.out).2.2 | (with_reducible refine Kd.C_alloc ?_ _) | (with_reducible refine Kd.C_drewN ?_ _) | (with_reducible refine Kd.C_drew ?_)))
   (case aB => exact Own.bl)
   (case aF => exact (fun k_ hk => ⟨(Nat.le_trans (below_size Own.bl) hk), Kd.fresh' (Kd.R_lt (Own.rd HO167.out)) k_ hk⟩))
   (case aO => exact (Own.rd HO164.out))
   (case aS => exact (below_size Own.bl))
   (case aL => have := LMc10.out; omega)
   intro v169 w23 ho hb hg hat; rw [← Ny168.out] at ho
   have n0_ := Aside0.mk (Kd.V_afterv (ok := (fun k_ => (P0_ k_ ∨ w.heap.size ≤ k_) ∧ some k_ ≠ (.slice Ao24 y165.length co24 : Value).ownBlock)) (by (with_reducible repeat (first | apply Kd.V_alloc | apply Kd.V_drewN | apply Kd.V_drew)); exact Kd.V_mono HO_0.out (fun _ hk => ⟨⟨hk.1, hk.2.2⟩, hk.2.1⟩)) hg hat)
   have n1_ := Aside0.mk (Kd.V_afterv (ok := (fun k_ => (P0_ k_ ∨ w.heap.size ≤ k_) ∧ some k_ ≠ (.slice Ao24 y165.length co24 : Value).ownBlock)) (by (with_reducible repeat (first | apply Kd.V_alloc | apply Kd.V_drewN | apply Kd.V_drew)); exact Kd.V_mono HO161.out (fun _ hk => ⟨⟨hk.1, hk.2.2⟩, hk.2.1⟩)) hg hat)
   have n2_ := Aside0.mk (Kd.V_afterv (ok := (fun k_ => (P0_ k_ ∨ w.heap.size ≤ k_) ∧ some k_ ≠ (.slice Ao24 y165.length co24 : Value).ownBlock)) (by (with_reducible repeat (first | apply Kd.V_alloc | apply Kd.V_drewN | apply Kd.V_drew)); exact Kd.V_mono HO175.out (fun _ hk => ⟨⟨hk.1, hk.2.2⟩, hk.2.1⟩)) hg hat)
   have n3_ := Aside0.mk (Kd.R_after (ok := (fun k_ => (w.heap.size ≤ k_))) (Own.rd HO167.out) hg hat)
   have n4_ := Aside0.mk (hb)
   have n5_ := Aside0.mk (ho)
   clear HO_0; clear HO161; clear HO175; clear HO167; clear HB; clear HO164; have HO_0 := n0_; have HO161 := n1_; have HO175 := n2_; have HO167 := n3_; have HB := n4_; have HO170 := n5_; clear n0_ n1_ n2_ n3_ n4_ n5_; clear ho hb hg hat
   refine hK.out _ _ trivial (fun hHeld => ?_)
   clear hK K; refine norm_ (a' := ?_) ?_ ?_; rotate_left; show Act.put _ (some 40) _ = _; simp only [Own.ps]; rfl
   refine one_ (i := 11) (N := some 44) (Own.fl 13 4095) rfl rfl (one_of HT_.out (by kernel_rfl)) (by decide) (fun K hK => ?_)
   refine Kd.R_append_rows_step Kd.string (w0 := w) w.heap.size (by rfl) (.tmp 40) (.tmp 43) 22 9 (.string ⟨#[]⟩) 16 rfl Tryz.underlying22 info9 rfl (by decide) (by omega) v169 y168 y171 _ _ _ (fun k_ => (w.heap.size ≤ k_) ∧ some k_ ≠ (.slice Ao24 y165.length co24 : Value).ownBlock) (fun _ => False) rfl rfl ?aO ?aR (fun _ _ h => h) (fun _ h => h.elim) ?aF ?aB ?aS ?aL ?_
   (case aR => repeat (first | exact (Kd.V_reads' HO175.out).2.2 | (with_reducible refine Kd.C_alloc ?_ _) | (with_reducible refine Kd.C_drewN ?_ _) | (with_reducible refine Kd.C_drew ?_)))
   (case aB => exact Own.bl)
   (case aF => exact (fun k_ hk => ⟨(Nat.le_trans (below_size Own.bl) hk), Kd.fresh' (Kd.R_lt (Own.rd HO167.out)) k_ hk⟩))
   (case aO => exact (Own.rd HO170.out))
   (case aS => exact (below_size Own.bl))
   (case aL => have := LMc13.out; omega)
   intro v177 w25 ho hb hg hat; rw [← Ny176.out] at ho
   have n0_ := Aside0.mk (Kd.V_afterv (ok := (fun k_ => (P0_ k_ ∨ w.heap.size ≤ k_) ∧ some k_ ≠ (.slice Ao24 y165.length co24 : Value).ownBlock)) (Own.vd HO_0.out) hg hat)
   have n1_ := Aside0.mk (Kd.V_afterv (ok := (fun k_ => (P0_ k_ ∨ w.heap.size ≤ k_) ∧ some k_ ≠ (.slice Ao24 y165.length co24 : Value).ownBlock)) (Own.vd HO161.out) hg hat)
   have n2_ := Aside0.mk (Kd.V_afterv (ok := (fun k_ => (P0_ k_ ∨ w.heap.size ≤ k_) ∧ some k_ ≠ (.slice Ao24 y165.length co24 : Value).ownBlock)) (Own.vd HO175.out) hg hat)
   have n3_ := Aside0.mk (Kd.R_after (ok := (fun k_ => (w.heap.size ≤ k_))) (Own.rd HO167.out) hg hat)
   have n4_ := Aside0.mk (hb)
   have n5_ := Aside0.mk (ho)
   clear HO_0; clear HO161; clear HO175; clear HO167; clear HB; clear HO170; have HO_0 := n0_; have HO161 := n1_; have HO175 := n2_; have HO167 := n3_; have HB := n4_; have HO178 := n5_; clear n0_ n1_ n2_ n3_ n4_ n5_; clear ho hb hg hat
   refine hK.out _ _ trivial (fun hHeld => ?_)
   clear hK K; refine norm_ (a' := ?_) ?_ ?_; rotate_left; show Act.put _ (some 44) _ = _; simp only [Own.ps]; rfl
   refine pure_ (i := 12) (N := some 4) (v := ?_) (a' := ?_) (Own.fl 13 8191) rfl rfl (any_of HT_.out (by kernel_rfl)) (fun _ _ _ h => h) (Or.inl ⟨by rfl, ?_⟩) ?_ ?_; rotate_left; intro w'; go_simp; with_reducible rfl; rotate_left; simp only [Own.ps]; rfl
   refine done_ (done_of HT_.out (by kernel_rfl)) ?_
   try go_wp2
   go_ret
   exact ⟨_, Own.rr, Kd.V_mono (Kd.R_V (by (with_reducible repeat (first | apply Kd.R_alloc | apply Kd.R_drewN | apply Kd.R_drew)); exact Kd.R_mono HO178.out (fun _ hk => hk.1))) (fun k_ hk => by first | exact ⟨(.inr (hk.1)), hk.2⟩ | exact (.inr (hk))), Own.bl⟩
end Go.Proofs.YtckopglnblcnoaaGreatDoor.QFnExactRemoveClause
