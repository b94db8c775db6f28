-- Written by a program of this session out of the translation; Lean checks it.
import Derived.Test.YtnpenfficbdlmaaDoorProg
import Derived.Below
import Derived.Deep.Draws
import Derived.Deep.AppendLies
import Derived.Maps.AppendAt
import Derived.OwnWalk
import Derived.Laws.BytesArg
import Derived.Laws.MakeOwn
import Derived.Laws.OwnMore
import Derived.Deep.OwnRows
import Derived.Tactics
import Derived.Lib.ConvBytes
import Derived.Laws.Slices
import Derived.WalkKit
import Derived.KernelRfl
import Derived.RowKit3
import Derived.Deep.LoopGhost
import Derived.Deep.QuietTactic
import Derived.BigQuiet
import Derived.WideLaws
import Derived.Deep.DeepCutAuto
import Derived.Deep.CutBlock
import Derived.Deep.RegionHeld3
import Derived.Laws.Rows
import Derived.Lib.AppendStr
import Derived.ArgAppend
import Derived.Laws.IdiomCopy
import Derived.OrdersHeld
import Derived.Laws.BitsLemmas
import Derived.RowKit
import Derived.Test.YtnpenfficbdlmaaDoorOwnW
import Derived.Test.YtnpenfficbdlmaaDoorGlob1
import Derived.Test.YtnpenfficbdlmaaDoorLibD
import Derived.Test.YtnpenfficbdlmaaDoorLibE
import Derived.Test.YtnpenfficbdlmaaDoorVMore
namespace Go.Proofs.YtnpenfficbdlmaaDoor.QFnExactSimplifyCondition
open Go.RowKit Go.Proofs.YtnpenfficbdlmaaDoorW.PrintWords Go.Proofs.YtnpenfficbdlmaaDoorW.PrintLast Go.Proofs.YtnpenfficbdlmaaDoorW.PrintMore
attribute [local go_sem] Instr.field asAgg Own.str_leq Own.str_gtr Own.str_geq
attribute [local go_sem] max2_int min2_int max_two min_two max_three min_three max_four min_four   -- for this text's walks alone
set_option linter.unusedVariables false
set_option linter.unusedSimpArgs false



def errW : Option Int → Value
 | none => .nilIface
 | some c => .iface 0 (.int .i64 c)
theorem errW_none : errW none = .nilIface := rfl
theorem errW_some (c : Int) : errW (some c) = .iface 0 (.int .i64 c) := rfl

theorem info3 : (Tryd.prog.info? 3).map (fun i => (i.zero, i.size, i.bytes)) = some (some (.int .i64 0), 1, 8) := by kernel_rfl
theorem info5 : (Tryd.prog.info? 5).map (fun i => (i.zero, i.size, i.bytes)) = some (some (.int .u8 0), 1, 1) := by kernel_rfl
theorem info28 : (Tryd.prog.info? 28).map (fun i => (i.zero, i.size, i.bytes)) = some (some (.agg #[(.int .i64 0), (.string ⟨#[]⟩), (.int .i64 0), (.slice none 0 0)]), 4, 56) := by kernel_rfl
-- the values' own types
/-! #### struct type 24, nested in itself -/
structure S24 where
 f0 : Int
 f1 : ByteArray
 f2 : Int
 f3 : (List S24)
def z24 : S24 := ⟨(0 : Int), (⟨#[]⟩ : ByteArray), (0 : Int), ([] : List S24)⟩
def F24 (d : Kd S24) : Kd S24 := Kd.iso (Kd.pair (Kd.int .i64) (Kd.pair Kd.string (Kd.pair (Kd.int .i64) (Kd.slice 24 d)))) (fun x : S24 => (x.f0, x.f1, x.f2, x.f3))
theorem mono24 : Kd.Mono F24 := Kd.mono_iso _ (Kd.mono_pair (Kd.mono_const _) (Kd.mono_pair (Kd.mono_const _) (Kd.mono_pair (Kd.mono_const _) (Kd.mono_slice 24 Kd.mono_id))))
theorem sub24 : Kd.Sub F24 [24] := Kd.sub_iso _ (Kd.sub_pair (Kd.sub_const _ (by decide)) (Kd.sub_pair (Kd.sub_const _ (by decide)) (Kd.sub_pair (Kd.sub_const _ (by decide)) (Kd.sub_slice 24 (by decide) Kd.sub_id))))
theorem sz24 : ∀ n, (Kd.upto F24 4 [24] n).sz = 4 := Kd.upto_sz (fun _ => rfl)
def k24 : Kd S24 := Kd.fix F24 4 [24] sz24 (Kd.upto_E sub24)
theorem k24_open {w : World} {x : S24} {cs : List Value} (h : k24.K w x cs) : ∃ A3 c3, cs = [.int .i64 x.f0, .string x.f1, .int .i64 x.f2, .slice A3 x.f3.length c3] ∧ x.f3.length ≤ c3 ∧ k24.C w A3 x.f3.length x.f3 := by
 obtain ⟨n, h⟩ := h
 cases n with
 | zero => exact h.elim
 | succ n =>
  obtain ⟨_, _, rfl, rfl, ⟨_, _, rfl, rfl, ⟨_, _, rfl, rfl, ⟨A3, c3, rfl, l3, g3⟩⟩⟩⟩ := h
  exact ⟨A3, c3, rfl, l3, Kd.fix_C g3⟩
theorem k24_openM {w : World} {base : Nat} {ok : Nat → Prop} {x : S24} {cs : List Value} (h : k24.M w base ok x cs) : ∃ v3, cs = [.int .i64 x.f0, .string x.f1, .int .i64 x.f2, v3] ∧ k24.R 24 w base ok v3 x.f3 := by
 obtain ⟨n, h⟩ := h
 cases n with
 | zero => exact h.elim
 | succ n =>
  obtain ⟨_, _, rfl, rfl, ⟨_, _, rfl, rfl, ⟨_, _, rfl, rfl, ⟨v3, rfl, g3⟩⟩⟩⟩ := h
  exact ⟨v3, rfl, Kd.fix_R g3⟩
theorem k24_mk (w : World) (x : S24) {A3 : Option Addr} {c3 : Nat} (l3 : x.f3.length ≤ c3) (g3 : k24.C w A3 x.f3.length x.f3) : k24.K w x [.int .i64 x.f0, .string x.f1, .int .i64 x.f2, .slice A3 x.f3.length c3] := by
 obtain ⟨n3, q3⟩ := Kd.fix_C_back mono24 g3
 have r3 := Kd.upto_C_le mono24 sz24 (show n3 ≤ n3 by omega) q3
 exact ⟨n3 + 1, ⟨[.int .i64 x.f0], [.string x.f1, .int .i64 x.f2, .slice A3 x.f3.length c3], rfl, rfl, ⟨[.string x.f1], [.int .i64 x.f2, .slice A3 x.f3.length c3], rfl, rfl, ⟨[.int .i64 x.f2], [.slice A3 x.f3.length c3], rfl, rfl, ⟨A3, c3, rfl, l3, r3⟩⟩⟩⟩⟩
theorem k24_mkM (w : World) (base : Nat) (ok : Nat → Prop) (x : S24) {v3 : Value} (g3 : k24.R 24 w base ok v3 x.f3) : k24.M w base ok x [.int .i64 x.f0, .string x.f1, .int .i64 x.f2, v3] := by
 obtain ⟨n3, q3⟩ := Kd.fix_R_back mono24 g3
 have r3 := Kd.upto_R_le mono24 sz24 (show n3 ≤ n3 by omega) q3
 exact ⟨n3 + 1, ⟨[.int .i64 x.f0], [.string x.f1, .int .i64 x.f2, v3], rfl, rfl, ⟨[.string x.f1], [.int .i64 x.f2, v3], rfl, rfl, ⟨[.int .i64 x.f2], [v3], rfl, rfl, ⟨v3, rfl, r3⟩⟩⟩⟩⟩
theorem k24_openF {W : World} {ok : Nat → Prop} {x : S24} {cs : List Value} (h : Kd.FK k24 W ok x cs) : ∃ A3 c3, cs = [.int .i64 x.f0, .string x.f1, .int .i64 x.f2, .slice A3 x.f3.length c3] ∧ x.f3.length ≤ c3 ∧ Kd.F k24 W ok A3 x.f3.length x.f3 := by
 obtain ⟨A3, c3, rfl, l3, _⟩ := k24_open (Kd.FK_now h)
 exact ⟨A3, c3, rfl, l3, (fun W' hW => by obtain ⟨A3_, c3_, he, l3_, g3_⟩ := k24_open (h W' hW); injection (Option.some.inj (show some (Value.slice A3 x.f3.length c3) = some (Value.slice A3_ x.f3.length c3_) from congrArg (fun l => l[3]?) he)) with ha_ _ _; rw [ha_]; exact g3_)⟩
theorem k24_mkF (W : World) (ok : Nat → Prop) (x : S24) {A3 : Option Addr} {c3 : Nat} (l3 : x.f3.length ≤ c3) (g3 : Kd.F k24 W ok A3 x.f3.length x.f3) : Kd.FK k24 W ok x [.int .i64 x.f0, .string x.f1, .int .i64 x.f2, .slice A3 x.f3.length c3] := fun W2 hW => k24_mk W2 x l3 (g3 W2 hW)
def rd_T24 (xs : List S24) (i : Int) : S24 := xs.getD i.toNat z24
theorem at_T24 {w : World} {A : Option Addr} {n : Nat} {xs : List S24} (h : Kd.C k24 w A n xs) (i : Int) (h0 : 0 ≤ i) (h1 : i < n) : ∃ ad A3 c3, A = some ad ∧ w.cell? (ad.add (i.toNat * 4)) = some (.int .i64 (rd_T24 xs i).f0) ∧ w.cell? ⟨(ad.add (i.toNat * 4)).block, (ad.add (i.toNat * 4)).off + 1, none⟩ = some (.string (rd_T24 xs i).f1) ∧ w.cell? ⟨(ad.add (i.toNat * 4)).block, (ad.add (i.toNat * 4)).off + 2, none⟩ = some (.int .i64 (rd_T24 xs i).f2) ∧ w.cell? ⟨(ad.add (i.toNat * 4)).block, (ad.add (i.toNat * 4)).off + 3, none⟩ = some (.slice A3 (rd_T24 xs i).f3.length c3) ∧ (rd_T24 xs i).f3.length ≤ c3 ∧ k24.C w A3 (rd_T24 xs i).f3.length (rd_T24 xs i).f3 := by
 obtain ⟨ad, c, e, _, hK, hc0⟩ := Kd.C_get h z24 i h0 h1
 have hc : ∀ j u, c[j]? = some u → w.cell? (ad.add (i.toNat * 4 + j)) = some u := hc0
 obtain ⟨A3, c3, rfl, l3, g3⟩ := k24_open hK
 exact ⟨ad, A3, c3, e, hc 0 _ rfl, by rw [← add_field _ _ 1 (by omega)]; exact hc 1 _ rfl, by rw [← add_field _ _ 2 (by omega)]; exact hc 2 _ rfl, by rw [← add_field _ _ 3 (by omega)]; exact hc 3 _ rfl, l3, g3⟩
theorem kept_T24_3 {w W : World} {S : Nat → Prop} {A : Option Addr} {n : Nat} {xs : List S24} (h : ∀ W', Kept w W' S → Kd.C k24 W' A n xs) (hk : Kept w W S) (i : Int) (h0 : 0 ≤ i) (h1 : i < n) {ad : Addr} {Az : Option Addr} {cz : Nat} (e : A = some ad) (hc : W.cell? ⟨(ad.add (i.toNat * 4)).block, (ad.add (i.toNat * 4)).off + 3, none⟩ = some (.slice Az (rd_T24 xs i).f3.length cz)) : ∀ W', Kept w W' S → Kd.C k24 W' Az (rd_T24 xs i).f3.length (rd_T24 xs i).f3 := by
 obtain ⟨ad1_, A1_3, c1_3,  e1_, x1_0, x1_1, x1_2, x1_3, l1_3, g1_3⟩ := at_T24 (h w (Kept.refl w S)) i h0 h1
 obtain rfl : ad1_ = ad := Option.some.inj (e1_.symm.trans e)
 have hS : ¬ S (⟨(ad1_.add (i.toNat * 4)).block, (ad1_.add (i.toNat * 4)).off + 3, none⟩ : Addr).block := fun hs => by
  obtain ⟨W2, hz, hW2, hn⟩ := Own.emptied_ w (⟨(ad1_.add (i.toNat * 4)).block, (ad1_.add (i.toNat * 4)).off + 3, none⟩ : Addr).block
  obtain ⟨ad2_, A2_3, c2_3,  e2_, x2_0, x2_1, x2_2, x2_3, l2_3, g2_3⟩ := at_T24 (h W2 ⟨Nat.le_of_eq hz.symm, fun k hk_ hn_ => hW2 k (fun e_ => hn_ (by rw [e_]; exact hs))⟩) i h0 h1
  obtain rfl : ad2_ = ad1_ := Option.some.inj (e2_.symm.trans e)
  rw [hn _ rfl] at x2_3
  cases x2_3
 intro W2 hk2
 obtain ⟨ad2_, A2_3, c2_3,  e2_, x2_0, x2_1, x2_2, x2_3, l2_3, g2_3⟩ := at_T24 (h W2 hk2) i h0 h1
 obtain rfl : ad2_ = ad1_ := Option.some.inj (e2_.symm.trans e)
 have hq := (cell_kept x1_3 hk hS).symm.trans hc
 have hr := (cell_kept x1_3 hk2 hS).symm.trans x2_3
 rw [hr] at hq
 injection hq with hq
 injection hq with ha_ _ _
 rw [← ha_]
 exact g2_3

/-! #### struct type 28, nested in itself -/
structure S28 where
 f0 : Int
 f1 : ByteArray
 f2 : Int
 f3 : (List S28)
def z28 : S28 := ⟨(0 : Int), (⟨#[]⟩ : ByteArray), (0 : Int), ([] : List S28)⟩
def F28 (d : Kd S28) : Kd S28 := Kd.iso (Kd.pair (Kd.int .i64) (Kd.pair Kd.string (Kd.pair (Kd.int .i64) (Kd.slice 28 d)))) (fun x : S28 => (x.f0, x.f1, x.f2, x.f3))
theorem mono28 : Kd.Mono F28 := Kd.mono_iso _ (Kd.mono_pair (Kd.mono_const _) (Kd.mono_pair (Kd.mono_const _) (Kd.mono_pair (Kd.mono_const _) (Kd.mono_slice 28 Kd.mono_id))))
theorem sub28 : Kd.Sub F28 [28] := Kd.sub_iso _ (Kd.sub_pair (Kd.sub_const _ (by decide)) (Kd.sub_pair (Kd.sub_const _ (by decide)) (Kd.sub_pair (Kd.sub_const _ (by decide)) (Kd.sub_slice 28 (by decide) Kd.sub_id))))
theorem sz28 : ∀ n, (Kd.upto F28 4 [28] n).sz = 4 := Kd.upto_sz (fun _ => rfl)
def k28 : Kd S28 := Kd.fix F28 4 [28] sz28 (Kd.upto_E sub28)
theorem k28_open {w : World} {x : S28} {cs : List Value} (h : k28.K w x cs) : ∃ A3 c3, cs = [.int .i64 x.f0, .string x.f1, .int .i64 x.f2, .slice A3 x.f3.length c3] ∧ x.f3.length ≤ c3 ∧ k28.C w A3 x.f3.length x.f3 := by
 obtain ⟨n, h⟩ := h
 cases n with
 | zero => exact h.elim
 | succ n =>
  obtain ⟨_, _, rfl, rfl, ⟨_, _, rfl, rfl, ⟨_, _, rfl, rfl, ⟨A3, c3, rfl, l3, g3⟩⟩⟩⟩ := h
  exact ⟨A3, c3, rfl, l3, Kd.fix_C g3⟩
theorem k28_openM {w : World} {base : Nat} {ok : Nat → Prop} {x : S28} {cs : List Value} (h : k28.M w base ok x cs) : ∃ v3, cs = [.int .i64 x.f0, .string x.f1, .int .i64 x.f2, v3] ∧ k28.R 28 w base ok v3 x.f3 := by
 obtain ⟨n, h⟩ := h
 cases n with
 | zero => exact h.elim
 | succ n =>
  obtain ⟨_, _, rfl, rfl, ⟨_, _, rfl, rfl, ⟨_, _, rfl, rfl, ⟨v3, rfl, g3⟩⟩⟩⟩ := h
  exact ⟨v3, rfl, Kd.fix_R g3⟩
theorem k28_mk (w : World) (x : S28) {A3 : Option Addr} {c3 : Nat} (l3 : x.f3.length ≤ c3) (g3 : k28.C w A3 x.f3.length x.f3) : k28.K w x [.int .i64 x.f0, .string x.f1, .int .i64 x.f2, .slice A3 x.f3.length c3] := by
 obtain ⟨n3, q3⟩ := Kd.fix_C_back mono28 g3
 have r3 := Kd.upto_C_le mono28 sz28 (show n3 ≤ n3 by omega) q3
 exact ⟨n3 + 1, ⟨[.int .i64 x.f0], [.string x.f1, .int .i64 x.f2, .slice A3 x.f3.length c3], rfl, rfl, ⟨[.string x.f1], [.int .i64 x.f2, .slice A3 x.f3.length c3], rfl, rfl, ⟨[.int .i64 x.f2], [.slice A3 x.f3.length c3], rfl, rfl, ⟨A3, c3, rfl, l3, r3⟩⟩⟩⟩⟩
theorem k28_mkM (w : World) (base : Nat) (ok : Nat → Prop) (x : S28) {v3 : Value} (g3 : k28.R 28 w base ok v3 x.f3) : k28.M w base ok x [.int .i64 x.f0, .string x.f1, .int .i64 x.f2, v3] := by
 obtain ⟨n3, q3⟩ := Kd.fix_R_back mono28 g3
 have r3 := Kd.upto_R_le mono28 sz28 (show n3 ≤ n3 by omega) q3
 exact ⟨n3 + 1, ⟨[.int .i64 x.f0], [.string x.f1, .int .i64 x.f2, v3], rfl, rfl, ⟨[.string x.f1], [.int .i64 x.f2, v3], rfl, rfl, ⟨[.int .i64 x.f2], [v3], rfl, rfl, ⟨v3, rfl, r3⟩⟩⟩⟩⟩
theorem k28_openF {W : World} {ok : Nat → Prop} {x : S28} {cs : List Value} (h : Kd.FK k28 W ok x cs) : ∃ A3 c3, cs = [.int .i64 x.f0, .string x.f1, .int .i64 x.f2, .slice A3 x.f3.length c3] ∧ x.f3.length ≤ c3 ∧ Kd.F k28 W ok A3 x.f3.length x.f3 := by
 obtain ⟨A3, c3, rfl, l3, _⟩ := k28_open (Kd.FK_now h)
 exact ⟨A3, c3, rfl, l3, (fun W' hW => by obtain ⟨A3_, c3_, he, l3_, g3_⟩ := k28_open (h W' hW); injection (Option.some.inj (show some (Value.slice A3 x.f3.length c3) = some (Value.slice A3_ x.f3.length c3_) from congrArg (fun l => l[3]?) he)) with ha_ _ _; rw [ha_]; exact g3_)⟩
theorem k28_mkF (W : World) (ok : Nat → Prop) (x : S28) {A3 : Option Addr} {c3 : Nat} (l3 : x.f3.length ≤ c3) (g3 : Kd.F k28 W ok A3 x.f3.length x.f3) : Kd.FK k28 W ok x [.int .i64 x.f0, .string x.f1, .int .i64 x.f2, .slice A3 x.f3.length c3] := fun W2 hW => k28_mk W2 x l3 (g3 W2 hW)
def rd_T28 (xs : List S28) (i : Int) : S28 := xs.getD i.toNat z28
theorem at_T28 {w : World} {A : Option Addr} {n : Nat} {xs : List S28} (h : Kd.C k28 w A n xs) (i : Int) (h0 : 0 ≤ i) (h1 : i < n) : ∃ ad A3 c3, A = some ad ∧ w.cell? (ad.add (i.toNat * 4)) = some (.int .i64 (rd_T28 xs i).f0) ∧ w.cell? ⟨(ad.add (i.toNat * 4)).block, (ad.add (i.toNat * 4)).off + 1, none⟩ = some (.string (rd_T28 xs i).f1) ∧ w.cell? ⟨(ad.add (i.toNat * 4)).block, (ad.add (i.toNat * 4)).off + 2, none⟩ = some (.int .i64 (rd_T28 xs i).f2) ∧ w.cell? ⟨(ad.add (i.toNat * 4)).block, (ad.add (i.toNat * 4)).off + 3, none⟩ = some (.slice A3 (rd_T28 xs i).f3.length c3) ∧ (rd_T28 xs i).f3.length ≤ c3 ∧ k28.C w A3 (rd_T28 xs i).f3.length (rd_T28 xs i).f3 := by
 obtain ⟨ad, c, e, _, hK, hc0⟩ := Kd.C_get h z28 i h0 h1
 have hc : ∀ j u, c[j]? = some u → w.cell? (ad.add (i.toNat * 4 + j)) = some u := hc0
 obtain ⟨A3, c3, rfl, l3, g3⟩ := k28_open hK
 exact ⟨ad, A3, c3, e, hc 0 _ rfl, by rw [← add_field _ _ 1 (by omega)]; exact hc 1 _ rfl, by rw [← add_field _ _ 2 (by omega)]; exact hc 2 _ rfl, by rw [← add_field _ _ 3 (by omega)]; exact hc 3 _ rfl, l3, g3⟩
theorem kept_T28_3 {w W : World} {S : Nat → Prop} {A : Option Addr} {n : Nat} {xs : List S28} (h : ∀ W', Kept w W' S → Kd.C k28 W' A n xs) (hk : Kept w W S) (i : Int) (h0 : 0 ≤ i) (h1 : i < n) {ad : Addr} {Az : Option Addr} {cz : Nat} (e : A = some ad) (hc : W.cell? ⟨(ad.add (i.toNat * 4)).block, (ad.add (i.toNat * 4)).off + 3, none⟩ = some (.slice Az (rd_T28 xs i).f3.length cz)) : ∀ W', Kept w W' S → Kd.C k28 W' Az (rd_T28 xs i).f3.length (rd_T28 xs i).f3 := by
 obtain ⟨ad1_, A1_3, c1_3,  e1_, x1_0, x1_1, x1_2, x1_3, l1_3, g1_3⟩ := at_T28 (h w (Kept.refl w S)) i h0 h1
 obtain rfl : ad1_ = ad := Option.some.inj (e1_.symm.trans e)
 have hS : ¬ S (⟨(ad1_.add (i.toNat * 4)).block, (ad1_.add (i.toNat * 4)).off + 3, none⟩ : Addr).block := fun hs => by
  obtain ⟨W2, hz, hW2, hn⟩ := Own.emptied_ w (⟨(ad1_.add (i.toNat * 4)).block, (ad1_.add (i.toNat * 4)).off + 3, none⟩ : Addr).block
  obtain ⟨ad2_, A2_3, c2_3,  e2_, x2_0, x2_1, x2_2, x2_3, l2_3, g2_3⟩ := at_T28 (h W2 ⟨Nat.le_of_eq hz.symm, fun k hk_ hn_ => hW2 k (fun e_ => hn_ (by rw [e_]; exact hs))⟩) i h0 h1
  obtain rfl : ad2_ = ad1_ := Option.some.inj (e2_.symm.trans e)
  rw [hn _ rfl] at x2_3
  cases x2_3
 intro W2 hk2
 obtain ⟨ad2_, A2_3, c2_3,  e2_, x2_0, x2_1, x2_2, x2_3, l2_3, g2_3⟩ := at_T28 (h W2 hk2) i h0 h1
 obtain rfl : ad2_ = ad1_ := Option.some.inj (e2_.symm.trans e)
 have hq := (cell_kept x1_3 hk hS).symm.trans hc
 have hr := (cell_kept x1_3 hk2 hS).symm.trans x2_3
 rw [hr] at hq
 injection hq with hq
 injection hq with ha_ _ _
 rw [← ha_]
 exact g2_3

def rd_L4 (xs : List (List ByteArray)) (i : Int) : (List ByteArray) := xs.getD i.toNat ([] : List ByteArray)
theorem at_L4 {w : World} {A : Option Addr} {n : Nat} {xs : List (List ByteArray)} (h : Kd.C (Kd.slice 9 Kd.string) w A n xs) (i : Int) (h0 : 0 ≤ i) (h1 : i < n) : ∃ ad A0 c0, A = some ad ∧ w.cell? (ad.add i.toNat) = some (.slice A0 (rd_L4 xs i).length c0) ∧ (rd_L4 xs i).length ≤ c0 ∧ Kd.string.C w A0 (rd_L4 xs i).length (rd_L4 xs i) := by
 obtain ⟨ad, c, e, _, hK, hc0⟩ := Kd.C_get h ([] : List ByteArray) i h0 h1
 have hc : ∀ j u, c[j]? = some u → w.cell? (ad.add (i.toNat * 1 + j)) = some u := hc0
 obtain ⟨A0, c0, rfl, l0, g0⟩ := hK
 exact ⟨ad, A0, c0, e, by have hq := hc 0 _ rfl; rwa [Nat.mul_one, Nat.add_zero] at hq, l0, g0⟩
theorem kept_L4_0 {w W : World} {S : Nat → Prop} {A : Option Addr} {n : Nat} {xs : List (List ByteArray)} (h : ∀ W', Kept w W' S → Kd.C (Kd.slice 9 Kd.string) W' A n xs) (hk : Kept w W S) (i : Int) (h0 : 0 ≤ i) (h1 : i < n) {ad : Addr} {Az : Option Addr} {cz : Nat} (e : A = some ad) (hc : W.cell? (ad.add i.toNat) = some (.slice Az (rd_L4 xs i).length cz)) : ∀ W', Kept w W' S → Kd.C Kd.string W' Az (rd_L4 xs i).length (rd_L4 xs i) := by
 obtain ⟨ad1_, A1_0, c1_0,  e1_, x1_0, l1_0, g1_0⟩ := at_L4 (h w (Kept.refl w S)) i h0 h1
 obtain rfl : ad1_ = ad := Option.some.inj (e1_.symm.trans e)
 have hS : ¬ S ((ad1_.add i.toNat) : Addr).block := fun hs => by
  obtain ⟨W2, hz, hW2, hn⟩ := Own.emptied_ w ((ad1_.add i.toNat) : Addr).block
  obtain ⟨ad2_, A2_0, c2_0,  e2_, x2_0, l2_0, g2_0⟩ := at_L4 (h W2 ⟨Nat.le_of_eq hz.symm, fun k hk_ hn_ => hW2 k (fun e_ => hn_ (by rw [e_]; exact hs))⟩) i h0 h1
  obtain rfl : ad2_ = ad1_ := Option.some.inj (e2_.symm.trans e)
  rw [hn _ rfl] at x2_0
  cases x2_0
 intro W2 hk2
 obtain ⟨ad2_, A2_0, c2_0,  e2_, x2_0, l2_0, g2_0⟩ := at_L4 (h W2 hk2) i h0 h1
 obtain rfl : ad2_ = ad1_ := Option.some.inj (e2_.symm.trans e)
 have hq := (cell_kept x1_0 hk hS).symm.trans hc
 have hr := (cell_kept x1_0 hk2 hS).symm.trans x2_0
 rw [hr] at hq
 injection hq with hq
 injection hq with ha_ _ _
 rw [← ha_]
 exact g2_0

end Go.Proofs.YtnpenfficbdlmaaDoor.QFnExactSimplifyCondition
