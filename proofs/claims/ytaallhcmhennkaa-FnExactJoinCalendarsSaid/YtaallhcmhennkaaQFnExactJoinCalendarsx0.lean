-- Written by a program of this session out of the translation; Lean checks it.
import Derived.Test.YtaallhcmhennkaaProg
import Derived.Below
import Derived.Deep.Draws
import Derived.Deep.AppendLies
import Derived.Maps.AppendAt
import Derived.OwnWalk
import Derived.Laws.BytesArg
import Derived.Laws.MakeOwn
import Derived.Laws.OwnMore
import Derived.Deep.OwnRows
import Derived.Tactics
import Derived.Lib.ConvBytes
import Derived.Laws.Slices
import Derived.WalkKit
import Derived.KernelRfl
import Derived.RowKit3
import Derived.Deep.LoopGhost
import Derived.Deep.QuietTactic
import Derived.BigQuiet
import Derived.WideLaws
import Derived.Deep.DeepCutAuto
import Derived.Deep.CutBlock
import Derived.Deep.RegionHeld3
import Derived.Laws.Rows
import Derived.Lib.AppendStr
import Derived.ArgAppend
import Derived.Laws.IdiomCopy
import Derived.OrdersHeld
import Derived.Laws.BitsLemmas
import Derived.RowKit
import Derived.Test.YtaallhcmhennkaaOwnW
import Derived.Test.YtaallhcmhennkaaLibU
import Derived.Test.YtaallhcmhennkaaWWords
import Derived.Test.YtaallhcmhennkaaWLast
import Derived.Test.YtaallhcmhennkaaWTab
import Derived.Test.YtaallhcmhennkaaWFour
import Derived.Test.YtaallhcmhennkaaWQPut
import Derived.Test.YtaallhcmhennkaaWApart
import Derived.Test.YtaallhcmhennkaaWArr
import Derived.Test.YtaallhcmhennkaaWZeros
import Derived.Test.YtaallhcmhennkaaWFoot
import Derived.Test.YtaallhcmhennkaaWKept
import Derived.Test.YtaallhcmhennkaaWShare
import Derived.Test.YtaallhcmhennkaaWN
import Derived.Test.YtaallhcmhennkaaWFootNe
import Derived.Test.YtaallhcmhennkaaWAt
import Derived.Test.YtaallhcmhennkaaWEqStruct
import Derived.Test.YtaallhcmhennkaaWRepsOne
import Derived.Test.YtaallhcmhennkaaWInv
import Derived.Test.YtaallhcmhennkaaWInvWords
import Derived.Test.YtaallhcmhennkaaWGuard
import Derived.Test.YtaallhcmhennkaaWNEv
import Derived.Test.YtaallhcmhennkaaWMore
namespace Go.Proofs.Ytaallhcmhennkaa.QFnExactJoinCalendars
open Go.RowKit Go.Proofs.YtaallhcmhennkaaW.PrintWords Go.Proofs.YtaallhcmhennkaaW.PrintLast Go.Proofs.YtaallhcmhennkaaW.PrintMore
attribute [local go_sem] Instr.field asAgg Own.str_leq Own.str_gtr Own.str_geq
attribute [local go_sem] max2_int min2_int max_two min_two max_three min_three max_four min_four   -- for this text's walks alone
set_option linter.unusedVariables false
set_option linter.unusedSimpArgs false



def errW : Option Int → Value
 | none => .nilIface
 | some c => .iface 0 (.int .i64 c)
theorem errW_none : errW none = .nilIface := rfl
theorem errW_some (c : Int) : errW (some c) = .iface 0 (.int .i64 c) := rfl

theorem info3 : (Try.prog.info? 3).map (fun i => (i.zero, i.size, i.bytes)) = some (some (.int .i64 0), 1, 8) := by kernel_rfl
-- the values' own types
def rd_L1 (xs : List (List Int)) (i : Int) : (List Int) := xs.getD i.toNat ([] : List Int)
theorem at_L1 {w : World} {A : Option Addr} {n : Nat} {xs : List (List Int)} (h : Kd.C (Kd.slice 3 (Kd.int .i64)) w A n xs) (i : Int) (h0 : 0 ≤ i) (h1 : i < n) : ∃ ad A0 c0, A = some ad ∧ w.cell? (ad.add i.toNat) = some (.slice A0 (rd_L1 xs i).length c0) ∧ (rd_L1 xs i).length ≤ c0 ∧ (Kd.int .i64).C w A0 (rd_L1 xs i).length (rd_L1 xs i) := by
 obtain ⟨ad, c, e, _, hK, hc0⟩ := Kd.C_get h ([] : List Int) i h0 h1
 have hc : ∀ j u, c[j]? = some u → w.cell? (ad.add (i.toNat * 1 + j)) = some u := hc0
 obtain ⟨A0, c0, rfl, l0, g0⟩ := hK
 exact ⟨ad, A0, c0, e, by have hq := hc 0 _ rfl; rwa [Nat.mul_one, Nat.add_zero] at hq, l0, g0⟩
theorem kept_L1_0 {w W : World} {S : Nat → Prop} {A : Option Addr} {n : Nat} {xs : List (List Int)} (h : ∀ W', Kept w W' S → Kd.C (Kd.slice 3 (Kd.int .i64)) W' A n xs) (hk : Kept w W S) (i : Int) (h0 : 0 ≤ i) (h1 : i < n) {ad : Addr} {Az : Option Addr} {cz : Nat} (e : A = some ad) (hc : W.cell? (ad.add i.toNat) = some (.slice Az (rd_L1 xs i).length cz)) : ∀ W', Kept w W' S → Kd.C (Kd.int .i64) W' Az (rd_L1 xs i).length (rd_L1 xs i) := by
 obtain ⟨ad1_, A1_0, c1_0,  e1_, x1_0, l1_0, g1_0⟩ := at_L1 (h w (Kept.refl w S)) i h0 h1
 obtain rfl : ad1_ = ad := Option.some.inj (e1_.symm.trans e)
 have hS : ¬ S ((ad1_.add i.toNat) : Addr).block := fun hs => by
  obtain ⟨W2, hz, hW2, hn⟩ := Own.emptied_ w ((ad1_.add i.toNat) : Addr).block
  obtain ⟨ad2_, A2_0, c2_0,  e2_, x2_0, l2_0, g2_0⟩ := at_L1 (h W2 ⟨Nat.le_of_eq hz.symm, fun k hk_ hn_ => hW2 k (fun e_ => hn_ (by rw [e_]; exact hs))⟩) i h0 h1
  obtain rfl : ad2_ = ad1_ := Option.some.inj (e2_.symm.trans e)
  rw [hn _ rfl] at x2_0
  cases x2_0
 intro W2 hk2
 obtain ⟨ad2_, A2_0, c2_0,  e2_, x2_0, l2_0, g2_0⟩ := at_L1 (h W2 hk2) i h0 h1
 obtain rfl : ad2_ = ad1_ := Option.some.inj (e2_.symm.trans e)
 have hq := (cell_kept x1_0 hk hS).symm.trans hc
 have hr := (cell_kept x1_0 hk2 hS).symm.trans x2_0
 rw [hr] at hq
 injection hq with hq
 injection hq with ha_ _ _
 rw [← ha_]
 exact g2_0

end Go.Proofs.Ytaallhcmhennkaa.QFnExactJoinCalendars
