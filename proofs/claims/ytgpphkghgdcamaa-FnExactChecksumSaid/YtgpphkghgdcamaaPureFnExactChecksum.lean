/- The program's Checksum and the reference's return the same for every string; no condition. -/
import Derived.Test.YtgpphkghgdcamaaPFnExactChecksumx1
namespace Go.Proofs.Ytgpphkghgdcamaa.Pure
open Go.RowKit Go.Proofs.Ytgpphkghgdcamaa.PFnExactChecksum Go.Proofs.YtgpphkghgdcamaaW.PrintWords Go.Proofs.YtgpphkghgdcamaaW.PrintLast Go.Proofs.YtgpphkghgdcamaaW.PrintMore
set_option linter.unusedVariables false
set_option linter.unusedSimpArgs false

theorem w64 {x : Int} (h : -9223372036854775808 ≤ x) (h' : x ≤ 9223372036854775807) : wrap64 x = x := by unfold wrap64; omega
theorem tdv {x : Int} (n : Int) (h : 0 ≤ x) : Int.tdiv x n = x / n := Int.tdiv_eq_ediv_of_nonneg h
theorem tmd {x : Int} (n : Int) (h : 0 ≤ x) : Int.tmod x n = x % n := Int.tmod_eq_emod_of_nonneg h
theorem wfb {a : Int} (h : (Lit.int .i64 a).wf = true) : -9223372036854775808 ≤ a ∧ a ≤ 9223372036854775807 := by
  simp [Lit.wf, IntKind.min, IntKind.max, IntKind.signed, IntKind.bits] at h
  omega
theorem within_ {x a b : Int} : (if x ≥ a then some (decide (x ≤ b)) else some false) = some (decide (a ≤ x ∧ x ≤ b)) := by
  by_cases h : x ≥ a
  · rw [if_pos h]; congr 1; simp; omega
  · rw [if_neg h]; congr 1; simp; omega

theorem sum_some (s : ByteArray) (hs : s.size ≤ 4000) (d : Nat) : ∀ (i : Int) (h : Int) (k : Nat), 0 ≤ i → i ≤ s.size → (s.size : Int) - i = d → d < k →
    ∃ r, spec_l1Sum.l0 k s h i = some r ∧ impl_Checksum.l0 k s h s.size i = some (r, true) := by
  induction d with
  | zero =>
    intro i h k h0 h1 hd hk
    obtain ⟨k, rfl⟩ : ∃ m, k = m + 1 := ⟨k - 1, by omega⟩
    refine ⟨h, ?_, ?_⟩
    · simp only [spec_l1Sum.l0]; rw [if_neg (by omega)]
    · simp only [impl_Checksum.l0]; rw [if_neg (by omega)]
  | succ d ih =>
    intro i h k h0 h1 hd hk
    obtain ⟨k, rfl⟩ : ∃ m, k = m + 1 := ⟨k - 1, by omega⟩
    obtain ⟨r, hr, hr'⟩ := ih (i + 1) (Int.tmod (wrap64 ((wrap64 ((wrap64 (41 * h)) + (wrap64 (bt s i)))) + 1)) 999979) k (by omega) (by omega) (by omega) (by omega)
    refine ⟨r, ?_, ?_⟩
    · simp only [spec_l1Sum.l0]; rw [if_pos (by omega), if_pos h0, w64 (x := i + 1) (by omega) (by omega)]; exact hr
    · simp only [impl_Checksum.l0]; rw [if_pos (by omega), if_pos h0, if_pos (by omega), w64 (x := i + 1) (by omega) (by omega)]; exact hr'
theorem FnExactChecksum : laws_FnExactChecksum.Pure := by
  intro s hs
  refine ⟨s.size + 1, ?_⟩
  unfold laws_FnExactChecksum.f
  by_cases hb : (s.size : Int) > 1048576
  · rw [if_pos hb]
  · rw [if_neg hb]
    unfold spec_Checksum.f impl_Checksum.f
    by_cases h4 : (s.size : Int) > 4000
    · rw [if_pos h4, if_pos h4]; simp
    · rw [if_neg h4, if_neg h4]
      obtain ⟨r, hr, hr'⟩ := sum_some s (by omega) s.size 0 7 (s.size + 1) (by omega) (by omega) (by omega) (by omega)
      unfold spec_l1Sum.f
      rw [hr, hr']; simp

end Go.Proofs.Ytgpphkghgdcamaa.Pure
