/- Out of the reading of an argument as data: what its cells say of it in the print's words (numbers, strings, slices, structs, trees). No condition. -/
import Derived.ProofKit
import Derived.DataReads
import Derived.DataElems
import Derived.Test.YtckopglnblcnoaaGreatDoorVMore
namespace Go.Proofs.YtckopglnblcnoaaGreatDoor.OpenK
open Go.ChangeShapes Go.WideShapes Go.ChangeAt Go.RowKit Go.Proofs.YtckopglnblcnoaaGreatDoorW.PrintWords
set_option linter.unusedVariables false
set_option linter.unusedSimpArgs false
section
variable {H : Type} {enc : TypeId × Value → H} {P : Program} {w : World}
/-- What cells of type t say, read with so much fuel. -/
def Op (enc : TypeId × Value → H) (P : Program) (w : World) (t : TypeId) {α : Type} (K : α → List Value → Prop) (Q : α → Prop) (fuel : Nat) : Prop :=
  ∀ cs y, DataW.trod enc P w 0 (fun _ => true) true fuel t cs = some y → ∃ x, K x cs ∧ Q x
theorem op_int {t : TypeId} {k : IntKind} (ht : P.underlying t = some (.int k)) (fuel : Nat) : Op enc P w t (fun n cs => cs = [.int k n]) (fun n => (Lit.int k n).wf = true) fuel := by
  intro cs y h
  obtain ⟨n, rfl, _, hw⟩ := DataW.trod_int ht h
  exact ⟨n, rfl, hw⟩
theorem op_string {t : TypeId} (ht : P.underlying t = some .string) (fuel : Nat) : Op enc P w t (fun s cs => cs = [.string s]) (fun s => s.size ≤ maxLen) fuel := by
  intro cs y h
  obtain ⟨s, rfl, _, hs⟩ := DataW.trod_string ht h
  exact ⟨s, rfl, hs⟩
theorem list_of {α : Type} (p : Nat → α → Prop) (n : Nat) (h : ∀ i, i < n → ∃ x, p i x) : ∃ xs : List α, xs.length = n ∧ ∀ i x, xs[i]? = some x → p i x := by
  induction n with
  | zero => exact ⟨[], rfl, fun i x h => by simp at h⟩
  | succ n ih =>
    obtain ⟨xs, hl, hx⟩ := ih (fun i hi => h i (by omega))
    obtain ⟨z, hz⟩ := h n (by omega)
    refine ⟨xs ++ [z], by simp [hl], fun i x hi => ?_⟩
    by_cases hc : i < xs.length
    · rw [List.getElem?_append_left hc] at hi
      exact hx i x hi
    · rw [List.getElem?_append_right (by omega)] at hi
      obtain ⟨e0, e⟩ := List.getElem?_eq_some_iff.1 hi
      simp at e0
      have : i = n := by omega
      subst this
      have : x = z := by rw [← e]; simp [hl]
      rw [this]; exact hz
theorem cells_len {base : Nat} {a : Addr} {n : Nat} {cs : List Value} (h : w.cells? base a n = some cs) : cs.length = n ∧ ∀ i u, cs[i]? = some u → w.cell? (a.add i) = some u := by
  obtain ⟨_, hl, hc⟩ := World.cells?_some h
  refine ⟨hl, fun i u hu => ?_⟩
  obtain ⟨hi, _⟩ := List.getElem?_eq_some_iff.1 hu
  rw [hc i (by omega)]; exact hu
theorem op_slice {t e : TypeId} {α : Type} {d : Kd α} {Q : α → Prop} {fuel : Nat} (ht : P.underlying t = some (.slice e)) (hsz : P.cellsOf e = d.sz) (hd : ∀ f, f < fuel → Op enc P w e (d.K w) Q f) :
    Op enc P w t (fun xs cs => ∃ A c, cs = [.slice A xs.length c] ∧ xs.length ≤ c ∧ d.C w A xs.length xs) (fun xs => xs.length ≤ maxLen ∧ ∀ x ∈ xs, Q x) fuel := by
  intro cs y h
  rcases DataW.trod_slice ht h with ⟨rfl, _⟩ | ⟨a, len, cap, elems, rest, n, rfl, rfl, _, hb, hl, hm, hlen, hel, _, _⟩
  · exact ⟨[], ⟨none, 0, rfl, Nat.le_refl _, ⟨rfl, by simp, fun h => absurd h (by simp)⟩⟩, by simp⟩
  · have each : ∀ i, i < len → ∃ x, (∃ c, c.length = d.sz ∧ d.K w x c ∧ ∀ j u, c[j]? = some u → w.cell? (a.add (i * d.sz + j)) = some u) ∧ Q x := by
      intro i hi
      have hi2 := hel i hi
      have hi' : i < elems.length := by omega
      rw [List.getElem?_eq_getElem hi'] at hi2
      obtain ⟨c, hc, ht2⟩ := Option.bind_eq_some_iff.1 hi2
      obtain ⟨x, hK, hQ⟩ := hd n (by omega) _ _ ht2
      obtain ⟨hcl, hcc⟩ := cells_len hc
      refine ⟨x, ⟨c, hcl.trans hsz, hK, fun j u hu => ?_⟩, hQ⟩
      have := hcc j u hu
      rw [hsz] at this
      rw [← this, Addr.add_add]
    obtain ⟨xs, hxl, hx⟩ := list_of _ len each
    have hmm : len ≤ 9223372036854775807 := by have : maxLen = 9223372036854775807 := rfl; omega
    refine ⟨xs, ⟨some a, cap, by rw [hxl], by omega, ⟨rfl, by omega, fun _ => ⟨a, rfl, fun j p hp => (hx j p hp).1⟩⟩⟩, by omega, fun x hm => ?_⟩
    obtain ⟨j, hj⟩ := List.mem_iff_getElem?.1 hm
    exact (hx j x hj).2
/-- The fields of a struct. -/
theorem op_struct {t : TypeId} {fs : Array Field} {fuel : Nat} {cs : List Value} {y : DataW H × List MemPlace} (ht : P.underlying t = some (.struct fs)) (h : DataW.trod enc P w 0 (fun _ => true) true fuel t cs = some y) :
    cs.length = P.cellsOf t ∧ ∃ n, n < fuel ∧ ∀ f ∈ fs.toList, ∃ z, DataW.trod enc P w 0 (fun _ => true) true n f.type ((cs.drop f.offset).take (P.cellsOf f.type)) = some z := by
  cases fuel with
  | zero => simp [DataW.trod] at h
  | succ n =>
    unfold DataW.trod at h
    rw [ht] at h
    split at h <;> simp_all
    obtain ⟨hc, a, ha, _⟩ := h
    subst_vars
    refine ⟨n, by omega, fun f hf => ?_⟩
    replace hf := Array.mem_toList_iff.2 hf
    obtain ⟨j, hj⟩ := List.mem_iff_getElem?.1 hf
    obtain ⟨hj0, _⟩ := List.getElem?_eq_some_iff.1 hj
    have hg := mapM_some_get ha j f hj
    have hl := mapM_some_length ha
    rw [List.getElem?_eq_getElem (by omega)] at hg
    first | exact ⟨_, hg⟩ | exact ⟨a[j].1, a[j].2, hg⟩
theorem list2 {l : List Value} (h : l.length = 2) : ∃ a b, l = [a, b] := by
  match l, h with
  | [a, b], _ => exact ⟨a, b, rfl⟩
theorem list4 {l : List Value} (h : l.length = 4) : ∃ a b c d, l = [a, b, c, d] := by
  match l, h with
  | [a, b, c, d], _ => exact ⟨a, b, c, d, rfl⟩
theorem list12 {l : List Value} (h : l.length = 12) : ∃ a b c d e f g i j k m n, l = [a, b, c, d, e, f, g, i, j, k, m, n] := by
  match l, h with
  | [a, b, c, d, e, f, g, i, j, k, m, n], _ => exact ⟨a, b, c, d, e, f, g, i, j, k, m, n, rfl⟩
theorem arr_eq {cs : Array Value} {l : List Value} (h : cs.toList = l) : cs = l.toArray := by rw [← h]
end
end Go.Proofs.YtckopglnblcnoaaGreatDoor.OpenK
