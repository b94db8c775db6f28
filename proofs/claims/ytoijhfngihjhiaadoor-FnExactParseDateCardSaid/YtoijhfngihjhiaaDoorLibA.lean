/- strconv.Atoi at every string, strings.Replace at an old that is not empty, by the shelf's contracts. No condition. -/
import Derived.Test.YtoijhfngihjhiaaDoorShelf
import Derived.Test.YtoijhfngihjhiaaDoorGlob2
import Derived.Lib.AtoiErrMem
namespace Go.Proofs.YtoijhfngihjhiaaDoor.Own
open Go.RowKit Go.Proofs.YtoijhfngihjhiaaDoorW.PrintWords Go.Proofs.YtoijhfngihjhiaaDoorW.PrintLast Go.Proofs.YtoijhfngihjhiaaDoorW.PrintMore
set_option linter.unusedVariables false
set_option linter.unusedSimpArgs false
/-- The number that a text spells, if there is one that an int holds. -/
def atoiF (s : ByteArray) : Option Int := match Lib.atoiAll s.data.toList with
  | .ok v => some v
  | _ => none
theorem atoi_calls (s : ByteArray) (hs : s.size ≤ 1048576) (w : World) (hG : Glob w) :
    Calls Tryd.prog 13 #[.string s] w fun e w' => ((∃ v, atoiF s = some v ∧ e = .returned (.tuple #[.int .i64 v, .nilIface])) ∨ (atoiF s = none ∧ ∃ t n N, e = .returned (.tuple #[.int .i64 n, .iface t (.pointer (some ⟨N, 0, none⟩))]))) ∧ Below w.heap.size w w' := by
  obtain ⟨e0, h0, k0⟩ := hG.err0
  obtain ⟨e1, h1, k1⟩ := hG.err1
  rcases hx : Lib.atoiAll s.data.toList with v | _ | _
  · refine (Any.strconv_Atoi_ok Tryd.laysC172 s (by omega) v hx w).mono ?_
    rintro e w' ⟨rfl, hw⟩
    refine ⟨.inl ⟨v, by unfold atoiF; rw [hx], rfl⟩, ?_⟩
    rcases hw with rfl | ⟨t, rfl⟩
    · exact Below.refl _ _
    · exact Lib.bytesWorld_below _ _ _
  · refine (Any.strconv_Atoi_syntax Tryd.laysC172 s (by omega) hx e0 w h0 k0).mono ?_
    rintro e w' ⟨N, rfl, -, -, hb⟩
    exact ⟨.inr ⟨by unfold atoiF; rw [hx], _, _, N, rfl⟩, hb⟩
  · refine (Any.strconv_Atoi_range Tryd.laysC172 s (by omega) hx e1 w h1 k1).mono ?_
    rintro e w' ⟨N, rfl, -, -, hb⟩
    exact ⟨.inr ⟨by unfold atoiF; rw [hx], _, _, N, rfl⟩, hb⟩
theorem atoi_some (s : ByteArray) (hs : s.size ≤ 1048576) (w : World) (hG : Glob w) (v : Int) (h : atoiF s = some v) :
    Calls Tryd.prog 13 #[.string s] w fun e w' => e = .returned (.tuple #[.int .i64 v, .nilIface]) ∧ Below w.heap.size w w' := by
  refine (atoi_calls s hs w hG).mono ?_
  rintro e w' ⟨⟨u, hu, he⟩ | ⟨hn, _⟩, hb⟩
  · rw [h] at hu
    obtain rfl := Option.some.inj hu
    exact ⟨he, hb⟩
  · rw [h] at hn
    cases hn
theorem atoi_none (s : ByteArray) (hs : s.size ≤ 1048576) (w : World) (hG : Glob w) (h : atoiF s = none) :
    Calls Tryd.prog 13 #[.string s] w fun e w' => (∃ t n N, e = .returned (.tuple #[.int .i64 n, .iface t (.pointer (some ⟨N, 0, none⟩))])) ∧ Below w.heap.size w w' := by
  refine (atoi_calls s hs w hG).mono ?_
  rintro e w' ⟨⟨u, hu, he⟩ | ⟨hn, h1⟩, hb⟩
  · rw [h] at hu
    cases hu
  · exact ⟨h1, hb⟩
/-- A text without its first dot. -/
theorem replace_calls (s old new : ByteArray) (n : Int) (hs : s.size ≤ 1048576) (h1 : 1 ≤ old.size) (h2 : new.size = 0) (w : World) (hG : Glob w) :
    Calls Tryd.prog 25 #[.string s, .string old, .string new, .int .i64 n] w fun e w' => e = .returned (.string ⟨(Lib.replace s.data.toList old.data.toList new.data.toList n).toArray⟩) ∧ Below w.heap.size w w' := by
  obtain ⟨m, hm⟩ := hG.maxLen
  exact Any.strings_Replace Tryd.lays154 Tryd.Builder_Extra_154 s old new n m w (by omega) hm h1 (by rw [h2]; omega)
def undot (s : ByteArray) : ByteArray := ⟨(Lib.replace s.data.toList [46] [] 1).toArray⟩
theorem replaceK_len (o : List UInt8) (k : Nat) : ∀ s : List UInt8, (Lib.replaceK o [] k s).length ≤ s.length := by
  induction k with
  | zero => intro s; exact Nat.le_refl _
  | succ k ih =>
    intro s
    unfold Lib.replaceK
    split
    · exact Nat.le_refl _
    · have := ih (s.drop ((Lib.index s o).toNat + o.length))
      rw [List.length_drop] at this
      simp only [List.length_append, List.length_take, List.length_nil]
      omega
theorem undot_size (s : ByteArray) : (undot s).size ≤ s.size := by
  have h : (Lib.replace s.data.toList [46] [] 1).length ≤ s.data.toList.length := by
    unfold Lib.replace
    split
    · exact Nat.le_refl _
    · exact replaceK_len _ _ _
  have e1 : (undot s).size = (Lib.replace s.data.toList [46] [] 1).length := by unfold undot; exact List.size_toArray
  have e2 : s.data.toList.length = s.size := by simp
  omega
theorem undot_calls (s : ByteArray) (hs : s.size ≤ 1048576) (w : World) (hG : Glob w) :
    Calls Tryd.prog 25 #[.string s, .string ⟨#[46]⟩, .string ⟨#[]⟩, .int .i64 1] w fun e w' => e = .returned (.string (undot s)) ∧ Below w.heap.size w w' :=
  replace_calls s ⟨#[46]⟩ ⟨#[]⟩ 1 hs (by decide) rfl w hG
end Go.Proofs.YtoijhfngihjhiaaDoor.Own
