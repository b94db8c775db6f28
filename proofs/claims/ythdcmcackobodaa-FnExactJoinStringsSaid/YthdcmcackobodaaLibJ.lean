/- Go's library functions that this seat reaches, by the shelf's contracts, in the print's form. No condition. -/
import Derived.Test.YthdcmcackobodaaShelf
import Derived.Test.YthdcmcackobodaaWMore
namespace Go.Proofs.Ythdcmcackobodaa.Own
open Go.RowKit Go.Proofs.YthdcmcackobodaaW.PrintWords Go.Proofs.YthdcmcackobodaaW.PrintLast Go.Proofs.YthdcmcackobodaaW.PrintMore
set_option linter.unusedVariables false
set_option linter.unusedSimpArgs false
def containsF (s sub : ByteArray) : Option Bool := if s.size < 4294967281 then some (Lib.contains s.data.toList sub.data.toList) else none
theorem contains_calls (s sub : ByteArray) (r : Bool) (w : World) (hm : ∃ m, w.cell? ⟨0, 0, none⟩ = some (.int .i64 m)) (h : containsF s sub = some r) :
    Calls Try.prog 10 #[.string s, .string sub] w fun e w' => e = .returned (.bool r) ∧ Drawn0 w w' := by
  unfold containsF at h
  split at h
  · obtain rfl := Option.some.inj h
    obtain ⟨m, hm⟩ := hm
    rename_i hs
    refine (Try.strings_Contains s sub m w hs hm).mono ?_
    rintro e w' ⟨rfl, rfl⟩
    exact ⟨rfl, Drawn0.refl _⟩
  · cases h
def joinF (l : List ByteArray) (sep : ByteArray) : Option ByteArray := if 0 < l.length ∧ l.length ≤ 140737488355328 ∧ (Lib.join (l.map (·.data.toList)) sep.data.toList).length ≤ 140737488355328 then some ⟨(Lib.join (l.map (·.data.toList)) sep.data.toList).toArray⟩ else none
theorem join_calls (A0 : Option Addr) (c0 : Nat) (l : List ByteArray) (sep : ByteArray) (r : ByteArray) (w : World) (hr0 : Kd.C Kd.string w A0 l.length l) (hc0 : l.length ≤ c0) (h : joinF l sep = some r) :
    Calls Try.prog 11 #[.slice A0 l.length c0, .string sep] w fun e w' => e = .returned (.string r) ∧ Below w.heap.size w w' := by
  unfold joinF at h
  split at h
  · rename_i hs
    obtain rfl := Option.some.inj h
    have hR := Kd.reads_of_C (enc := Value.string) (d := ByteArray.empty) (h1 := fun _ => rfl) hr0
    obtain ⟨ad, rfl, hc⟩ := hR.2.2 hs.1
    have h0 := hc 0 hs.1
    obtain ⟨b, o, sp⟩ := ad
    have hlt : b < w.heap.size ∧ sp = none := by
      rw [show (⟨b, o, sp⟩ : Addr).add 0 = ⟨b, o, sp⟩ from rfl] at h0
      unfold World.cell? at h0
      split at h0
      · rename_i heq
        refine ⟨(Array.getElem?_eq_some_iff.1 heq).1, ?_⟩
        cases sp with
        | none => rfl
        | some _ => simp at h0
      · cases h0
    have hadd : ∀ j, (⟨b, o, none⟩ : Addr).add j = ⟨b, o + j, none⟩ := fun j => by unfold Addr.add; split <;> simp_all
    obtain ⟨hlt, rfl⟩ := hlt
    refine (Try.strings_Join b o c0 l sep w (fun j x hj => ?_) hlt hs.2.1 hc0 hs.2.2)
    obtain ⟨hjl, hx⟩ := List.getElem?_eq_some_iff.1 hj
    have := hc j hjl
    rw [hadd, List.getD_eq_getElem?_getD, hj] at this
    exact this
  · cases h
end Go.Proofs.Ythdcmcackobodaa.Own
