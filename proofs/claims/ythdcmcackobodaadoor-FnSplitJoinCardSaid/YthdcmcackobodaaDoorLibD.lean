/- Go's library functions that the laws of this seat reach, by the shelf's contracts, in the print's form. No condition. -/
import Derived.Test.YthdcmcackobodaaDoorShelf
import Derived.Test.YthdcmcackobodaaDoorWMore
namespace Go.Proofs.YthdcmcackobodaaDoor.Own
open Go.RowKit Go.Proofs.YthdcmcackobodaaDoorW.PrintWords Go.Proofs.YthdcmcackobodaaDoorW.PrintLast Go.Proofs.YthdcmcackobodaaDoorW.PrintMore
set_option linter.unusedVariables false
set_option linter.unusedSimpArgs false
theorem below_grow (w : World) (os : Array Obj) : Below w.heap.size w (Sort.grow w os) :=
  ⟨rfl, rfl, rfl, by simp [Sort.grow], fun i hi => by simp [Sort.grow, Array.getElem?_append, hi]⟩
def itoaF (a : Int) : Option ByteArray := if -9223372036854775808 ≤ a ∧ a ≤ 9223372036854775807 then some ⟨(Lib.itoa a).toArray⟩ else none
theorem itoa_calls (a : Int) (r : ByteArray) (w : World) (ht : Lib.TabIs Tryd.prog w "internal/strconv.uint64pow10" .u64 Lib.pow10Tab) (h : itoaF a = some r) :
    Calls Tryd.prog 80 #[.int .i64 a] w fun e w' => e = .returned (.string r) ∧ Below w.heap.size w w' := by
  unfold itoaF at h
  split at h
  · rename_i hb
    obtain rfl := Option.some.inj h
    refine (Tryd.strconv_Itoa a hb.1 hb.2 w ht).mono ?_
    rintro e w' ⟨rfl, k, os, rfl⟩
    refine ⟨rfl, ?_⟩
    have h1 : Below w.heap.size w (w.drewN k) := Drawn0.below ⟨⟨k, rfl⟩⟩
    exact below_then h1 h1.size (below_grow _ os)
  · cases h
def containsF (s sub : ByteArray) : Option Bool := if s.size < 4294967281 then some (Lib.contains s.data.toList sub.data.toList) else none
theorem contains_calls (s sub : ByteArray) (r : Bool) (w : World) (hm : ∃ m, w.cell? ⟨0, 0, none⟩ = some (.int .i64 m)) (h : containsF s sub = some r) :
    Calls Tryd.prog 65 #[.string s, .string sub] w fun e w' => e = .returned (.bool r) ∧ Drawn0 w w' := by
  unfold containsF at h
  split at h
  · obtain rfl := Option.some.inj h
    obtain ⟨m, hm⟩ := hm
    rename_i hs
    refine (Any.strings_Contains { Tryd.laysM144 with } s sub m w hs hm).mono ?_
    rintro e w' ⟨rfl, rfl⟩
    exact ⟨rfl, Drawn0.refl _⟩
  · cases h
def cutF (s sep : ByteArray) : Option (ByteArray × ByteArray × Bool) := if s.size < 4294967281 then some (⟨(Lib.cut s.data.toList sep.data.toList).1.toArray⟩, ⟨(Lib.cut s.data.toList sep.data.toList).2.1.toArray⟩, (Lib.cut s.data.toList sep.data.toList).2.2) else none
theorem cut_calls (s sep : ByteArray) (r1 r2 : ByteArray) (r3 : Bool) (w : World) (hm : ∃ m, w.cell? ⟨0, 0, none⟩ = some (.int .i64 m)) (h : cutF s sep = some (r1, r2, r3)) :
    Calls Tryd.prog 66 #[.string s, .string sep] w fun e w' => e = .returned (.tuple #[.string r1, .string r2, .bool r3]) ∧ Drawn0 w w' := by
  unfold cutF at h
  split at h
  · simp only [Option.some.injEq, Prod.mk.injEq] at h
    obtain ⟨rfl, rfl, rfl⟩ := h
    obtain ⟨m, hm⟩ := hm
    rename_i hs
    refine (Any.strings_Cut { Tryd.laysM145 with } s sep m w hs hm).mono ?_
    rintro e w' ⟨rfl, n, rfl⟩
    exact ⟨rfl, ⟨⟨n, rfl⟩⟩⟩
  · cases h
def splitF (s sep : ByteArray) : Option (List ByteArray) := if s.size < 4294967281 ∧ 1 ≤ sep.size then some (Lib.splitB sep 0 (Lib.countB s sep) s) else none
theorem split_calls (s sep : ByteArray) (r : List ByteArray) (w : World) (hm : ∃ m, w.cell? ⟨0, 0, none⟩ = some (.int .i64 m)) (h : splitF s sep = some r) :
    Calls Tryd.prog 55 #[.string s, .string sep] w fun e w' => ∃ v0_ : Value, e = .returned (v0_) ∧ Kd.R Kd.string 9 w' w.heap.size (fun _ => True) v0_ r ∧ Below w.heap.size w w' := by
  unfold splitF at h
  split at h
  · rename_i hs
    obtain rfl := Option.some.inj h
    obtain ⟨m, hm⟩ := hm
    have hl : (Lib.splitB sep 0 (Lib.countB s sep) s).length = Lib.countB s sep + 1 := Lib.splitB_all sep hs.2 0 _ s rfl
    have hle := Lib.countB_le sep hs.2 s.size s (Nat.le_refl _)
    refine (Tryd.strings_Split s sep m w hs.1 hm hs.2).mono ?_
    rintro e w' ⟨rfl, rfl⟩
    refine ⟨_, rfl, Kd.R_of_own ?_ (fun _ _ => trivial), below_alloc (Below.refl _ _) _⟩
    have h2 := World.ownsRow_lit (base := w.heap.size) (e := 9) (size := 1) w ((Lib.splitB sep 0 (Lib.countB s sep) s).map Value.string).toArray (Lib.countB s sep + 1) (Nat.le_refl _) (by simp only [maxLen]; omega) (by simp [hl])
    rw [hl]
    simpa [encs] using h2
  · cases h
def joinF (l : List ByteArray) (sep : ByteArray) : Option ByteArray := if 0 < l.length ∧ l.length ≤ 140737488355328 ∧ (Lib.join (l.map (·.data.toList)) sep.data.toList).length ≤ 140737488355328 then some ⟨(Lib.join (l.map (·.data.toList)) sep.data.toList).toArray⟩ else none
theorem join_calls (A0 : Option Addr) (c0 : Nat) (l : List ByteArray) (sep : ByteArray) (r : ByteArray) (w : World) (hr0 : Kd.C Kd.string w A0 l.length l) (hc0 : l.length ≤ c0) (h : joinF l sep = some r) :
    Calls Tryd.prog 71 #[.slice A0 l.length c0, .string sep] w fun e w' => e = .returned (.string r) ∧ Below w.heap.size w w' := by
  unfold joinF at h
  split at h
  · rename_i hs
    obtain rfl := Option.some.inj h
    have hR := Kd.reads_of_C (enc := Value.string) (d := ByteArray.empty) (h1 := fun _ => rfl) hr0
    obtain ⟨ad, rfl, hc⟩ := hR.2.2 hs.1
    have h0 := hc 0 hs.1
    obtain ⟨b, o, sp⟩ := ad
    have hlt : b < w.heap.size ∧ sp = none := by
      rw [show (⟨b, o, sp⟩ : Addr).add 0 = ⟨b, o, sp⟩ from rfl] at h0
      unfold World.cell? at h0
      split at h0
      · rename_i heq
        refine ⟨(Array.getElem?_eq_some_iff.1 heq).1, ?_⟩
        cases sp with
        | none => rfl
        | some _ => simp at h0
      · cases h0
    have hadd : ∀ j, (⟨b, o, none⟩ : Addr).add j = ⟨b, o + j, none⟩ := fun j => by unfold Addr.add; split <;> simp_all
    obtain ⟨hlt, rfl⟩ := hlt
    refine (Tryd.strings_Join b o c0 l sep w (fun j x hj => ?_) hlt hs.2.1 hc0 hs.2.2)
    obtain ⟨hjl, hx⟩ := List.getElem?_eq_some_iff.1 hj
    have := hc j hjl
    rw [hadd, List.getD_eq_getElem?_getD, hj] at this
    exact this
  · cases h
end Go.Proofs.YthdcmcackobodaaDoor.Own
