import Derived.Test.YthdhcecmjkiepaaShelf
import Derived.Test.YthdhcecmjkiepaaWMore
import Derived.Test.YthdhcecmjkiepaaOwnW
import Derived.Sort.LotA
import Derived.Sort.OwnSortedInts
namespace Go.Proofs.Ythdhcecmjkiepaa.Own
open Go.RowKit Go.Lib Go.Sort Go.Proofs.YthdhcecmjkiepaaW.PrintWords Go.Proofs.YthdhcecmjkiepaaW.PrintLast Go.Proofs.YthdhcecmjkiepaaW.PrintMore
set_option linter.unusedVariables false
set_option linter.unusedSimpArgs false
/-! The library's stable sort of at most twenty elements: insertion. -/
section
variable {α : Type} [Inhabited α]
theorem sort_one (S : Array α) (lt : α → α → Bool) : Sort.insertionSort lt S 20 20 = S := by
  unfold Sort.insertionSort
  rw [insOuter, if_neg (by omega)]
theorem size_swp_ (d : Array α) (i j : Nat) : (swp d i j).size = d.size := by simp [swp]
theorem inner_size (lt : α → α → Bool) (a : Nat) : ∀ (j : Nat) (d : Array α), (insInner lt a j d).size = d.size
  | 0, _ => rfl
  | j + 1, d => by
    unfold insInner
    split
    · rw [inner_size lt a j, size_swp_]
    · rfl
theorem outer_size (lt : α → α → Bool) (a b : Nat) : ∀ (m i : Nat) (d : Array α), b - i = m → (insOuter lt a b i d).size = d.size
  | 0, i, d, h => by rw [insOuter, if_neg (by omega)]
  | m + 1, i, d, h => by rw [insOuter, if_pos (by omega), outer_size lt a b m (i + 1) _ (by omega), inner_size]
theorem isort_size (lt : α → α → Bool) (d : Array α) (a b : Nat) : (Sort.insertionSort lt d a b).size = d.size := by unfold Sort.insertionSort; exact outer_size lt a b _ _ d rfl
theorem row_far (enc : α → Value) (w : World) (blk off m : Nat) (dk : Array α) (os : Array Obj) (a : Addr) (h1 : a.block ≠ blk) (h2 : a.block < w.heap.size) : (sortWorld enc w blk off m dk os).cell? a = w.cell? a := by
  unfold sortWorld
  rw [cell?_grow _ _ _ (by rw [size_putRow]; exact h2), cell?_putRow_other enc _ blk off dk a (.inl h1)]
  rfl
set_option maxHeartbeats 4000000 in
set_option maxRecDepth 100000 in
theorem stable_small (enc : α → Value) (hO : OneCell enc) (cf : α → α → Int) (g : Nat) (cb : Array Value) (blk off cap : Nat) (d : Array α) (w : World)
    (eg : ∀ args w, (callFunc g args).run Try.prog w = .ok (.enter g args) w) (hcmp : CmpReads Try.prog g cb enc cf blk off d.size w) (hH : Holds enc w blk off d) (h20 : d.size < 20) :
    Calls Try.prog 30 #[.slice (some ⟨blk, off, none⟩) d.size cap, .int .i64 d.size, .func (.func g) #[] cb] w fun e w' => e = .returned (.tuple #[]) ∧ ∃ n, w' = (putRow enc w blk off (Sort.insertionSort (ltOf cf) d 0 d.size)).drewN n := by
  have HI : Aside _ := Try.insertionSortCmpFunc_one enc hO cf g cb blk off cap 0 d.size d w eg hcmp hH (Nat.zero_le _) (Nat.le_refl _) (by omega)
  have c1 : decide (20 ≤ (d.size : Int)) = false := decide_eq_false (by omega)
  have c2 : decide (20 ≤ d.size) = false := decide_eq_false (by omega)
  have c3 : decide (20 < (d.size : Int)) = false := decide_eq_false (by omega)
  have c4 : decide (20 < d.size) = false := decide_eq_false (by omega)
  clear hcmp hH h20
  go_enter Try.func30, Try.ntmps30
  go_wp2
  refine wp_loop_rounds 1 ?_
  rw [rounds_succ]
  go_wp2_with (first | (go_at_call 33; refine (Calls.mono HI ?_); rintro e w1 ⟨rfl, n, hw⟩))
  refine wp_loop_rounds 1 ?_
  rw [rounds_succ]
  go_wp2
  go_end0
  exact ⟨rfl, n, by first | exact hw | rfl⟩
set_option maxHeartbeats 4000000 in
set_option maxRecDepth 100000 in
theorem stable_twenty (enc : α → Value) (hO : OneCell enc) (cf : α → α → Int) (g : Nat) (cb : Array Value) (blk off cap : Nat) (d : Array α) (w : World)
    (eg : ∀ args w, (callFunc g args).run Try.prog w = .ok (.enter g args) w) (hcmp : ∀ (n : Nat) (dk : Array α), dk.size = d.size → CmpReads Try.prog g cb enc cf blk off d.size ((putRow enc w blk off dk).drewN n))
    (hcmp0 : CmpReads Try.prog g cb enc cf blk off d.size w) (S : Array α) (hS : Sort.insertionSort (ltOf cf) d 0 20 = S) (hSs : S.size = d.size) (hH : Holds enc w blk off d) (hH1 : ∀ n, Holds enc ((putRow enc w blk off S).drewN n) blk off S) (h20 : d.size = 20) :
    Calls Try.prog 30 #[.slice (some ⟨blk, off, none⟩) d.size cap, .int .i64 d.size, .func (.func g) #[] cb] w fun e w' => e = .returned (.tuple #[]) ∧ ∃ n m, w' = (putRow enc ((putRow enc w blk off S).drewN n) blk off (Sort.insertionSort (ltOf cf) S 20 20)).drewN m := by
  have HI : Aside _ := Try.insertionSortCmpFunc_one enc hO cf g cb blk off cap 0 20 d w eg hcmp0 hH (by omega) (by omega) (by omega)
  have HJ : Aside (∀ n, Calls Try.prog 33 #[.slice (some ⟨blk, off, none⟩) d.size cap, .int .i64 20, .int .i64 20, .func (.func g) #[] cb] ((putRow enc w blk off S).drewN n) fun e w' => e = .returned (.tuple #[]) ∧ ∃ m, w' = (putRow enc ((putRow enc w blk off S).drewN n) blk off (Sort.insertionSort (ltOf cf) S 20 20)).drewN m) := fun n => by
    have h := Try.insertionSortCmpFunc_one enc hO cf g cb blk off cap 20 20 S ((putRow enc w blk off S).drewN n) eg (by rw [hSs]; exact hcmp n S hSs) (hH1 n) (by omega) (by omega) (by omega)
    rw [hSs] at h
    exact h
  rw [hS] at HI
  have c1 : decide (20 ≤ (d.size : Int)) = true := decide_eq_true (by omega)
  have c2 : decide (20 ≤ d.size) = true := decide_eq_true (by omega)
  have c3 : decide (20 < (d.size : Int)) = false := decide_eq_false (by omega)
  have c4 : decide (20 < d.size) = false := decide_eq_false (by omega)
  have c5 : decide (40 ≤ (d.size : Int)) = false := decide_eq_false (by omega)
  have c6 : decide (40 ≤ d.size) = false := decide_eq_false (by omega)
  have c7 : (d.size : Int) = 20 := by omega
  clear hcmp hcmp0 hH hH1 hS hSs h20
  go_enter Try.func30, Try.ntmps30
  go_wp2
  refine wp_loop_rounds 2 ?_
  rw [rounds_succ]
  go_wp2_with (first | (go_at_call 33; refine (Calls.mono HI ?_); rintro e w1 ⟨rfl, n, rfl⟩))
  rw [rounds_succ]
  go_wp2_with (first | (go_at_call 33; refine (Calls.mono (HJ n) ?_); rintro e w1 ⟨rfl, m, rfl⟩))
  refine wp_loop_rounds 1 ?_
  rw [rounds_succ]
  go_wp2
  go_end0
  exact ⟨rfl, n, m, rfl⟩
theorem stable_calls (enc : α → Value) (hO : OneCell enc) (cf : α → α → Int) (g : Nat) (cb : Array Value) (blk off cap : Nat) (d : Array α) (w : World) (hblk : blk < w.heap.size)
    (eg : ∀ args w, (callFunc g args).run Try.prog w = .ok (.enter g args) w) (hcmp : CmpReads Try.prog g cb enc cf blk off d.size w) (hH : Holds enc w blk off d) (h20 : d.size ≤ 20) :
    Calls Try.prog 30 #[.slice (some ⟨blk, off, none⟩) d.size cap, .int .i64 d.size, .func (.func g) #[] cb] w fun e w' => e = .returned (.tuple #[]) ∧ ∃ n, w' = (putRow enc w blk off (Sort.insertionSort (ltOf cf) d 0 d.size)).drewN n := by
  by_cases h : d.size < 20
  · exact stable_small enc hO cf g cb blk off cap d w eg hcmp hH h
  · have e20 : d.size = 20 := by omega
    have hs : (Sort.insertionSort (ltOf cf) d 0 20).size = d.size := by rw [isort_size]
    have hH1 : ∀ n, Holds enc ((putRow enc w blk off (Sort.insertionSort (ltOf cf) d 0 20)).drewN n) blk off (Sort.insertionSort (ltOf cf) d 0 20) := fun n => holds_putRow enc w blk off d _ hH hs
    refine (stable_twenty enc hO cf g cb blk off cap d w eg (fun n dk hdk => ?_) hcmp (Sort.insertionSort (ltOf cf) d 0 20) rfl hs hH hH1 e20).mono ?_
    · intro m os dj hj x y
      rw [← sortWorld_none, sortWorld_on enc w blk off n m dk dj #[] os hblk (by rw [hj, hdk])]
      exact hcmp _ _ dj hj x y
    · rintro e w' ⟨rfl, n, m, hw⟩
      refine ⟨rfl, n + m, ?_⟩
      rw [hw, sort_one, putRow_self enc _ blk off _ (hH1 n), e20, World.drewN_drewN]
theorem sorted_calls (enc : α → Value) (hO : OneCell enc) (cf : α → α → Int) (g : Nat) (cb : Array Value) (blk off cap : Nat) (d : Array α) (w : World) (hblk : blk < w.heap.size)
    (eg : ∀ args w, (callFunc g args).run Try.prog w = .ok (.enter g args) w) (hcmp : CmpReads Try.prog g cb enc cf blk off d.size w) (hH : Holds enc w blk off d) (h20 : d.size ≤ 20) :
    Calls Try.prog 25 #[.slice (some ⟨blk, off, none⟩) d.size cap, .func (.func g) #[] cb] w fun e w' => e = .returned (.tuple #[]) ∧ ∃ n, w' = (putRow enc w blk off (Sort.insertionSort (ltOf cf) d 0 d.size)).drewN n := by
  have HI : Aside _ := stable_calls enc hO cf g cb blk off cap d w hblk eg hcmp hH h20
  clear hcmp hH
  go_enter Try.func25, Try.ntmps25
  go_wp2_with (first | (go_at_call 30; refine (Calls.mono HI ?_); rintro e w1 ⟨rfl, n, rfl⟩))
  go_end0
  exact ⟨rfl, n, rfl⟩
end
/-- cmp.Compare of two whole numbers. -/
def cmpI (a b : Int) : Int := if a < b then -1 else if b < a then 1 else 0
theorem cmp_lt (a b : Int) (h : a < b) (w : World) : Calls Try.prog 27 #[.int .i64 a, .int .i64 b] w fun e w' => e = .returned (.int .i64 (-1)) ∧ w' = w := by
  have c1 : decide (a < b) = true := decide_eq_true h
  go_enter Try.func27, Try.ntmps27
  go_wp2
  go_ret
  exact ⟨rfl, rfl⟩
theorem cmp_gt (a b : Int) (h : b < a) (w : World) : Calls Try.prog 27 #[.int .i64 a, .int .i64 b] w fun e w' => e = .returned (.int .i64 1) ∧ w' = w := by
  have c1 : decide (a < b) = false := decide_eq_false (by omega)
  have c2 : decide (b < a) = true := decide_eq_true h
  go_enter Try.func27, Try.ntmps27
  go_wp2
  go_ret
  exact ⟨rfl, rfl⟩
theorem cmp_eq (a b : Int) (h : a = b) (w : World) : Calls Try.prog 27 #[.int .i64 a, .int .i64 b] w fun e w' => e = .returned (.int .i64 0) ∧ w' = w := by
  subst h
  have c1 : decide (a < a) = false := decide_eq_false (by omega)
  go_enter Try.func27, Try.ntmps27
  go_wp2
  go_ret
  exact ⟨rfl, rfl⟩
theorem cmp_calls (a b : Int) (w : World) : Calls Try.prog 27 #[.int .i64 a, .int .i64 b] w fun e w' => e = .returned (.int .i64 (cmpI a b)) ∧ w' = w := by
  unfold cmpI
  by_cases h : a < b
  · rw [if_pos h]; exact cmp_lt a b h w
  · rw [if_neg h]
    by_cases h2 : b < a
    · rw [if_pos h2]; exact cmp_gt a b h2 w
    · rw [if_neg h2]; exact cmp_eq a b (by omega) w
/-- The remainder of a share. -/
def fracI (a0 all : Int) (l : List Int) (i : Nat) : Int := Int.tmod (wrap64 (a0 * l.getD i 0)) all
set_option maxHeartbeats 4000000 in
set_option maxRecDepth 100000 in
theorem lit_calls (a0 all : Int) (l : List Int) (x y : Nat) (hx : x < l.length) (hy : y < l.length) (gt gw ga : Nat) (A : Addr) (c : Nat) (W : World)
    (h1 : W.cell? ⟨gt, 0, none⟩ = some (.int .i64 a0)) (h2 : W.cell? ⟨gw, 0, none⟩ = some (.slice (some A) l.length c)) (h3 : W.cell? ⟨ga, 0, none⟩ = some (.int .i64 all))
    (hx1 : W.cell? (A.add x) = some (.int .i64 (l.getD x 0))) (hy1 : W.cell? (A.add y) = some (.int .i64 (l.getD y 0)))
    (h0 : all ≠ 0) :
    Calls Try.prog 26 (#[.int .i64 (x : Int), .int .i64 (y : Int)] ++ #[.pointer (some ⟨gt, 0, none⟩), .pointer (some ⟨gw, 0, none⟩), .pointer (some ⟨ga, 0, none⟩)]) W fun e w' => e = .returned (.int .i64 (cmpI (fracI a0 all l y) (fracI a0 all l x))) ∧ ∃ q, w' = W.drewN q := by
  have hc : ∀ n, Calls Try.prog 27 #[.int .i64 (Int.tmod (wrap64 (a0 * l.getD y 0)) all), .int .i64 (Int.tmod (wrap64 (a0 * l.getD x 0)) all)] (W.drewN n) fun e w' => e = .returned (.int .i64 (cmpI (Int.tmod (wrap64 (a0 * l.getD y 0)) all) (Int.tmod (wrap64 (a0 * l.getD x 0)) all))) ∧ ∃ q, w' = (W.drewN n).drewN q := fun n => (cmp_calls _ _ _).mono fun e w' h => ⟨h.1, 0, h.2⟩
  generalize hvx : l.getD x 0 = vx at hx1
  generalize hvy : l.getD y 0 = vy at hy1
  have ex : fracI a0 all l x = Int.tmod (wrap64 (a0 * vx)) all := by unfold fracI; rw [hvx]
  have ey : fracI a0 all l y = Int.tmod (wrap64 (a0 * vy)) all := by unfold fracI; rw [hvy]
  rw [hvx, hvy] at hc
  rw [ex, ey]
  have mixed : Try.prog.follows Departure.mixedOrders = true := by kernel_rfl
  have z0 : ¬ all = 0 := by omega
  have p1 : (0 : Int) ≤ (x : Int) := by omega
  have p2 : (x : Int) < (l.length : Int) := by omega
  have p3 : (0 : Int) ≤ (y : Int) := by omega
  have p4 : (y : Int) < (l.length : Int) := by omega
  clear ex ey hvx hvy
  go_enter Try.func26, Try.ntmps26
  go_wp2_with fail
  go_quiet (first | (with_reducible refine Calls.quiet_of (hc _)))
  go_wp2
  go_ret
  exact ⟨rfl, _, rfl⟩
/-! The sum of a row. -/
def sumW (l : List Int) : Int := l.foldl (fun s x => wrap64 (s + x)) 0
theorem sumW_step (l : List Int) (i : Nat) (h : i < l.length) : sumW (l.take (i + 1)) = wrap64 (sumW (l.take i) + YthdhcecmjkiepaaW.PrintWords.rd l (i : Int)) := by
  have e : YthdhcecmjkiepaaW.PrintWords.rd l (i : Int) = l[i] := by
    unfold YthdhcecmjkiepaaW.PrintWords.rd
    rw [Int.toNat_natCast, List.getD_eq_getElem?_getD, List.getElem?_eq_getElem h]
    rfl
  rw [e, List.take_succ_eq_append_getElem h]
  unfold sumW
  rw [List.foldl_append]
  rfl
set_option maxHeartbeats 4000000 in
set_option maxRecDepth 100000 in
theorem sumOf_calls (A0 : Option Addr) (c0 : Nat) (l : List Int) (w : World) (hr0 : Kd.C (Kd.int .i64) w A0 l.length l) (hL : l.length ≤ 1000000000) :
    Calls Try.prog 20 #[.slice A0 l.length c0] w fun e w' => e = .returned (.int .i64 (sumW l)) ∧ Drawn0 w w' := by
  have HR0 := Aside0.mk hr0
  have HL := Aside0.mk hL
  clear hr0 hL
  go_enter Try.func20, Try.ntmps20
  go_wp2
  go_loopg [3, 8] (l.length + 1) (fun kq v3 v8 w' => ∃ (i : Nat), v3 = .int .i64 (sumW (l.take i)) ∧ v8 = .int .i64 (i : Int) ∧ Aside0 (i + kq = l.length + 1) ∧ Aside0 (i ≤ l.length) ∧ Drawn0 w w')
  case atStart => exact ⟨0, by first | rfl | (simp [sumW]; done), by first | rfl | (simp; done), ⟨by omega⟩, ⟨by omega⟩, by repeat (first | exact Drawn0.refl _ | apply Drawn0.step)⟩
  case round =>
    obtain ⟨i, rfl, rfl, HK, HI, ⟨m1, rfl⟩⟩ := hrel
    by_cases c5 : i < l.length
    · have hst := Aside0.mk (sumW_step l i c5)
      have c6 : decide ((i : Int) < (l.length : Int)) = true := decide_eq_true (by omega)
      have c7 : decide (i < l.length) = true := decide_eq_true c5
      have c8 := eq_true c5
      have p5 : 0 ≤ (i : Int) := by omega
      have q5 : (i : Int) < l.length := by omega
      obtain ⟨ad, ea, hx0⟩ := Kd.at_int HR0.out (i : Int) p5 q5
      cases ea
      simp only [Int.toNat_natCast] at hx0
      replace p5 := eq_true p5
      replace q5 := eq_true q5
      have w1 : wrap64 ((i : Int) + 1) = ((i + 1 : Nat) : Int) := by have := HL.out; unfold wrap64; omega
      clear c5
      go_wp2
      go_roundg (gk - 1)
      case measure => have := HK.out; have := of_decide_eq_true c7; omega
      case rel => exact ⟨i + 1, by rw [hst.out], by rw [w1], ⟨by have := HK.out; have := of_decide_eq_true c7; omega⟩, ⟨by have := of_decide_eq_true c7; omega⟩, by repeat (first | exact Drawn0.refl _ | apply Drawn0.step)⟩
    · have c6 : decide ((i : Int) < (l.length : Int)) = false := decide_eq_false (by omega)
      have c7 : decide (i < l.length) = false := decide_eq_false c5
      have c8 := eq_false c5
      have e1 : l.take i = l := List.take_of_length_le (by omega)
      rw [e1]
      clear c5
      go_wp2
      go_ret
      exact ⟨by first | rfl | (simp; done) | (simp [*]; done), by repeat (first | exact Drawn0.refl _ | apply Drawn0.step)⟩
/-! impl.shares. -/
def encM (n x : Nat) : Value := .int .i64 ((x % n : Nat) : Int)
/-- The shares rounded down. -/
def outI (a0 all : Int) (l : List Int) : List Int := l.map fun x => wrap64 (Int.tdiv (wrap64 (a0 * x)) all)
def numI (n : Nat) : List Int := (List.range n).map fun (i : Nat) => (i : Int)
/-- The order in which the rest is dealt out. -/
def ordA (a0 all : Int) (l : List Int) : Array Nat := Sort.insertionSort (ltOf fun x y => cmpI (fracI a0 all l (y % l.length)) (fracI a0 all l (x % l.length))) (Array.range l.length) 0 l.length
def ordI (a0 all : Int) (l : List Int) : List Int := (ordA a0 all l).toList.map fun x => ((x % l.length : Nat) : Int)
def bump (o : List Int) (j : Int) : List Int := o.set j.toNat (wrap64 (YthdhcecmjkiepaaW.PrintWords.rd o j + 1))
def bumps (o : List Int) (js : List Int) : List Int := js.foldl bump o
def sharesF (a0 : Int) (l : List Int) : Option (List Int) :=
  if sumW l ≠ 0 ∧ 1 ≤ l.length ∧ l.length ≤ 20 ∧ wrap64 (a0 - sumW (outI a0 (sumW l) l)) ≤ (l.length : Int) then
    some (bumps (outI a0 (sumW l) l) ((ordI a0 (sumW l) l).take (wrap64 (a0 - sumW (outI a0 (sumW l) l))).toNat)) else none
theorem outI_len (a0 all : Int) (l : List Int) : (outI a0 all l).length = l.length := by simp [outI]
theorem outI_step (a0 all : Int) (l : List Int) (i : Nat) (h : i < l.length) : (outI a0 all l).take (i + 1) = (outI a0 all l).take i ++ [wrap64 (Int.tdiv (wrap64 (a0 * YthdhcecmjkiepaaW.PrintWords.rd l (i : Int))) all)] := by
  have e : YthdhcecmjkiepaaW.PrintWords.rd l (i : Int) = l[i] := by
    unfold YthdhcecmjkiepaaW.PrintWords.rd
    rw [Int.toNat_natCast, List.getD_eq_getElem?_getD, List.getElem?_eq_getElem h]
    rfl
  rw [e, List.take_succ_eq_append_getElem (by rw [outI_len]; exact h)]
  simp [outI]
theorem numI_len (n : Nat) : (numI n).length = n := by simp [numI]
theorem numI_step (n i : Nat) (h : i < n) : (numI n).take (i + 1) = (numI n).take i ++ [(i : Int)] := by
  rw [List.take_succ_eq_append_getElem (by rw [numI_len]; exact h)]
  simp [numI]
theorem putRow_enc (n : Nat) (w : World) (g : Nat) (S : Array Nat) : putRow (encM n) w g 0 S = putRow (Value.int .i64) w g 0 (S.toList.map fun x => ((x % n : Nat) : Int)).toArray := by
  unfold putRow
  congr 1
  funext c
  unfold putCells
  apply Array.ext
  · simp
  · intro j h1 h2
    simp only [Array.getElem_mapIdx, List.size_toArray, List.length_map, Array.length_toList, Nat.zero_add, Nat.sub_zero, Nat.zero_le, true_and]
    by_cases hj : j < S.size
    · rw [if_pos hj, if_pos hj, getElem!_pos _ j hj, getElem!_pos _ j (by simpa using hj)]
      simp [encM]
    · rw [if_neg hj, if_neg hj]
theorem holds_enc (n : Nat) (w : World) (g : Nat) (h : Holds (Value.int .i64) w g 0 (numI n).toArray) : Holds (encM n) w g 0 (Array.range n) := by
  intro j hj
  have hj' : j < n := by simpa using hj
  obtain ⟨h1, h2⟩ := h j (by simpa [numI] using hj')
  refine ⟨?_, h2⟩
  rw [h1, getElem!_pos _ j (by simpa [numI] using hj'), getElem!_pos _ j (by simpa using hj')]
  simp [numI, encM, Nat.mod_eq_of_lt hj']
theorem ordA_size (a0 all : Int) (l : List Int) : (ordA a0 all l).size = l.length := by
  unfold ordA
  rw [isort_size]
  simp
theorem ordI_len (a0 all : Int) (l : List Int) : (ordI a0 all l).length = l.length := by
  unfold ordI
  rw [List.length_map, Array.length_toList, ordA_size]
/-- What the literal reads lies elsewhere than the row that is sorted. -/
theorem lit_reads (a0 all : Int) (l : List Int) (hl : 0 < l.length) (gt gw ga : Nat) (A : Addr) (c : Nat) (w : World) (h0 : all ≠ 0)
    (h1 : w.cell? ⟨gt, 0, none⟩ = some (.int .i64 a0)) (h2 : w.cell? ⟨gw, 0, none⟩ = some (.slice (some A) l.length c)) (h3 : w.cell? ⟨ga, 0, none⟩ = some (.int .i64 all))
    (hrow : ∀ j, j < l.length → w.cell? (A.add j) = some (.int .i64 (l.getD j 0))) (blk size : Nat) (n1 : gt ≠ blk) (n2 : gw ≠ blk) (n3 : ga ≠ blk) (n4 : A.block ≠ blk) :
    CmpReads Try.prog 26 #[.pointer (some ⟨gt, 0, none⟩), .pointer (some ⟨gw, 0, none⟩), .pointer (some ⟨ga, 0, none⟩)] (encM l.length) (fun x y => cmpI (fracI a0 all l (y % l.length)) (fracI a0 all l (x % l.length))) blk 0 size w := by
  intro m os dk hdk x y
  have hx := Nat.mod_lt x hl
  have hy := Nat.mod_lt y hl
  have far : ∀ (a : Addr) (v : Value), a.block ≠ blk → w.cell? a = some v → (sortWorld (encM l.length) w blk 0 m dk os).cell? a = some v := fun a v hne hc => (row_far _ w blk 0 m dk os a hne (World.block_lt_of_cell? w _ hc)).trans hc
  exact lit_calls a0 all l (x % l.length) (y % l.length) hx hy gt gw ga A c _ (far _ _ n1 h1) (far _ _ n2 h2) (far _ _ n3 h3) (far _ _ (by rw [add_block]; exact n4) (hrow _ hx)) (far _ _ (by rw [add_block]; exact n4) (hrow _ hy)) h0
theorem order_calls (a0 all : Int) (l : List Int) (hl : 0 < l.length) (h20 : l.length ≤ 20) (gt gw ga : Nat) (A : Addr) (c : Nat) (w0 w : World) (h0 : all ≠ 0)
    (h1 : w.cell? ⟨gt, 0, none⟩ = some (.int .i64 a0)) (h2 : w.cell? ⟨gw, 0, none⟩ = some (.slice (some A) l.length c)) (h3 : w.cell? ⟨ga, 0, none⟩ = some (.int .i64 all))
    (hrow : ∀ j, j < l.length → w.cell? (A.add j) = some (.int .i64 (l.getD j 0))) (n1 : gt < w0.heap.size) (n2 : gw < w0.heap.size) (n3 : ga < w0.heap.size) (n4 : A.block < w0.heap.size)
    (hB : Below w0.heap.size w0 w) (ok : Nat → Prop) (v : Value) (ho : Kd.R (Kd.int .i64) 3 w w0.heap.size ok v (numI l.length)) :
    Calls Try.prog 25 #[v, .func (.func 26) #[] #[.pointer (some ⟨gt, 0, none⟩), .pointer (some ⟨gw, 0, none⟩), .pointer (some ⟨ga, 0, none⟩)]] w fun e w' =>
      e = .returned (.tuple #[]) ∧ Kd.R (Kd.int .i64) 3 w' w0.heap.size ok v (ordI a0 all l) ∧ Below w0.heap.size w0 w' ∧ w.grownBy w' v.ownBlock := by
  have hown := Kd.own_of_R ho
  have hok := ho.1
  have eg : ∀ args w, (callFunc 26 args).run Try.prog w = .ok (.enter 26 args) w := enters_of Try.func26 (by kernel_rfl) rfl
  rcases hown.2 with ⟨rfl, h0⟩ | ⟨g, cap, cur, rfl, hbase, hb, q1, q2, q3, q4⟩
  · rw [numI_len] at h0; omega
  · rw [numI_len] at hok q1 q4 ⊢
    have hg : g < w.heap.size := (Array.getElem?_eq_some_iff.1 hb).1
    have hH : Holds (Value.int .i64) w g 0 (numI l.length).toArray := holds_of_blockI hb (by rw [numI_len]; rw [Nat.mul_one] at q4; exact q4)
    have HS := sorted_calls (encM l.length) (fun _ => rfl) (fun x y => cmpI (fracI a0 all l (y % l.length)) (fracI a0 all l (x % l.length))) 26 #[.pointer (some ⟨gt, 0, none⟩), .pointer (some ⟨gw, 0, none⟩), .pointer (some ⟨ga, 0, none⟩)] g 0 cap (Array.range l.length) w hg eg
      (lit_reads a0 all l hl gt gw ga A c w h0 h1 h2 h3 hrow g _ (by omega) (by omega) (by omega) (by omega)) (holds_enc _ _ _ hH) (by simpa using h20)
    rw [Array.size_range] at HS
    refine HS.mono ?_
    rintro e w' ⟨rfl, n, hw⟩
    have hw2 : w' = grow (putRow (Value.int .i64) (Sort.ahead w n) g 0 (ordI a0 all l).toArray) #[] := by
      rw [hw, grow_empty]
      exact congrArg (fun W => World.drewN W n) (putRow_enc l.length w g (ordA a0 all l))
    subst hw2
    have ho2 := ownsRow_sortedI (w := w) (n := n) (os := #[]) (ss := ordI a0 all l) (ts := ordI a0 all l) rfl hbase hb (by rw [ordI_len]; exact q1) q2 q3
    rw [ordI_len] at ho2
    have hgr := grownBy_sortedI (w := w) (g := g) (n := n) (os := #[]) (ordI a0 all l).toArray
    refine ⟨rfl, Kd.R_of_own (by rw [ordI_len]; exact ho2) hok, hB.grown hgr hB.size (fun j hj => by injection hj with hj; rw [← hj]; exact hbase), hgr⟩
theorem bump_len (o : List Int) (j : Int) : (bump o j).length = o.length := by simp [bump]
theorem bumps_len : ∀ (js o : List Int), (bumps o js).length = o.length
  | [], _ => rfl
  | j :: js, o => by
    show (bumps (bump o j) js).length = _
    rw [bumps_len js, bump_len]
theorem bumps_step (o js : List Int) (j : Nat) (h : j < js.length) : bumps o (js.take (j + 1)) = (bumps o (js.take j)).set (YthdhcecmjkiepaaW.PrintWords.rd js (j : Int)).toNat (wrap64 (YthdhcecmjkiepaaW.PrintWords.rd (bumps o (js.take j)) (YthdhcecmjkiepaaW.PrintWords.rd js (j : Int)) + 1)) := by
  have e : YthdhcecmjkiepaaW.PrintWords.rd js (j : Int) = js[j] := by
    unfold YthdhcecmjkiepaaW.PrintWords.rd
    rw [Int.toNat_natCast, List.getD_eq_getElem?_getD, List.getElem?_eq_getElem h]
    rfl
  rw [e, List.take_succ_eq_append_getElem h]
  unfold bumps
  rw [List.foldl_append]
  rfl
theorem ordI_in (a0 all : Int) (l : List Int) (j : Nat) (hj : j < l.length) : 0 ≤ YthdhcecmjkiepaaW.PrintWords.rd (ordI a0 all l) (j : Int) ∧ YthdhcecmjkiepaaW.PrintWords.rd (ordI a0 all l) (j : Int) < (l.length : Int) := by
  have h : j < (ordI a0 all l).length := by rw [ordI_len]; exact hj
  have e : YthdhcecmjkiepaaW.PrintWords.rd (ordI a0 all l) (j : Int) = (ordI a0 all l)[j] := by
    unfold YthdhcecmjkiepaaW.PrintWords.rd
    rw [Int.toNat_natCast, List.getD_eq_getElem?_getD, List.getElem?_eq_getElem h]
    rfl
  have hm : (ordI a0 all l)[j] ∈ ordI a0 all l := List.getElem_mem h
  rw [e]
  generalize (ordI a0 all l)[j] = y at hm ⊢
  unfold ordI at hm
  obtain ⟨x, _, rfl⟩ := List.mem_map.1 hm
  have := Nat.mod_lt x (show 0 < l.length by omega)
  omega
set_option maxHeartbeats 8000000 in
set_option maxRecDepth 100000 in
theorem shares_calls (a0 : Int) (A1 : Option Addr) (c1 : Nat) (l1 r : List Int) (w : World) (hr1 : Kd.C (Kd.int .i64) w A1 l1.length l1) (hc1 : l1.length ≤ c1) (h : sharesF a0 l1 = some r) :
    Calls Try.prog 21 #[.int .i64 a0, .slice A1 l1.length c1] w fun e w' => ∃ v0_ : Value, e = .returned (v0_) ∧ Kd.R (Kd.int .i64) 3 w' w.heap.size (fun _ => True) v0_ r ∧ Below w.heap.size w w' := by
  unfold sharesF at h
  split at h
  case isFalse => cases h
  rename_i hd
  obtain ⟨d1, d2, d3, d4⟩ := hd
  have h := Option.some.inj h
  have hs1 := fun W (hW : Kd.C (Kd.int .i64) W A1 l1.length l1) => sumOf_calls A1 c1 l1 W hW (by omega)
  generalize sumW l1 = all at *
  have HS1 := Aside0.mk hs1
  have D2 := Aside0.mk d2
  have D3 := Aside0.mk d3
  have D4 := Aside0.mk d4
  have Hr := Aside0.mk h
  have info3 : (Try.prog.info? 3).map (fun i => (i.zero, i.size, i.bytes)) = some (some (.int .i64 0), 1, 8) := by kernel_rfl
  have mixed : Try.prog.follows Departure.mixedOrders = true := by kernel_rfl
  have HR1 := Aside0.mk hr1
  have HC1 := Aside0.mk hc1
  have HB := Aside0.mk (Below.refl w.heap.size w)
  have z0 : (all == 0) = false := beq_eq_false_iff_ne.mpr d1
  have z1 : (all != 0) = true := bne_iff_ne.mpr d1
  clear hs1 d2 d3 d4 h hr1 hc1
  go_enter Try.func21, Try.ntmps21
  go_upto_region 2 with (first | ((with_reducible refine gate_dst (N := 2) rfl ?_); refine Own.be (N := 2) (cs := #[.int .i64 a0]) (t := 3) ?_; intro gt hg w3 hbox hb; have BT := Aside0.mk hbox; have GT := Own.gs hg; replace HB := Own.bs hb; clear hbox hb hg) | ((with_reducible refine gate_dst (N := 3) rfl ?_); refine Own.be (N := 3) (cs := #[.slice A1 l1.length c1]) (t := 22) ?_; intro gw hg w4 hbox hb; replace HB := Own.bs hb; replace BT := Own.bb BT.out hb; have BW := Aside0.mk hbox; have yw : w4.cell? ⟨gw, 0, none⟩ = some (.slice A1 l1.length c1) := blk_cell hbox 0; clear hbox hb hg) | (go_at_call 20; (with_reducible refine (HS1.out _ (Kd.C_below HR1.out HB.out)).mono ?_); rintro e w5 ⟨rfl, hd⟩; have hb : Below w4.heap.size w4 w5 := (by obtain ⟨n, rfl⟩ := hd; exact pw_below_drewN (Below.refl _ _) n); clear hd yw; replace HB := Own.bs hb; replace BT := Own.bb BT.out hb; replace BW := Own.bb BW.out hb; clear hb) | ((with_reducible refine gate_dst (N := 5) rfl ?_); refine Own.be (N := 5) (cs := #[.int .i64 0]) (t := 3) ?_; intro ga hg w6 hbox hb; have NA := Own.nl hg BT.out; have NW := Own.nl hg BW.out; have GA := Own.gs hg; replace HB := Own.bs hb; replace BT := Own.bb BT.out hb; replace BW := Own.bb BW.out hb; have BA := Aside0.mk hbox; have ya := blk_frozen hbox 0; have yc : w6.cell? ⟨ga, 0, none⟩ = some (.int .i64 0) := blk_cell hbox 0; clear hbox hb hg) | ((with_reducible refine gate_store (t := 3) (p := 5) rfl ?_); refine store_event (t := 3) (p := 5) (v := ?vo) (w1 := (w6.setCell ⟨ga, 0, none⟩ (.int .i64 all))) ?hg ?ho ?hn ?hr ?_; (case ho => rfl); (case hg => rfl); (case hn => rfl); (case hr => first | (go_simp; done) | (go_simp; rfl)); intro w7 hw; replace BA := Aside0.mk (by rw [hw]; exact blk_put (cs := #[.int .i64 0]) (cs' := #[.int .i64 all]) BA.out 0 _ rfl : w7.heap[ga]? = some (.cells #[.int .i64 all] 3 (0, 0))); replace BT := Aside0.mk (by rw [hw]; exact blk_far BT.out NA.out _ : w7.heap[gt]? = some (.cells #[.int .i64 a0] 3 (0, 0))); replace BW := Aside0.mk (by rw [hw]; exact blk_far BW.out NW.out _ : w7.heap[gw]? = some (.cells #[.slice A1 l1.length c1] 22 (0, 0))); replace HB := Aside0.mk (by rw [hw]; exact below_set HB.out GA.out : Below w.heap.size w w7); clear hw ya yc))
  have YT := Aside0.mk (show w7.cell? ⟨gt, 0, none⟩ = some (.int .i64 a0) from blk_cell BT.out 0)
  have YW := Aside0.mk (show w7.cell? ⟨gw, 0, none⟩ = some (.slice A1 l1.length c1) from blk_cell BW.out 0)
  have YA := Aside0.mk (show w7.cell? ⟨ga, 0, none⟩ = some (.int .i64 all) from blk_cell BA.out 0)
  have LT := Aside0.mk (blk_lt BT.out)
  have LW := Aside0.mk (blk_lt BW.out)
  have LA := Aside0.mk (blk_lt BA.out)
  have HR7 := Aside0.mk (Kd.C_below HR1.out HB.out)
  have HW7 := HB
  clear HB BT BW BA HS1 NA NW GT GA h
  have HB := Aside0.mk (Below.refl w7.heap.size w7)
  go_wp2_with (first | ((with_reducible refine gate_dst (N := 13) rfl ?_); refine Kd.R_lit (Kd.int .i64) _ 3 ?hg (N := 13) ?hd (xs := ([] : List Int)) (inner := []) (ok := fun _ => True) (okp := fun _ => True) ?hr ?hp (fun _ hk => hk) trivial (Below.refl _ _) (Nat.le_refl _) (by simp) ?_; (case hd => rfl); (case hg => rfl); (case hr => first | (go_simp; done) | (go_simp; rfl)); (case hp => exact (Reps.none _ _)); intro v6 w8 ho hb hg_ hnew_; clear hg_ hnew_; have H6 := Aside0.mk ho; replace HB := Aside0.mk hb; clear hb ho) | ((with_reducible refine gate_dst (N := 14) rfl ?_); refine Kd.R_lit (Kd.int .i64) _ 3 ?hg (N := 14) ?hd (xs := ([] : List Int)) (inner := []) (ok := fun _ => True) (okp := fun _ => True) ?hr ?hp (fun _ hk => hk) trivial (Below.refl _ _) (Nat.le_refl _) (by simp) ?_; (case hd => rfl); (case hg => rfl); (case hr => first | (go_simp; done) | (go_simp; rfl)); (case hp => exact (Reps.none _ _)); intro v7 w9 ho hb hg_ hnew_; clear hg_ hnew_; have n0_ := Aside0.mk (Kd.R_elder' H6.out (Kd.R_base ho) hb); have n1_ := Aside0.mk (Kd.R_lower (Kd.R_new' ho (Kd.R_lt H6.out)) HB.out.size); replace HB := Aside0.mk (below_step HB.out hb); clear H6; have H6 := n0_; have H7 := n1_; have yw9 := Own.up HB.out YW.out; clear n0_ n1_ hb ho))
  clear yw9
  go_loopg [6, 7, 17] (l1.length + 1) (fun kq v6 v7 v17 w' => ∃ (i : Nat), v17 = .int .i64 (i : Int) ∧ Aside0 (i + kq = l1.length + 1) ∧ Aside0 (i ≤ l1.length) ∧ Aside0 (Kd.R (Kd.int .i64) 3 w' w7.heap.size (fun k_ => some k_ ≠ (v7 : Value).ownBlock) v6 ((outI a0 all l1).take i)) ∧ Aside0 (Kd.R (Kd.int .i64) 3 w' w7.heap.size (fun k_ => some k_ ≠ (v6 : Value).ownBlock) v7 ((numI l1.length).take i)) ∧ Aside0 (Below w7.heap.size w7 w'))
  case atStart => exact ⟨0, by first | rfl | (simp; done), ⟨by omega⟩, ⟨by omega⟩, ⟨by rw [List.take_zero]; exact Kd.R_mono H6.out (fun _ hk => hk.2)⟩, ⟨by rw [List.take_zero]; exact Kd.R_mono H7.out (fun _ hk => hk.2)⟩, HB⟩
  case round =>
    clear H6 H7 HB
    obtain ⟨i, rfl, HK, HI, H6, H7, HB⟩ := hrel
    by_cases c5 : i < l1.length
    · have HN := Aside0.mk c5
      have E6 := Aside0.mk (outI_step a0 all l1 i c5)
      have E7 := Aside0.mk (numI_step l1.length i c5)
      have c6 : decide ((i : Int) < (l1.length : Int)) = true := decide_eq_true (by omega)
      have c7 : decide (i < l1.length) = true := decide_eq_true c5
      have c8 := eq_true c5
      have p5 : 0 ≤ (i : Int) := by omega
      have q5 : (i : Int) < l1.length := by omega
      obtain ⟨ad, ea, hx0⟩ := Kd.at_int HR7.out (i : Int) p5 q5
      cases ea
      simp only [Int.toNat_natCast] at hx0
      replace hx0 := Own.up HB.out hx0
      have yt := Own.up HB.out YT.out
      have ya := Own.up HB.out YA.out
      replace p5 := eq_true p5
      replace q5 := eq_true q5
      have w1 : wrap64 ((i : Int) + 1) = ((i + 1 : Nat) : Int) := by have := D3.out; unfold wrap64; omega
      clear c5
      go_wp2_with (first | ((with_reducible refine gate_builtin (b := .append) (xs := #[.tmp 22, .tmp 28]) rfl ?_); at_builtin; refine Kd.R_append (Kd.int .i64) (w0 := w7) w7.heap.size rfl (.tmp 22) (.tmp 28) 22 3 (.int .i64 0) 8 rfl Try.underlying22 info3 rfl (by decide) (by omega) u6 ((outI a0 all l1).take i) (wrap64 (Int.tdiv (wrap64 (a0 * YthdhcecmjkiepaaW.PrintWords.rd l1 (i : Int))) all)) [.int .i64 (wrap64 (Int.tdiv (wrap64 (a0 * YthdhcecmjkiepaaW.PrintWords.rd l1 (i : Int))) all))] (fun k_ => some k_ ≠ (u7 : Value).ownBlock) (fun _ => False) rfl rfl ?aP (fun _ hk => hk.elim) ?aF ?aO ?aB ?aS ?aL ?_; (case aP => exact rfl); (case aB => exact HB.out); (case aF => exact (fun k_ hk => Kd.fresh' (Kd.R_lt H7.out) k_ hk)); (case aO => exact H6.out); (case aS => exact HB.out.size); (case aL => have := D3.out; have := HI.out; rw [List.length_take]; omega); intro v12 w14 ho hb hg hat; rw [← E6.out] at ho; have n0_ := Aside0.mk (Kd.R_after (ok := (fun _ => True)) (Kd.R_mono H7.out (fun _ hk => ⟨trivial, hk⟩)) hg hat); have n1_ := Aside0.mk hb; have n2_ := Aside0.mk ho; clear H7 HB H6; have H7 := n0_; have HB := n1_; have H6 := n2_; clear n0_ n1_ n2_ ho hb hg hat yt ya hx0) | ((with_reducible refine gate_builtin (b := .append) (xs := #[.tmp 30, .tmp 32]) rfl ?_); at_builtin; refine Kd.R_append (Kd.int .i64) (w0 := w7) w7.heap.size rfl (.tmp 30) (.tmp 32) 22 3 (.int .i64 0) 8 rfl Try.underlying22 info3 rfl (by decide) (by omega) u7 ((numI l1.length).take i) (i : Int) [.int .i64 (i : Int)] (fun k_ => some k_ ≠ (v12 : Value).ownBlock) (fun _ => False) rfl rfl ?aP (fun _ hk => hk.elim) ?aF ?aO ?aB ?aS ?aL ?_; (case aP => exact rfl); (case aB => exact HB.out); (case aF => exact (fun k_ hk => Kd.fresh' (Kd.R_lt H6.out) k_ hk)); (case aO => exact Kd.R_mono H7.out (fun _ hk => hk.2)); (case aS => exact HB.out.size); (case aL => have := D3.out; have := HI.out; rw [List.length_take]; omega); intro v16 w15 ho hb hg hat; rw [← E7.out] at ho; have n0_ := Aside0.mk (Kd.R_after (ok := (fun _ => True)) (Kd.R_mono H6.out (fun _ hk => ⟨trivial, hk⟩)) hg hat); have n1_ := Aside0.mk hb; have n2_ := Aside0.mk ho; clear H6 HB H7; have H6 := n0_; have HB := n1_; have H7 := n2_; clear n0_ n1_ n2_ ho hb hg hat))
      go_roundg (gk - 1)
      case measure => have := HK.out; have := HN.out; omega
      case rel => exact ⟨i + 1, by rw [w1], ⟨by have := HK.out; have := HN.out; omega⟩, ⟨by have := HN.out; omega⟩, ⟨Kd.R_mono H6.out (fun _ hk => hk.2)⟩, H7, HB⟩
    · have e6 : (outI a0 all l1).take i = outI a0 all l1 := List.take_of_length_le (by rw [outI_len]; omega)
      have e7 : (numI l1.length).take i = numI l1.length := List.take_of_length_le (by rw [numI_len]; omega)
      rw [e6] at H6
      rw [e7] at H7
      have c6 : decide ((i : Int) < (l1.length : Int)) = false := decide_eq_false (by omega)
      have c7 : decide (i < l1.length) = false := decide_eq_false c5
      have c8 := eq_false c5
      obtain ⟨ad, ea, hz⟩ := Kd.at_int HR7.out 0 (Int.le_refl 0) (by have := D2.out; omega)
      cases ea
      have hlt := World.block_lt_of_cell? w7 _ hz
      rw [add_block] at hlt
      have hrow : ∀ j, j < l1.length → wr.cell? (ad.add j) = some (.int .i64 (l1.getD j 0)) := fun j hj => by
        obtain ⟨ad', ea, hx⟩ := Kd.at_int HR7.out (j : Int) (by omega) (by omega)
        cases ea
        exact Own.up HB.out hx
      have HO := Aside0.mk (order_calls a0 all l1 (by have := D2.out; omega) D3.out gt gw ga ad c1 w7 wr d1 (Own.up HB.out YT.out) (Own.up HB.out YW.out) (Own.up HB.out YA.out) hrow LT.out LW.out LA.out hlt HB.out _ u7 H7.out)
      obtain ⟨g6, cap6, eu6, gb6, _, _⟩ := Kd.R_form H6.out (by rw [outI_len]; have := D2.out; omega)
      obtain ⟨g7, cap7, eu7, gb7, _, _⟩ := Kd.R_form H7.out (by rw [numI_len]; have := D2.out; omega)
      rw [outI_len] at eu6
      rw [numI_len] at eu7
      subst eu6 eu7
      have GB6 := Aside0.mk gb6
      have GB7 := Aside0.mk gb7
      clear hz hlt hrow e6 e7 c5 gb6 gb7 HK HI
      go_upto_region 10 with (first | (go_at_call 25; (with_reducible refine HO.out.mono ?_); rintro e w16 ⟨rfl, ho, hb, hg⟩; have n0_ := Aside0.mk (Kd.R_after (v := (.slice (some ⟨g7, 0, none⟩) l1.length cap7)) (v1 := (.slice (some ⟨g7, 0, none⟩) l1.length cap7)) (ok := (fun _ => True)) (Kd.R_mono H6.out (fun _ hk => ⟨trivial, hk⟩)) hg (.inl rfl)); have n1_ := Aside0.mk hb; have n2_ := Aside0.mk ho; clear H6 H7 HB HO; have H6 := n0_; have HB := n1_; have H7 := n2_; clear n0_ n1_ n2_ ho hb hg))
      have hS : ∀ n, Calls Try.prog 20 #[.slice (some ⟨g6, 0, none⟩) l1.length cap6] (w16.drewN n) fun e w' => e = .returned (.int .i64 (sumW (outI a0 all l1))) ∧ ∃ q, w' = (w16.drewN n).drewN q := fun n => by
        have hr := Kd.R_reads' H6.out
        have h := sumOf_calls (some ⟨g6, 0, none⟩) cap6 (outI a0 all l1) (w16.drewN n) (Kd.C_drewN hr.2.2 n) (by rw [outI_len]; have := D3.out; omega)
        rw [outI_len] at h
        exact h.mono (fun e w' h => ⟨h.1, by obtain ⟨q, hq⟩ := h.2; exact ⟨q, hq⟩⟩)
      have yt := Own.up HB.out YT.out
      go_quiet (first | (with_reducible refine Calls.quiet_of (hS _)))
      clear yt hS
      replace H6 := Aside0.mk (Kd.R_drewN H6.out nq)
      replace H7 := Aside0.mk (Kd.R_drewN H7.out nq)
      replace HB := Aside0.mk (pw_below_drewN HB.out nq)
      generalize w16.drewN nq = w17 at *
      have HM := Aside0.mk (show (wrap64 (a0 - sumW (outI a0 all l1))).toNat ≤ l1.length from by have := D4.out; omega)
      generalize hm : wrap64 (a0 - sumW (outI a0 all l1)) = m at *
      clear hm D4
      go_wp2
      go_loopg [42] (m.toNat + 1) (fun kq v42 w' => ∃ (j : Nat), v42 = .int .i64 (j : Int) ∧ Aside0 (j + kq = m.toNat + 1) ∧ Aside0 (j ≤ m.toNat) ∧ Aside0 (Kd.R (Kd.int .i64) 3 w' w7.heap.size (fun k_ => some k_ ≠ (.slice (some ⟨g7, 0, none⟩) l1.length cap7 : Value).ownBlock) (.slice (some ⟨g6, 0, none⟩) l1.length cap6) (bumps (outI a0 all l1) ((ordI a0 all l1).take j))) ∧ Aside0 (Kd.R (Kd.int .i64) 3 w' w7.heap.size (fun k_ => some k_ ≠ (.slice (some ⟨g6, 0, none⟩) l1.length cap6 : Value).ownBlock) (.slice (some ⟨g7, 0, none⟩) l1.length cap7) (ordI a0 all l1)) ∧ Aside0 (Below w7.heap.size w7 w'))
      case atStart => exact ⟨0, by first | rfl | (simp; done), ⟨by omega⟩, ⟨by omega⟩, ⟨by rw [List.take_zero]; exact Kd.R_mono H6.out (fun _ hk => hk.2)⟩, H7, HB⟩
      case round =>
        clear H6 H7 HB
        obtain ⟨j, rfl, HK, HI, H6, H7, HB⟩ := hrel
        by_cases c5 : j < m.toNat
        · have HN := Aside0.mk c5
          have hjn : j < l1.length := by have := HM.out; omega
          have c6 : decide ((j : Int) < m) = true := decide_eq_true (by omega)
          have c8 : ((j : Int) < m) = True := eq_true (by omega)
          have E6 := Aside0.mk (bumps_step (outI a0 all l1) (ordI a0 all l1) j (by rw [ordI_len]; exact hjn))
          obtain ⟨x7, f7⟩ := Kd.R_celln 0 H7.out (j : Int) (by omega) (by omega)
          obtain ⟨o1, o2⟩ := ordI_in a0 all l1 j hjn
          replace x7 : wr.cell? ⟨g7, j, none⟩ = some (.int .i64 (YthdhcecmjkiepaaW.PrintWords.rd (ordI a0 all l1) (j : Int))) := x7
          generalize YthdhcecmjkiepaaW.PrintWords.rd (ordI a0 all l1) (j : Int) = J at o1 o2 x7 E6
          obtain ⟨x6, f6⟩ := Kd.R_celln 0 H6.out J o1 o2
          replace x6 : wr.cell? ⟨g6, J.toNat, none⟩ = some (.int .i64 (YthdhcecmjkiepaaW.PrintWords.rd (bumps (outI a0 all l1) ((ordI a0 all l1).take j)) J)) := x6
          have HP := Aside0.mk (Kd.R_putg H6.out J (wrap64 (YthdhcecmjkiepaaW.PrintWords.rd (bumps (outI a0 all l1) ((ordI a0 all l1).take j)) J + 1)))
          have p5 : (0 ≤ (j : Int)) = True := eq_true (by omega)
          have q5 : ((j : Int) < (l1.length : Int)) = True := eq_true (by omega)
          have q6 : (j < l1.length) = True := eq_true hjn
          have o3 := eq_true o1
          have o4 := eq_true o2
          have w1 : wrap64 ((j : Int) + 1) = ((j + 1 : Nat) : Int) := by have := D3.out; unfold wrap64; omega
          clear c5 hjn o1 o2 f7
          go_wp2_with (first | ((with_reducible refine gate_store (t := 3) (p := 53) rfl ?_); refine store_event (t := 3) (p := 53) (v := ?vo_) (w1 := (wr.setCell ⟨g6, J.toNat, none⟩ (.int .i64 (wrap64 (YthdhcecmjkiepaaW.PrintWords.rd (bumps (outI a0 all l1) ((ordI a0 all l1).take j)) J + 1))))) ?hg ?ho ?hn ?hr ?_; (case ho => rfl); (case hg => rfl); (case hn => rfl); (case hr => first | (go_simp; done) | (go_simp; rfl)); intro w33 hw; have hg : wr.grownBy w33 (some g6) := (by rw [hw]; exact HP.out.2); have hp_ : Kd.R (Kd.int .i64) 3 w33 w7.heap.size (fun k_ => some k_ ≠ (.slice (some ⟨g7, 0, none⟩) l1.length cap7 : Value).ownBlock) (.slice (some ⟨g6, 0, none⟩) l1.length cap6) (bumps (outI a0 all l1) ((ordI a0 all l1).take (j + 1))) := (by rw [hw, E6.out]; exact HP.out.1); have n0_ := Aside0.mk hp_; have n1_ := Aside0.mk (Kd.R_after (v := (.slice (some ⟨g6, 0, none⟩) l1.length cap6)) (v1 := (.slice (some ⟨g6, 0, none⟩) l1.length cap6)) (ok := (fun _ => True)) (Kd.R_mono H7.out (fun _ hk => ⟨trivial, hk⟩)) hg (.inl rfl)); have n2_ := Aside0.mk (by rw [hw]; exact below_set HB.out GB6.out : Below w7.heap.size w7 w33); clear H6 H7 HB; have H6 := n0_; have H7 := n1_; have HB := n2_; clear n0_ n1_ n2_ hg hw hp_ x6 x7 f6 HP))
          go_roundg (gk - 1)
          case measure => have := HK.out; have := HN.out; omega
          case rel => exact ⟨j + 1, by rw [w1], ⟨by have := HK.out; have := HN.out; omega⟩, ⟨by have := HN.out; omega⟩, H6, ⟨Kd.R_mono H7.out (fun _ hk => hk.2)⟩, HB⟩
        · have ej : j = m.toNat := by have := HI.out; omega
          subst ej
          have c6 : decide (((m.toNat : Nat) : Int) < m) = false := decide_eq_false (by omega)
          have c8 : (((m.toNat : Nat) : Int) < m) = False := eq_false (by omega)
          clear c5
          go_wp2
          go_ret
          refine ⟨_, Own.rr, ?_, ?_⟩
          · rw [← Hr.out]
            exact Kd.R_lower (Kd.R_mono H6.out (fun _ _ => trivial)) HW7.out.size
          · exact below_step HW7.out HB.out
end Go.Proofs.Ythdhcecmjkiepaa.Own
