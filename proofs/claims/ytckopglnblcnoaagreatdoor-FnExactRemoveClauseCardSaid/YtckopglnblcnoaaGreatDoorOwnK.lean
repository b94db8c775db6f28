/- impl.ownContract: a copy whose every block lies in a place of its own. No condition. -/
import Derived.Test.YtckopglnblcnoaaGreatDoorOwnC
import Derived.Test.YtckopglnblcnoaaGreatDoorSepK
import Derived.Lib.SliceRun
namespace Go.Proofs.YtckopglnblcnoaaGreatDoor.Own
open Go.RowKit Go.Proofs.YtckopglnblcnoaaGreatDoor.QFnExactRemoveClause Go.Proofs.YtckopglnblcnoaaGreatDoorW.PrintWords Go.Proofs.YtckopglnblcnoaaGreatDoorW.PrintLast
set_option linter.unusedVariables false
set_option linter.unusedSimpArgs false
theorem SepR.weaken {w : World} {lo hi lo' hi' : Nat} {v : Value} {l : List S51} (h : SepR w lo hi v l) (h0 : lo' ≤ lo) (h1 : hi ≤ hi') : SepR w lo' hi' v l := by
  cases h with
  | nil h A c => exact .nil (by omega) _ _
  | row g c l cur V B E hp a0 a1 ht hc hm hf hb hd hr => exact .row g c l cur V B E hp (by omega) (by omega) ht hc hm hf (fun i hi => by have := hb i hi; omega) hd hr
theorem SepS.weaken {w : World} {lo hi lo' hi' : Nat} {v : Value} {l : List ByteArray} (h : SepS w lo hi v l) (h0 : lo' ≤ lo) (h1 : hi ≤ hi') : SepS w lo' hi' v l := by
  cases h with
  | nil h A c => exact .nil (by omega) _ _
  | row g c l hp a0 a1 ht hc hm hf => exact .row g c l hp (by omega) (by omega) ht hc hm hf
/-- An element's cells; its row's stretch. -/
structure Pk where
  x : S51
  V : Value
  B : Nat
  E : Nat
def Pk.cs (p : Pk) : List Value := [.string p.x.f0, .int .i64 p.x.f1, .int .i64 p.x.f2, .string p.x.f3, .int .i64 p.x.f4, .int .i64 p.x.f5, .int .i64 p.x.f6.f0, .string p.x.f6.f1, .int .i64 p.x.f6.f2, p.V, .int .i64 p.x.f7, .string p.x.f8]
theorem csk_at (ps : List Pk) : ∀ (i : Nat) (h : i < ps.length) (q : Nat), q < 12 → (ps.flatMap Pk.cs)[i * 12 + q]? = (ps[i].cs)[q]? := by
  induction ps with
  | nil => intro i h; exact absurd h (Nat.not_lt_zero _)
  | cons p ps ih =>
    intro i h q hq; rw [List.flatMap_cons]
    cases i with
    | zero => rw [List.getElem?_append_left (by simp [Pk.cs]; omega)]; simp
    | succ i =>
      rw [List.getElem?_append_right (by simp [Pk.cs]; omega), show (i + 1) * 12 + q - p.cs.length = i * 12 + q by simp [Pk.cs]; omega]
      exact ih i (by simpa using h) q hq
/-- A row under way, each part of it in a place of its own. -/
structure SepK (w : World) (base lo : Nat) (v : Value) (ps : List Pk) : Prop where
  own : w.ownsRow base 51 12 v ps.length (ps.flatMap Pk.cs)
  low : ∀ k, v.ownBlock = some k → lo ≤ k
  sub : ∀ p ∈ ps, lo ≤ p.B ∧ p.B ≤ p.E ∧ p.E ≤ w.heap.size ∧ (∀ k, v.ownBlock = some k → ¬ (p.B ≤ k ∧ k < p.E)) ∧ Sep w p.B p.E p.V p.x.f6.f3
  ord : ps.Pairwise (fun p q => p.E ≤ q.B)
theorem SepK.nil (w : World) (base lo : Nat) : SepK w base lo (.slice none 0 0) [] := ⟨⟨rfl, .inl ⟨rfl, rfl⟩⟩, fun k hk => by simp [Value.ownBlock] at hk, fun p hp => by simp at hp, .nil⟩
theorem SepK.move {w W : World} {base lo : Nat} {v : Value} {ps : List Pk} (h : SepK w base lo v ps) (hs : w.heap.size ≤ W.heap.size) (hk : ∀ k, lo ≤ k → k < w.heap.size → W.heap[k]? = w.heap[k]?) : SepK W base lo v ps := by
  refine ⟨⟨h.own.1, ?_⟩, h.low, fun p hp => ?_, h.ord⟩
  · rcases h.own.2 with a | ⟨g, cap, cur, rfl, hb, hh, r⟩
    · exact .inl a
    · exact .inr ⟨g, cap, cur, rfl, hb, (hk g (h.low g (by simp [Value.ownBlock])) (Array.getElem?_eq_some_iff.1 hh).1).trans hh, r⟩
  · obtain ⟨a, b, c, d, e⟩ := h.sub p hp
    exact ⟨a, b, by omega, d, e.kept (fun k x y => hk k (by omega) (by omega))⟩
/-- One more element, its row laid behind the others. -/
theorem SepK.snoc {w0 W w1 : World} {base lo : Nat} {v v1 : Value} {ps : List Pk} (h : SepK w0 base lo v ps) (hW : w0.heap.size ≤ W.heap.size) (h0 : ∀ k, lo ≤ k → k < w0.heap.size → W.heap[k]? = w0.heap[k]?) (p : Pk) (hlo : lo ≤ w0.heap.size) (hB : w0.heap.size ≤ p.B) (hBE : p.B ≤ p.E) (hE : p.E ≤ W.heap.size) (hp : Sep W p.B p.E p.V p.x.f6.f3)
    (ho : w1.ownsRow base 51 12 v1 (ps.length + 1) (ps.flatMap Pk.cs ++ p.cs)) (hg : W.grownBy w1 v.ownBlock) (hsz : W.heap.size ≤ w1.heap.size) (hat : v1.ownBlock = v.ownBlock ∨ ∃ b, v1.ownBlock = some b ∧ W.heap.size ≤ b) : SepK w1 base lo v1 (ps ++ [p]) := by
  have hold : ∀ k, v1.ownBlock = some k → (v.ownBlock = some k) ∨ W.heap.size ≤ k := fun k hk => by
    rcases hat with e | ⟨b, e, hb⟩
    · exact .inl (e ▸ hk)
    · rw [e] at hk; injection hk with hk; exact .inr (hk ▸ hb)
  have hlt : ∀ k, v.ownBlock = some k → k < w0.heap.size := fun k hk => own_lt h.own k hk
  refine ⟨?_, fun k hk => ?_, fun q hq => ?_, ?_⟩
  · rw [List.length_append, List.flatMap_append]; simpa using ho
  · rcases hold k hk with e | e
    · exact h.low k e
    · omega
  · rcases List.mem_append.1 hq with hq | hq
    · obtain ⟨a, b, c, d, e⟩ := h.sub q hq
      refine ⟨a, b, by omega, fun k hk => ?_, e.kept (fun k x y => ?_)⟩
      · rcases hold k hk with e | e
        · exact d k e
        · omega
      · rw [hg.block k (by omega) (fun he => d k he.symm ⟨x, y⟩), h0 k (by omega) (by omega)]
    · obtain rfl : q = p := by simpa using hq
      refine ⟨by omega, by omega, by omega, fun k hk => ?_, hp.kept (fun k x y => hg.block k (by omega) (fun he => by have := hlt k he.symm; omega))⟩
      rcases hold k hk with e | e
      · have := hlt k e; omega
      · omega
  · rw [List.pairwise_append]
    exact ⟨h.ord, List.pairwise_singleton _ _, fun a ha b hb => by obtain rfl : b = p := by simpa using hb
                                                                   have := (h.sub a ha).2.2.1; omega⟩
theorem SepK.done {w : World} {base lo : Nat} {v : Value} {ps : List Pk} (h : SepK w base lo v ps) (b : Nat) (hb : b ≤ lo) (hlo : lo ≤ w.heap.size) : SepR w b w.heap.size v (ps.map Pk.x) := by
  by_cases hp : 0 < ps.length
  case neg =>
    obtain rfl : ps = [] := List.length_eq_zero_iff.1 (by omega)
    rcases h.own.2 with ⟨rfl, _⟩ | ⟨g, cap, cur, rfl, _⟩
    · exact .nil (by omega) _ _
    · exact .nil (by omega) _ _
  rcases h.own.2 with ⟨_, h0⟩ | ⟨g, cap, cur, rfl, hbg, hh, hn, hc, hs, ht⟩
  · omega
  have hcell : ∀ i (hi : i < ps.length) (q : Nat), q < 12 → cur[i * 12 + q]? = (ps[i].cs)[q]? := fun i hi q hq => by
    rw [← csk_at ps i hi q hq, ← ht, List.getElem?_take_of_lt (by omega), Array.getElem?_toList]
  have hlen : (ps.map Pk.x).length = ps.length := by simp
  have hget : ∀ i (hi : i < (ps.map Pk.x).length), (ps.map Pk.x)[i] = (ps[i]'(by simpa using hi)).x := fun i hi => by simp
  have key := SepR.row (w := w) (lo := b) (hi := w.heap.size) g cap (ps.map Pk.x) cur (fun i => (ps[i]?.map Pk.V).getD (.slice none 0 0)) (fun i => (ps[i]?.map Pk.B).getD 0) (fun i => (ps[i]?.map Pk.E).getD 0) (by omega) (by have := h.low g (by simp [Value.ownBlock]); omega) (Array.getElem?_eq_some_iff.1 hh).1 hh (by omega) hc
    (fun i hi q hq => by
      have hi' : i < ps.length := by omega
      have e : (ps[i]?.map Pk.V).getD (.slice none 0 0) = ps[i].V := by rw [List.getElem?_eq_getElem hi']; rfl
      simp only [hget i hi, e]
      exact hcell i hi' q hq)
    (fun i hi => by
      have hi' : i < ps.length := by omega
      simp only [List.getElem?_eq_getElem hi', Option.map_some, Option.getD_some]
      obtain ⟨a, b', c, d, _⟩ := h.sub ps[i] (List.getElem_mem hi')
      have := d g (by simp [Value.ownBlock])
      omega)
    (fun i j hij hj => by
      have hj' : j < ps.length := by omega
      simp only [List.getElem?_eq_getElem hj', List.getElem?_eq_getElem (show i < ps.length by omega), Option.map_some, Option.getD_some]
      exact (List.pairwise_iff_getElem.1 h.ord) i j (by omega) hj' hij)
    (fun i hi => by
      have hi' : i < ps.length := by omega
      simp only [List.getElem?_eq_getElem hi', Option.map_some, Option.getD_some, hget i hi]
      exact (h.sub ps[i] (List.getElem_mem hi')).2.2.2.2)
  rw [hlen] at key
  exact key
theorem cloneS_nil (n c : Nat) (w : World) : Calls Tryz.prog 40 #[.slice none n c] w fun e w' => e = .returned (.slice none 0 0) ∧ w' = w := by
  have q22 : ∀ (w : World) (a : Option Addr) (n c : Nat), (binOp .eql 22 (.slice a n c) (.slice none 0 0)).run Tryz.prog w = .ok (.bool a.isNone) w := fun w a n c => Lib.run_eql_slice_nil w _ _ a n c 0 0 Tryz.underlying22
  go_enter Tryz.func40, Tryz.ntmps40
  go_wp2
  go_ret
  exact ⟨rfl, rfl⟩
set_option maxHeartbeats 2000000 in
set_option maxRecDepth 100000 in
theorem cloneS_some (ad : Addr) (n c : Nat) (news : List Value) (w : World) (hl : news.length = n * 1) (hn : n ≤ 100000000) (hc : ∀ j u, news[j]? = some u → w.cell? (ad.add j) = some u) (h1 : ∀ u ∈ news, u.oneCell' = true) :
    Calls Tryz.prog 40 #[.slice (some ad) n c] w fun e w' => ∃ v', e = .returned v' ∧ w'.ownsRow w.heap.size 9 1 v' n news ∧ Below w.heap.size w w' := by
  have q22 : ∀ (w : World) (a : Option Addr) (n c : Nat), (binOp .eql 22 (.slice a n c) (.slice none 0 0)).run Tryz.prog w = .ok (.bool a.isNone) w := fun w a n c => Lib.run_eql_slice_nil w _ _ a n c 0 0 Tryz.underlying22
  have u22 := Tryz.underlying22; obtain ⟨i0, hi, hzz⟩ := Option.map_eq_some_iff.1 info9
  simp only [Prod.mk.injEq] at hzz
  have A := Aside0.mk hc; have Z := Aside0.mk hzz; have I := Aside0.mk hi; clear hc hzz hi
  go_enter Tryz.func40, Tryz.ntmps40
  go_wp2_with (at_builtin; refine wpList_append_own _ rfl _ _ 22 rfl w.heap.size 9 i0 _ 1 16 Tryz.underlying22 I.out Z.out.1 Z.out.2.1 Z.out.2.2 rfl (by decide) _ _ _ rfl (World.ownsRow_made w #[] 0 (Nat.le_refl _) (Nat.zero_le _) (by simp)) ad n c news rfl ?qc1 ?qc2 ?qc3 ?qc4 ?qc5 ?qc6 ?_)
  case qc1 => exact hl
  case qc2 =>
    intro j u hj
    exact Lib.cell?_alloc_some _ (A.out j u hj)
  case qc3 => exact h1
  case qc4 => rw [Nat.zero_add]; exact Nat.le_trans hn (by decide)
  case qc5 => rw [Nat.zero_add]; omega
  case qc6 => simp
  intro v' w1 hown hgrow hnil
  go_wp2
  go_ret
  refine ⟨v', rfl, by simpa using hown, ?_⟩
  exact ((Below.refl _ w).alloc (Nat.le_refl _) _).grown hgrow (by simp) (by intro k hk; simp [Value.ownBlock] at hk; omega)
theorem sepS_own {w : World} {base : Nat} {v : Value} {l : List ByteArray} (hbw : base ≤ w.heap.size) (ho : w.ownsRow base 9 1 v l.length (l.map Value.string)) : SepS w base w.heap.size v l := by
  rcases ho.2 with ⟨rfl, h0⟩ | ⟨g, cap, cur, rfl, hbg, hh, hn, hc, hs, ht⟩
  · obtain rfl : l = [] := List.length_eq_zero_iff.1 h0
    exact .nil hbw _ _
  · by_cases hp : 0 < l.length
    case neg =>
      obtain rfl : l = [] := List.length_eq_zero_iff.1 (by omega)
      exact .nil (by have := (Array.getElem?_eq_some_iff.1 hh).1; omega) _ _
    refine .row g cap l hp hbg (Array.getElem?_eq_some_iff.1 hh).1 ⟨cur, hh⟩ hn hc (fun i hi => ?_)
    rw [blk_cell hh, ← Array.getElem?_toList]
    have : (cur.toList.take (l.length * 1))[i]? = (l.map Value.string)[i]? := by rw [ht]
    rw [List.getElem?_take_of_lt (by omega)] at this
    rw [this, List.getElem?_map, List.getElem?_eq_getElem hi]; rfl
theorem str_cells {w : World} {ad : Addr} {l : List ByteArray} (hr : Kd.C Kd.string w (some ad) l.length l) : ∀ j u, (l.map Value.string)[j]? = some u → w.cell? (ad.add j) = some u := by
  intro j u hu
  rw [List.getElem?_map] at hu
  obtain ⟨b, hb, rfl⟩ := Option.map_eq_some_iff.1 hu
  have hj := (List.getElem?_eq_some_iff.1 hb).1
  obtain ⟨ad', e, hx⟩ := Kd.at_string hr (j : Int) (by omega) (by omega)
  injection e with e
  subst e
  have e2 : rdOf ByteArray.empty l (j : Int) = b := by
    unfold rdOf
    rw [Int.toNat_natCast, List.getD_eq_getElem?_getD, hb]; rfl
  rw [e2] at hx
  simpa using hx
theorem cloneS_calls (A : Option Addr) (c : Nat) (l : List ByteArray) (w : World) (hr : Kd.C Kd.string w A l.length l) (hc : l.length ≤ c) (hl : l.length ≤ 100000000) :
    Calls Tryz.prog 40 #[.slice A l.length c] w fun e w' => ∃ A1 c1, e = .returned (.slice A1 l.length c1) ∧ SepS w' w.heap.size w'.heap.size (.slice A1 l.length c1) l ∧ Below w.heap.size w w' := by
  cases A with
  | none =>
    have h0 : l = [] := List.length_eq_zero_iff.1 (by rcases Nat.eq_zero_or_pos l.length with e | e; exact e; obtain ⟨_, e, _⟩ := hr.2.2 e; cases e)
    subst h0
    refine (cloneS_nil _ _ _).mono ?_
    rintro e w' ⟨rfl, rfl⟩
    exact ⟨_, _, rfl, .nil (Nat.le_refl _) _ _, Below.refl _ _⟩
  | some ad =>
    refine (cloneS_some ad l.length c (l.map Value.string) w (by simp) hl (str_cells hr) (by intro u hu; obtain ⟨b, _, rfl⟩ := List.mem_map.1 hu; rfl)).mono ?_
    rintro e w' ⟨v, rfl, ho, hb⟩
    have hS := sepS_own hb.size ho
    obtain ⟨A1, c1, rfl⟩ : ∃ A1 c1, v = .slice A1 l.length c1 := by cases hS with
      | nil h A c => exact ⟨_, _, rfl⟩
      | row g c l hp h0 h1 ht hc hm hf => exact ⟨_, _, rfl⟩
    exact ⟨_, _, rfl, hS, hb⟩
theorem SepS.form {w : World} {lo hi : Nat} {v : Value} {l : List ByteArray} (h : SepS w lo hi v l) : ∃ A n c, v = .slice A n c := by cases h <;> exact ⟨_, _, _, rfl⟩
theorem gsAt {W : World} {g : Nat} (hg : g = W.heap.size) : Aside0 (W.heap.size ≤ g) := ⟨Nat.le_of_eq hg.symm⟩
theorem put4at6 {W : World} {g : Nat} {t : TypeId} {a0 a1 a2 a3 a4 a5 a6 a7 a8 a9 a10 a11 b6 b7 b8 b9 : Value} (h : W.heap[g]? = some (.cells #[a0, a1, a2, a3, a4, a5, a6, a7, a8, a9, a10, a11] t (0, 0))) : ((((W.setCell ⟨g, 6, none⟩ b6).setCell ⟨g, 7, none⟩ b7).setCell ⟨g, 8, none⟩ b8).setCell ⟨g, 9, none⟩ b9).heap[g]? = some (.cells #[a0, a1, a2, a3, a4, a5, b6, b7, b8, b9, a10, a11] t (0, 0)) :=
  blk_put (blk_put (blk_put (blk_put h 6 _ rfl) 7 _ rfl) 8 _ rfl) 9 _ rfl
theorem rdK_nat (l : List S51) (i : Nat) (h : i < l.length) : rd_T51 l (i : Int) = l[i] := by
  unfold rd_T51
  rw [Int.toNat_natCast, List.getD_eq_getElem?_getD, List.getElem?_eq_getElem h]
  rfl
theorem szR_get (l : List S51) (i : Nat) (h : i < l.length) : 3 * szL l[i].f6.f3 ≤ szR l := by
  have h1 := szR_take l i h; have h2 := szR_le l (i + 1); omega
set_option maxHeartbeats 8000000 in
set_option maxRecDepth 100000 in
theorem ownK_calls (A0 : Option Addr) (c0 : Nat) (l0 : List ByteArray) (A1 : Option Addr) (c1 : Nat) (l1 : List S51) (w : World) (hr0 : Kd.C Kd.string w A0 l0.length l0) (hc0 : l0.length ≤ c0) (hr1 : Kd.C k51 w A1 l1.length l1) (hc1 : l1.length ≤ c1) (hz0 : l0.length ≤ 100000000) (hz : szR l1 ≤ 100000000) :
    Calls Tryz.prog 21 #[.agg #[.slice A0 l0.length c0, .slice A1 l1.length c1]] w fun e w' => ∃ (v0 v1 : Value) (M : Nat), e = .returned (.agg #[v0, v1]) ∧ SepS w' w.heap.size M v0 l0 ∧ SepR w' M w'.heap.size v1 l1 ∧ w.heap.size ≤ M ∧ M ≤ w'.heap.size ∧ Below w.heap.size w w' := by
  have hu1 := Tryz.underlying29; have hu2 := Tryz.underlying51; have hu3 := Tryz.underlying49; have HR0 := Aside0.mk hr0
  have HC0 := Aside0.mk (And.intro hc0 hz0)
  have HR1 := Aside0.mk hr1; have HC1 := Aside0.mk hc1
  have HL : Aside0 (l1.length ≤ 100000000) := ⟨by have := len_szR l1; omega⟩
  have HSZ := Aside0.mk hz
  have HB := Aside0.mk (Below.refl w.heap.size w)
  clear hr0 hc0 hr1 hc1 hz0 hz
  go_enter Tryz.func21, Tryz.ntmps21
  go_wp2_with (first | ((with_reducible refine gate_dst (N := 1) rfl ?_); refine Own.be (N := 1) (cs := #[.slice A0 l0.length c0, .slice A1 l1.length c1]) (t := 29) ?_; intro g1 hg w2 hbox hb; have BK1 := Aside0.mk hbox; have G1 := Own.gs hg; replace HB := Own.bs hb; clear hb hbox hg) | ((with_reducible refine gate_dst (N := 2) rfl ?_); refine Own.be (N := 2) (cs := #[.slice none 0 0, .slice none 0 0]) (t := 29) ?_; intro g2 hg w3 hbox hb; have BK2 := Aside0.mk hbox; have G2 := Own.gs hg; have NB := Own.nl hg BK1.out; replace BK1 := Own.bb BK1.out hb; replace HB := Own.bs hb; clear hb hbox hg; have L1 := Aside0.mk (blk_lt BK1.out); have L2 := Aside0.mk (blk_lt BK2.out); obtain ⟨y0, y1, z0, z1⟩ := Own.box2 BK1.out) | (go_at_call 40; (with_reducible refine (cloneS_calls A0 c0 l0 w3 (Kd.C_below HR0.out HB.out) HC0.out.1 HC0.out.2).mono ?_); rintro e w4 ⟨Av0, cv0, rfl, hs, hb⟩; have HS0 := Aside0.mk hs; have L3 := Aside0.mk (show w3.heap.size ≤ w4.heap.size from hb.size); replace BK1 := Own.bb BK1.out hb; replace BK2 := Own.bb BK2.out hb; replace HB := Own.bs hb; clear hs hb y0 y1 z0 z1) | ((with_reducible refine gate_dst (N := 3) rfl ?_); refine Own.be (N := 3) (cs := #[.slice none 0 0, .slice none 0 0]) (t := 29) ?_; intro g3 hg w5 hbox hb; have BK3 := Aside0.mk hbox; have G3 := (Own.gsAt hg : Aside0 (w4.heap.size ≤ g3)); have HM := Aside0.mk hb; have hn1 : g1 ≠ g3 := (by rw [hg]; exact Nat.ne_of_lt (blk_lt BK1.out)); have hn2 := hn1.symm; clear hb hbox hg; obtain ⟨y0, y1, z0, z1⟩ := Own.box2 (blk_below BK1.out HM.out); obtain ⟨r0, r1, s0, s1⟩ := Own.box2 BK3.out))
  clear y0 y1 z0 z1 r0 r1 s0 s1 hn1 hn2
  have LM := Aside0.mk (show w4.heap.size ≤ w5.heap.size from HM.out.size)
  replace L3 := Aside0.mk (blk_lt BK3.out)
  go_loopg [13] (l1.length + 1) (fun kq v13 w' => ∃ (i : Nat) (ps : List Pk) (u : Value), v13 = .int .i64 (i : Int) ∧ Aside0 (i + kq = l1.length + 1) ∧ Aside0 (i ≤ l1.length) ∧ Aside0 (ps.map Pk.x = l1.take i) ∧ Aside0 (SepK w' w.heap.size w5.heap.size u ps) ∧ Aside0 (w'.heap[g3]? = some (.cells #[.slice Av0 l0.length cv0, u] 29 (0, 0))) ∧ Aside0 (Below w4.heap.size w4 w') ∧ Aside0 (w5.heap.size ≤ w'.heap.size))
  case atStart => exact ⟨0, [], .slice none 0 0, by first | rfl | (simp; done), ⟨by omega⟩, ⟨by omega⟩, ⟨by simp⟩, ⟨SepK.nil _ _ _⟩, ⟨Own.put2 BK3.out⟩, ⟨below_set (below_set HM.out G3.out) G3.out⟩, ⟨by rw [World.size_setCell, World.size_setCell]; exact Nat.le_refl _⟩⟩
  case round =>
    clear BK3 HM; obtain ⟨i, ps, u, rfl, HK, HI, HP, HS, BK3, HM, HZ⟩ := hrel
    have HBa := Aside0.mk (HB.out.trans (HM.out.mono HB.out.size))
    by_cases c5 : i < l1.length
    · have Hi := Aside0.mk c5
      have c6 : decide ((i : Int) < (l1.length : Int)) = true := decide_eq_true (by omega)
      have c7 : decide (i < l1.length) = true := decide_eq_true c5
      have c8 := eq_true c5
      have p5 : 0 ≤ (i : Int) := by omega
      have q5 : (i : Int) < l1.length := by omega
      obtain ⟨ad, A9, c9, ea, hx0, hx1, hx2, hx3, hx4, hx5, hx6, hx7, hx8, hx9, hx10, hx11, hl9, hi9⟩ := at_T51 HR1.out (i : Int) p5 q5
      rw [rdK_nat l1 i Hi.out] at hx0 hx1 hx2 hx3 hx4 hx5 hx6 hx7 hx8 hx9 hx10 hx11 hl9 hi9; cases ea
      have HSX := Aside0.mk (szR_get l1 i Hi.out)
      generalize hx : l1[i]'Hi.out = x at hx0 hx1 hx2 hx3 hx4 hx5 hx6 hx7 hx8 hx9 hx10 hx11 hl9 hi9 HSX
      have HX := Aside0.mk hx; replace hx0 := Own.up HBa.out hx0; replace hx1 := Own.up HBa.out hx1; replace hx2 := Own.up HBa.out hx2; replace hx3 := Own.up HBa.out hx3; replace hx4 := Own.up HBa.out hx4; replace hx5 := Own.up HBa.out hx5; replace hx6 := Own.up HBa.out hx6; replace hx7 := Own.up HBa.out hx7; replace hx8 := Own.up HBa.out hx8; replace hx9 := Own.up HBa.out hx9; replace hx10 := Own.up HBa.out hx10; replace hx11 := Own.up HBa.out hx11
      simp only [Int.toNat_natCast] at hx0 hx1 hx2 hx3 hx4 hx5 hx6 hx7 hx8 hx9 hx10 hx11
      have H9 := Aside0.mk (And.intro hl9 hi9)
      replace HB := HBa; replace p5 := eq_true p5; replace q5 := eq_true q5
      have w1 : wrap64 ((i : Int) + 1) = ((i + 1 : Nat) : Int) := by have := HL.out; unfold wrap64; omega
      clear c5 hx hl9 hi9
      go_wp2_with (first | ((with_reducible refine gate_dst (N := 5) rfl ?_); refine Own.be (N := 5) (cs := #[.string (⟨#[]⟩ : ByteArray), .int .i64 0, .int .i64 0, .string (⟨#[]⟩ : ByteArray), .int .i64 0, .int .i64 0, .int .i64 0, .string (⟨#[]⟩ : ByteArray), .int .i64 0, .slice none 0 0, .int .i64 0, .string (⟨#[]⟩ : ByteArray)]) (t := 51) ?_; intro g5 hg w11 hbox hb; have G5 := (Own.gsAt hg : Aside0 (wr.heap.size ≤ g5)); have B5 := Aside0.mk hbox; have HR := Aside0.mk hb; clear hb hbox hg; obtain ⟨y0, y1, y2, y3, y4, y5, y6, y7, y8, y9, y10, y11, z0, z1, z2, z3, z4, z5, z6, z7, z8, z9, z10, z11⟩ := Own.box12 B5.out) | ((with_reducible refine gate_store (t := 51) (p := 5) rfl ?_); refine store_event (t := 51) (p := 5) (v := ?vo_) (w1 := ((((((((((((w11.setCell ⟨g5, 0, none⟩ (.string x.f0)).setCell ⟨g5, 1, none⟩ (.int .i64 x.f1)).setCell ⟨g5, 2, none⟩ (.int .i64 x.f2)).setCell ⟨g5, 3, none⟩ (.string x.f3)).setCell ⟨g5, 4, none⟩ (.int .i64 x.f4)).setCell ⟨g5, 5, none⟩ (.int .i64 x.f5)).setCell ⟨g5, 6, none⟩ (.int .i64 x.f6.f0)).setCell ⟨g5, 7, none⟩ (.string x.f6.f1)).setCell ⟨g5, 8, none⟩ (.int .i64 x.f6.f2)).setCell ⟨g5, 9, none⟩ (.slice A9 x.f6.f3.length c9)).setCell ⟨g5, 10, none⟩ (.int .i64 x.f7)).setCell ⟨g5, 11, none⟩ (.string x.f8))) ?hg ?ho ?hn ?hr ?_; (case ho => rfl); (case hg => rfl); (case hn => rfl); (case hr => first | (go_simp; done) | (go_simp; rfl)); intro w12 hw; replace B5 := Aside0.mk (by rw [hw]; exact Own.put12 B5.out : w12.heap[g5]? = some (.cells #[.string x.f0, .int .i64 x.f1, .int .i64 x.f2, .string x.f3, .int .i64 x.f4, .int .i64 x.f5, .int .i64 x.f6.f0, .string x.f6.f1, .int .i64 x.f6.f2, .slice A9 x.f6.f3.length c9, .int .i64 x.f7, .string x.f8] 51 (0, 0))); replace HR := Aside0.mk (by rw [hw]; exact below_set (below_set (below_set (below_set (below_set (below_set (below_set (below_set (below_set (below_set (below_set (below_set (HR.out) G5.out) G5.out) G5.out) G5.out) G5.out) G5.out) G5.out) G5.out) G5.out) G5.out) G5.out) G5.out : Below wr.heap.size wr w12); clear hw y0 y1 y2 y3 y4 y5 y6 y7 y8 y9 y10 y11 z0 z1 z2 z3 z4 z5 z6 z7 z8 z9 z10 z11; obtain ⟨y0, y1, y2, y3, y4, y5, y6, y7, y8, y9, y10, y11, z0, z1, z2, z3, z4, z5, z6, z7, z8, z9, z10, z11⟩ := Own.box12 B5.out) | (go_at_call 41; (with_reducible refine (ownS_calls (szL x.f6.f3) x.f6.f0 x.f6.f1 x.f6.f2 A9 c9 x.f6.f3 w12 rfl ?hz (Kd.C_below (Kd.C_below H9.out.2 HB.out) HR.out) H9.out.1).mono ?_); (case hz => have := HSX.out; have := HSZ.out; omega); rintro e w13 ⟨v_, rfl, hs, hb⟩; obtain ⟨Av, cv, rfl, hlv, _⟩ := hs.C; have HSv := Aside0.mk hs; have L12 := Aside0.mk (show wr.heap.size ≤ w12.heap.size from HR.out.size); have L13 := Aside0.mk (show w12.heap.size ≤ w13.heap.size from hb.size); have L5 := Aside0.mk (blk_lt B5.out); replace HR := Aside0.mk (HR.out.trans (hb.mono L12.out)); replace B5 := Aside0.mk (blk_below B5.out hb); clear hs hb hlv y0 y1 y2 y3 y4 y5 y6 y7 y8 y9 y10 y11 z0 z1 z2 z3 z4 z5 z6 z7 z8 z9 z10 z11; obtain ⟨y0, y1, y2, y3, y4, y5, y6, y7, y8, y9, y10, y11, z0, z1, z2, z3, z4, z5, z6, z7, z8, z9, z10, z11⟩ := Own.box12 B5.out) | ((with_reducible refine gate_store (t := 49) (p := 20) rfl ?_); refine store_event (t := 49) (p := 20) (v := ?vo_b) (w1 := ((((w13.setCell ⟨g5, 6, none⟩ (.int .i64 x.f6.f0)).setCell ⟨g5, 7, none⟩ (.string x.f6.f1)).setCell ⟨g5, 8, none⟩ (.int .i64 x.f6.f2)).setCell ⟨g5, 9, none⟩ (.slice Av x.f6.f3.length cv))) ?hg ?ho ?hn ?hr ?_; (case ho => rfl); (case hg => rfl); (case hn => rfl); (case hr => first | (go_simp; done) | (go_simp; rfl)); intro w14 hw; replace B5 := Aside0.mk (by rw [hw]; exact Own.put4at6 B5.out : w14.heap[g5]? = some (.cells #[.string x.f0, .int .i64 x.f1, .int .i64 x.f2, .string x.f3, .int .i64 x.f4, .int .i64 x.f5, .int .i64 x.f6.f0, .string x.f6.f1, .int .i64 x.f6.f2, .slice Av x.f6.f3.length cv, .int .i64 x.f7, .string x.f8] 51 (0, 0))); replace HR := Aside0.mk (by rw [hw]; exact below_set (below_set (below_set (below_set HR.out G5.out) G5.out) G5.out) G5.out : Below wr.heap.size wr w14); have HSw := Aside0.mk (HSv.out.kept (W := w14) (fun k a b => by have hk : k ≠ g5 := (by have := L5.out; omega); rw [hw, Below.heap_setCell _ ⟨g5, 9, none⟩ _ k hk, Below.heap_setCell _ ⟨g5, 8, none⟩ _ k hk, Below.heap_setCell _ ⟨g5, 7, none⟩ _ k hk, Below.heap_setCell _ ⟨g5, 6, none⟩ _ k hk])); have L14 := Aside0.mk (show w13.heap.size ≤ w14.heap.size from (by rw [hw, World.size_setCell, World.size_setCell, World.size_setCell, World.size_setCell]; exact Nat.le_refl _)); clear hw HSv y0 y1 y2 y3 y4 y5 y6 y7 y8 y9 y10 y11 z0 z1 z2 z3 z4 z5 z6 z7 z8 z9 z10 z11; obtain ⟨y0, y1, y2, y3, y4, y5, y6, y7, y8, y9, y10, y11, z0, z1, z2, z3, z4, z5, z6, z7, z8, z9, z10, z11⟩ := Own.box12 B5.out; obtain ⟨r0, r1, s0, s1⟩ := Own.box2 (blk_below BK3.out HR.out)) | ((with_reducible refine gate_builtin (b := .append) (xs := #[.tmp 22, .tmp 24]) rfl ?_); at_builtin; refine print_append_cells (w0 := w) w.heap.size rfl (.tmp 22) (.tmp 24) 27 51 (.agg #[(.string ⟨#[]⟩), (.int .i64 0), (.int .i64 0), (.string ⟨#[]⟩), (.int .i64 0), (.int .i64 0), (.int .i64 0), (.string ⟨#[]⟩), (.int .i64 0), (.slice none 0 0), (.int .i64 0), (.string ⟨#[]⟩)]) 12 144 rfl Tryz.underlying27 info51 rfl (by decide) (by omega) u ps.length (ps.flatMap Pk.cs) [.string x.f0, .int .i64 x.f1, .int .i64 x.f2, .string x.f3, .int .i64 x.f4, .int .i64 x.f5, .int .i64 x.f6.f0, .string x.f6.f1, .int .i64 x.f6.f2, .slice Av x.f6.f3.length cv, .int .i64 x.f7, .string x.f8] rfl rfl rfl ?h1 ?aO ?aB ?aS ?aL ?_; (case h1 => exact (by simp [Value.oneCell'])); (case aO => exact (HS.out.move HR.out.size (fun k _ hk => HR.out.block k hk)).own); (case aB => exact HBa.out.trans (HR.out.mono HBa.out.size)); (case aS => exact Nat.le_trans HBa.out.size HR.out.size); (case aL => have h1 := congrArg List.length HP.out; have h2 := HL.out; have h3 := HI.out; simp only [List.length_map, List.length_take] at h1; omega); intro v1 w15 ho hb2 hg hat; have HS2 := Aside0.mk (HS.out.snoc HR.out.size (fun k _ hk => HR.out.block k hk) ⟨x, .slice Av x.f6.f3.length cv, w12.heap.size, w13.heap.size⟩ HZ.out L12.out L13.out L14.out HSw.out ho hg hg.size hat); have n3 := Aside0.mk (blk_grown (blk_below BK3.out HR.out) hg (fun e => by have h1 := HS.out.low g3 e.symm; have h2 := L3.out; omega)); have HM2 := Aside0.mk ((HM.out.trans (HR.out.mono HM.out.size)).grown hg (Nat.le_trans HM.out.size HR.out.size) (fun k hk => by have h1 := HS.out.low k hk; have h2 := LM.out; omega)); have HZ2 := Aside0.mk (Nat.le_trans HZ.out (Nat.le_trans HR.out.size hg.size)); clear ho hb2 hg hat y0 y1 y2 y3 y4 y5 y6 y7 y8 y9 y10 y11 z0 z1 z2 z3 z4 z5 z6 z7 z8 z9 z10 z11 r0 r1 s0 s1; obtain ⟨r0, r1, s0, s1⟩ := Own.box2 n3.out; (obtain ⟨Au, cu, eu⟩ : ∃ A c, v1 = .slice A (ps.length + 1) c := by rcases HS2.out.own.2 with ⟨e, h0⟩ | ⟨g, cap, cur, e, _⟩; exact ⟨none, 0, by rw [List.length_append] at h0; simp at h0⟩; exact ⟨_, _, by rw [e, List.length_append]; rfl⟩); subst eu))
      go_roundg (gk - 1)
      case measure => have := HK.out; have := Hi.out; omega
      case rel => exact ⟨i + 1, _, _, by rw [w1], ⟨by have := HK.out; have := Hi.out; omega⟩, ⟨by have := Hi.out; omega⟩, ⟨by rw [List.map_append, HP.out, List.take_succ_eq_append_getElem Hi.out, HX.out]; rfl⟩, ⟨HS2.out.move (by rw [World.size_setCell]; exact Nat.le_refl _) (fun k a b => Below.heap_setCell _ ⟨g3, 1, none⟩ _ k (show k ≠ g3 from by have := L3.out; omega))⟩, ⟨blk_put (cs := #[.slice Av0 l0.length cv0, u]) n3.out 1 _ rfl⟩, ⟨below_set HM2.out G3.out⟩, ⟨by rw [World.size_setCell]; exact HZ2.out⟩⟩
    · have c6 : decide ((i : Int) < (l1.length : Int)) = false := decide_eq_false (by omega)
      have c7 : decide (i < l1.length) = false := decide_eq_false c5
      have c8 := eq_false c5
      have hil : i = l1.length := by have := HI.out; omega
      subst hil
      have BK2' := Aside0.mk (blk_below BK2.out HM.out)
      obtain ⟨y0, y1, z0, z1⟩ := Own.box2 BK3.out; obtain ⟨r0, r1, s0, s1⟩ := Own.box2 BK2'.out
      obtain ⟨Au, cu, eu⟩ : ∃ A c, u = .slice A ps.length c := by rcases HS.out.own.2 with ⟨e, h0⟩ | ⟨g, cap, cur, e, _⟩; exact ⟨none, 0, by rw [e, h0]⟩; exact ⟨_, _, e⟩
      subst eu
      have L2b := Aside0.mk (blk_lt BK2.out)
      go_wp2
      refine bodyPost_ret (results_cell_row rfl _ _ g2 29 #[.slice Av0 l0.length cv0, .slice Au ps.length cu] (0, 0) _ rfl (by with_reducible exact Own.put2 BK2'.out) Tryz.underlying29 rfl (by kernel_rfl)) rfl ?_
      have h1 := HS.out.done w5.heap.size (Nat.le_refl _) HZ.out
      rw [HP.out, List.take_length] at h1
      have hkk : ∀ k, k ≠ g2 → ((wr.setCell ⟨g2, 0, none⟩ (.slice Av0 l0.length cv0)).setCell ⟨g2, 1, none⟩ (.slice Au ps.length cu)).heap[k]? = wr.heap[k]? := fun k hk => by rw [Below.heap_setCell _ ⟨g2, 1, none⟩ _ k hk, Below.heap_setCell _ ⟨g2, 0, none⟩ _ k hk]
      have hszz : ((wr.setCell ⟨g2, 0, none⟩ (.slice Av0 l0.length cv0)).setCell ⟨g2, 1, none⟩ (.slice Au ps.length cu)).heap.size = wr.heap.size := by rw [World.size_setCell, World.size_setCell]
      have hn : g2 < w3.heap.size := L2.out
      refine ⟨_, _, w4.heap.size, Own.rr, ?_, ?_, ?_, ?_, below_set (below_set HBa.out G2.out) G2.out⟩
      · exact (HS0.out.kept (fun k a b => by rw [hkk k (by omega)]; exact HM.out.block k b)).weaken (by have := L1.out; have := G1.out; omega) (Nat.le_refl _)
      · rw [hszz]
        exact (h1.kept (fun k a b => hkk k (by have := LM.out; have := L2b.out; omega))).weaken LM.out (Nat.le_refl _)
      · exact HB.out.size
      · rw [hszz]; exact HM.out.size
end Go.Proofs.YtckopglnblcnoaaGreatDoor.Own
