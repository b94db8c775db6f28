/- impl.ownCondition: a copy whose every block lies in a place of its own. No condition. -/
import Derived.Test.YtckopglnblcnoaaGreatDoorSepC
namespace Go.Proofs.YtckopglnblcnoaaGreatDoor.Own
open Go.RowKit Go.Proofs.YtckopglnblcnoaaGreatDoor.QFnExactRemoveClause Go.Proofs.YtckopglnblcnoaaGreatDoorW.PrintWords Go.Proofs.YtckopglnblcnoaaGreatDoorW.PrintLast
set_option linter.unusedVariables false
set_option linter.unusedSimpArgs false
theorem Sep.weaken {w : World} {lo hi lo' hi' : Nat} {v : Value} {l : List S49} (h : Sep w lo hi v l) (h0 : lo' ≤ lo) (h1 : hi ≤ hi') : Sep w lo' hi' v l := by
  cases h with
  | nil lo hi h A c => exact .nil _ _ (by omega) _ _
  | row lo hi g c l V B E hp a0 a1 ht hc hm hf hb hd hr => exact .row _ _ g c l V B E hp (by omega) (by omega) ht hc hm hf (fun i hi => by have := hb i hi; omega) hd hr
/-- An element's cells; its row's stretch. -/
structure Pt where
  x : S49
  V : Value
  B : Nat
  E : Nat
def Pt.cs (p : Pt) : List Value := [.int .i64 p.x.f0, .string p.x.f1, .int .i64 p.x.f2, p.V]
theorem cs_at (ps : List Pt) : ∀ (i : Nat) (h : i < ps.length) (q : Nat), q < 4 → (ps.flatMap Pt.cs)[i * 4 + q]? = (ps[i].cs)[q]? := by
  induction ps with
  | nil => intro i h; exact absurd h (Nat.not_lt_zero _)
  | cons p ps ih =>
    intro i h q hq; rw [List.flatMap_cons]
    cases i with
    | zero => rw [List.getElem?_append_left (by simp [Pt.cs]; omega)]; simp
    | succ i =>
      rw [List.getElem?_append_right (by simp [Pt.cs]; omega), show (i + 1) * 4 + q - p.cs.length = i * 4 + q by simp [Pt.cs]; omega]
      exact ih i (by simpa using h) q hq
/-- A row under way, each part of it in a place of its own. -/
structure SepB (w : World) (base lo : Nat) (v : Value) (ps : List Pt) : Prop where
  own : w.ownsRow base 49 4 v ps.length (ps.flatMap Pt.cs)
  low : ∀ k, v.ownBlock = some k → lo ≤ k
  sub : ∀ p ∈ ps, lo ≤ p.B ∧ p.B ≤ p.E ∧ p.E ≤ w.heap.size ∧ (∀ k, v.ownBlock = some k → ¬ (p.B ≤ k ∧ k < p.E)) ∧ Sep w p.B p.E p.V p.x.f3
  ord : ps.Pairwise (fun p q => p.E ≤ q.B)
theorem SepB.nil (w : World) (base lo : Nat) : SepB w base lo (.slice none 0 0) [] := ⟨⟨rfl, .inl ⟨rfl, rfl⟩⟩, fun k hk => by simp [Value.ownBlock] at hk, fun p hp => by simp at hp, .nil⟩
theorem SepB.move {w W : World} {base lo : Nat} {v : Value} {ps : List Pt} (h : SepB w base lo v ps) (hs : w.heap.size ≤ W.heap.size) (hk : ∀ k, lo ≤ k → k < w.heap.size → W.heap[k]? = w.heap[k]?) : SepB W base lo v ps := by
  refine ⟨⟨h.own.1, ?_⟩, h.low, fun p hp => ?_, h.ord⟩
  · rcases h.own.2 with a | ⟨g, cap, cur, rfl, hb, hh, r⟩
    · exact .inl a
    · exact .inr ⟨g, cap, cur, rfl, hb, (hk g (h.low g (by simp [Value.ownBlock])) (Array.getElem?_eq_some_iff.1 hh).1).trans hh, r⟩
  · obtain ⟨a, b, c, d, e⟩ := h.sub p hp
    exact ⟨a, b, by omega, d, e.kept (fun k x y => hk k (by omega) (by omega))⟩
theorem SepB.below {w W : World} {base lo : Nat} {v : Value} {ps : List Pt} (h : SepB w base lo v ps) (hb : Below w.heap.size w W) : SepB W base lo v ps := h.move hb.size (fun k _ hk => hb.block k hk)
/-- One more element, its row laid behind the others. -/
theorem SepB.snoc {w0 W w1 : World} {base lo : Nat} {v v1 : Value} {ps : List Pt} (h : SepB w0 base lo v ps) (h0 : Below w0.heap.size w0 W) (p : Pt) (hlo : lo ≤ w0.heap.size) (hB : p.B = w0.heap.size) (hE : p.E = W.heap.size) (hp : Sep W p.B p.E p.V p.x.f3)
    (ho : w1.ownsRow base 49 4 v1 (ps.length + 1) (ps.flatMap Pt.cs ++ p.cs)) (hg : W.grownBy w1 v.ownBlock) (hsz : W.heap.size ≤ w1.heap.size) (hat : v1.ownBlock = v.ownBlock ∨ ∃ b, v1.ownBlock = some b ∧ W.heap.size ≤ b) : SepB w1 base lo v1 (ps ++ [p]) := by
  have hW := h0.size
  have hold : ∀ k, v1.ownBlock = some k → (v.ownBlock = some k) ∨ W.heap.size ≤ k := fun k hk => by
    rcases hat with e | ⟨b, e, hb⟩
    · exact .inl (e ▸ hk)
    · rw [e] at hk; injection hk with hk; exact .inr (hk ▸ hb)
  have hlt : ∀ k, v.ownBlock = some k → k < w0.heap.size := fun k hk => own_lt h.own k hk
  refine ⟨?_, fun k hk => ?_, fun q hq => ?_, ?_⟩
  · rw [List.length_append, List.flatMap_append]; simpa using ho
  · rcases hold k hk with e | e
    · exact h.low k e
    · omega
  · rcases List.mem_append.1 hq with hq | hq
    · obtain ⟨a, b, c, d, e⟩ := h.sub q hq
      refine ⟨a, b, by omega, fun k hk => ?_, e.kept (fun k x y => ?_)⟩
      · rcases hold k hk with e | e
        · exact d k e
        · omega
      · rw [hg.block k (by omega) (fun he => d k he.symm ⟨x, y⟩), h0.block k (by omega)]
    · obtain rfl : q = p := by simpa using hq
      refine ⟨by omega, by omega, by omega, fun k hk => ?_, hp.kept (fun k x y => hg.block k (by omega) (fun he => by have := hlt k he.symm; omega))⟩
      rcases hold k hk with e | e
      · have := hlt k e; omega
      · omega
  · rw [List.pairwise_append]
    exact ⟨h.ord, List.pairwise_singleton _ _, fun a ha b hb => by obtain rfl : b = p := by simpa using hb
                                                                   have := (h.sub a ha).2.2.1; omega⟩
theorem SepB.done {w : World} {base lo : Nat} {v : Value} {ps : List Pt} (h : SepB w base lo v ps) (b : Nat) (hb : b ≤ lo) (hlo : lo ≤ w.heap.size) : Sep w b w.heap.size v (ps.map Pt.x) := by
  by_cases hp : 0 < ps.length
  case neg =>
    obtain rfl : ps = [] := List.length_eq_zero_iff.1 (by omega)
    rcases h.own.2 with ⟨rfl, _⟩ | ⟨g, cap, cur, rfl, _⟩
    · exact .nil _ _ (by omega) _ _
    · exact .nil _ _ (by omega) _ _
  rcases h.own.2 with ⟨_, h0⟩ | ⟨g, cap, cur, rfl, hbg, hh, hn, hc, hs, ht⟩
  · omega
  have hcell : ∀ i (hi : i < ps.length) (q : Nat), q < 4 → w.cell? ⟨g, i * 4 + q, none⟩ = (ps[i].cs)[q]? := fun i hi q hq => by
    rw [blk_cell hh, ← cs_at ps i hi q hq, ← ht, List.getElem?_take_of_lt (by omega), Array.getElem?_toList]
  have hlen : (ps.map Pt.x).length = ps.length := by simp
  have hget : ∀ i (hi : i < (ps.map Pt.x).length), (ps.map Pt.x)[i] = (ps[i]'(by simpa using hi)).x := fun i hi => by simp
  have key := Sep.row (w := w) b w.heap.size g cap (ps.map Pt.x) (fun i => (ps[i]?.map Pt.V).getD (.slice none 0 0)) (fun i => (ps[i]?.map Pt.B).getD 0) (fun i => (ps[i]?.map Pt.E).getD 0) (by omega) (by have := h.low g (by simp [Value.ownBlock]); omega) (Array.getElem?_eq_some_iff.1 hh).1 ⟨cur, hh⟩ (by omega) hc
    (fun i hi => by
      have hi' : i < ps.length := by omega
      have e : (ps[i]?.map Pt.V).getD (.slice none 0 0) = ps[i].V := by rw [List.getElem?_eq_getElem hi']; rfl
      simp only [hget i hi, e]
      exact ⟨hcell i hi' 0 (by omega), hcell i hi' 1 (by omega), hcell i hi' 2 (by omega), hcell i hi' 3 (by omega)⟩)
    (fun i hi => by
      have hi' : i < ps.length := by omega
      simp only [List.getElem?_eq_getElem hi', Option.map_some, Option.getD_some]
      obtain ⟨a, b', c, d, _⟩ := h.sub ps[i] (List.getElem_mem hi')
      have := d g (by simp [Value.ownBlock])
      omega)
    (fun i j hij hj => by
      have hj' : j < ps.length := by omega
      simp only [List.getElem?_eq_getElem hj', List.getElem?_eq_getElem (show i < ps.length by omega), Option.map_some, Option.getD_some]
      exact (List.pairwise_iff_getElem.1 h.ord) i j (by omega) hj' hij)
    (fun i hi => by
      have hi' : i < ps.length := by omega
      simp only [List.getElem?_eq_getElem hi', Option.map_some, Option.getD_some, hget i hi]
      exact (h.sub ps[i] (List.getElem_mem hi')).2.2.2.2)
  rw [hlen] at key
  exact key
def oc_T6 : Bool × List (List Nat × List Nat) := (true, [([], []), ([0], [0]), ([], []), ([2], [2]), ([3], [3]), ([1, 4, 3], [1, 4]), ([0, 1, 2, 3, 4, 5], []), ([6, 5, 5, 0, 1, 2, 3, 4, 5], [5, 6])])
def oc_B6 : List Nat := [0, 1, 0, 4, 12, 31, 63, 127]
theorem oc_tab6 : rtab .any (opsOf Tryz.f41 6) = oc_T6 := by kernel_rfl
theorem oc_bits6 : waitsOk oc_T6.2 oc_B6 = true := by kernel_rfl
theorem rdC_nat (l : List S49) (i : Nat) (h : i < l.length) : rd_T49 l (i : Int) = l[i] := by
  unfold rd_T49
  rw [Int.toNat_natCast, List.getD_eq_getElem?_getD, List.getElem?_eq_getElem h]
  rfl
theorem szL_get (l : List S49) (i : Nat) (h : i < l.length) : szL l[i].f3 < szL l := by
  have := szL_mem l i h
  rwa [List.getD_eq_getElem?_getD, List.getElem?_eq_getElem h] at this
set_option maxHeartbeats 8000000 in
set_option maxRecDepth 100000 in
theorem ownS_calls (m : Nat) : ∀ (op : Int) (nm : ByteArray) (day : Int) (A : Option Addr) (c : Nat) (l : List S49) (w : World), szL l = m → szL l ≤ 100000000 → Kd.C k49 w A l.length l → l.length ≤ c →
    Calls Tryz.prog 41 #[.agg #[.int .i64 op, .string nm, .int .i64 day, .slice A l.length c]] w fun e w' => ∃ v : Value, e = .returned (.agg #[.int .i64 op, .string nm, .int .i64 day, v]) ∧ Sep w' w.heap.size w'.heap.size v l ∧ Below w.heap.size w w' := by
  induction m using Nat.strongRecOn with
  | _ m ih =>
  intro op nm day A c l w hm hm2 hr hc; subst hm; have hu1 := Tryz.underlying49; have HR := Aside0.mk hr; have HC := Aside0.mk hc
  have HL : Aside0 (l.length ≤ 100000000) := ⟨by have := len_szL l; omega⟩
  have HSZ := Aside0.mk hm2; have IH := Aside0.mk ih
  have HB := Aside0.mk (Below.refl w.heap.size w)
  clear hr hc hm2 ih
  go_enter Tryz.func41, Tryz.ntmps41
  go_upto_region 1 with (first | ((with_reducible refine gate_dst (N := 1) rfl ?_); refine Own.be (N := 1) (cs := #[.int .i64 op, .string nm, .int .i64 day, .slice A l.length c]) (t := 49) ?_; intro g1 hg w2 hbox hb; have BK1 := Aside0.mk hbox; have G1 := Own.gs hg; replace HB := Own.bs hb; clear hb hbox hg) | ((with_reducible refine gate_dst (N := 2) rfl ?_); refine Own.be (N := 2) (cs := #[.int .i64 0, .string (⟨#[]⟩ : ByteArray), .int .i64 0, .slice none 0 0]) (t := 49) ?_; intro g2 hg w3 hbox hb; have BK2 := Aside0.mk hbox; have G2 := Own.gs hg; have NB := Own.nl hg BK1.out; replace BK1 := Own.bb BK1.out hb; replace HB := Own.bs hb; clear hb hbox hg; obtain ⟨y0, y1, y2, y3, z0, z1, z2, z3⟩ := Own.box4 BK1.out))
  have L1 := Aside0.mk (blk_lt BK1.out)
  have L2 := Aside0.mk (blk_lt BK2.out)
  go_wp2
  clear y0 y1 y2 y3 z0 z1 z2 z3
  go_loopg [11] (l.length + 1) (fun kq v11 w' => ∃ (i : Nat) (ps : List Pt) (u : Value), v11 = .int .i64 (i : Int) ∧ Aside0 (i + kq = l.length + 1) ∧ Aside0 (i ≤ l.length) ∧ Aside0 (ps.map Pt.x = l.take i) ∧ Aside0 (SepB w' w.heap.size w3.heap.size u ps) ∧ Aside0 (w'.heap[g1]? = some (.cells #[.int .i64 op, .string nm, .int .i64 day, u] 49 (0, 0))) ∧ Aside0 (w'.heap[g2]? = some (.cells #[.int .i64 0, .string (⟨#[]⟩ : ByteArray), .int .i64 0, .slice none 0 0] 49 (0, 0))) ∧ Aside0 (Below w.heap.size w w') ∧ Aside0 (w3.heap.size ≤ w'.heap.size))
  case atStart => exact ⟨0, [], .slice none 0 0, by first | rfl | (simp; done), ⟨by omega⟩, ⟨by omega⟩, ⟨by simp⟩, ⟨SepB.nil _ _ _⟩, ⟨blk_put (cs := #[.int .i64 op, .string nm, .int .i64 day, .slice A l.length c]) BK1.out 3 _ rfl⟩, ⟨blk_far BK2.out (fun e => NB.out e.symm) _⟩, ⟨below_set HB.out G1.out⟩, ⟨by rw [World.size_setCell]; exact Nat.le_refl _⟩⟩
  case round =>
    clear BK1 BK2 HB; obtain ⟨i, ps, u, rfl, HK, HI, HP, HS, BK1, BK2, HB, HZ⟩ := hrel
    by_cases c5 : i < l.length
    · have Hi := Aside0.mk c5
      have c6 : decide ((i : Int) < (l.length : Int)) = true := decide_eq_true (by omega)
      have c7 : decide (i < l.length) = true := decide_eq_true c5
      have c8 := eq_true c5
      have p5 : 0 ≤ (i : Int) := by omega
      have q5 : (i : Int) < l.length := by omega
      obtain ⟨ad, A3, c3, ea, hx0, hx1, hx2, hx3, hl3, hi3⟩ := at_T49 HR.out (i : Int) p5 q5
      rw [rdC_nat l i Hi.out] at hx0 hx1 hx2 hx3 hl3 hi3; cases ea
      have HSX := Aside0.mk (szL_get l i Hi.out)
      generalize hx : l[i]'Hi.out = x at hx0 hx1 hx2 hx3 hl3 hi3 HSX
      have HX := Aside0.mk hx; replace hx0 := Own.up HB.out hx0; replace hx1 := Own.up HB.out hx1; replace hx2 := Own.up HB.out hx2; replace hx3 := Own.up HB.out hx3
      simp only [Int.toNat_natCast] at hx0 hx1 hx2 hx3
      have H3 := Aside0.mk (And.intro hl3 hi3)
      replace p5 := eq_true p5; replace q5 := eq_true q5
      have w1 : wrap64 ((i : Int) + 1) = ((i + 1 : Nat) : Int) := by have := HL.out; unfold wrap64; omega
      clear c5 hx hl3 hi3
      go_upto_region 6 with (first | ((with_reducible refine gate_dst (N := 5) rfl ?_); refine Own.be (N := 5) (cs := #[.int .i64 0, .string (⟨#[]⟩ : ByteArray), .int .i64 0, .slice none 0 0]) (t := 49) ?_; intro g5 hg w11 hbox hb; have B5 := Aside0.mk hbox; have HG5 := Aside0.mk hg; have HB5 := Aside0.mk hb; obtain ⟨y0, y1, y2, y3, z0, z1, z2, z3⟩ := Own.box4 hbox; clear hb hbox hg) | ((with_reducible refine gate_store (t := 49) (p := 5) rfl ?_); refine store_event (t := 49) (p := 5) (v := ?vo_) (w1 := ((((w11.setCell ⟨g5, 0, none⟩ (.int .i64 x.f0)).setCell ⟨g5, 1, none⟩ (.string x.f1)).setCell ⟨g5, 2, none⟩ (.int .i64 x.f2)).setCell ⟨g5, 3, none⟩ (.slice A3 x.f3.length c3))) ?hg ?ho ?hn ?hr ?_; (case ho => rfl); (case hg => rfl); (case hn => rfl); (case hr => first | (go_simp; done) | (go_simp; rfl)); intro w15 hw; have hz5 : wr.heap.size ≤ g5 := Nat.le_of_eq HG5.out.symm; have hb : Below wr.heap.size wr w15 := (by rw [hw]; exact below_set (below_set (below_set (below_set HB5.out hz5) hz5) hz5) hz5); have BK5 := Aside0.mk (by rw [hw]; exact Own.put4 B5.out : w15.heap[g5]? = some (.cells #[.int .i64 x.f0, .string x.f1, .int .i64 x.f2, .slice A3 x.f3.length c3] 49 (0, 0))); have OL := Aside0.mk (fun k hk => (show k < g5 from by have := own_lt HS.out.own k hk; omega)); replace HS := Aside0.mk (HS.out.below hb); replace BK1 := Aside0.mk (blk_below BK1.out hb); replace BK2 := Aside0.mk (blk_below BK2.out hb); replace HB := Aside0.mk (below_step HB.out hb); replace HZ := Aside0.mk (Nat.le_trans HZ.out hb.size); clear hw hb hz5 y0 y1 y2 y3 z0 z1 z2 z3 hx0 hx1 hx2 hx3 HB5 B5))
      (try simp only [Own.ps])
      replace HS := Aside0.mk (HS.out.below (below_drew1 (Below.refl _ _)))
      replace BK1 := Aside0.mk (blk_drew BK1.out)
      replace BK2 := Aside0.mk (blk_drew BK2.out)
      replace BK5 := Aside0.mk (blk_drew BK5.out)
      replace HB := Aside0.mk (below_drew1 HB.out)
      replace HZ := Aside0.mk (show w3.heap.size ≤ w15.drew.heap.size from HZ.out)
      refine start_ (n := 8) (S := fun w' => w'.cell? ⟨g1, 3, none⟩ = some u ∧ w'.cell? ⟨g5, 0, none⟩ = some (.int .i64 x.f0) ∧ w'.cell? ⟨g5, 1, none⟩ = some (.string x.f1) ∧ w'.cell? ⟨g5, 2, none⟩ = some (.int .i64 x.f2) ∧ w'.cell? ⟨g5, 3, none⟩ = some (.slice A3 x.f3.length c3)) (ds := [7]) (Own.fl 8 0) (by kernel_rfl) rfl rfl ⟨blk_cell BK1.out 3, blk_cell BK5.out 0, blk_cell BK5.out 1, blk_cell BK5.out 2, blk_cell BK5.out 3⟩ (fun hHeld => ?_); refine with_tabW oc_tab6 oc_bits6 (fun HT_ HW_ => ?_)
      generalize w15.drew = w16 at HS BK1 BK2 BK5 HB HZ hHeld ⊢
      refine pure_ (i := 0) (N := some 15) (v := ?_) (a' := ?_) (Own.fl 8 1) rfl rfl (any_of HT_.out (by kernel_rfl)) (fun _ _ _ h => h) (Or.inl ⟨by rfl, ?_⟩) ?_ ?_; rotate_left; intro w'; go_simp; with_reducible rfl; rotate_left; simp only [Own.ps]; rfl
      refine take_ (i := 1) (N := some 16) (v := ?_) (a' := ?_) (Own.fl 8 3) rfl rfl (take_ofW HT_.out HW_.out (by kernel_rfl)) (fun _ _ _ h => h) (Or.inl ⟨by rfl, ?_⟩) hHeld ?_ ?_; rotate_left; rintro w' ⟨s0, s1, s2, s3, s4⟩; go_simp; with_reducible rfl; rotate_left; simp only [Own.ps]; rfl
      refine take_ (i := 2) (N := some 17) (v := ?_) (a' := ?_) (Own.fl 8 7) rfl rfl (take_ofW HT_.out HW_.out (by kernel_rfl)) (fun _ _ _ h => h) (Or.inl ⟨by rfl, ?_⟩) hHeld ?_ ?_; rotate_left; rintro w' ⟨s0, s1, s2, s3, s4⟩; go_simp; with_reducible rfl; rotate_left; simp only [Own.ps]; rfl
      refine one_ (i := 3) (N := some 18) (Own.fl 8 15) rfl rfl (one_of HT_.out (by kernel_rfl)) (by decide) (fun K hK => ?_)
      refine goes_ Tryz.func41 (by kernel_rfl) rfl #[.agg #[.int .i64 x.f0, .string x.f1, .int .i64 x.f2, .slice A3 x.f3.length c3]] (by rfl) rfl rfl Own.ha ?_
      with_reducible refine (IH.out (szL x.f3) HSX.out x.f0 x.f1 x.f2 A3 c3 x.f3 w16 rfl ?side1 (Kd.C_below H3.out.2 HB.out) H3.out.1).mono ?_
      (case side1 => have := HSX.out; have := HSZ.out; omega)
      rintro e w17 ⟨v_, rfl, hs, hb⟩
      refine ⟨_, rfl, ?_⟩
      obtain ⟨Av, cv, rfl, hlv, _⟩ := hs.C; have HSv := Aside0.mk hs; have Hb := Aside0.mk hb
      replace BK1 := Aside0.mk (blk_below BK1.out hb)
      replace BK2 := Aside0.mk (blk_below BK2.out hb)
      replace BK5 := Aside0.mk (blk_below BK5.out hb)
      replace HB := Aside0.mk (below_step HB.out hb)
      clear hs hb hlv
      refine hK.out _ _ ⟨blk_cell BK1.out 3, blk_cell BK5.out 0, blk_cell BK5.out 1, blk_cell BK5.out 2, blk_cell BK5.out 3⟩ (fun hHeld => ?_)
      clear hK K; refine norm_ (a' := ?_) ?_ ?_; rotate_left; show Act.put _ (some 18) _ = _; simp only [Own.ps]; rfl
      refine one_ (i := 4) (N := some 19) (Own.fl 8 31) rfl rfl (one_of HT_.out (by kernel_rfl)) (by decide) (fun K hK => ?_)
      refine value_ (w1 := ?_) (v := ?_) (by rfl) rfl ?_ ?_
      rotate_left 2
      ·
        go_simp
        constructor
        ·
          rfl
        ·
          rfl
      refine hK.out _ _ ⟨blk_cell (blk_alloc BK1.out _) 3, blk_cell (blk_alloc BK5.out _) 0, blk_cell (blk_alloc BK5.out _) 1, blk_cell (blk_alloc BK5.out _) 2, blk_cell (blk_alloc BK5.out _) 3⟩ (fun hHeld => ?_)
      clear hK K; refine norm_ (a' := ?_) ?_ ?_; rotate_left; show Act.put _ (some 19) _ = _; simp only [Own.ps]; rfl
      refine one_ (i := 5) (N := some 20) (Own.fl 8 63) rfl rfl (one_of HT_.out (by kernel_rfl)) (by decide) (fun K hK => ?_)
      refine step_append_cells (w0 := w) w.heap.size (by rfl) (.tmp 16) (.tmp 19) 47 49 (.agg #[(.int .i64 0), (.string ⟨#[]⟩), (.int .i64 0), (.slice none 0 0)]) 4 56 rfl Tryz.underlying47 info49 rfl (by decide) (by omega) u ps.length (ps.flatMap Pt.cs) [.int .i64 x.f0, .string x.f1, .int .i64 x.f2, .slice Av x.f3.length cv] rfl rfl rfl ?h1 ?aO ?aB ?aS ?aL ?_
      (case h1 => intro y hy; simp only [List.mem_cons, List.not_mem_nil, or_false] at hy; rcases hy with rfl | rfl | rfl | rfl <;> rfl)
      (case aO => exact (HS.out.below Hb.out).own)
      (case aB => exact HB.out)
      (case aS => exact HB.out.size)
      (case aL => have h1 := congrArg List.length HP.out; have h2 := HL.out; have h3 := HI.out; simp only [List.length_map, List.length_take] at h1; omega)
      intro v1 w18 ho hb2 hg hat
      have hsz : w17.heap.size ≤ w18.heap.size := hg.size
      have HS2 := Aside0.mk (HS.out.snoc Hb.out ⟨x, .slice Av x.f3.length cv, w16.heap.size, w17.heap.size⟩ HZ.out rfl rfl HSv.out ho hg hsz hat)
      have n1 := Aside0.mk (blk_grown BK1.out hg (fun e => by have h1 := HS.out.low g1 e.symm; have h2 := L1.out; omega))
      have n2 := Aside0.mk (blk_grown BK2.out hg (fun e => by have h1 := HS.out.low g2 e.symm; have h2 := L2.out; omega))
      have n5 := Aside0.mk (blk_grown BK5.out hg (fun e => by have h1 := OL.out g5 e.symm; omega))
      have HZ2 := Aside0.mk (Nat.le_trans HZ.out (Nat.le_trans Hb.out.size hsz))
      have HB2 := Aside0.mk hb2; clear ho hb2 hg hat hsz BK1 BK2 BK5 HS HB HZ
      refine hK.out _ _ ⟨blk_cell n1.out 3, blk_cell n5.out 0, blk_cell n5.out 1, blk_cell n5.out 2, blk_cell n5.out 3⟩ (fun hHeld => ?_)
      clear hK K; refine norm_ (a' := ?_) ?_ ?_; rotate_left; show Act.put _ (some 20) _ = _; simp only [Own.ps]; rfl
      refine pure_ (i := 6) (N := some 21) (v := ?_) (a' := ?_) (Own.fl 8 127) rfl rfl (any_of HT_.out (by kernel_rfl)) (fun _ _ _ h => h) (Or.inl ⟨by rfl, ?_⟩) ?_ ?_; rotate_left; intro w'; go_simp; with_reducible rfl; rotate_left; simp only [Own.ps]; rfl
      obtain ⟨Au, cu, eu⟩ : ∃ A c, v1 = .slice A (ps.length + 1) c := by rcases HS2.out.own.2 with ⟨e, h0⟩ | ⟨g, cap, cur, e, _⟩; exact ⟨none, 0, by rw [List.length_append] at h0; simp at h0⟩; exact ⟨_, _, by rw [e, List.length_append]; rfl⟩
      subst eu
      refine last_ (i := 7) (N := none) (Own.fl 8 255) rfl rfl (one_of HT_.out (by kernel_rfl)) (by decide) (fun K hK => ?_)
      have hs21 : w18.cell? ⟨g1, 3, none⟩ = some u := blk_cell n1.out 3
      have hfs21 := blk_frozen n1.out 3
      refine skip_ (w1 := (w18.setCell ⟨g1, 3, none⟩ (.slice Au (ps.length + 1) cu))) (by rfl) rfl ?_ ?_
      ·
        first | (go_simp; done) | (go_simp; rfl)
      refine hK.out _ _ ?_
      clear hK K
      refine done_ (done_of HT_.out (by kernel_rfl)) ?_
      go_wp2
      go_roundg (gk - 1)
      case measure => have := HK.out; have := Hi.out; omega
      case rel => exact ⟨i + 1, _, _, by rw [w1], ⟨by have := HK.out; have := Hi.out; omega⟩, ⟨by have := Hi.out; omega⟩, ⟨by rw [List.map_append, HP.out, List.take_succ_eq_append_getElem Hi.out, HX.out]; rfl⟩, ⟨HS2.out.move (by rw [World.size_setCell]; exact Nat.le_refl _) (fun k a b => Below.heap_setCell _ ⟨g1, 3, none⟩ _ k (show k ≠ g1 from by have := L1.out; omega))⟩, ⟨blk_put (cs := #[.int .i64 op, .string nm, .int .i64 day, u]) n1.out 3 _ rfl⟩, ⟨blk_far n2.out (fun e => NB.out e.symm) _⟩, ⟨below_set HB2.out G1.out⟩, ⟨by rw [World.size_setCell]; exact HZ2.out⟩⟩
    · have c6 : decide ((i : Int) < (l.length : Int)) = false := decide_eq_false (by omega)
      have c7 : decide (i < l.length) = false := decide_eq_false c5
      have c8 := eq_false c5
      have hil : i = l.length := by have := HI.out; omega
      subst hil; obtain ⟨y0, y1, y2, y3, z0, z1, z2, z3⟩ := Own.box4 BK1.out; obtain ⟨r0, r1, r2, r3, s0, s1, s2, s3⟩ := Own.box4 BK2.out
      obtain ⟨Au, cu, eu⟩ : ∃ A c, u = .slice A ps.length c := by rcases HS.out.own.2 with ⟨e, h0⟩ | ⟨g, cap, cur, e, _⟩; exact ⟨none, 0, by rw [e, h0]⟩; exact ⟨_, _, e⟩
      subst eu
      go_wp2
      refine bodyPost_ret (results_cell_row rfl _ _ g2 49 #[.int .i64 op, .string nm, .int .i64 day, .slice Au ps.length cu] (0, 0) _ rfl (by with_reducible exact Own.put4 BK2.out) Tryz.underlying49 rfl (by kernel_rfl)) rfl ?_
      have hn : g2 < w3.heap.size := L2.out
      refine ⟨_, Own.rr, ?_, below_set (below_set (below_set (below_set HB.out G2.out) G2.out) G2.out) G2.out⟩
      have h1 := HS.out.done w3.heap.size (Nat.le_refl _) HZ.out
      rw [HP.out, List.take_length] at h1
      have h2 := h1.kept (W := ((((wr.setCell ⟨g2, 0, none⟩ (.int .i64 op)).setCell ⟨g2, 1, none⟩ (.string nm)).setCell ⟨g2, 2, none⟩ (.int .i64 day)).setCell ⟨g2, 3, none⟩ (.slice Au ps.length cu))) (fun k a b => by
        have hk : k ≠ g2 := by omega
        rw [Below.heap_setCell _ ⟨g2, 3, none⟩ _ k hk, Below.heap_setCell _ ⟨g2, 2, none⟩ _ k hk, Below.heap_setCell _ ⟨g2, 1, none⟩ _ k hk, Below.heap_setCell _ ⟨g2, 0, none⟩ _ k hk])
      exact h2.weaken (by have := L1.out; have := G1.out; omega) (by rw [World.size_setCell, World.size_setCell, World.size_setCell, World.size_setCell]; exact Nat.le_refl _)
end Go.Proofs.YtckopglnblcnoaaGreatDoor.Own
