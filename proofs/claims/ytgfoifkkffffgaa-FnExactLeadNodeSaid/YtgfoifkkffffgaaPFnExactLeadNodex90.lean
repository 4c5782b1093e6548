-- The law's own contract (wip/tools/lawgen.py)
import Derived.Test.YtgfoifkkffffgaaPFnExactLeadNodex0
import Derived.Test.YtgfoifkkffffgaaPFnExactLeadNodex1
import Derived.Test.YtgfoifkkffffgaaPFnExactLeadNodex2
import Derived.Test.YtgfoifkkffffgaaPFnExactLeadNodex3
import Derived.Test.YtgfoifkkffffgaaPFnExactLeadNodex4
import Derived.Test.YtgfoifkkffffgaaPFnExactLeadNodex5
import Derived.Test.YtgfoifkkffffgaaPFnExactLeadNodex6
import Derived.Test.YtgfoifkkffffgaaPFnExactLeadNodex7
import Derived.Test.YtgfoifkkffffgaaPFnExactLeadNodex8
import Derived.Test.YtgfoifkkffffgaaPFnExactLeadNodex9
import Derived.Test.YtgfoifkkffffgaaPFnExactLeadNodex10
import Derived.Test.YtgfoifkkffffgaaPFnExactLeadNodex11
namespace Go.Proofs.Ytgfoifkkffffgaa.PFnExactLeadNode
open Go.RowKit Go.Proofs.YtgfoifkkffffgaaW.PrintWords Go.Proofs.YtgfoifkkffffgaaW.PrintLast Go.Proofs.YtgfoifkkffffgaaW.PrintMore
attribute [local go_sem] max2_int min2_int max_two min_two max_three min_three max_four min_four   -- for this text's walks alone
set_option linter.unusedVariables false
set_option linter.unusedSimpArgs false

/-- What is owned: each thing in blocks of an interval of its own. -/
def Apart2 (x y : Nat × Nat × (World → Prop)) : Prop := x.2.1 ≤ y.1 ∨ y.2.1 ≤ x.1
def Own1 (W : World) (b : Nat) (x : Nat × Nat × (World → Prop)) : Prop := b ≤ x.1 ∧ x.1 ≤ x.2.1 ∧ x.2.1 ≤ W.heap.size ∧ ∀ W' : World, (∀ k, x.1 ≤ k → k < x.2.1 → W'.heap[k]? = W.heap[k]?) → x.2.2 W'
theorem Own1.step {W W1 : World} {b : Nat} {x : Nat × Nat × (World → Prop)} (h : Own1 W b x) (hs : W.heap.size ≤ W1.heap.size) (hm : ∀ k, x.1 ≤ k → k < x.2.1 → W1.heap[k]? = W.heap[k]?) : Own1 W1 b x := ⟨h.1, h.2.1, Nat.le_trans h.2.2.1 hs, fun W' hW => h.2.2.2 W' (fun k ka kb => (hW k ka kb).trans (hm k ka kb))⟩
/-- The world now, against the one of the call's begin: what lay there lies there, and what was made. -/
structure Rs (w W : World) (L : List (Nat × Nat × (World → Prop))) : Prop where
  B : Below w.heap.size w W
  S : ∀ x ∈ L, Own1 W w.heap.size x
  D : L.Pairwise Apart2
theorem Rs.start (w : World) : Rs w w [] := ⟨Below.refl _ _, fun _ h => (by cases h), List.Pairwise.nil⟩
theorem Rs.below {w W W1 : World} {L : List (Nat × Nat × (World → Prop))} (h : Rs w W L) (hb : Below W.heap.size W W1) : Rs w W1 L := ⟨below_step h.B hb, fun x hx => (h.S x hx).step hb.size (fun k _ kb => hb.block k (Nat.lt_of_lt_of_le kb (h.S x hx).2.2.1)), h.D⟩
theorem Rs.alloc {w W : World} {L : List (Nat × Nat × (World → Prop))} (h : Rs w W L) (o : Obj) : Rs w (W.alloc o) L := h.below (below_alloc (Below.refl _ _) o)
theorem Rs.drew {w W : World} {L : List (Nat × Nat × (World → Prop))} (h : Rs w W L) : Rs w W.drew L := h.below (below_drew (Below.refl _ _))
theorem Rs.drewN {w W : World} {L : List (Nat × Nat × (World → Prop))} (h : Rs w W L) (m : Nat) : Rs w (W.drewN m) L := h.below (pw_below_drewN (Below.refl _ _) m)
theorem Rs.push {w W W1 : World} {L : List (Nat × Nat × (World → Prop))} {Q : World → Prop} (h : Rs w W L) (hb : Below W.heap.size W W1) (hQ : ∀ W' : World, (∀ k, W.heap.size ≤ k → k < W1.heap.size → W'.heap[k]? = W1.heap[k]?) → Q W') : Rs w W1 (L ++ [(W.heap.size, W1.heap.size, Q)]) := by
  have h1 := h.below hb
  refine ⟨h1.B, fun x hx => ?_, ?_⟩
  · rcases List.mem_append.1 hx with hx | hx
    · exact h1.S x hx
    · rw [List.mem_singleton] at hx
      subst hx
      exact ⟨h.B.size, hb.size, Nat.le_refl _, hQ⟩
  · rw [List.pairwise_append]
    refine ⟨h.D, List.pairwise_singleton _ _, fun x hx y hy => ?_⟩
    rw [List.mem_singleton] at hy
    subst hy
    exact .inl (h.S x hx).2.2.1
theorem Rs.at_ {w W : World} {L : List (Nat × Nat × (World → Prop))} (h : Rs w W L) (i : Nat) {x : Nat × Nat × (World → Prop)} (hi_ : L[i]? = some x) : Own1 W w.heap.size x := h.S x (List.mem_of_getElem? hi_)
theorem Rs.get {w W : World} {L : List (Nat × Nat × (World → Prop))} (h : Rs w W L) (i : Nat) {lo hi : Nat} {Q : World → Prop} (hi_ : L[i]? = some (lo, hi, Q)) : Q W := (h.at_ i hi_).2.2.2 W (fun _ _ _ => rfl)
theorem Rs.low {w W : World} {L : List (Nat × Nat × (World → Prop))} (h : Rs w W L) (i : Nat) {lo hi : Nat} {Q : World → Prop} (hi_ : L[i]? = some (lo, hi, Q)) : w.heap.size ≤ lo ∧ hi ≤ W.heap.size := ⟨(h.at_ i hi_).1, (h.at_ i hi_).2.2.1⟩
theorem apart_set : ∀ {L : List (Nat × Nat × (World → Prop))} (i : Nat) {lo hi : Nat} {Q Q1 : World → Prop}, L[i]? = some (lo, hi, Q) → L.Pairwise Apart2 → (L.set i (lo, hi, Q1)).Pairwise Apart2 ∧ ∀ x ∈ L.set i (lo, hi, Q1), x = (lo, hi, Q1) ∨ (x ∈ L ∧ Apart2 x (lo, hi, Q))
  | [], _, _, _, _, _, h, _ => by simp at h
  | y :: t, 0, lo, hi, Q, Q1, h, hd => by
    simp only [List.getElem?_cons_zero, Option.some.injEq] at h
    subst h
    rw [List.pairwise_cons] at hd
    refine ⟨List.pairwise_cons.2 ⟨fun z hz => hd.1 z hz, hd.2⟩, fun x hx => ?_⟩
    rcases List.mem_cons.1 hx with rfl | hx
    · exact .inl rfl
    · exact .inr ⟨List.mem_cons_of_mem _ hx, (hd.1 x hx).symm⟩
  | y :: t, i + 1, lo, hi, Q, Q1, h, hd => by
    rw [List.getElem?_cons_succ] at h
    rw [List.pairwise_cons] at hd
    obtain ⟨h1, h2⟩ := apart_set (Q1 := Q1) i h hd.2
    have hy := hd.1 _ (List.mem_of_getElem? h)
    refine ⟨List.pairwise_cons.2 ⟨fun z hz => ?_, h1⟩, fun x hx => ?_⟩
    · rcases h2 z hz with rfl | ⟨hz, _⟩
      · exact hy
      · exact hd.1 z hz
    · rcases List.mem_cons.1 hx with rfl | hx
      · exact .inr ⟨List.mem_cons_self, hy⟩
      · rcases h2 x hx with hx | ⟨hx, ha⟩
        · exact .inl hx
        · exact .inr ⟨List.mem_cons_of_mem _ hx, ha⟩
theorem Rs.upd {w W W1 : World} {L : List (Nat × Nat × (World → Prop))} {Q1 : World → Prop} (h : Rs w W L) (i : Nat) {lo hi : Nat} {Q : World → Prop} (hi_ : L[i]? = some (lo, hi, Q)) (hB : Below w.heap.size w W1) (hk : Kept W W1 (fun k => lo ≤ k ∧ k < hi)) (hQ : ∀ W' : World, (∀ k, lo ≤ k → k < hi → W'.heap[k]? = W1.heap[k]?) → Q1 W') : Rs w W1 (L.set i (lo, hi, Q1)) := by
  obtain ⟨h1, h2⟩ := apart_set (Q1 := Q1) i hi_ h.D
  have h0 := h.at_ i hi_
  refine ⟨hB, fun x hx => ?_, h1⟩
  rcases h2 x hx with rfl | ⟨hx, ha⟩
  · exact ⟨h0.1, h0.2.1, Nat.le_trans h0.2.2.1 hk.1, hQ⟩
  · refine (h.S x hx).step hk.1 (fun k ka kb => hk.2 k (Nat.lt_of_lt_of_le kb (h.S x hx).2.2.1) (fun hn => ?_))
    rcases ha with ha | ha
    · exact Nat.not_le_of_lt kb (Nat.le_trans ha hn.1)
    · exact Nat.not_le_of_lt hn.2 (Nat.le_trans ha ka)
theorem Rs.swap {w W : World} {L : List (Nat × Nat × (World → Prop))} {x y : Nat × Nat × (World → Prop)} (h : Rs w W (L ++ [x] ++ [y])) : Rs w W (L ++ [y] ++ [x]) := by
  have hp : (L ++ [x] ++ [y]).Perm (L ++ [y] ++ [x]) := by
    rw [List.append_assoc, List.append_assoc]
    exact List.Perm.append_left _ (List.Perm.swap y x [])
  exact ⟨h.B, fun z hz => h.S z (hp.symm.subset hz), (hp.pairwise_iff (fun hs => hs.symm)).1 h.D⟩
theorem Rs.updLast {w W W1 : World} {L : List (Nat × Nat × (World → Prop))} {lo hi : Nat} {Q Q1 : World → Prop} (h : Rs w W (L ++ [(lo, hi, Q)])) (hB : Below w.heap.size w W1) (hk : Kept W W1 (fun k => lo ≤ k ∧ k < hi)) (hQ : ∀ W' : World, (∀ k, lo ≤ k → k < hi → W'.heap[k]? = W1.heap[k]?) → Q1 W') : Rs w W1 (L ++ [(lo, hi, Q1)]) := by
  have := h.upd (Q1 := Q1) (lo := lo) (hi := hi) (Q := Q) L.length (by simp) hB hk hQ
  simpa using this
theorem Rs.last {w W : World} {L : List (Nat × Nat × (World → Prop))} {lo hi : Nat} {Q : World → Prop} (h : Rs w W (L ++ [(lo, hi, Q)])) : Q W := h.get (lo := lo) (hi := hi) (Q := Q) L.length (by simp)
theorem mRs {Q P : Prop} (H : Aside0 Q) (k : Q → P := by intro h_; (with_reducible repeat (first | apply Rs.alloc | apply Rs.drewN | apply Rs.drew)); exact h_) : P := k H.out
/-- A row that can be read. -/
def Rd {α : Type} (d : Kd α) (A : Option Addr) (n c : Nat) (l : List α) (W : World) : Prop := n = l.length ∧ n ≤ c ∧ d.C W A l.length l
theorem Rd.below {α : Type} {d : Kd α} {A : Option Addr} {n c : Nat} {l : List α} {W W1 : World} (h : Rd d A n c l W) (hb : Below W.heap.size W W1) : Rd d A n c l W1 := ⟨h.1, h.2.1, Kd.C_below h.2.2 hb⟩
theorem nilS {α : Type} {d : Kd α} {e : Nat} {w : World} {base : Nat} {ok : Nat → Prop} {v : Value} (h : Kd.S d e w base ok v ([] : List α)) : Kd.S d e w base (fun k => some k = v.ownBlock) v ([] : List α) := by
  obtain ⟨f, h0, inner, ho, hr⟩ := h
  exact ⟨f, fun k hk => hk.symm, inner, ho, ⟨hr.1, fun m p hm => by simp at hm⟩⟩
theorem distinct_ {L M : List Nat} (h : ∀ t ∈ L, t ∉ M) : ∀ t, t ∈ L → t ∈ M → False := h
/-- A store as one step of a region of any order. -/
theorem store_step {P : Program} {ops : Array Oper} {o : Oper} {a : Act} {Q : Exit → Act → World → Prop} {Kc : Act → World → Prop} {W : World} (w1 : World) (hw : Region.wanted o (yielded ops a.tmps) = true) (hN : o.dst = none)
    (hrun : (execOp a.eval o).run P W = .ok .skip w1) (h : ∀ w', w' = w1 → Kc (a.put none undef) w') : if Region.wanted o (yielded ops a.tmps) = true then Oper.wp P o a W Kc Q else Kc (a.put none undef) W := by
  rw [if_pos hw]
  unfold Oper.wp
  rw [hrun]
  show Kc (a.put o.dst undef) w1
  rw [hN]
  exact h _ rfl
theorem cs9 {w : World} {g : Nat} {t : TypeId} {a0 a1 a2 a3 a4 a5 a6 a7 a8 : Value} (H : w.heap[g]? = some (.cells #[a0, a1, a2, a3, a4, a5, a6, a7, a8] t (0, 0))) : w.cell? ⟨g, 0, none⟩ = some a0 ∧ w.cell? ⟨g, 1, none⟩ = some a1 ∧ w.cell? ⟨g, 2, none⟩ = some a2 ∧ w.cell? ⟨g, 3, none⟩ = some a3 ∧ w.cell? ⟨g, 4, none⟩ = some a4 ∧ w.cell? ⟨g, 5, none⟩ = some a5 ∧ w.cell? ⟨g, 6, none⟩ = some a6 ∧ w.cell? ⟨g, 7, none⟩ = some a7 ∧ w.cell? ⟨g, 8, none⟩ = some a8 := ⟨(blk_cell H 0).trans rfl, (blk_cell H 1).trans rfl, (blk_cell H 2).trans rfl, (blk_cell H 3).trans rfl, (blk_cell H 4).trans rfl, (blk_cell H 5).trans rfl, (blk_cell H 6).trans rfl, (blk_cell H 7).trans rfl, (blk_cell H 8).trans rfl⟩
theorem cx9 {w : World} {g : Nat} {t : TypeId} {a0 a1 a2 a3 a4 a5 a6 a7 a8 : Value} (H : w.heap[g]? = some (.cells #[a0, a1, a2, a3, a4, a5, a6, a7, a8] t (0, 0))) : w.cell? ⟨g, 0, none⟩ = some a0 ∧ w.cell? ⟨g, 1, none⟩ = some a1 ∧ w.cell? ⟨g, 2, none⟩ = some a2 ∧ w.cell? ⟨g, 3, none⟩ = some a3 ∧ w.cell? ⟨g, 4, none⟩ = some a4 ∧ w.cell? ⟨g, 5, none⟩ = some a5 ∧ w.cell? ⟨g, 6, none⟩ = some a6 ∧ w.cell? ⟨g, 7, none⟩ = some a7 ∧ w.cell? ⟨g, 8, none⟩ = some a8 ∧ w.frozen? ⟨g, 0, none⟩ = false ∧ w.frozen? ⟨g, 1, none⟩ = false ∧ w.frozen? ⟨g, 2, none⟩ = false ∧ w.frozen? ⟨g, 3, none⟩ = false ∧ w.frozen? ⟨g, 4, none⟩ = false ∧ w.frozen? ⟨g, 5, none⟩ = false ∧ w.frozen? ⟨g, 6, none⟩ = false ∧ w.frozen? ⟨g, 7, none⟩ = false ∧ w.frozen? ⟨g, 8, none⟩ = false := ⟨(blk_cell H 0).trans rfl, (blk_cell H 1).trans rfl, (blk_cell H 2).trans rfl, (blk_cell H 3).trans rfl, (blk_cell H 4).trans rfl, (blk_cell H 5).trans rfl, (blk_cell H 6).trans rfl, (blk_cell H 7).trans rfl, (blk_cell H 8).trans rfl, blk_frozen H 0, blk_frozen H 1, blk_frozen H 2, blk_frozen H 3, blk_frozen H 4, blk_frozen H 5, blk_frozen H 6, blk_frozen H 7, blk_frozen H 8⟩
theorem cl_9 {w : World} {g : Nat} {t : TypeId} {a0 a1 a2 a3 a4 a5 a6 a7 a8 : Value} (H : Aside0 (w.heap[g]? = some (.cells #[a0, a1, a2, a3, a4, a5, a6, a7, a8] t (0, 0)))) : w.cell? ⟨g, 0, none⟩ = some a0 ∧ w.cell? ⟨g, 1, none⟩ = some a1 ∧ w.cell? ⟨g, 2, none⟩ = some a2 ∧ w.cell? ⟨g, 3, none⟩ = some a3 ∧ w.cell? ⟨g, 4, none⟩ = some a4 ∧ w.cell? ⟨g, 5, none⟩ = some a5 ∧ w.cell? ⟨g, 6, none⟩ = some a6 ∧ w.cell? ⟨g, 7, none⟩ = some a7 ∧ w.cell? ⟨g, 8, none⟩ = some a8 ∧ w.frozen? ⟨g, 0, none⟩ = false ∧ w.frozen? ⟨g, 1, none⟩ = false ∧ w.frozen? ⟨g, 2, none⟩ = false ∧ w.frozen? ⟨g, 3, none⟩ = false ∧ w.frozen? ⟨g, 4, none⟩ = false ∧ w.frozen? ⟨g, 5, none⟩ = false ∧ w.frozen? ⟨g, 6, none⟩ = false ∧ w.frozen? ⟨g, 7, none⟩ = false ∧ w.frozen? ⟨g, 8, none⟩ = false := cx9 H.out
theorem cs11 {w : World} {g : Nat} {t : TypeId} {a0 a1 a2 a3 a4 a5 a6 a7 a8 a9 a10 : Value} (H : w.heap[g]? = some (.cells #[a0, a1, a2, a3, a4, a5, a6, a7, a8, a9, a10] t (0, 0))) : w.cell? ⟨g, 0, none⟩ = some a0 ∧ w.cell? ⟨g, 1, none⟩ = some a1 ∧ w.cell? ⟨g, 2, none⟩ = some a2 ∧ w.cell? ⟨g, 3, none⟩ = some a3 ∧ w.cell? ⟨g, 4, none⟩ = some a4 ∧ w.cell? ⟨g, 5, none⟩ = some a5 ∧ w.cell? ⟨g, 6, none⟩ = some a6 ∧ w.cell? ⟨g, 7, none⟩ = some a7 ∧ w.cell? ⟨g, 8, none⟩ = some a8 ∧ w.cell? ⟨g, 9, none⟩ = some a9 ∧ w.cell? ⟨g, 10, none⟩ = some a10 := ⟨(blk_cell H 0).trans rfl, (blk_cell H 1).trans rfl, (blk_cell H 2).trans rfl, (blk_cell H 3).trans rfl, (blk_cell H 4).trans rfl, (blk_cell H 5).trans rfl, (blk_cell H 6).trans rfl, (blk_cell H 7).trans rfl, (blk_cell H 8).trans rfl, (blk_cell H 9).trans rfl, (blk_cell H 10).trans rfl⟩
theorem cx11 {w : World} {g : Nat} {t : TypeId} {a0 a1 a2 a3 a4 a5 a6 a7 a8 a9 a10 : Value} (H : w.heap[g]? = some (.cells #[a0, a1, a2, a3, a4, a5, a6, a7, a8, a9, a10] t (0, 0))) : w.cell? ⟨g, 0, none⟩ = some a0 ∧ w.cell? ⟨g, 1, none⟩ = some a1 ∧ w.cell? ⟨g, 2, none⟩ = some a2 ∧ w.cell? ⟨g, 3, none⟩ = some a3 ∧ w.cell? ⟨g, 4, none⟩ = some a4 ∧ w.cell? ⟨g, 5, none⟩ = some a5 ∧ w.cell? ⟨g, 6, none⟩ = some a6 ∧ w.cell? ⟨g, 7, none⟩ = some a7 ∧ w.cell? ⟨g, 8, none⟩ = some a8 ∧ w.cell? ⟨g, 9, none⟩ = some a9 ∧ w.cell? ⟨g, 10, none⟩ = some a10 ∧ w.frozen? ⟨g, 0, none⟩ = false ∧ w.frozen? ⟨g, 1, none⟩ = false ∧ w.frozen? ⟨g, 2, none⟩ = false ∧ w.frozen? ⟨g, 3, none⟩ = false ∧ w.frozen? ⟨g, 4, none⟩ = false ∧ w.frozen? ⟨g, 5, none⟩ = false ∧ w.frozen? ⟨g, 6, none⟩ = false ∧ w.frozen? ⟨g, 7, none⟩ = false ∧ w.frozen? ⟨g, 8, none⟩ = false ∧ w.frozen? ⟨g, 9, none⟩ = false ∧ w.frozen? ⟨g, 10, none⟩ = false := ⟨(blk_cell H 0).trans rfl, (blk_cell H 1).trans rfl, (blk_cell H 2).trans rfl, (blk_cell H 3).trans rfl, (blk_cell H 4).trans rfl, (blk_cell H 5).trans rfl, (blk_cell H 6).trans rfl, (blk_cell H 7).trans rfl, (blk_cell H 8).trans rfl, (blk_cell H 9).trans rfl, (blk_cell H 10).trans rfl, blk_frozen H 0, blk_frozen H 1, blk_frozen H 2, blk_frozen H 3, blk_frozen H 4, blk_frozen H 5, blk_frozen H 6, blk_frozen H 7, blk_frozen H 8, blk_frozen H 9, blk_frozen H 10⟩
theorem cl_11 {w : World} {g : Nat} {t : TypeId} {a0 a1 a2 a3 a4 a5 a6 a7 a8 a9 a10 : Value} (H : Aside0 (w.heap[g]? = some (.cells #[a0, a1, a2, a3, a4, a5, a6, a7, a8, a9, a10] t (0, 0)))) : w.cell? ⟨g, 0, none⟩ = some a0 ∧ w.cell? ⟨g, 1, none⟩ = some a1 ∧ w.cell? ⟨g, 2, none⟩ = some a2 ∧ w.cell? ⟨g, 3, none⟩ = some a3 ∧ w.cell? ⟨g, 4, none⟩ = some a4 ∧ w.cell? ⟨g, 5, none⟩ = some a5 ∧ w.cell? ⟨g, 6, none⟩ = some a6 ∧ w.cell? ⟨g, 7, none⟩ = some a7 ∧ w.cell? ⟨g, 8, none⟩ = some a8 ∧ w.cell? ⟨g, 9, none⟩ = some a9 ∧ w.cell? ⟨g, 10, none⟩ = some a10 ∧ w.frozen? ⟨g, 0, none⟩ = false ∧ w.frozen? ⟨g, 1, none⟩ = false ∧ w.frozen? ⟨g, 2, none⟩ = false ∧ w.frozen? ⟨g, 3, none⟩ = false ∧ w.frozen? ⟨g, 4, none⟩ = false ∧ w.frozen? ⟨g, 5, none⟩ = false ∧ w.frozen? ⟨g, 6, none⟩ = false ∧ w.frozen? ⟨g, 7, none⟩ = false ∧ w.frozen? ⟨g, 8, none⟩ = false ∧ w.frozen? ⟨g, 9, none⟩ = false ∧ w.frozen? ⟨g, 10, none⟩ = false := cx11 H.out
theorem laws_szNode.rd (k : Nat) (a0_0 : Int) (a0_1 : Bool) (a0_2 : Int) (a0_3 : Int) (A0_4 : Option Addr) (n0_4 c0_4 : Nat) (l0_4 : List (S44)) (a0_5 : Int) (a0_6 : Int) (a0_7 : Int) (a0_8 : Int) (a1 : Int) (r1 : Int) (w : World) (h0_4 : Rd k44 A0_4 n0_4 c0_4 l0_4 w) (h : laws_szNode.f k a0_0 a0_1 a0_2 a0_3 l0_4 a0_5 a0_6 a0_7 a0_8 a1 = some r1) :
    Calls Try.prog 9 #[.agg #[.int .i64 a0_0, .bool a0_1, .int .i64 a0_2, .int .i64 a0_3, .slice A0_4 n0_4 c0_4, .int .i64 a0_5, .int .i64 a0_6, .int .i64 a0_7, .int .i64 a0_8], .int .i64 a1] w fun e w' => e = .returned (.int .i64 r1) ∧ Below w.heap.size w w' := by
  obtain ⟨rfl, hc0_4, hr0_4⟩ := h0_4
  exact laws_szNode.calls k a0_0 a0_1 a0_2 a0_3 A0_4 c0_4 l0_4 a0_5 a0_6 a0_7 a0_8 a1 r1 w hr0_4 hc0_4 h
/-- Rows of a value of type st:29, in blocks of an interval. -/
def OwnT29 (b lo hi : Nat) (v4 : Value) (l4 : List (S51)) (W : World) : Prop := ∃ P4 : Nat → Prop, (∀ k, P4 k → lo ≤ k ∧ k < hi) ∧ Kd.S k51 51 W b P4 v4 l4
theorem OwnT29.foot {b lo hi : Nat} (v4 : Value) (l4 : List (S51)) {W W1 : World} (h : OwnT29 b lo hi v4 l4 W) (hW : ∀ k, lo ≤ k → k < hi → W1.heap[k]? = W.heap[k]?) : OwnT29 b lo hi v4 l4 W1 := by
  obtain ⟨P4, hp4, h4⟩ := h
  exact ⟨P4, hp4, Kd.S_move h4 (fun k hk => hW k (hp4 k hk).1 (hp4 k hk).2)⟩
theorem OwnT29.rd4 (b lo hi : Nat) (A : Option Addr) (n c : Nat) (l4 : List (S51)) (W : World) (h : OwnT29 b lo hi (.slice A n c) l4 W) : Rd k51 A n c l4 W := by
  obtain ⟨P4, hp4, h4⟩ := h
  exact Kd.S_reads' h4
theorem laws_toNode.own (k b : Nat) (a0_0 : Int) (a0_1 : Bool) (a0_2 : Int) (a0_3 : Int) (A0_4 : Option Addr) (n0_4 c0_4 : Nat) (l0_4 : List (S44)) (a0_5 : Int) (a0_6 : Int) (a0_7 : Int) (a0_8 : Int) (r1 : Int) (r2 : Bool) (r3 : Int) (r4 : Int) (r5 : List (S51)) (r6 : Int) (r7 : Int) (r8 : Int) (r9 : Int) (w : World) (hb0 : b ≤ w.heap.size) (h0_4 : Rd k44 A0_4 n0_4 c0_4 l0_4 w) (h : laws_toNode.f k a0_0 a0_1 a0_2 a0_3 l0_4 a0_5 a0_6 a0_7 a0_8 = some (r1, r2, r3, r4, r5, r6, r7, r8, r9)) :
    Calls Try.prog 11 #[.agg #[.int .i64 a0_0, .bool a0_1, .int .i64 a0_2, .int .i64 a0_3, .slice A0_4 n0_4 c0_4, .int .i64 a0_5, .int .i64 a0_6, .int .i64 a0_7, .int .i64 a0_8]] w fun e w' => ∃ (A4 : Option Addr) (n4 c4 : Nat), e = .returned (.agg #[.int .i64 r1, .bool r2, .int .i64 r3, .int .i64 r4, .slice A4 n4 c4, .int .i64 r6, .int .i64 r7, .int .i64 r8, .int .i64 r9]) ∧ (∀ W : World, (∀ k, w.heap.size ≤ k → k < w'.heap.size → W.heap[k]? = w'.heap[k]?) → OwnT29 b w.heap.size w'.heap.size (.slice A4 n4 c4) r5 W) ∧ Below w.heap.size w w' := by
  obtain ⟨rfl, hc0_4, hr0_4⟩ := h0_4
  refine (laws_toNode.calls k a0_0 a0_1 a0_2 a0_3 A0_4 c0_4 l0_4 a0_5 a0_6 a0_7 a0_8 r1 r2 r3 r4 r5 r6 r7 r8 r9 w hr0_4 hc0_4 h).mono ?_
  rintro e w' ⟨v4, rfl, ho4, hb⟩
  obtain ⟨A4, c4, rfl⟩ := Kd.S_slice ho4
  have hx4 := Kd.S_bound ho4
  exact ⟨A4, _, c4, rfl, fun W hW => OwnT29.foot _ _ (show OwnT29 b w.heap.size w'.heap.size (.slice A4 _ c4) r5 w' from ⟨_, (fun k hk => ⟨hk.2.1, hk.2.2.1⟩), Kd.S_lower hx4 hb0⟩) hW, hb⟩
/-- Rows of a value of type st:35, in blocks of an interval. -/
def OwnT35 (b lo hi : Nat) (v5 : Value) (l5 : List (S51)) (v10 : Value) (l10 : List (S53)) (W : World) : Prop := ∃ P5 P10 : Nat → Prop, (∀ k, P5 k → lo ≤ k ∧ k < hi) ∧ (∀ k, P10 k → lo ≤ k ∧ k < hi) ∧ (∀ k, P5 k → ¬ P10 k) ∧ Kd.S k51 51 W b P5 v5 l5 ∧ Kd.S k53 53 W b P10 v10 l10
theorem OwnT35.foot {b lo hi : Nat} (v5 : Value) (l5 : List (S51)) (v10 : Value) (l10 : List (S53)) {W W1 : World} (h : OwnT35 b lo hi v5 l5 v10 l10 W) (hW : ∀ k, lo ≤ k → k < hi → W1.heap[k]? = W.heap[k]?) : OwnT35 b lo hi v5 l5 v10 l10 W1 := by
  obtain ⟨P5, P10, hp5, hp10, hd5_10, h5, h10⟩ := h
  exact ⟨P5, P10, hp5, hp10, hd5_10, Kd.S_move h5 (fun k hk => hW k (hp5 k hk).1 (hp5 k hk).2), Kd.S_move h10 (fun k hk => hW k (hp10 k hk).1 (hp10 k hk).2)⟩
theorem OwnT35.rd5 (b lo hi : Nat) (A : Option Addr) (n c : Nat) (l5 : List (S51)) (v10 : Value) (l10 : List (S53)) (W : World) (h : OwnT35 b lo hi (.slice A n c) l5 v10 l10 W) : Rd k51 A n c l5 W := by
  obtain ⟨P5, P10, hp5, hp10, hd5_10, h5, h10⟩ := h
  exact Kd.S_reads' h5
theorem OwnT35.rd10 (b lo hi : Nat) (v5 : Value) (l5 : List (S51)) (A : Option Addr) (n c : Nat) (l10 : List (S53)) (W : World) (h : OwnT35 b lo hi v5 l5 (.slice A n c) l10 W) : Rd k53 A n c l10 W := by
  obtain ⟨P5, P10, hp5, hp10, hd5_10, h5, h10⟩ := h
  exact Kd.S_reads' h10
theorem spec_LeadNode.own (k b : Nat) (a0_0 : Int) (a0_1 : Bool) (a0_2 : Int) (a0_3 : Int) (A0_4 : Option Addr) (n0_4 c0_4 : Nat) (l0_4 : List (S51)) (a0_5 : Int) (a0_6 : Int) (a0_7 : Int) (a0_8 : Int) (a1 : Int) (r1 : Int) (r2 : Int) (r3 : Bool) (r4 : Int) (r5 : Int) (r6 : List (S51)) (r7 : Int) (r8 : Int) (r9 : Int) (r10 : Int) (w : World) (hb0 : b ≤ w.heap.size) (h0_4 : Rd k51 A0_4 n0_4 c0_4 l0_4 w) (h : spec_LeadNode.f k a0_0 a0_1 a0_2 a0_3 l0_4 a0_5 a0_6 a0_7 a0_8 a1 = some (r1, r2, r3, r4, r5, r6, r7, r8, r9, r10, ([] : List (S53)))) :
    Calls Try.prog 29 #[.agg #[.int .i64 a0_0, .bool a0_1, .int .i64 a0_2, .int .i64 a0_3, .slice A0_4 n0_4 c0_4, .int .i64 a0_5, .int .i64 a0_6, .int .i64 a0_7, .int .i64 a0_8], .int .i64 a1] w fun e w' => ∃ (A5 : Option Addr) (n5 c5 : Nat) (A10 : Option Addr) (n10 c10 : Nat), e = .returned (.agg #[.int .i64 r1, .int .i64 r2, .bool r3, .int .i64 r4, .int .i64 r5, .slice A5 n5 c5, .int .i64 r7, .int .i64 r8, .int .i64 r9, .int .i64 r10, .slice A10 n10 c10]) ∧ (∀ W : World, (∀ k, w.heap.size ≤ k → k < w'.heap.size → W.heap[k]? = w'.heap[k]?) → OwnT35 b w.heap.size w'.heap.size (.slice A5 n5 c5) r6 (.slice A10 n10 c10) ([] : List (S53)) W) ∧ Below w.heap.size w w' := by
  obtain ⟨rfl, hc0_4, hr0_4⟩ := h0_4
  refine (spec_LeadNode.calls k a0_0 a0_1 a0_2 a0_3 A0_4 c0_4 l0_4 a0_5 a0_6 a0_7 a0_8 a1 r1 r2 r3 r4 r5 r6 r7 r8 r9 r10 ([] : List (S53)) w hr0_4 hc0_4 h).mono ?_
  rintro e w' ⟨v5, v10, rfl, ho5, ho10, hb⟩
  obtain ⟨A5, c5, rfl⟩ := Kd.S_slice ho5
  obtain ⟨A10, c10, rfl⟩ := Kd.S_slice ho10
  have hx5 := Kd.S_bound ho5
  have hx10 := nilS ho10
  exact ⟨A5, _, c5, A10, _, c10, rfl, fun W hW => OwnT35.foot _ _ _ _ (show OwnT35 b w.heap.size w'.heap.size (.slice A5 _ c5) r6 (.slice A10 _ c10) ([] : List (S53)) w' from ⟨_, _, (fun k hk => ⟨hk.2.1, hk.2.2.1⟩), (fun k hk => ⟨Kd.S_base ho10 k hk.symm, Kd.S_lt ho10 k hk.symm⟩), (fun k h1 h2 => by obtain ⟨_, _, _, t1_, ht1, q1_, e1⟩ := h1; obtain ⟨q2_, e2⟩ := Kd.S_typed ho10 k h2.symm; rw [e1] at e2; injection e2 with e2; injection e2 with _ e2 _; subst e2; revert ht1; decide), Kd.S_lower hx5 hb0, Kd.S_lower hx10 hb0⟩) hW, hb⟩
theorem impl_LeadNode.own (k b : Nat) (a0_0 : Int) (a0_1 : Bool) (a0_2 : Int) (a0_3 : Int) (A0_4 : Option Addr) (n0_4 c0_4 : Nat) (l0_4 : List (S51)) (a0_5 : Int) (a0_6 : Int) (a0_7 : Int) (a0_8 : Int) (a1 : Int) (r1 : Int) (r2 : Int) (r3 : Bool) (r4 : Int) (r5 : Int) (r6 : List (S51)) (r7 : Int) (r8 : Int) (r9 : Int) (r10 : Int) (w : World) (hb0 : b ≤ w.heap.size) (h0_4 : Rd k51 A0_4 n0_4 c0_4 l0_4 w) (h : impl_LeadNode.f k a0_0 a0_1 a0_2 a0_3 l0_4 a0_5 a0_6 a0_7 a0_8 a1 = some (r1, r2, r3, r4, r5, r6, r7, r8, r9, r10, ([] : List (S53)))) :
    Calls Try.prog 30 #[.agg #[.int .i64 a0_0, .bool a0_1, .int .i64 a0_2, .int .i64 a0_3, .slice A0_4 n0_4 c0_4, .int .i64 a0_5, .int .i64 a0_6, .int .i64 a0_7, .int .i64 a0_8], .int .i64 a1] w fun e w' => ∃ (A5 : Option Addr) (n5 c5 : Nat) (A10 : Option Addr) (n10 c10 : Nat), e = .returned (.agg #[.int .i64 r1, .int .i64 r2, .bool r3, .int .i64 r4, .int .i64 r5, .slice A5 n5 c5, .int .i64 r7, .int .i64 r8, .int .i64 r9, .int .i64 r10, .slice A10 n10 c10]) ∧ (∀ W : World, (∀ k, w.heap.size ≤ k → k < w'.heap.size → W.heap[k]? = w'.heap[k]?) → OwnT35 b w.heap.size w'.heap.size (.slice A5 n5 c5) r6 (.slice A10 n10 c10) ([] : List (S53)) W) ∧ Below w.heap.size w w' := by
  obtain ⟨rfl, hc0_4, hr0_4⟩ := h0_4
  refine (impl_LeadNode.calls k a0_0 a0_1 a0_2 a0_3 A0_4 c0_4 l0_4 a0_5 a0_6 a0_7 a0_8 a1 r1 r2 r3 r4 r5 r6 r7 r8 r9 r10 ([] : List (S53)) w hr0_4 hc0_4 h).mono ?_
  rintro e w' ⟨v5, v10, rfl, ho5, ho10, hb⟩
  obtain ⟨A5, c5, rfl⟩ := Kd.S_slice ho5
  obtain ⟨A10, c10, rfl⟩ := Kd.S_slice ho10
  have hx5 := Kd.S_bound ho5
  have hx10 := nilS ho10
  exact ⟨A5, _, c5, A10, _, c10, rfl, fun W hW => OwnT35.foot _ _ _ _ (show OwnT35 b w.heap.size w'.heap.size (.slice A5 _ c5) r6 (.slice A10 _ c10) ([] : List (S53)) w' from ⟨_, _, (fun k hk => ⟨hk.2.1, hk.2.2.1⟩), (fun k hk => ⟨Kd.S_base ho10 k hk.symm, Kd.S_lt ho10 k hk.symm⟩), (fun k h1 h2 => by obtain ⟨_, _, _, t1_, ht1, q1_, e1⟩ := h1; obtain ⟨q2_, e2⟩ := Kd.S_typed ho10 k h2.symm; rw [e1] at e2; injection e2 with e2; injection e2 with _ e2 _; subst e2; revert ht1; decide), Kd.S_lower hx5 hb0, Kd.S_lower hx10 hb0⟩) hW, hb⟩
theorem laws_eqNodeResult.rd (k : Nat) (a0_0 : Int) (a0_1 : Int) (a0_2 : Bool) (a0_3 : Int) (a0_4 : Int) (A0_5 : Option Addr) (n0_5 c0_5 : Nat) (l0_5 : List (S51)) (a0_6 : Int) (a0_7 : Int) (a0_8 : Int) (a0_9 : Int) (A0_10 : Option Addr) (n0_10 c0_10 : Nat) (l0_10 : List (S53)) (a1_0 : Int) (a1_1 : Int) (a1_2 : Bool) (a1_3 : Int) (a1_4 : Int) (A1_5 : Option Addr) (n1_5 c1_5 : Nat) (l1_5 : List (S51)) (a1_6 : Int) (a1_7 : Int) (a1_8 : Int) (a1_9 : Int) (A1_10 : Option Addr) (n1_10 c1_10 : Nat) (l1_10 : List (S53)) (r1 : Bool) (w : World) (h0_5 : Rd k51 A0_5 n0_5 c0_5 l0_5 w) (h0_10 : Rd k53 A0_10 n0_10 c0_10 l0_10 w) (h1_5 : Rd k51 A1_5 n1_5 c1_5 l1_5 w) (h1_10 : Rd k53 A1_10 n1_10 c1_10 l1_10 w) (h : laws_eqNodeResult.f k a0_0 a0_1 a0_2 a0_3 a0_4 l0_5 a0_6 a0_7 a0_8 a0_9 l0_10 a1_0 a1_1 a1_2 a1_3 a1_4 l1_5 a1_6 a1_7 a1_8 a1_9 l1_10 = some r1) :
    Calls Try.prog 16 #[.agg #[.int .i64 a0_0, .int .i64 a0_1, .bool a0_2, .int .i64 a0_3, .int .i64 a0_4, .slice A0_5 n0_5 c0_5, .int .i64 a0_6, .int .i64 a0_7, .int .i64 a0_8, .int .i64 a0_9, .slice A0_10 n0_10 c0_10], .agg #[.int .i64 a1_0, .int .i64 a1_1, .bool a1_2, .int .i64 a1_3, .int .i64 a1_4, .slice A1_5 n1_5 c1_5, .int .i64 a1_6, .int .i64 a1_7, .int .i64 a1_8, .int .i64 a1_9, .slice A1_10 n1_10 c1_10]] w fun e w' => e = .returned (.bool r1) ∧ Below w.heap.size w w' := by
  obtain ⟨rfl, hc0_5, hr0_5⟩ := h0_5
  obtain ⟨rfl, hc0_10, hr0_10⟩ := h0_10
  obtain ⟨rfl, hc1_5, hr1_5⟩ := h1_5
  obtain ⟨rfl, hc1_10, hr1_10⟩ := h1_10
  exact laws_eqNodeResult.calls k a0_0 a0_1 a0_2 a0_3 a0_4 A0_5 c0_5 l0_5 a0_6 a0_7 a0_8 a0_9 A0_10 c0_10 l0_10 a1_0 a1_1 a1_2 a1_3 a1_4 A1_5 c1_5 l1_5 a1_6 a1_7 a1_8 a1_9 A1_10 c1_10 l1_10 r1 w hr0_5 hc0_5 hr0_10 hc0_10 hr1_5 hc1_5 hr1_10 hc1_10 h
theorem laws_eqNode.rd (k : Nat) (a0_0 : Int) (a0_1 : Bool) (a0_2 : Int) (a0_3 : Int) (A0_4 : Option Addr) (n0_4 c0_4 : Nat) (l0_4 : List (S51)) (a0_5 : Int) (a0_6 : Int) (a0_7 : Int) (a0_8 : Int) (a1_0 : Int) (a1_1 : Bool) (a1_2 : Int) (a1_3 : Int) (A1_4 : Option Addr) (n1_4 c1_4 : Nat) (l1_4 : List (S51)) (a1_5 : Int) (a1_6 : Int) (a1_7 : Int) (a1_8 : Int) (r1 : Bool) (w : World) (h0_4 : Rd k51 A0_4 n0_4 c0_4 l0_4 w) (h1_4 : Rd k51 A1_4 n1_4 c1_4 l1_4 w) (h : laws_eqNode.f k a0_0 a0_1 a0_2 a0_3 l0_4 a0_5 a0_6 a0_7 a0_8 a1_0 a1_1 a1_2 a1_3 l1_4 a1_5 a1_6 a1_7 a1_8 = some r1) :
    Calls Try.prog 13 #[.agg #[.int .i64 a0_0, .bool a0_1, .int .i64 a0_2, .int .i64 a0_3, .slice A0_4 n0_4 c0_4, .int .i64 a0_5, .int .i64 a0_6, .int .i64 a0_7, .int .i64 a0_8], .agg #[.int .i64 a1_0, .bool a1_1, .int .i64 a1_2, .int .i64 a1_3, .slice A1_4 n1_4 c1_4, .int .i64 a1_5, .int .i64 a1_6, .int .i64 a1_7, .int .i64 a1_8]] w fun e w' => e = .returned (.bool r1) ∧ Below w.heap.size w w' := by
  obtain ⟨rfl, hc0_4, hr0_4⟩ := h0_4
  obtain ⟨rfl, hc1_4, hr1_4⟩ := h1_4
  exact laws_eqNode.calls k a0_0 a0_1 a0_2 a0_3 A0_4 c0_4 l0_4 a0_5 a0_6 a0_7 a0_8 a1_0 a1_1 a1_2 a1_3 A1_4 c1_4 l1_4 a1_5 a1_6 a1_7 a1_8 r1 w hr0_4 hc0_4 hr1_4 hc1_4 h
theorem laws_markEntryS.m (k : Nat) (P0 : Nat → Prop) (v0 : Value) (l0 : List (S51)) (a1 : Int) (r1 : Int) (r2 : List (S51)) (w0 w : World) (hB : Below w0.heap.size w0 w) (ho0 : Kd.S k51 51 w w0.heap.size P0 v0 l0) (h : laws_markEntryS.f k l0 a1 = some (r1, r2)) :
    Calls Try.prog 53 #[v0, .int .i64 a1] w fun e w' => e = .returned (.int .i64 r1) ∧ Kd.S k51 51 w' w0.heap.size P0 v0 r2 ∧ Below w0.heap.size w0 w' ∧ Kept w w' (fun k_ => P0 k_) := by
  exact laws_markEntryS.calls0 k P0 v0 l0 a1 r1 r2 w0 w hB ho0 h
def laws_markNode.f (k : Nat) (a0_0 : Int) (a0_1 : Bool) (a0_2 : Int) (a0_3 : Int) (l0_4 : List (S51)) (a0_5 : Int) (a0_6 : Int) (a0_7 : Int) (a0_8 : Int) (a1 : Int) : Option (Int × List (S51)) := (laws_markEntryS.f k l0_4 a1).bind fun b0 => some (b0.1, b0.2)
set_option maxHeartbeats 8000000 in
set_option maxRecDepth 100000 in
theorem laws_markNode.m (k : Nat) (a0_0 : Int) (a0_1 : Bool) (a0_2 : Int) (a0_3 : Int) (P0_4 : Nat → Prop) (v0_4 : Value) (l0_4 : List (S51)) (a0_5 : Int) (a0_6 : Int) (a0_7 : Int) (a0_8 : Int) (a1 : Int) (r1 : Int) (r2 : List (S51)) (w0 w : World) (hB : Below w0.heap.size w0 w) (ho4 : Kd.S k51 51 w w0.heap.size P0_4 v0_4 l0_4) (h : laws_markNode.f k a0_0 a0_1 a0_2 a0_3 l0_4 a0_5 a0_6 a0_7 a0_8 a1 = some (r1, r2)) :
    Calls Try.prog 26 #[.agg #[.int .i64 a0_0, .bool a0_1, .int .i64 a0_2, .int .i64 a0_3, v0_4, .int .i64 a0_5, .int .i64 a0_6, .int .i64 a0_7, .int .i64 a0_8], .int .i64 a1] w fun e w' => e = .returned (.int .i64 r1) ∧ Kd.S k51 51 w' w0.heap.size P0_4 v0_4 r2 ∧ Below w0.heap.size w0 w' ∧ Kept w w' (fun k_ => P0_4 k_) := by
  have hu29 := Try.underlying29
  have HO4 := Aside0.mk (Kd.S_mono (ok' := (fun k_ => P0_4 k_ ∧ k_ < w.heap.size)) (Kd.S_bound ho4) (fun k hk => ⟨hk.1, hk.2.2.1⟩))
  have HB := Aside0.mk hB
  have HBw := Aside0.mk (Below.refl w.heap.size w)
  have HK := Aside0.mk (Kept.refl w (fun k_ => P0_4 k_))
  obtain ⟨A4, c4, rfl⟩ := Kd.S_slice ho4
  unfold laws_markNode.f at h
  obtain ⟨m0, h0, h⟩ := Option.bind_eq_some_iff.mp h
  obtain ⟨m0, y0_4⟩ := m0
  obtain ⟨e1, e2⟩ : m0 = r1 ∧ y0_4 = r2 := by simpa using h
  subst e1
  subst e2
  have H0_ := Aside0.mk h0
  clear h h0 ho4  hB
  go_enter Try.func26, Try.ntmps26
  go_wp2_with (first | ((with_reducible refine gate_dst (N := 2) rfl ?_); refine boxE #[.int .i64 a0_0, .bool a0_1, .int .i64 a0_2, .int .i64 a0_3, .slice A4 l0_4.length c4, .int .i64 a0_5, .int .i64 a0_6, .int .i64 a0_7, .int .i64 a0_8] 29 (N := 2) rfl rfl ?_; intro gb hg w5 hbox hb; have BKb := Aside0.mk hbox; replace HO4 := Aside0.mk (Kd.S_below (mS HO4) hb); replace HK := Aside0.mk (Kept.below (by repeat (first | exact HK.out | apply Kept.alloc | apply Kept.drewN | apply Kept.drew)) hb); replace HB := bS HB hb; have HGW := gZ HBw hg; have HN4 := Aside0.mk (show ¬ (P0_4 gb ∧ gb < w.heap.size) from fun hp => Nat.lt_irrefl _ (Nat.lt_of_lt_of_le hp.2 HGW.out)); clear hb hbox hg; have hz6 := cl9 BKb) | ((with_reducible refine gate_callee (f := 53) rfl ?_); refine goA (some 8) rfl rfl Try.func53 rfl #[.slice A4 l0_4.length c4, .int .i64 a1] rfl ?_; (refine (laws_markEntryS.m k (fun k_ => P0_4 k_ ∧ k_ < w.heap.size) _ l0_4 a1 m0 y0_4 w0 _ ?sideB ?side4 H0_.out).mono ?_); (case sideB => exact bel HB); (case side4 => exact mS HO4); rintro e wq0 ⟨rfl, g4, hb7, hk7⟩; refine ⟨_, rfl, ?_⟩; replace HO4 := Aside0.mk g4; replace HB := Aside0.mk hb7; replace BKb := Aside0.mk (blk_kept (mB BKb) hk7 (fun h2 => (fun h_ => HN4.out h_) h2)); replace HK := Aside0.mk (Kept.then_ (S := (fun k_ => P0_4 k_)) (by repeat (first | exact HK.out | apply Kept.alloc | apply Kept.drewN | apply Kept.drew)) hk7 (fun k h2 => .inl ((fun h_ => h_.1) h2))); clear hb7 hk7 g4; have hz70 := cl9 BKb))
  go_ret
  exact ⟨rfl, Kd.S_mono (ok := (fun k_ => P0_4 k_ ∧ k_ < w.heap.size)) (mS HO4) (fun _ h => h.1), bel HB, by repeat (first | exact HK.out | apply Kept.alloc | apply Kept.drewN | apply Kept.drew)⟩
theorem laws_markNode.own (k lo hi : Nat) (a0_0 : Int) (a0_1 : Bool) (a0_2 : Int) (a0_3 : Int) (A0_4 : Option Addr) (n0_4 c0_4 : Nat) (l0_4 : List (S51)) (a0_5 : Int) (a0_6 : Int) (a0_7 : Int) (a0_8 : Int) (a1 r1 : Int) (r2 : List (S51)) (w0 w : World) (hB : Below w0.heap.size w0 w) (hO : OwnT29 w0.heap.size lo hi (.slice A0_4 n0_4 c0_4) l0_4 w) (h : laws_markNode.f k a0_0 a0_1 a0_2 a0_3 l0_4 a0_5 a0_6 a0_7 a0_8 a1 = some (r1, r2)) :
    Calls Try.prog 26 #[.agg #[.int .i64 a0_0, .bool a0_1, .int .i64 a0_2, .int .i64 a0_3, .slice A0_4 n0_4 c0_4, .int .i64 a0_5, .int .i64 a0_6, .int .i64 a0_7, .int .i64 a0_8], .int .i64 a1] w fun e w' => e = .returned (.int .i64 r1) ∧ (∀ W : World, (∀ k, lo ≤ k → k < hi → W.heap[k]? = w'.heap[k]?) → OwnT29 w0.heap.size lo hi (.slice A0_4 n0_4 c0_4) r2 W) ∧ Below w0.heap.size w0 w' ∧ Kept w w' (fun k => lo ≤ k ∧ k < hi) := by
  obtain ⟨P4, hp4, h4⟩ := hO
  refine (laws_markNode.m k a0_0 a0_1 a0_2 a0_3 P4 _ l0_4 a0_5 a0_6 a0_7 a0_8 a1 r1 r2 w0 w hB h4 h).mono ?_
  rintro e w' ⟨h1_, g4, hb_, hk_⟩
  exact ⟨h1_, fun W hW => OwnT29.foot _ _ (show OwnT29 w0.heap.size lo hi (.slice A0_4 n0_4 c0_4) r2 w' from ⟨P4, hp4, g4⟩) hW, hb_, hk_.mono (fun k hk => (fun h_ => hp4 k h_) hk)⟩
theorem laws_markMailS.m (k : Nat) (P0 : Nat → Prop) (v0 : Value) (l0 : List (S53)) (a1 : Int) (r1 : Int) (r2 : List (S53)) (w0 w : World) (hB : Below w0.heap.size w0 w) (ho0 : Kd.S k53 53 w w0.heap.size P0 v0 l0) (h : laws_markMailS.f k l0 a1 = some (r1, r2)) :
    Calls Try.prog 42 #[v0, .int .i64 a1] w fun e w' => e = .returned (.int .i64 r1) ∧ Kd.S k53 53 w' w0.heap.size P0 v0 r2 ∧ Below w0.heap.size w0 w' ∧ Kept w w' (fun k_ => P0 k_) := by
  have e_ : l0 = [] ∧ a1 = r1 ∧ [] = r2 := by
    cases l0 with
    | nil => unfold laws_markMailS.f at h; injection h with h; injection h with h1 h2; exact ⟨rfl, h1, h2⟩
    | cons x t => cases h
  obtain ⟨rfl, rfl, rfl⟩ := e_
  refine (laws_markMailS.calls k P0 v0 [] a1 a1 [] w0 w hB ho0 rfl).mono ?_
  rintro e w' ⟨h1, g0, hb, hk⟩
  exact ⟨h1, Kd.S_mono (nilS g0) (fun k hk => (Kd.S_R ho0).1 k hk.symm), hb, hk⟩
def laws_markNodeResult.f (k : Nat) (a0_0 : Int) (a0_1 : Int) (a0_2 : Bool) (a0_3 : Int) (a0_4 : Int) (l0_5 : List (S51)) (a0_6 : Int) (a0_7 : Int) (a0_8 : Int) (a0_9 : Int) (l0_10 : List (S53)) (a1 : Int) : Option (Int × List (S51) × List (S53)) := (laws_markNode.f k a0_1 a0_2 a0_3 a0_4 l0_5 a0_6 a0_7 a0_8 a0_9 a1).bind fun b0 => (laws_markMailS.f k l0_10 b0.1).bind fun b1 => some (b1.1, b0.2, b1.2)
set_option maxHeartbeats 8000000 in
set_option maxRecDepth 100000 in
theorem laws_markNodeResult.m (k : Nat) (a0_0 : Int) (a0_1 : Int) (a0_2 : Bool) (a0_3 : Int) (a0_4 : Int) (P0_5 : Nat → Prop) (v0_5 : Value) (l0_5 : List (S51)) (a0_6 : Int) (a0_7 : Int) (a0_8 : Int) (a0_9 : Int) (P0_10 : Nat → Prop) (v0_10 : Value) (a1 : Int) (r1 : Int) (r2 : List (S51)) (w0 w : World) (hB : Below w0.heap.size w0 w) (ho5 : Kd.S k51 51 w w0.heap.size P0_5 v0_5 l0_5) (ho10 : Kd.S k53 53 w w0.heap.size P0_10 v0_10 ([] : List (S53))) (hd5_10 : ∀ k_, P0_5 k_ → ¬ P0_10 k_) (h : laws_markNodeResult.f k a0_0 a0_1 a0_2 a0_3 a0_4 l0_5 a0_6 a0_7 a0_8 a0_9 [] a1 = some (r1, r2, [])) :
    Calls Try.prog 17 #[.agg #[.int .i64 a0_0, .int .i64 a0_1, .bool a0_2, .int .i64 a0_3, .int .i64 a0_4, v0_5, .int .i64 a0_6, .int .i64 a0_7, .int .i64 a0_8, .int .i64 a0_9, v0_10], .int .i64 a1] w fun e w' => e = .returned (.int .i64 r1) ∧ Kd.S k51 51 w' w0.heap.size P0_5 v0_5 r2 ∧ Kd.S k53 53 w' w0.heap.size P0_10 v0_10 ([] : List (S53)) ∧ Below w0.heap.size w0 w' ∧ Kept w w' (fun k_ => P0_5 k_ ∨ P0_10 k_) := by
  have hu29 := Try.underlying29
  have hu35 := Try.underlying35
  have HO5 := Aside0.mk (Kd.S_mono (ok' := (fun k_ => P0_5 k_ ∧ k_ < w.heap.size)) (Kd.S_bound ho5) (fun k hk => ⟨hk.1, hk.2.2.1⟩))
  have HO10 := Aside0.mk (Kd.S_mono (ok' := (fun k_ => P0_10 k_ ∧ k_ < w.heap.size)) (Kd.S_bound ho10) (fun k hk => ⟨hk.1, hk.2.2.1⟩))
  have HD5_10 := Aside0.mk hd5_10
  have HB := Aside0.mk hB
  have HBw := Aside0.mk (Below.refl w.heap.size w)
  have HK := Aside0.mk (Kept.refl w (fun k_ => P0_5 k_ ∨ P0_10 k_))
  obtain ⟨A5, c5, rfl⟩ := Kd.S_slice ho5
  obtain ⟨A10, c10, rfl⟩ := Kd.S_slice ho10
  unfold laws_markNodeResult.f at h
  obtain ⟨m0, h0, h⟩ := Option.bind_eq_some_iff.mp h
  obtain ⟨m0, y0_5⟩ := m0
  obtain ⟨m1, h1, h⟩ := Option.bind_eq_some_iff.mp h
  obtain ⟨m1, y1_10⟩ := m1
  obtain ⟨e1, e2, e3⟩ : m1 = r1 ∧ y0_5 = r2 ∧ y1_10 = [] := by simpa using h
  subst e1
  subst e2
  subst e3
  have H0_ := Aside0.mk h0
  have H1_ := Aside0.mk h1
  clear h h0 h1 ho5 ho10 hd5_10 hB
  go_enter Try.func17, Try.ntmps17
  go_wp2_with (first | ((with_reducible refine gate_dst (N := 2) rfl ?_); refine boxE #[.int .i64 a0_0, .int .i64 a0_1, .bool a0_2, .int .i64 a0_3, .int .i64 a0_4, .slice A5 l0_5.length c5, .int .i64 a0_6, .int .i64 a0_7, .int .i64 a0_8, .int .i64 a0_9, .slice A10 ([] : List (S53)).length c10] 35 (N := 2) rfl rfl ?_; intro gb hg w5 hbox hb; have BKb := Aside0.mk hbox; replace HO5 := Aside0.mk (Kd.S_below (mS HO5) hb); replace HO10 := Aside0.mk (Kd.S_below (mS HO10) hb); replace HK := Aside0.mk (Kept.below (by repeat (first | exact HK.out | apply Kept.alloc | apply Kept.drewN | apply Kept.drew)) hb); replace HB := bS HB hb; have HGW := gZ HBw hg; have HN5 := Aside0.mk (show ¬ (P0_5 gb ∧ gb < w.heap.size) from fun hp => Nat.lt_irrefl _ (Nat.lt_of_lt_of_le hp.2 HGW.out)); have HN10 := Aside0.mk (show ¬ (P0_10 gb ∧ gb < w.heap.size) from fun hp => Nat.lt_irrefl _ (Nat.lt_of_lt_of_le hp.2 HGW.out)); clear hb hbox hg; have hz6 := cl11 BKb) | ((with_reducible refine gate_callee (f := 26) rfl ?_); refine goA (some 8) rfl rfl Try.func26 rfl #[.agg #[.int .i64 a0_1, .bool a0_2, .int .i64 a0_3, .int .i64 a0_4, .slice A5 l0_5.length c5, .int .i64 a0_6, .int .i64 a0_7, .int .i64 a0_8, .int .i64 a0_9], .int .i64 a1] rfl ?_; (refine (laws_markNode.m k a0_1 a0_2 a0_3 a0_4 (fun k_ => P0_5 k_ ∧ k_ < w.heap.size) _ l0_5 a0_6 a0_7 a0_8 a0_9 a1 m0 y0_5 w0 _ ?sideB ?side5 H0_.out).mono ?_); (case sideB => exact bel HB); (case side5 => exact mS HO5); rintro e wq0 ⟨rfl, g5, hb7, hk7⟩; refine ⟨_, rfl, ?_⟩; replace HO5 := Aside0.mk g5; replace HO10 := Aside0.mk (Kd.S_kept (ok := (fun k_ => P0_10 k_ ∧ k_ < w.heap.size)) (mS HO10) hk7 (fun k h1 h2 => (fun h_ => HD5_10.out k h_.1 h1.1) h2)); replace HB := Aside0.mk hb7; replace BKb := Aside0.mk (blk_kept (mB BKb) hk7 (fun h2 => (fun h_ => HN5.out h_) h2)); replace HK := Aside0.mk (Kept.then_ (S := (fun k_ => P0_5 k_ ∨ P0_10 k_)) (by repeat (first | exact HK.out | apply Kept.alloc | apply Kept.drewN | apply Kept.drew)) hk7 (fun k h2 => .inl ((fun h_ => .inl (h_.1)) h2))); clear hb7 hk7 g5; have hz70 := cl11 BKb) | ((with_reducible refine gate_callee (f := 42) rfl ?_); refine goA (some 12) rfl rfl Try.func42 rfl #[.slice A10 ([] : List (S53)).length c10, .int .i64 m0] rfl ?_; (refine (laws_markMailS.m k (fun k_ => P0_10 k_ ∧ k_ < w.heap.size) _ ([] : List (S53)) m0 m1 [] w0 _ ?sideB ?side10 H1_.out).mono ?_); (case sideB => exact bel HB); (case side10 => exact mS HO10); rintro e wq1 ⟨rfl, g10, hb7, hk7⟩; refine ⟨_, rfl, ?_⟩; replace HO5 := Aside0.mk (Kd.S_kept (ok := (fun k_ => P0_5 k_ ∧ k_ < w.heap.size)) (mS HO5) hk7 (fun k h1 h2 => (fun h_ => HD5_10.out k h1.1 h_.1) h2)); replace HO10 := Aside0.mk g10; replace HB := Aside0.mk hb7; replace BKb := Aside0.mk (blk_kept (mB BKb) hk7 (fun h2 => (fun h_ => HN10.out h_) h2)); replace HK := Aside0.mk (Kept.then_ (S := (fun k_ => P0_5 k_ ∨ P0_10 k_)) (by repeat (first | exact HK.out | apply Kept.alloc | apply Kept.drewN | apply Kept.drew)) hk7 (fun k h2 => .inl ((fun h_ => .inr (h_.1)) h2))); clear hb7 hk7 g10; have hz71 := cl11 BKb))
  go_ret
  exact ⟨rfl, Kd.S_mono (ok := (fun k_ => P0_5 k_ ∧ k_ < w.heap.size)) (mS HO5) (fun _ h => h.1), Kd.S_mono (ok := (fun k_ => P0_10 k_ ∧ k_ < w.heap.size)) (mS HO10) (fun _ h => h.1), bel HB, by repeat (first | exact HK.out | apply Kept.alloc | apply Kept.drewN | apply Kept.drew)⟩
theorem laws_markNodeResult.own (k lo hi : Nat) (a0_0 : Int) (a0_1 : Int) (a0_2 : Bool) (a0_3 : Int) (a0_4 : Int) (A0_5 : Option Addr) (n0_5 c0_5 : Nat) (l0_5 : List (S51)) (a0_6 : Int) (a0_7 : Int) (a0_8 : Int) (a0_9 : Int) (A0_10 : Option Addr) (n0_10 c0_10 : Nat) (a1 r1 : Int) (r2 : List (S51)) (w0 w : World) (hB : Below w0.heap.size w0 w) (hO : OwnT35 w0.heap.size lo hi (.slice A0_5 n0_5 c0_5) l0_5 (.slice A0_10 n0_10 c0_10) [] w) (h : laws_markNodeResult.f k a0_0 a0_1 a0_2 a0_3 a0_4 l0_5 a0_6 a0_7 a0_8 a0_9 [] a1 = some (r1, r2, [])) :
    Calls Try.prog 17 #[.agg #[.int .i64 a0_0, .int .i64 a0_1, .bool a0_2, .int .i64 a0_3, .int .i64 a0_4, .slice A0_5 n0_5 c0_5, .int .i64 a0_6, .int .i64 a0_7, .int .i64 a0_8, .int .i64 a0_9, .slice A0_10 n0_10 c0_10], .int .i64 a1] w fun e w' => e = .returned (.int .i64 r1) ∧ (∀ W : World, (∀ k, lo ≤ k → k < hi → W.heap[k]? = w'.heap[k]?) → OwnT35 w0.heap.size lo hi (.slice A0_5 n0_5 c0_5) r2 (.slice A0_10 n0_10 c0_10) [] W) ∧ Below w0.heap.size w0 w' ∧ Kept w w' (fun k => lo ≤ k ∧ k < hi) := by
  obtain ⟨P5, P10, hp5, hp10, hd5_10, h5, h10⟩ := hO
  refine (laws_markNodeResult.m k a0_0 a0_1 a0_2 a0_3 a0_4 P5 _ l0_5 a0_6 a0_7 a0_8 a0_9 P10 _ a1 r1 r2 w0 w hB h5 h10 hd5_10 h).mono ?_
  rintro e w' ⟨h1_, g5, g10, hb_, hk_⟩
  exact ⟨h1_, fun W hW => OwnT35.foot _ _ _ _ (show OwnT35 w0.heap.size lo hi (.slice A0_5 n0_5 c0_5) r2 (.slice A0_10 n0_10 c0_10) [] w' from ⟨P5, P10, hp5, hp10, hd5_10, g5, g10⟩) hW, hb_, hk_.mono (fun k hk => Or.elim hk (fun h_ => hp5 k h_) (fun h_2 => (fun h_ => hp10 k h_) h_2))⟩
theorem laws_heldNodeResult.rd (k : Nat) (a0_0 : Int) (a0_1 : Int) (a0_2 : Bool) (a0_3 : Int) (a0_4 : Int) (A0_5 : Option Addr) (n0_5 c0_5 : Nat) (l0_5 : List (S51)) (a0_6 : Int) (a0_7 : Int) (a0_8 : Int) (a0_9 : Int) (A0_10 : Option Addr) (n0_10 c0_10 : Nat) (l0_10 : List (S53)) (a1 : Int) (r1 : Int) (w : World) (h0_5 : Rd k51 A0_5 n0_5 c0_5 l0_5 w) (h0_10 : Rd k53 A0_10 n0_10 c0_10 l0_10 w) (h : laws_heldNodeResult.f k a0_0 a0_1 a0_2 a0_3 a0_4 l0_5 a0_6 a0_7 a0_8 a0_9 l0_10 a1 = some r1) :
    Calls Try.prog 18 #[.agg #[.int .i64 a0_0, .int .i64 a0_1, .bool a0_2, .int .i64 a0_3, .int .i64 a0_4, .slice A0_5 n0_5 c0_5, .int .i64 a0_6, .int .i64 a0_7, .int .i64 a0_8, .int .i64 a0_9, .slice A0_10 n0_10 c0_10], .int .i64 a1] w fun e w' => e = .returned (.int .i64 r1) ∧ Below w.heap.size w w' := by
  obtain ⟨rfl, hc0_5, hr0_5⟩ := h0_5
  obtain ⟨rfl, hc0_10, hr0_10⟩ := h0_10
  exact laws_heldNodeResult.calls k a0_0 a0_1 a0_2 a0_3 a0_4 A0_5 c0_5 l0_5 a0_6 a0_7 a0_8 a0_9 A0_10 c0_10 l0_10 a1 r1 w hr0_5 hc0_5 hr0_10 hc0_10 h
def laws_FnExactLeadNode.f (k : Nat) (a0_0 : Int) (a0_1 : Bool) (a0_2 : Int) (a0_3 : Int) (l0_4 : List (S44)) (a0_5 : Int) (a0_6 : Int) (a0_7 : Int) (a0_8 : Int) (a1 : Int) : Option Bool := (laws_szNode.f k a0_0 a0_1 a0_2 a0_3 l0_4 a0_5 a0_6 a0_7 a0_8 1048576).bind fun b0 => if b0 < 0 then some true else (laws_toNode.f k a0_0 a0_1 a0_2 a0_3 l0_4 a0_5 a0_6 a0_7 a0_8).bind fun b1 => (spec_LeadNode.f k b1.1 b1.2.1 b1.2.2.1 b1.2.2.2.1 b1.2.2.2.2.1 b1.2.2.2.2.2.1 b1.2.2.2.2.2.2.1 b1.2.2.2.2.2.2.2.1 b1.2.2.2.2.2.2.2.2 a1).bind fun b2 => if b2.2.2.2.2.2.2.2.2.2.2.length = 0 then ((impl_LeadNode.f k b1.1 b1.2.1 b1.2.2.1 b1.2.2.2.1 b1.2.2.2.2.1 b1.2.2.2.2.2.1 b1.2.2.2.2.2.2.1 b1.2.2.2.2.2.2.2.1 b1.2.2.2.2.2.2.2.2 a1).bind fun b3 => if b3.2.2.2.2.2.2.2.2.2.2.length = 0 then ((laws_eqNodeResult.f k b3.1 b3.2.1 b3.2.2.1 b3.2.2.2.1 b3.2.2.2.2.1 b3.2.2.2.2.2.1 b3.2.2.2.2.2.2.1 b3.2.2.2.2.2.2.2.1 b3.2.2.2.2.2.2.2.2.1 b3.2.2.2.2.2.2.2.2.2.1 [] b2.1 b2.2.1 b2.2.2.1 b2.2.2.2.1 b2.2.2.2.2.1 b2.2.2.2.2.2.1 b2.2.2.2.2.2.2.1 b2.2.2.2.2.2.2.2.1 b2.2.2.2.2.2.2.2.2.1 b2.2.2.2.2.2.2.2.2.2.1 []).bind fun b4 => if b4 = true then ((laws_eqNode.f k b1.1 b1.2.1 b1.2.2.1 b1.2.2.2.1 b1.2.2.2.2.1 b1.2.2.2.2.2.1 b1.2.2.2.2.2.2.1 b1.2.2.2.2.2.2.2.1 b1.2.2.2.2.2.2.2.2 b1.1 b1.2.1 b1.2.2.1 b1.2.2.2.1 b1.2.2.2.2.1 b1.2.2.2.2.2.1 b1.2.2.2.2.2.2.1 b1.2.2.2.2.2.2.2.1 b1.2.2.2.2.2.2.2.2).bind fun b5 => if b5 = true then ((laws_markNode.f k b1.1 b1.2.1 b1.2.2.1 b1.2.2.2.1 b1.2.2.2.2.1 b1.2.2.2.2.2.1 b1.2.2.2.2.2.2.1 b1.2.2.2.2.2.2.2.1 b1.2.2.2.2.2.2.2.2 1).bind fun b6 => if ¬ b6.1 < 0 then ((laws_markNodeResult.f k b3.1 b3.2.1 b3.2.2.1 b3.2.2.2.1 b3.2.2.2.2.1 b3.2.2.2.2.2.1 b3.2.2.2.2.2.2.1 b3.2.2.2.2.2.2.2.1 b3.2.2.2.2.2.2.2.2.1 b3.2.2.2.2.2.2.2.2.2.1 [] 1).bind fun b7 => if b7.2.2.length = 0 then ((laws_heldNodeResult.f k b3.1 b3.2.1 b3.2.2.1 b3.2.2.2.1 b3.2.2.2.2.1 b7.2.1 b3.2.2.2.2.2.2.1 b3.2.2.2.2.2.2.2.1 b3.2.2.2.2.2.2.2.2.1 b3.2.2.2.2.2.2.2.2.2.1 [] 1).bind fun b8 => if ¬ b8 < 0 then (if b8 = b7.1 then (some true) else none) else none) else none) else none) else none) else none) else none) else none
set_option maxHeartbeats 16000000 in
set_option maxRecDepth 100000 in
theorem laws_FnExactLeadNode.exit1 (k : Nat) (a0_0 : Int) (a0_1 : Bool) (a0_2 : Int) (a0_3 : Int) (A0_4 : Option Addr) (c0_4 : Nat) (l0_4 : List (S44)) (a0_5 : Int) (a0_6 : Int) (a0_7 : Int) (a0_8 : Int) (a1 : Int) (t0 : Int) (w : World) (hr0_4 : Kd.C k44 w A0_4 l0_4.length l0_4) (hc0_4 : l0_4.length ≤ c0_4) (h0 : laws_szNode.f k a0_0 a0_1 a0_2 a0_3 l0_4 a0_5 a0_6 a0_7 a0_8 1048576 = some t0) (NEGt0 : t0 < 0) :
    Calls Try.prog 8 #[.agg #[.int .i64 a0_0, .bool a0_1, .int .i64 a0_2, .int .i64 a0_3, .slice A0_4 l0_4.length c0_4, .int .i64 a0_5, .int .i64 a0_6, .int .i64 a0_7, .int .i64 a0_8], .int .i64 a1] w fun e w' => e = .returned (.bool true) ∧ Below w.heap.size w w' := by
  have hu24 := Try.underlying24
  have HR0_4 := Aside0.mk (show Rd k44 A0_4 l0_4.length c0_4 l0_4 w from ⟨rfl, hc0_4, hr0_4⟩)
  clear hr0_4 hc0_4
  have fc0 : decide (t0 < 0) = true := decide_eq_true NEGt0
  have A0 := Aside0.mk h0
  have XNEGt0 := Aside0.mk NEGt0
  clear h0 NEGt0
  have RS := Aside0.mk (Rs.start w)
  go_enter Try.func8, Try.ntmps8
  go_wp2_with (first | ((with_reducible refine gate_dst (N := 2) rfl ?_); refine boxE #[.int .i64 a0_0, .bool a0_1, .int .i64 a0_2, .int .i64 a0_3, .slice A0_4 l0_4.length c0_4, .int .i64 a0_5, .int .i64 a0_6, .int .i64 a0_7, .int .i64 a0_8] 24 (N := 2) rfl rfl ?_; intro gb0 hg w1_ hbox hb; replace RS := Aside0.mk (RS.out.push hb (Q := fun W => W.heap[gb0]? = some (.cells #[.int .i64 a0_0, .bool a0_1, .int .i64 a0_2, .int .i64 a0_3, .slice A0_4 l0_4.length c0_4, .int .i64 a0_5, .int .i64 a0_6, .int .i64 a0_7, .int .i64 a0_8] 24 (0, 0))) (fun W' hW => (hW _ (Nat.le_of_eq hg.symm) (blk_lt hbox)).trans hbox)); clear hbox hb hg; have hz1 := cx9 (RS.out.get 0 rfl); skip) | ((with_reducible refine gate_callee (f := 9) rfl ?_); refine goA (some 15) rfl rfl Try.func9 rfl #[.agg #[.int .i64 a0_0, .bool a0_1, .int .i64 a0_2, .int .i64 a0_3, .slice A0_4 l0_4.length c0_4, .int .i64 a0_5, .int .i64 a0_6, .int .i64 a0_7, .int .i64 a0_8], .int .i64 1048576] rfl ?_; (refine (laws_szNode.rd k a0_0 a0_1 a0_2 a0_3 _ _ _ l0_4 a0_5 a0_6 a0_7 a0_8 1048576 t0 _ ?s0 A0.out).mono ?_); (case s0 => exact HR0_4.out.below RS.out.B); rintro e w2_ ⟨rfl, hb⟩; refine ⟨_, rfl, ?_⟩; replace RS := Aside0.mk (RS.out.below hb); clear hb; (try clear hz1); have hz2 := cx9 (RS.out.get 0 rfl); skip))
  go_ret
  exact ⟨rfl, RS.out.B⟩
set_option maxHeartbeats 16000000 in
set_option maxRecDepth 100000 in
theorem laws_FnExactLeadNode.good (k : Nat) (a0_0 : Int) (a0_1 : Bool) (a0_2 : Int) (a0_3 : Int) (A0_4 : Option Addr) (c0_4 : Nat) (l0_4 : List (S44)) (a0_5 : Int) (a0_6 : Int) (a0_7 : Int) (a0_8 : Int) (a1 : Int) (t0 : Int) (t1_0 : Int) (t1_1 : Bool) (t1_2 : Int) (t1_3 : Int) (t1_4 : List (S51)) (t1_5 : Int) (t1_6 : Int) (t1_7 : Int) (t1_8 : Int) (t2_0 : Int) (t2_1 : Int) (t2_2 : Bool) (t2_3 : Int) (t2_4 : Int) (t2_5 : List (S51)) (t2_6 : Int) (t2_7 : Int) (t2_8 : Int) (t2_9 : Int) (t3_0 : Int) (t3_1 : Int) (t3_2 : Bool) (t3_3 : Int) (t3_4 : Int) (t3_5 : List (S51)) (t3_6 : Int) (t3_7 : Int) (t3_8 : Int) (t3_9 : Int) (t6 : Int) (t6_4 : List (S51)) (t7 : Int) (t7_5 : List (S51)) (t8 : Int) (w : World) (hr0_4 : Kd.C k44 w A0_4 l0_4.length l0_4) (hc0_4 : l0_4.length ≤ c0_4) (h0 : laws_szNode.f k a0_0 a0_1 a0_2 a0_3 l0_4 a0_5 a0_6 a0_7 a0_8 1048576 = some t0) (NEGt0 : ¬ (t0 < 0)) (h1 : laws_toNode.f k a0_0 a0_1 a0_2 a0_3 l0_4 a0_5 a0_6 a0_7 a0_8 = some (t1_0, t1_1, t1_2, t1_3, t1_4, t1_5, t1_6, t1_7, t1_8)) (h2 : spec_LeadNode.f k t1_0 t1_1 t1_2 t1_3 t1_4 t1_5 t1_6 t1_7 t1_8 a1 = some (t2_0, t2_1, t2_2, t2_3, t2_4, t2_5, t2_6, t2_7, t2_8, t2_9, [])) (h3 : impl_LeadNode.f k t1_0 t1_1 t1_2 t1_3 t1_4 t1_5 t1_6 t1_7 t1_8 a1 = some (t3_0, t3_1, t3_2, t3_3, t3_4, t3_5, t3_6, t3_7, t3_8, t3_9, [])) (h4 : laws_eqNodeResult.f k t3_0 t3_1 t3_2 t3_3 t3_4 t3_5 t3_6 t3_7 t3_8 t3_9 [] t2_0 t2_1 t2_2 t2_3 t2_4 t2_5 t2_6 t2_7 t2_8 t2_9 [] = some true) (h5 : laws_eqNode.f k t1_0 t1_1 t1_2 t1_3 t1_4 t1_5 t1_6 t1_7 t1_8 t1_0 t1_1 t1_2 t1_3 t1_4 t1_5 t1_6 t1_7 t1_8 = some true) (h6 : laws_markNode.f k t1_0 t1_1 t1_2 t1_3 t1_4 t1_5 t1_6 t1_7 t1_8 1 = some (t6, t6_4)) (NEGt6 : ¬ t6 < 0) (h7 : laws_markNodeResult.f k t3_0 t3_1 t3_2 t3_3 t3_4 t3_5 t3_6 t3_7 t3_8 t3_9 [] 1 = some (t7, t7_5, [])) (h8 : laws_heldNodeResult.f k t3_0 t3_1 t3_2 t3_3 t3_4 t7_5 t3_6 t3_7 t3_8 t3_9 [] 1 = some t8) (NEGt8 : ¬ t8 < 0) (SAMEt8 : t8 = t7) :
    Calls Try.prog 8 #[.agg #[.int .i64 a0_0, .bool a0_1, .int .i64 a0_2, .int .i64 a0_3, .slice A0_4 l0_4.length c0_4, .int .i64 a0_5, .int .i64 a0_6, .int .i64 a0_7, .int .i64 a0_8], .int .i64 a1] w fun e w' => e = .returned (.bool true) ∧ Below w.heap.size w w' := by
  have hu24 := Try.underlying24
  have hu29 := Try.underlying29
  have hu35 := Try.underlying35
  have HR0_4 := Aside0.mk (show Rd k44 A0_4 l0_4.length c0_4 l0_4 w from ⟨rfl, hc0_4, hr0_4⟩)
  clear hr0_4 hc0_4
  have fc0 : decide (t0 < 0) = false := decide_eq_false NEGt0
  have fc1 : decide (t6 < 0) = false := decide_eq_false NEGt6
  have fc2 : decide (t8 < 0) = false := decide_eq_false NEGt8
  have fc3 : (t8 != t7) = false := bne_eq_false_iff_eq.mpr SAMEt8
  have A0 := Aside0.mk h0
  have XNEGt0 := Aside0.mk NEGt0
  have A1 := Aside0.mk h1
  have A2 := Aside0.mk h2
  have A3 := Aside0.mk h3
  have A4 := Aside0.mk h4
  have A5 := Aside0.mk h5
  have A6 := Aside0.mk h6
  have XNEGt6 := Aside0.mk NEGt6
  have A7 := Aside0.mk h7
  have A8 := Aside0.mk h8
  have XNEGt8 := Aside0.mk NEGt8
  have XSAMEt8 := Aside0.mk SAMEt8
  clear h0 NEGt0 h1 h2 h3 h4 h5 h6 NEGt6 h7 h8 NEGt8 SAMEt8
  have RS := Aside0.mk (Rs.start w)
  go_enter Try.func8, Try.ntmps8
  go_wp2_with (first | ((with_reducible refine gate_dst (N := 2) rfl ?_); refine boxE #[.int .i64 a0_0, .bool a0_1, .int .i64 a0_2, .int .i64 a0_3, .slice A0_4 l0_4.length c0_4, .int .i64 a0_5, .int .i64 a0_6, .int .i64 a0_7, .int .i64 a0_8] 24 (N := 2) rfl rfl ?_; intro gb0 hg w1_ hbox hb; replace RS := Aside0.mk (RS.out.push hb (Q := fun W => W.heap[gb0]? = some (.cells #[.int .i64 a0_0, .bool a0_1, .int .i64 a0_2, .int .i64 a0_3, .slice A0_4 l0_4.length c0_4, .int .i64 a0_5, .int .i64 a0_6, .int .i64 a0_7, .int .i64 a0_8] 24 (0, 0))) (fun W' hW => (hW _ (Nat.le_of_eq hg.symm) (blk_lt hbox)).trans hbox)); clear hbox hb hg; have hz1 := cx9 (RS.out.get 0 rfl); skip) | ((with_reducible refine gate_callee (f := 9) rfl ?_); refine goA (some 15) rfl rfl Try.func9 rfl #[.agg #[.int .i64 a0_0, .bool a0_1, .int .i64 a0_2, .int .i64 a0_3, .slice A0_4 l0_4.length c0_4, .int .i64 a0_5, .int .i64 a0_6, .int .i64 a0_7, .int .i64 a0_8], .int .i64 1048576] rfl ?_; (refine (laws_szNode.rd k a0_0 a0_1 a0_2 a0_3 _ _ _ l0_4 a0_5 a0_6 a0_7 a0_8 1048576 t0 _ ?s0 A0.out).mono ?_); (case s0 => exact HR0_4.out.below RS.out.B); rintro e w2_ ⟨rfl, hb⟩; refine ⟨_, rfl, ?_⟩; replace RS := Aside0.mk (RS.out.below hb); clear hb; (try clear hz1); have hz2 := cx9 (RS.out.get 0 rfl); skip) | ((with_reducible refine gate_callee (f := 11) rfl ?_); refine goA (some 19) rfl rfl Try.func11 rfl #[.agg #[.int .i64 a0_0, .bool a0_1, .int .i64 a0_2, .int .i64 a0_3, .slice A0_4 l0_4.length c0_4, .int .i64 a0_5, .int .i64 a0_6, .int .i64 a0_7, .int .i64 a0_8]] rfl ?_; (refine (laws_toNode.own k w.heap.size a0_0 a0_1 a0_2 a0_3 _ _ _ l0_4 a0_5 a0_6 a0_7 a0_8 t1_0 t1_1 t1_2 t1_3 t1_4 t1_5 t1_6 t1_7 t1_8 _ ?sB ?s0 A1.out).mono ?_); (case sB => exact RS.out.B.size); (case s0 => exact HR0_4.out.below RS.out.B); rintro e w3_ ⟨A1_4, n1_4, c1_4, rfl, hq, hb⟩; refine ⟨_, rfl, ?_⟩; replace RS := Aside0.mk (RS.out.push hb hq); clear hq hb; (try clear hz2); have hz3 := cx9 (RS.out.get 0 rfl); skip) | ((with_reducible refine gate_callee (f := 29) rfl ?_); refine goA (some 21) rfl rfl Try.func29 rfl #[.agg #[.int .i64 t1_0, .bool t1_1, .int .i64 t1_2, .int .i64 t1_3, .slice A1_4 n1_4 c1_4, .int .i64 t1_5, .int .i64 t1_6, .int .i64 t1_7, .int .i64 t1_8], .int .i64 a1] rfl ?_; (refine (spec_LeadNode.own k w.heap.size t1_0 t1_1 t1_2 t1_3 _ _ _ t1_4 t1_5 t1_6 t1_7 t1_8 a1 t2_0 t2_1 t2_2 t2_3 t2_4 t2_5 t2_6 t2_7 t2_8 t2_9 _ ?sB ?s0 A2.out).mono ?_); (case sB => exact RS.out.B.size); (case s0 => exact OwnT29.rd4 _ _ _ _ _ _ _ _ (RS.out.get 1 rfl)); rintro e w4_ ⟨A2_5, n2_5, c2_5, A2_10, n2_10, c2_10, rfl, hq, hb⟩; refine ⟨_, rfl, ?_⟩; replace RS := Aside0.mk (RS.out.push hb hq); clear hq hb; (try clear hz3); have hz4 := cx9 (RS.out.get 0 rfl); skip) | ((with_reducible refine gate_dst (N := 6) rfl ?_); refine boxE #[.int .i64 0, .int .i64 0, .bool false, .int .i64 0, .int .i64 0, .slice none 0 0, .int .i64 0, .int .i64 0, .int .i64 0, .int .i64 0, .slice none 0 0] 35 (N := 6) rfl rfl ?_; intro gb3 hg w5_ hbox hb; have HBX := Aside0.mk hbox; have HX := Aside0.mk hb; have GX := Aside0.mk hg; clear hb hbox hg; have hzX3 := cl_11 HBX; (with_reducible refine gate_store (t := 35) (p := 6) rfl ?_); refine store_event (t := 35) (p := 6) (v := ?vo_w6_) (w1 := (((((((((((w5_.setCell ⟨gb3, 0, none⟩ (.int .i64 t2_0)).setCell ⟨gb3, 1, none⟩ (.int .i64 t2_1)).setCell ⟨gb3, 2, none⟩ (.bool t2_2)).setCell ⟨gb3, 3, none⟩ (.int .i64 t2_3)).setCell ⟨gb3, 4, none⟩ (.int .i64 t2_4)).setCell ⟨gb3, 5, none⟩ (.slice A2_5 n2_5 c2_5)).setCell ⟨gb3, 6, none⟩ (.int .i64 t2_6)).setCell ⟨gb3, 7, none⟩ (.int .i64 t2_7)).setCell ⟨gb3, 8, none⟩ (.int .i64 t2_8)).setCell ⟨gb3, 9, none⟩ (.int .i64 t2_9)).setCell ⟨gb3, 10, none⟩ (.slice A2_10 n2_10 c2_10))) ?hg ?ho ?hn ?hr ?_; (case ho => rfl); (case hg => rfl); (case hn => rfl); (case hr => first | (go_simp; done) | (go_simp; rfl)); intro w6_ hw; have hb : Below w4_.heap.size w4_ w6_ := (by rw [hw]; repeat (with_reducible first | exact HX.out | refine below_set ?_ (Nat.le_of_eq GX.out.symm))); have hbox : w6_.heap[gb3]? = some (.cells #[.int .i64 t2_0, .int .i64 t2_1, .bool t2_2, .int .i64 t2_3, .int .i64 t2_4, .slice A2_5 n2_5 c2_5, .int .i64 t2_6, .int .i64 t2_7, .int .i64 t2_8, .int .i64 t2_9, .slice A2_10 n2_10 c2_10] 35 (0, 0)) := (by rw [hw]; exact mP HBX); replace RS := Aside0.mk (RS.out.push hb (Q := fun W => W.heap[gb3]? = some (.cells #[.int .i64 t2_0, .int .i64 t2_1, .bool t2_2, .int .i64 t2_3, .int .i64 t2_4, .slice A2_5 n2_5 c2_5, .int .i64 t2_6, .int .i64 t2_7, .int .i64 t2_8, .int .i64 t2_9, .slice A2_10 n2_10 c2_10] 35 (0, 0))) (fun W' hW => (hW _ (Nat.le_of_eq GX.out.symm) (blk_lt hbox)).trans hbox)); clear HBX HX GX hbox hb hw hzX3; (try clear hz4); have hz5 := cx9 (RS.out.get 0 rfl); have hz6 := cx11 (RS.out.get 3 rfl); skip) | ((with_reducible refine gate_callee (f := 11) rfl ?_); refine goA (some 23) rfl rfl Try.func11 rfl #[.agg #[.int .i64 a0_0, .bool a0_1, .int .i64 a0_2, .int .i64 a0_3, .slice A0_4 l0_4.length c0_4, .int .i64 a0_5, .int .i64 a0_6, .int .i64 a0_7, .int .i64 a0_8]] rfl ?_; (refine (laws_toNode.own k w.heap.size a0_0 a0_1 a0_2 a0_3 _ _ _ l0_4 a0_5 a0_6 a0_7 a0_8 t1_0 t1_1 t1_2 t1_3 t1_4 t1_5 t1_6 t1_7 t1_8 _ ?sB ?s0 A1.out).mono ?_); (case sB => exact RS.out.B.size); (case s0 => exact HR0_4.out.below RS.out.B); rintro e w7_ ⟨A4_4, n4_4, c4_4, rfl, hq, hb⟩; refine ⟨_, rfl, ?_⟩; replace RS := Aside0.mk (RS.out.push hb hq); clear hq hb; (try clear hz5); (try clear hz6); have hz7 := cx9 (RS.out.get 0 rfl); have hz8 := cx11 (RS.out.get 3 rfl); skip) | ((with_reducible refine gate_dst (N := 7) rfl ?_); refine boxE #[.int .i64 0, .bool false, .int .i64 0, .int .i64 0, .slice none 0 0, .int .i64 0, .int .i64 0, .int .i64 0, .int .i64 0] 29 (N := 7) rfl rfl ?_; intro gb5 hg w8_ hbox hb; have HBX := Aside0.mk hbox; have HX := Aside0.mk hb; have GX := Aside0.mk hg; clear hb hbox hg; have hzX5 := cl_9 HBX; (with_reducible refine gate_store (t := 29) (p := 7) rfl ?_); refine store_event (t := 29) (p := 7) (v := ?vo_w9_) (w1 := (((((((((w8_.setCell ⟨gb5, 0, none⟩ (.int .i64 t1_0)).setCell ⟨gb5, 1, none⟩ (.bool t1_1)).setCell ⟨gb5, 2, none⟩ (.int .i64 t1_2)).setCell ⟨gb5, 3, none⟩ (.int .i64 t1_3)).setCell ⟨gb5, 4, none⟩ (.slice A4_4 n4_4 c4_4)).setCell ⟨gb5, 5, none⟩ (.int .i64 t1_5)).setCell ⟨gb5, 6, none⟩ (.int .i64 t1_6)).setCell ⟨gb5, 7, none⟩ (.int .i64 t1_7)).setCell ⟨gb5, 8, none⟩ (.int .i64 t1_8))) ?hg ?ho ?hn ?hr ?_; (case ho => rfl); (case hg => rfl); (case hn => rfl); (case hr => first | (go_simp; done) | (go_simp; rfl)); intro w9_ hw; have hb : Below w7_.heap.size w7_ w9_ := (by rw [hw]; repeat (with_reducible first | exact HX.out | refine below_set ?_ (Nat.le_of_eq GX.out.symm))); have hbox : w9_.heap[gb5]? = some (.cells #[.int .i64 t1_0, .bool t1_1, .int .i64 t1_2, .int .i64 t1_3, .slice A4_4 n4_4 c4_4, .int .i64 t1_5, .int .i64 t1_6, .int .i64 t1_7, .int .i64 t1_8] 29 (0, 0)) := (by rw [hw]; exact mP HBX); replace RS := Aside0.mk (RS.out.push hb (Q := fun W => W.heap[gb5]? = some (.cells #[.int .i64 t1_0, .bool t1_1, .int .i64 t1_2, .int .i64 t1_3, .slice A4_4 n4_4 c4_4, .int .i64 t1_5, .int .i64 t1_6, .int .i64 t1_7, .int .i64 t1_8] 29 (0, 0))) (fun W' hW => (hW _ (Nat.le_of_eq GX.out.symm) (blk_lt hbox)).trans hbox)); clear HBX HX GX hbox hb hw hzX5; (try clear hz7); (try clear hz8); have hz9 := cx9 (RS.out.get 0 rfl); have hz10 := cx11 (RS.out.get 3 rfl); have hz11 := cx9 (RS.out.get 5 rfl); skip) | ((with_reducible refine gate_callee (f := 30) rfl ?_); refine goA (some 26) rfl rfl Try.func30 rfl #[.agg #[.int .i64 t1_0, .bool t1_1, .int .i64 t1_2, .int .i64 t1_3, .slice A4_4 n4_4 c4_4, .int .i64 t1_5, .int .i64 t1_6, .int .i64 t1_7, .int .i64 t1_8], .int .i64 a1] rfl ?_; (refine (impl_LeadNode.own k w.heap.size t1_0 t1_1 t1_2 t1_3 _ _ _ t1_4 t1_5 t1_6 t1_7 t1_8 a1 t3_0 t3_1 t3_2 t3_3 t3_4 t3_5 t3_6 t3_7 t3_8 t3_9 _ ?sB ?s0 A3.out).mono ?_); (case sB => exact RS.out.B.size); (case s0 => exact OwnT29.rd4 _ _ _ _ _ _ _ _ (RS.out.get 4 rfl)); rintro e w10_ ⟨A6_5, n6_5, c6_5, A6_10, n6_10, c6_10, rfl, hq, hb⟩; refine ⟨_, rfl, ?_⟩; replace RS := Aside0.mk (RS.out.push hb hq); clear hq hb; (try clear hz9); (try clear hz10); (try clear hz11); have hz12 := cx9 (RS.out.get 0 rfl); have hz13 := cx11 (RS.out.get 3 rfl); have hz14 := cx9 (RS.out.get 5 rfl); skip) | ((with_reducible refine gate_dst (N := 8) rfl ?_); refine boxE #[.int .i64 0, .int .i64 0, .bool false, .int .i64 0, .int .i64 0, .slice none 0 0, .int .i64 0, .int .i64 0, .int .i64 0, .int .i64 0, .slice none 0 0] 35 (N := 8) rfl rfl ?_; intro gb7 hg w11_ hbox hb; have HBX := Aside0.mk hbox; have HX := Aside0.mk hb; have GX := Aside0.mk hg; clear hb hbox hg; have hzX7 := cl_11 HBX; (with_reducible refine gate_store (t := 35) (p := 8) rfl ?_); refine store_event (t := 35) (p := 8) (v := ?vo_w12_) (w1 := (((((((((((w11_.setCell ⟨gb7, 0, none⟩ (.int .i64 t3_0)).setCell ⟨gb7, 1, none⟩ (.int .i64 t3_1)).setCell ⟨gb7, 2, none⟩ (.bool t3_2)).setCell ⟨gb7, 3, none⟩ (.int .i64 t3_3)).setCell ⟨gb7, 4, none⟩ (.int .i64 t3_4)).setCell ⟨gb7, 5, none⟩ (.slice A6_5 n6_5 c6_5)).setCell ⟨gb7, 6, none⟩ (.int .i64 t3_6)).setCell ⟨gb7, 7, none⟩ (.int .i64 t3_7)).setCell ⟨gb7, 8, none⟩ (.int .i64 t3_8)).setCell ⟨gb7, 9, none⟩ (.int .i64 t3_9)).setCell ⟨gb7, 10, none⟩ (.slice A6_10 n6_10 c6_10))) ?hg ?ho ?hn ?hr ?_; (case ho => rfl); (case hg => rfl); (case hn => rfl); (case hr => first | (go_simp; done) | (go_simp; rfl)); intro w12_ hw; have hb : Below w10_.heap.size w10_ w12_ := (by rw [hw]; repeat (with_reducible first | exact HX.out | refine below_set ?_ (Nat.le_of_eq GX.out.symm))); have hbox : w12_.heap[gb7]? = some (.cells #[.int .i64 t3_0, .int .i64 t3_1, .bool t3_2, .int .i64 t3_3, .int .i64 t3_4, .slice A6_5 n6_5 c6_5, .int .i64 t3_6, .int .i64 t3_7, .int .i64 t3_8, .int .i64 t3_9, .slice A6_10 n6_10 c6_10] 35 (0, 0)) := (by rw [hw]; exact mP HBX); replace RS := Aside0.mk (RS.out.push hb (Q := fun W => W.heap[gb7]? = some (.cells #[.int .i64 t3_0, .int .i64 t3_1, .bool t3_2, .int .i64 t3_3, .int .i64 t3_4, .slice A6_5 n6_5 c6_5, .int .i64 t3_6, .int .i64 t3_7, .int .i64 t3_8, .int .i64 t3_9, .slice A6_10 n6_10 c6_10] 35 (0, 0))) (fun W' hW => (hW _ (Nat.le_of_eq GX.out.symm) (blk_lt hbox)).trans hbox)); clear HBX HX GX hbox hb hw hzX7; (try clear hz12); (try clear hz13); (try clear hz14); have hz15 := cx9 (RS.out.get 0 rfl); have hz16 := cx11 (RS.out.get 3 rfl); have hz17 := cx9 (RS.out.get 5 rfl); have hz18 := cx11 (RS.out.get 7 rfl); skip) | ((with_reducible refine gate_callee (f := 16) rfl ?_); refine goA (some 29) rfl rfl Try.func16 rfl #[.agg #[.int .i64 t3_0, .int .i64 t3_1, .bool t3_2, .int .i64 t3_3, .int .i64 t3_4, .slice A6_5 n6_5 c6_5, .int .i64 t3_6, .int .i64 t3_7, .int .i64 t3_8, .int .i64 t3_9, .slice A6_10 n6_10 c6_10], .agg #[.int .i64 t2_0, .int .i64 t2_1, .bool t2_2, .int .i64 t2_3, .int .i64 t2_4, .slice A2_5 n2_5 c2_5, .int .i64 t2_6, .int .i64 t2_7, .int .i64 t2_8, .int .i64 t2_9, .slice A2_10 n2_10 c2_10]] rfl ?_; (refine (laws_eqNodeResult.rd k t3_0 t3_1 t3_2 t3_3 t3_4 _ _ _ t3_5 t3_6 t3_7 t3_8 t3_9 _ _ _ [] t2_0 t2_1 t2_2 t2_3 t2_4 _ _ _ t2_5 t2_6 t2_7 t2_8 t2_9 _ _ _ [] true _ ?s0 ?s1 ?s2 ?s3 A4.out).mono ?_); (case s0 => exact OwnT35.rd5 _ _ _ _ _ _ _ _ _ _ (RS.out.get 6 rfl)); (case s1 => exact OwnT35.rd10 _ _ _ _ _ _ _ _ _ _ (RS.out.get 6 rfl)); (case s2 => exact OwnT35.rd5 _ _ _ _ _ _ _ _ _ _ (RS.out.get 2 rfl)); (case s3 => exact OwnT35.rd10 _ _ _ _ _ _ _ _ _ _ (RS.out.get 2 rfl)); rintro e w13_ ⟨rfl, hb⟩; refine ⟨_, rfl, ?_⟩; replace RS := Aside0.mk (RS.out.below hb); clear hb; (try clear hz15); (try clear hz16); (try clear hz17); (try clear hz18); have hz19 := cx9 (RS.out.get 0 rfl); have hz20 := cx11 (RS.out.get 3 rfl); have hz21 := cx9 (RS.out.get 5 rfl); have hz22 := cx11 (RS.out.get 7 rfl); skip))
  replace RS := Aside0.mk (Rs.drew RS.out)
  refine start_ (n := 5) (S := fun w' => (w'.cell? ⟨gb5, 0, none⟩ = some (.int .i64 t1_0) ∧ w'.cell? ⟨gb5, 1, none⟩ = some (.bool t1_1) ∧ w'.cell? ⟨gb5, 2, none⟩ = some (.int .i64 t1_2) ∧ w'.cell? ⟨gb5, 3, none⟩ = some (.int .i64 t1_3) ∧ w'.cell? ⟨gb5, 4, none⟩ = some (.slice A4_4 n4_4 c4_4) ∧ w'.cell? ⟨gb5, 5, none⟩ = some (.int .i64 t1_5) ∧ w'.cell? ⟨gb5, 6, none⟩ = some (.int .i64 t1_6) ∧ w'.cell? ⟨gb5, 7, none⟩ = some (.int .i64 t1_7) ∧ w'.cell? ⟨gb5, 8, none⟩ = some (.int .i64 t1_8)) ∧ (w'.cell? ⟨gb0, 0, none⟩ = some (.int .i64 a0_0) ∧ w'.cell? ⟨gb0, 1, none⟩ = some (.bool a0_1) ∧ w'.cell? ⟨gb0, 2, none⟩ = some (.int .i64 a0_2) ∧ w'.cell? ⟨gb0, 3, none⟩ = some (.int .i64 a0_3) ∧ w'.cell? ⟨gb0, 4, none⟩ = some (.slice A0_4 l0_4.length c0_4) ∧ w'.cell? ⟨gb0, 5, none⟩ = some (.int .i64 a0_5) ∧ w'.cell? ⟨gb0, 6, none⟩ = some (.int .i64 a0_6) ∧ w'.cell? ⟨gb0, 7, none⟩ = some (.int .i64 a0_7) ∧ w'.cell? ⟨gb0, 8, none⟩ = some (.int .i64 a0_8))) (ds := []) #[false, false, false, false, false] (by kernel_rfl) rfl rfl ⟨cs9 (RS.out.get 5 rfl), cs9 (RS.out.get 0 rfl)⟩ (fun hHeld => ?_)
  generalize w13_.drew = w14_ at RS hHeld ⊢
  refine take_ (i := 0) (N := some 31) (v := ?_) (a' := ?_) #[true, false, false, false, false] rfl rfl (by kernel_rfl) (fun _ _ _ h => h) (Or.inl ⟨by rfl, ?_⟩) hHeld ?_ ?_
  rotate_left
  · rintro w' ⟨⟨s0, s1, s2, s3, s4, s5, s6, s7, s8⟩, ⟨s9, s10, s11, s12, s13, s14, s15, s16, s17⟩⟩
    go_simp
    with_reducible rfl
  rotate_left
  · simp only [Act.put, List.setIfInBounds_toArray, List.set_cons_zero, List.set_cons_succ, i64_w, i32_w]
    rfl
  refine take_ (i := 1) (N := some 32) (v := ?_) (a' := ?_) #[true, true, false, false, false] rfl rfl (by kernel_rfl) (fun _ _ _ h => h) (Or.inl ⟨by rfl, ?_⟩) hHeld ?_ ?_
  rotate_left
  · rintro w' ⟨⟨s0, s1, s2, s3, s4, s5, s6, s7, s8⟩, ⟨s9, s10, s11, s12, s13, s14, s15, s16, s17⟩⟩
    go_simp
    with_reducible rfl
  rotate_left
  · simp only [Act.put, List.setIfInBounds_toArray, List.set_cons_zero, List.set_cons_succ, i64_w, i32_w]
    rfl
  refine one_ (i := 2) (N := some 33) #[true, true, true, false, false] rfl rfl (by kernel_rfl) (by decide) (fun K hK => ?_)
  refine goes_ Try.func11 (by kernel_rfl) rfl #[.agg #[.int .i64 a0_0, .bool a0_1, .int .i64 a0_2, .int .i64 a0_3, .slice A0_4 l0_4.length c0_4, .int .i64 a0_5, .int .i64 a0_6, .int .i64 a0_7, .int .i64 a0_8]] (by rfl) rfl rfl (by (try simp only [List.map_toArray, List.map_cons, List.map_nil]); first | done | rfl) ?_
  (refine (laws_toNode.own k w.heap.size a0_0 a0_1 a0_2 a0_3 _ _ _ l0_4 a0_5 a0_6 a0_7 a0_8 t1_0 t1_1 t1_2 t1_3 t1_4 t1_5 t1_6 t1_7 t1_8 _ ?sB ?s0 A1.out).mono ?_)
  (case sB => exact RS.out.B.size)
  (case s0 => exact HR0_4.out.below RS.out.B)
  rintro e w15_ ⟨A8_4, n8_4, c8_4, rfl, hq, hb⟩; refine ⟨_, rfl, ?_⟩; replace RS := Aside0.mk (RS.out.push hb hq); clear hq hb
  refine hK.out _ _ ⟨cs9 (RS.out.get 5 rfl), cs9 (RS.out.get 0 rfl)⟩ (fun hHeld => ?_)
  clear hK K
  refine norm_ (a' := ?_) ?_ ?_
  rotate_left
  · show Act.put _ (some 33) _ = _
    simp only [Act.put, List.setIfInBounds_toArray, List.set_cons_zero, List.set_cons_succ, i64_w, i32_w]
    rfl
  refine one_ (i := 3) (N := some 34) #[true, true, true, true, false] rfl rfl (by kernel_rfl) (by decide) (fun K hK => ?_)
  refine goes_ Try.func13 (by kernel_rfl) rfl #[.agg #[.int .i64 t1_0, .bool t1_1, .int .i64 t1_2, .int .i64 t1_3, .slice A4_4 n4_4 c4_4, .int .i64 t1_5, .int .i64 t1_6, .int .i64 t1_7, .int .i64 t1_8], .agg #[.int .i64 t1_0, .bool t1_1, .int .i64 t1_2, .int .i64 t1_3, .slice A8_4 n8_4 c8_4, .int .i64 t1_5, .int .i64 t1_6, .int .i64 t1_7, .int .i64 t1_8]] (by rfl) rfl rfl (by (try simp only [List.map_toArray, List.map_cons, List.map_nil]); first | done | rfl) ?_
  (refine (laws_eqNode.rd k t1_0 t1_1 t1_2 t1_3 _ _ _ t1_4 t1_5 t1_6 t1_7 t1_8 t1_0 t1_1 t1_2 t1_3 _ _ _ t1_4 t1_5 t1_6 t1_7 t1_8 true _ ?s0 ?s1 A5.out).mono ?_)
  (case s0 => exact OwnT29.rd4 _ _ _ _ _ _ _ _ (RS.out.get 4 rfl))
  (case s1 => exact OwnT29.rd4 _ _ _ _ _ _ _ _ (RS.out.get 8 rfl))
  rintro e w16_ ⟨rfl, hb⟩; refine ⟨_, rfl, ?_⟩; replace RS := Aside0.mk (RS.out.below hb); clear hb
  refine hK.out _ _ ⟨cs9 (RS.out.get 5 rfl), cs9 (RS.out.get 0 rfl)⟩ (fun hHeld => ?_)
  clear hK K
  refine norm_ (a' := ?_) ?_ ?_
  rotate_left
  · show Act.put _ (some 34) _ = _
    simp only [Act.put, List.setIfInBounds_toArray, List.set_cons_zero, List.set_cons_succ, i64_w, i32_w]
    rfl
  refine pure_ (i := 4) (N := some 35) (v := ?_) (a' := ?_) #[true, true, true, true, true] rfl rfl (by kernel_rfl) (fun _ _ _ h => h) (Or.inl ⟨by rfl, ?_⟩) ?_ ?_
  rotate_left
  · intro w'
    go_simp
    with_reducible rfl
  rotate_left
  · simp only [Act.put, List.setIfInBounds_toArray, List.set_cons_zero, List.set_cons_succ, i64_w, i32_w]
    rfl
  refine done_ (by kernel_rfl) ?_
  (try clear hz19)
  (try clear hz20)
  (try clear hz21)
  (try clear hz22)
  have hz23 := cx9 (RS.out.get 0 rfl)
  have hz24 := cx11 (RS.out.get 3 rfl)
  have hz25 := cx9 (RS.out.get 5 rfl)
  have hz26 := cx11 (RS.out.get 7 rfl)
  go_wp2_with (first | ((with_reducible refine gate_callee (f := 26) rfl ?_); refine goA (some 38) rfl rfl Try.func26 rfl #[.agg #[.int .i64 t1_0, .bool t1_1, .int .i64 t1_2, .int .i64 t1_3, .slice A4_4 n4_4 c4_4, .int .i64 t1_5, .int .i64 t1_6, .int .i64 t1_7, .int .i64 t1_8], .int .i64 1] rfl ?_; (refine (laws_markNode.own k _ _ t1_0 t1_1 t1_2 t1_3 _ _ _ t1_4 t1_5 t1_6 t1_7 t1_8 1 t6 t6_4 w _ ?sB (RS.out.get 4 rfl) A6.out).mono ?_); (case sB => exact RS.out.B); rintro e w17_ ⟨rfl, hq, hb, hk⟩; refine ⟨_, rfl, ?_⟩; replace RS := Aside0.mk (RS.out.upd 4 rfl hb hk hq); clear hq hb hk; (try clear hz23); (try clear hz24); (try clear hz25); (try clear hz26); have hz27 := cx9 (RS.out.get 0 rfl); have hz28 := cx11 (RS.out.get 3 rfl); have hz29 := cx9 (RS.out.get 5 rfl); have hz30 := cx11 (RS.out.get 7 rfl); skip) | ((with_reducible refine gate_callee (f := 16) rfl ?_); (with_reducible refine gateG ?gw18 ?_); (case gw18 => rfl); refine goA (some 44) rfl rfl Try.func16 rfl #[.agg #[.int .i64 t3_0, .int .i64 t3_1, .bool t3_2, .int .i64 t3_3, .int .i64 t3_4, .slice A6_5 n6_5 c6_5, .int .i64 t3_6, .int .i64 t3_7, .int .i64 t3_8, .int .i64 t3_9, .slice A6_10 n6_10 c6_10], .agg #[.int .i64 t2_0, .int .i64 t2_1, .bool t2_2, .int .i64 t2_3, .int .i64 t2_4, .slice A2_5 n2_5 c2_5, .int .i64 t2_6, .int .i64 t2_7, .int .i64 t2_8, .int .i64 t2_9, .slice A2_10 n2_10 c2_10]] rfl ?_; (refine (laws_eqNodeResult.rd k t3_0 t3_1 t3_2 t3_3 t3_4 _ _ _ t3_5 t3_6 t3_7 t3_8 t3_9 _ _ _ [] t2_0 t2_1 t2_2 t2_3 t2_4 _ _ _ t2_5 t2_6 t2_7 t2_8 t2_9 _ _ _ [] true _ ?s0 ?s1 ?s2 ?s3 A4.out).mono ?_); (case s0 => exact OwnT35.rd5 _ _ _ _ _ _ _ _ _ _ (RS.out.get 6 rfl)); (case s1 => exact OwnT35.rd10 _ _ _ _ _ _ _ _ _ _ (RS.out.get 6 rfl)); (case s2 => exact OwnT35.rd5 _ _ _ _ _ _ _ _ _ _ (RS.out.get 2 rfl)); (case s3 => exact OwnT35.rd10 _ _ _ _ _ _ _ _ _ _ (RS.out.get 2 rfl)); rintro e w18_ ⟨rfl, hb⟩; refine ⟨_, rfl, ?_⟩; replace RS := Aside0.mk (RS.out.below hb); clear hb; (try clear hz27); (try clear hz28); (try clear hz29); (try clear hz30); have hz31 := cx9 (RS.out.get 0 rfl); have hz32 := cx11 (RS.out.get 3 rfl); have hz33 := cx9 (RS.out.get 5 rfl); have hz34 := cx11 (RS.out.get 7 rfl); skip) | ((with_reducible refine gate_callee (f := 17) rfl ?_); refine goA (some 49) rfl rfl Try.func17 rfl #[.agg #[.int .i64 t3_0, .int .i64 t3_1, .bool t3_2, .int .i64 t3_3, .int .i64 t3_4, .slice A6_5 n6_5 c6_5, .int .i64 t3_6, .int .i64 t3_7, .int .i64 t3_8, .int .i64 t3_9, .slice A6_10 n6_10 c6_10], .int .i64 1] rfl ?_; (refine (laws_markNodeResult.own k _ _ t3_0 t3_1 t3_2 t3_3 t3_4 _ _ _ t3_5 t3_6 t3_7 t3_8 t3_9 _ _ _ 1 t7 t7_5 w _ ?sB (RS.out.get 6 rfl) A7.out).mono ?_); (case sB => exact RS.out.B); rintro e w19_ ⟨rfl, hq, hb, hk⟩; refine ⟨_, rfl, ?_⟩; replace RS := Aside0.mk (RS.out.upd 6 rfl hb hk hq); clear hq hb hk; (try clear hz31); (try clear hz32); (try clear hz33); (try clear hz34); have hz35 := cx9 (RS.out.get 0 rfl); have hz36 := cx11 (RS.out.get 3 rfl); have hz37 := cx9 (RS.out.get 5 rfl); have hz38 := cx11 (RS.out.get 7 rfl); skip) | ((with_reducible refine gate_callee (f := 18) rfl ?_); refine goA (some 52) rfl rfl Try.func18 rfl #[.agg #[.int .i64 t3_0, .int .i64 t3_1, .bool t3_2, .int .i64 t3_3, .int .i64 t3_4, .slice A6_5 n6_5 c6_5, .int .i64 t3_6, .int .i64 t3_7, .int .i64 t3_8, .int .i64 t3_9, .slice A6_10 n6_10 c6_10], .int .i64 1] rfl ?_; (refine (laws_heldNodeResult.rd k t3_0 t3_1 t3_2 t3_3 t3_4 _ _ _ t7_5 t3_6 t3_7 t3_8 t3_9 _ _ _ [] 1 t8 _ ?s0 ?s1 A8.out).mono ?_); (case s0 => exact OwnT35.rd5 _ _ _ _ _ _ _ _ _ _ (RS.out.get 6 rfl)); (case s1 => exact OwnT35.rd10 _ _ _ _ _ _ _ _ _ _ (RS.out.get 6 rfl)); rintro e w20_ ⟨rfl, hb⟩; refine ⟨_, rfl, ?_⟩; replace RS := Aside0.mk (RS.out.below hb); clear hb; (try clear hz35); (try clear hz36); (try clear hz37); (try clear hz38); have hz39 := cx9 (RS.out.get 0 rfl); have hz40 := cx11 (RS.out.get 3 rfl); have hz41 := cx9 (RS.out.get 5 rfl); have hz42 := cx11 (RS.out.get 7 rfl); skip) | ((with_reducible refine gate_callee (f := 11) rfl ?_); refine goA (some 59) rfl rfl Try.func11 rfl #[.agg #[.int .i64 a0_0, .bool a0_1, .int .i64 a0_2, .int .i64 a0_3, .slice A0_4 l0_4.length c0_4, .int .i64 a0_5, .int .i64 a0_6, .int .i64 a0_7, .int .i64 a0_8]] rfl ?_; (refine (laws_toNode.own k w.heap.size a0_0 a0_1 a0_2 a0_3 _ _ _ l0_4 a0_5 a0_6 a0_7 a0_8 t1_0 t1_1 t1_2 t1_3 t1_4 t1_5 t1_6 t1_7 t1_8 _ ?sB ?s0 A1.out).mono ?_); (case sB => exact RS.out.B.size); (case s0 => exact HR0_4.out.below RS.out.B); rintro e w21_ ⟨A9_4, n9_4, c9_4, rfl, hq, hb⟩; refine ⟨_, rfl, ?_⟩; replace RS := Aside0.mk (RS.out.push hb hq); clear hq hb; (try clear hz39); (try clear hz40); (try clear hz41); (try clear hz42); have hz43 := cx9 (RS.out.get 0 rfl); have hz44 := cx11 (RS.out.get 3 rfl); have hz45 := cx9 (RS.out.get 5 rfl); have hz46 := cx11 (RS.out.get 7 rfl); skip) | ((with_reducible refine gate_callee (f := 30) rfl ?_); refine goA (some 61) rfl rfl Try.func30 rfl #[.agg #[.int .i64 t1_0, .bool t1_1, .int .i64 t1_2, .int .i64 t1_3, .slice A9_4 n9_4 c9_4, .int .i64 t1_5, .int .i64 t1_6, .int .i64 t1_7, .int .i64 t1_8], .int .i64 a1] rfl ?_; (refine (impl_LeadNode.own k w.heap.size t1_0 t1_1 t1_2 t1_3 _ _ _ t1_4 t1_5 t1_6 t1_7 t1_8 a1 t3_0 t3_1 t3_2 t3_3 t3_4 t3_5 t3_6 t3_7 t3_8 t3_9 _ ?sB ?s0 A3.out).mono ?_); (case sB => exact RS.out.B.size); (case s0 => exact OwnT29.rd4 _ _ _ _ _ _ _ _ (RS.out.get 9 rfl)); rintro e w22_ ⟨A10_5, n10_5, c10_5, A10_10, n10_10, c10_10, rfl, hq, hb⟩; refine ⟨_, rfl, ?_⟩; replace RS := Aside0.mk (RS.out.push hb hq); clear hq hb; (try clear hz43); (try clear hz44); (try clear hz45); (try clear hz46); have hz47 := cx9 (RS.out.get 0 rfl); have hz48 := cx11 (RS.out.get 3 rfl); have hz49 := cx9 (RS.out.get 5 rfl); have hz50 := cx11 (RS.out.get 7 rfl); skip) | ((with_reducible refine gate_dst (N := 12) rfl ?_); refine boxE #[.int .i64 0, .int .i64 0, .bool false, .int .i64 0, .int .i64 0, .slice none 0 0, .int .i64 0, .int .i64 0, .int .i64 0, .int .i64 0, .slice none 0 0] 35 (N := 12) rfl rfl ?_; intro gb11 hg w23_ hbox hb; have HBX := Aside0.mk hbox; have HX := Aside0.mk hb; have GX := Aside0.mk hg; clear hb hbox hg; have hzX11 := cl_11 HBX; (with_reducible refine gate_store (t := 35) (p := 12) rfl ?_); refine store_event (t := 35) (p := 12) (v := ?vo_w24_) (w1 := (((((((((((w23_.setCell ⟨gb11, 0, none⟩ (.int .i64 t3_0)).setCell ⟨gb11, 1, none⟩ (.int .i64 t3_1)).setCell ⟨gb11, 2, none⟩ (.bool t3_2)).setCell ⟨gb11, 3, none⟩ (.int .i64 t3_3)).setCell ⟨gb11, 4, none⟩ (.int .i64 t3_4)).setCell ⟨gb11, 5, none⟩ (.slice A10_5 n10_5 c10_5)).setCell ⟨gb11, 6, none⟩ (.int .i64 t3_6)).setCell ⟨gb11, 7, none⟩ (.int .i64 t3_7)).setCell ⟨gb11, 8, none⟩ (.int .i64 t3_8)).setCell ⟨gb11, 9, none⟩ (.int .i64 t3_9)).setCell ⟨gb11, 10, none⟩ (.slice A10_10 n10_10 c10_10))) ?hg ?ho ?hn ?hr ?_; (case ho => rfl); (case hg => rfl); (case hn => rfl); (case hr => first | (go_simp; done) | (go_simp; rfl)); intro w24_ hw; have hb : Below w22_.heap.size w22_ w24_ := (by rw [hw]; repeat (with_reducible first | exact HX.out | refine below_set ?_ (Nat.le_of_eq GX.out.symm))); have hbox : w24_.heap[gb11]? = some (.cells #[.int .i64 t3_0, .int .i64 t3_1, .bool t3_2, .int .i64 t3_3, .int .i64 t3_4, .slice A10_5 n10_5 c10_5, .int .i64 t3_6, .int .i64 t3_7, .int .i64 t3_8, .int .i64 t3_9, .slice A10_10 n10_10 c10_10] 35 (0, 0)) := (by rw [hw]; exact mP HBX); replace RS := Aside0.mk (RS.out.push hb (Q := fun W => W.heap[gb11]? = some (.cells #[.int .i64 t3_0, .int .i64 t3_1, .bool t3_2, .int .i64 t3_3, .int .i64 t3_4, .slice A10_5 n10_5 c10_5, .int .i64 t3_6, .int .i64 t3_7, .int .i64 t3_8, .int .i64 t3_9, .slice A10_10 n10_10 c10_10] 35 (0, 0))) (fun W' hW => (hW _ (Nat.le_of_eq GX.out.symm) (blk_lt hbox)).trans hbox)); clear HBX HX GX hbox hb hw hzX11; (try clear hz47); (try clear hz48); (try clear hz49); (try clear hz50); have hz51 := cx9 (RS.out.get 0 rfl); have hz52 := cx11 (RS.out.get 3 rfl); have hz53 := cx9 (RS.out.get 5 rfl); have hz54 := cx11 (RS.out.get 7 rfl); have hz55 := cx11 (RS.out.get 11 rfl); skip) | ((with_reducible refine gate_callee (f := 16) rfl ?_); refine goA (some 64) rfl rfl Try.func16 rfl #[.agg #[.int .i64 t3_0, .int .i64 t3_1, .bool t3_2, .int .i64 t3_3, .int .i64 t3_4, .slice A10_5 n10_5 c10_5, .int .i64 t3_6, .int .i64 t3_7, .int .i64 t3_8, .int .i64 t3_9, .slice A10_10 n10_10 c10_10], .agg #[.int .i64 t2_0, .int .i64 t2_1, .bool t2_2, .int .i64 t2_3, .int .i64 t2_4, .slice A2_5 n2_5 c2_5, .int .i64 t2_6, .int .i64 t2_7, .int .i64 t2_8, .int .i64 t2_9, .slice A2_10 n2_10 c2_10]] rfl ?_; (refine (laws_eqNodeResult.rd k t3_0 t3_1 t3_2 t3_3 t3_4 _ _ _ t3_5 t3_6 t3_7 t3_8 t3_9 _ _ _ [] t2_0 t2_1 t2_2 t2_3 t2_4 _ _ _ t2_5 t2_6 t2_7 t2_8 t2_9 _ _ _ [] true _ ?s0 ?s1 ?s2 ?s3 A4.out).mono ?_); (case s0 => exact OwnT35.rd5 _ _ _ _ _ _ _ _ _ _ (RS.out.get 10 rfl)); (case s1 => exact OwnT35.rd10 _ _ _ _ _ _ _ _ _ _ (RS.out.get 10 rfl)); (case s2 => exact OwnT35.rd5 _ _ _ _ _ _ _ _ _ _ (RS.out.get 2 rfl)); (case s3 => exact OwnT35.rd10 _ _ _ _ _ _ _ _ _ _ (RS.out.get 2 rfl)); rintro e w25_ ⟨rfl, hb⟩; refine ⟨_, rfl, ?_⟩; replace RS := Aside0.mk (RS.out.below hb); clear hb; (try clear hz51); (try clear hz52); (try clear hz53); (try clear hz54); (try clear hz55); have hz56 := cx9 (RS.out.get 0 rfl); have hz57 := cx11 (RS.out.get 3 rfl); have hz58 := cx9 (RS.out.get 5 rfl); have hz59 := cx11 (RS.out.get 7 rfl); have hz60 := cx11 (RS.out.get 11 rfl); skip) | ((with_reducible refine gate_callee (f := 18) rfl ?_); refine goA (some 68) rfl rfl Try.func18 rfl #[.agg #[.int .i64 t3_0, .int .i64 t3_1, .bool t3_2, .int .i64 t3_3, .int .i64 t3_4, .slice A6_5 n6_5 c6_5, .int .i64 t3_6, .int .i64 t3_7, .int .i64 t3_8, .int .i64 t3_9, .slice A6_10 n6_10 c6_10], .int .i64 1] rfl ?_; (refine (laws_heldNodeResult.rd k t3_0 t3_1 t3_2 t3_3 t3_4 _ _ _ t7_5 t3_6 t3_7 t3_8 t3_9 _ _ _ [] 1 t8 _ ?s0 ?s1 A8.out).mono ?_); (case s0 => exact OwnT35.rd5 _ _ _ _ _ _ _ _ _ _ (RS.out.get 6 rfl)); (case s1 => exact OwnT35.rd10 _ _ _ _ _ _ _ _ _ _ (RS.out.get 6 rfl)); rintro e w26_ ⟨rfl, hb⟩; refine ⟨_, rfl, ?_⟩; replace RS := Aside0.mk (RS.out.below hb); clear hb; (try clear hz56); (try clear hz57); (try clear hz58); (try clear hz59); (try clear hz60); have hz61 := cx9 (RS.out.get 0 rfl); have hz62 := cx11 (RS.out.get 3 rfl); have hz63 := cx9 (RS.out.get 5 rfl); have hz64 := cx11 (RS.out.get 7 rfl); have hz65 := cx11 (RS.out.get 11 rfl); skip))
  go_ret
  exact ⟨rfl, RS.out.B⟩
theorem laws_FnExactLeadNode.calls (k : Nat) (a0_0 : Int) (a0_1 : Bool) (a0_2 : Int) (a0_3 : Int) (A0_4 : Option Addr) (c0_4 : Nat) (l0_4 : List (S44)) (a0_5 : Int) (a0_6 : Int) (a0_7 : Int) (a0_8 : Int) (a1 : Int) (w : World) (hr0_4 : Kd.C k44 w A0_4 l0_4.length l0_4) (hc0_4 : l0_4.length ≤ c0_4) (h : laws_FnExactLeadNode.f k a0_0 a0_1 a0_2 a0_3 l0_4 a0_5 a0_6 a0_7 a0_8 a1 = some true) :
  Calls Try.prog 8 #[.agg #[.int .i64 a0_0, .bool a0_1, .int .i64 a0_2, .int .i64 a0_3, .slice A0_4 l0_4.length c0_4, .int .i64 a0_5, .int .i64 a0_6, .int .i64 a0_7, .int .i64 a0_8], .int .i64 a1] w fun e w' => e = .returned (.bool true) ∧ Below w.heap.size w w' := by
  unfold laws_FnExactLeadNode.f at h
  obtain ⟨b0, h0, h⟩ := Option.bind_eq_some_iff.mp h
  obtain ⟨t0, rfl⟩ : ∃ z, z = b0 := ⟨_, rfl⟩
  (try simp only at h)
  by_cases NEGt0 : t0 < 0
  · exact laws_FnExactLeadNode.exit1 k a0_0 a0_1 a0_2 a0_3 A0_4 c0_4 l0_4 a0_5 a0_6 a0_7 a0_8 a1 t0 w hr0_4 hc0_4 h0 NEGt0
  rw [if_neg NEGt0] at h
  obtain ⟨b1, h1, h⟩ := Option.bind_eq_some_iff.mp h
  obtain ⟨t1_0, t1_1, t1_2, t1_3, t1_4, t1_5, t1_6, t1_7, t1_8⟩ := b1
  (try simp only at h)
  obtain ⟨b2, h2, h⟩ := Option.bind_eq_some_iff.mp h
  obtain ⟨t2_0, t2_1, t2_2, t2_3, t2_4, t2_5, t2_6, t2_7, t2_8, t2_9, t2_10⟩ := b2
  (try simp only at h)
  by_cases NILt2_10 : t2_10.length = 0
  rotate_left
  · rw [if_neg NILt2_10] at h; cases h
  rw [if_pos NILt2_10] at h
  obtain rfl := List.eq_nil_of_length_eq_zero NILt2_10
  obtain ⟨b3, h3, h⟩ := Option.bind_eq_some_iff.mp h
  obtain ⟨t3_0, t3_1, t3_2, t3_3, t3_4, t3_5, t3_6, t3_7, t3_8, t3_9, t3_10⟩ := b3
  (try simp only at h)
  by_cases NILt3_10 : t3_10.length = 0
  rotate_left
  · rw [if_neg NILt3_10] at h; cases h
  rw [if_pos NILt3_10] at h
  obtain rfl := List.eq_nil_of_length_eq_zero NILt3_10
  obtain ⟨b4, h4, h⟩ := Option.bind_eq_some_iff.mp h
  obtain ⟨t4, rfl⟩ : ∃ z, z = b4 := ⟨_, rfl⟩
  (try simp only at h)
  by_cases EQt4 : t4 = true
  rotate_left
  · rw [if_neg EQt4] at h; cases h
  rw [if_pos EQt4] at h
  subst EQt4
  obtain ⟨b5, h5, h⟩ := Option.bind_eq_some_iff.mp h
  obtain ⟨t5, rfl⟩ : ∃ z, z = b5 := ⟨_, rfl⟩
  (try simp only at h)
  by_cases EQt5 : t5 = true
  rotate_left
  · rw [if_neg EQt5] at h; cases h
  rw [if_pos EQt5] at h
  subst EQt5
  obtain ⟨b6, h6, h⟩ := Option.bind_eq_some_iff.mp h
  obtain ⟨t6, t6_4⟩ := b6
  (try simp only at h)
  by_cases NEGt6 : ¬ t6 < 0
  rotate_left
  · rw [if_neg NEGt6] at h; cases h
  rw [if_pos NEGt6] at h
  obtain ⟨b7, h7, h⟩ := Option.bind_eq_some_iff.mp h
  obtain ⟨t7, t7_5, t7_10⟩ := b7
  (try simp only at h)
  by_cases NILt7_10 : t7_10.length = 0
  rotate_left
  · rw [if_neg NILt7_10] at h; cases h
  rw [if_pos NILt7_10] at h
  obtain rfl := List.eq_nil_of_length_eq_zero NILt7_10
  obtain ⟨b8, h8, h⟩ := Option.bind_eq_some_iff.mp h
  obtain ⟨t8, rfl⟩ : ∃ z, z = b8 := ⟨_, rfl⟩
  (try simp only at h)
  by_cases NEGt8 : ¬ t8 < 0
  rotate_left
  · rw [if_neg NEGt8] at h; cases h
  rw [if_pos NEGt8] at h
  by_cases SAMEt8 : t8 = t7
  rotate_left
  · rw [if_neg SAMEt8] at h; cases h
  rw [if_pos SAMEt8] at h
  exact laws_FnExactLeadNode.good k a0_0 a0_1 a0_2 a0_3 A0_4 c0_4 l0_4 a0_5 a0_6 a0_7 a0_8 a1 t0 t1_0 t1_1 t1_2 t1_3 t1_4 t1_5 t1_6 t1_7 t1_8 t2_0 t2_1 t2_2 t2_3 t2_4 t2_5 t2_6 t2_7 t2_8 t2_9 t3_0 t3_1 t3_2 t3_3 t3_4 t3_5 t3_6 t3_7 t3_8 t3_9 t6 t6_4 t7 t7_5 t8 w hr0_4 hc0_4 h0 NEGt0 h1 h2 h3 h4 h5 h6 NEGt6 h7 h8 NEGt8 SAMEt8

end Go.Proofs.Ytgfoifkkffffgaa.PFnExactLeadNode
