-- The law's own contract (wip/tools/lawgen.py)
import Derived.Test.YtgfoifkkffffgabPFnExactAddEventx0
import Derived.Test.YtgfoifkkffffgabPFnExactAddEventx1
import Derived.Test.YtgfoifkkffffgabPFnExactAddEventx2
import Derived.Test.YtgfoifkkffffgabPFnExactAddEventx3
import Derived.Test.YtgfoifkkffffgabPFnExactAddEventx4
import Derived.Test.YtgfoifkkffffgabPFnExactAddEventx5
import Derived.Test.YtgfoifkkffffgabPFnExactAddEventx6
import Derived.Test.YtgfoifkkffffgabPFnExactAddEventx7
import Derived.Test.YtgfoifkkffffgabPFnExactAddEventx8
import Derived.Test.YtgfoifkkffffgabPFnExactAddEventx9
import Derived.Test.YtgfoifkkffffgabPFnExactAddEventx10
import Derived.Test.YtgfoifkkffffgabPFnExactAddEventx11
import Derived.Test.YtgfoifkkffffgabPFnExactAddEventx12
import Derived.Test.YtgfoifkkffffgabPFnExactAddEventx13
namespace Go.Proofs.Ytgfoifkkffffgab.PFnExactAddEvent
open Go.RowKit Go.Proofs.YtgfoifkkffffgabW.PrintWords Go.Proofs.YtgfoifkkffffgabW.PrintLast Go.Proofs.YtgfoifkkffffgabW.PrintMore
attribute [local go_sem] max2_int min2_int max_two min_two max_three min_three max_four min_four   -- for this text's walks alone
set_option linter.unusedVariables false
set_option linter.unusedSimpArgs false

/-- What is owned: each thing in blocks of an interval of its own. -/
def Apart2 (x y : Nat × Nat × (World → Prop)) : Prop := x.2.1 ≤ y.1 ∨ y.2.1 ≤ x.1
def Own1 (W : World) (b : Nat) (x : Nat × Nat × (World → Prop)) : Prop := b ≤ x.1 ∧ x.1 ≤ x.2.1 ∧ x.2.1 ≤ W.heap.size ∧ ∀ W' : World, (∀ k, x.1 ≤ k → k < x.2.1 → W'.heap[k]? = W.heap[k]?) → x.2.2 W'
theorem Own1.step {W W1 : World} {b : Nat} {x : Nat × Nat × (World → Prop)} (h : Own1 W b x) (hs : W.heap.size ≤ W1.heap.size) (hm : ∀ k, x.1 ≤ k → k < x.2.1 → W1.heap[k]? = W.heap[k]?) : Own1 W1 b x := ⟨h.1, h.2.1, Nat.le_trans h.2.2.1 hs, fun W' hW => h.2.2.2 W' (fun k ka kb => (hW k ka kb).trans (hm k ka kb))⟩
/-- The world now, against the one of the call's begin: what lay there lies there, and what was made. -/
structure Rs (w W : World) (L : List (Nat × Nat × (World → Prop))) : Prop where
  B : Below w.heap.size w W
  S : ∀ x ∈ L, Own1 W w.heap.size x
  D : L.Pairwise Apart2
theorem Rs.start (w : World) : Rs w w [] := ⟨Below.refl _ _, fun _ h => (by cases h), List.Pairwise.nil⟩
theorem Rs.below {w W W1 : World} {L : List (Nat × Nat × (World → Prop))} (h : Rs w W L) (hb : Below W.heap.size W W1) : Rs w W1 L := ⟨below_step h.B hb, fun x hx => (h.S x hx).step hb.size (fun k _ kb => hb.block k (Nat.lt_of_lt_of_le kb (h.S x hx).2.2.1)), h.D⟩
theorem Rs.alloc {w W : World} {L : List (Nat × Nat × (World → Prop))} (h : Rs w W L) (o : Obj) : Rs w (W.alloc o) L := h.below (below_alloc (Below.refl _ _) o)
theorem Rs.drew {w W : World} {L : List (Nat × Nat × (World → Prop))} (h : Rs w W L) : Rs w W.drew L := h.below (below_drew (Below.refl _ _))
theorem Rs.drewN {w W : World} {L : List (Nat × Nat × (World → Prop))} (h : Rs w W L) (m : Nat) : Rs w (W.drewN m) L := h.below (pw_below_drewN (Below.refl _ _) m)
theorem Rs.push {w W W1 : World} {L : List (Nat × Nat × (World → Prop))} {Q : World → Prop} (h : Rs w W L) (hb : Below W.heap.size W W1) (hQ : ∀ W' : World, (∀ k, W.heap.size ≤ k → k < W1.heap.size → W'.heap[k]? = W1.heap[k]?) → Q W') : Rs w W1 (L ++ [(W.heap.size, W1.heap.size, Q)]) := by
  have h1 := h.below hb
  refine ⟨h1.B, fun x hx => ?_, ?_⟩
  · rcases List.mem_append.1 hx with hx | hx
    · exact h1.S x hx
    · rw [List.mem_singleton] at hx
      subst hx
      exact ⟨h.B.size, hb.size, Nat.le_refl _, hQ⟩
  · rw [List.pairwise_append]
    refine ⟨h.D, List.pairwise_singleton _ _, fun x hx y hy => ?_⟩
    rw [List.mem_singleton] at hy
    subst hy
    exact .inl (h.S x hx).2.2.1
theorem Rs.at_ {w W : World} {L : List (Nat × Nat × (World → Prop))} (h : Rs w W L) (i : Nat) {x : Nat × Nat × (World → Prop)} (hi_ : L[i]? = some x) : Own1 W w.heap.size x := h.S x (List.mem_of_getElem? hi_)
theorem Rs.get {w W : World} {L : List (Nat × Nat × (World → Prop))} (h : Rs w W L) (i : Nat) {lo hi : Nat} {Q : World → Prop} (hi_ : L[i]? = some (lo, hi, Q)) : Q W := (h.at_ i hi_).2.2.2 W (fun _ _ _ => rfl)
theorem Rs.low {w W : World} {L : List (Nat × Nat × (World → Prop))} (h : Rs w W L) (i : Nat) {lo hi : Nat} {Q : World → Prop} (hi_ : L[i]? = some (lo, hi, Q)) : w.heap.size ≤ lo ∧ hi ≤ W.heap.size := ⟨(h.at_ i hi_).1, (h.at_ i hi_).2.2.1⟩
theorem apart_set : ∀ {L : List (Nat × Nat × (World → Prop))} (i : Nat) {lo hi : Nat} {Q Q1 : World → Prop}, L[i]? = some (lo, hi, Q) → L.Pairwise Apart2 → (L.set i (lo, hi, Q1)).Pairwise Apart2 ∧ ∀ x ∈ L.set i (lo, hi, Q1), x = (lo, hi, Q1) ∨ (x ∈ L ∧ Apart2 x (lo, hi, Q))
  | [], _, _, _, _, _, h, _ => by simp at h
  | y :: t, 0, lo, hi, Q, Q1, h, hd => by
    simp only [List.getElem?_cons_zero, Option.some.injEq] at h
    subst h
    rw [List.pairwise_cons] at hd
    refine ⟨List.pairwise_cons.2 ⟨fun z hz => hd.1 z hz, hd.2⟩, fun x hx => ?_⟩
    rcases List.mem_cons.1 hx with rfl | hx
    · exact .inl rfl
    · exact .inr ⟨List.mem_cons_of_mem _ hx, (hd.1 x hx).symm⟩
  | y :: t, i + 1, lo, hi, Q, Q1, h, hd => by
    rw [List.getElem?_cons_succ] at h
    rw [List.pairwise_cons] at hd
    obtain ⟨h1, h2⟩ := apart_set (Q1 := Q1) i h hd.2
    have hy := hd.1 _ (List.mem_of_getElem? h)
    refine ⟨List.pairwise_cons.2 ⟨fun z hz => ?_, h1⟩, fun x hx => ?_⟩
    · rcases h2 z hz with rfl | ⟨hz, _⟩
      · exact hy
      · exact hd.1 z hz
    · rcases List.mem_cons.1 hx with rfl | hx
      · exact .inr ⟨List.mem_cons_self, hy⟩
      · rcases h2 x hx with hx | ⟨hx, ha⟩
        · exact .inl hx
        · exact .inr ⟨List.mem_cons_of_mem _ hx, ha⟩
theorem Rs.upd {w W W1 : World} {L : List (Nat × Nat × (World → Prop))} {Q1 : World → Prop} (h : Rs w W L) (i : Nat) {lo hi : Nat} {Q : World → Prop} (hi_ : L[i]? = some (lo, hi, Q)) (hB : Below w.heap.size w W1) (hk : Kept W W1 (fun k => lo ≤ k ∧ k < hi)) (hQ : ∀ W' : World, (∀ k, lo ≤ k → k < hi → W'.heap[k]? = W1.heap[k]?) → Q1 W') : Rs w W1 (L.set i (lo, hi, Q1)) := by
  obtain ⟨h1, h2⟩ := apart_set (Q1 := Q1) i hi_ h.D
  have h0 := h.at_ i hi_
  refine ⟨hB, fun x hx => ?_, h1⟩
  rcases h2 x hx with rfl | ⟨hx, ha⟩
  · exact ⟨h0.1, h0.2.1, Nat.le_trans h0.2.2.1 hk.1, hQ⟩
  · refine (h.S x hx).step hk.1 (fun k ka kb => hk.2 k (Nat.lt_of_lt_of_le kb (h.S x hx).2.2.1) (fun hn => ?_))
    rcases ha with ha | ha
    · exact Nat.not_le_of_lt kb (Nat.le_trans ha hn.1)
    · exact Nat.not_le_of_lt hn.2 (Nat.le_trans ha ka)
theorem Rs.swap {w W : World} {L : List (Nat × Nat × (World → Prop))} {x y : Nat × Nat × (World → Prop)} (h : Rs w W (L ++ [x] ++ [y])) : Rs w W (L ++ [y] ++ [x]) := by
  have hp : (L ++ [x] ++ [y]).Perm (L ++ [y] ++ [x]) := by
    rw [List.append_assoc, List.append_assoc]
    exact List.Perm.append_left _ (List.Perm.swap y x [])
  exact ⟨h.B, fun z hz => h.S z (hp.symm.subset hz), (hp.pairwise_iff (fun hs => hs.symm)).1 h.D⟩
theorem Rs.updLast {w W W1 : World} {L : List (Nat × Nat × (World → Prop))} {lo hi : Nat} {Q Q1 : World → Prop} (h : Rs w W (L ++ [(lo, hi, Q)])) (hB : Below w.heap.size w W1) (hk : Kept W W1 (fun k => lo ≤ k ∧ k < hi)) (hQ : ∀ W' : World, (∀ k, lo ≤ k → k < hi → W'.heap[k]? = W1.heap[k]?) → Q1 W') : Rs w W1 (L ++ [(lo, hi, Q1)]) := by
  have := h.upd (Q1 := Q1) (lo := lo) (hi := hi) (Q := Q) L.length (by simp) hB hk hQ
  simpa using this
theorem Rs.last {w W : World} {L : List (Nat × Nat × (World → Prop))} {lo hi : Nat} {Q : World → Prop} (h : Rs w W (L ++ [(lo, hi, Q)])) : Q W := h.get (lo := lo) (hi := hi) (Q := Q) L.length (by simp)
theorem mRs {Q P : Prop} (H : Aside0 Q) (k : Q → P := by intro h_; (with_reducible repeat (first | apply Rs.alloc | apply Rs.drewN | apply Rs.drew)); exact h_) : P := k H.out
/-- A row that can be read. -/
def Rd {α : Type} (d : Kd α) (A : Option Addr) (n c : Nat) (l : List α) (W : World) : Prop := n = l.length ∧ n ≤ c ∧ d.C W A l.length l
theorem Rd.below {α : Type} {d : Kd α} {A : Option Addr} {n c : Nat} {l : List α} {W W1 : World} (h : Rd d A n c l W) (hb : Below W.heap.size W W1) : Rd d A n c l W1 := ⟨h.1, h.2.1, Kd.C_below h.2.2 hb⟩
theorem nilS {α : Type} {d : Kd α} {e : Nat} {w : World} {base : Nat} {ok : Nat → Prop} {v : Value} (h : Kd.S d e w base ok v ([] : List α)) : Kd.S d e w base (fun k => some k = v.ownBlock) v ([] : List α) := by
  obtain ⟨f, h0, inner, ho, hr⟩ := h
  exact ⟨f, fun k hk => hk.symm, inner, ho, ⟨hr.1, fun m p hm => by simp at hm⟩⟩
theorem distinct_ {L M : List Nat} (h : ∀ t ∈ L, t ∉ M) : ∀ t, t ∈ L → t ∈ M → False := h
/-- A store as one step of a region of any order. -/
theorem store_step {P : Program} {ops : Array Oper} {o : Oper} {a : Act} {Q : Exit → Act → World → Prop} {Kc : Act → World → Prop} {W : World} (w1 : World) (hw : Region.wanted o (yielded ops a.tmps) = true) (hN : o.dst = none)
    (hrun : (execOp a.eval o).run P W = .ok .skip w1) (h : ∀ w', w' = w1 → Kc (a.put none undef) w') : if Region.wanted o (yielded ops a.tmps) = true then Oper.wp P o a W Kc Q else Kc (a.put none undef) W := by
  rw [if_pos hw]
  unfold Oper.wp
  rw [hrun]
  show Kc (a.put o.dst undef) w1
  rw [hN]
  exact h _ rfl
theorem Rs.pushE {w W W1 : World} {L : List (Nat × Nat × (World → Prop))} {Q : World → Prop} (h : Aside0 (Rs w W L)) (hb : Below W.heap.size W W1) (hQ : ∀ W' : World, (∀ k, W.heap.size ≤ k → k < W1.heap.size → W'.heap[k]? = W1.heap[k]?) → Q W') : ∃ e, Aside0 (e = (W.heap.size, W1.heap.size, Q)) ∧ Aside0 (Rs w W1 (L ++ [e])) := ⟨_, ⟨rfl⟩, ⟨h.out.push hb hQ⟩⟩
theorem Rs.updE {w W W1 : World} {L : List (Nat × Nat × (World → Prop))} {Q1 : World → Prop} (h : Aside0 (Rs w W L)) (i : Nat) {x : Nat × Nat × (World → Prop)} {lo hi : Nat} {Q : World → Prop} (hi_ : L[i]? = some x) (hx : Aside0 (x = (lo, hi, Q))) (hB : Below w.heap.size w W1) (hk : Kept W W1 (fun k => lo ≤ k ∧ k < hi)) (hQ : ∀ W' : World, (∀ k, lo ≤ k → k < hi → W'.heap[k]? = W1.heap[k]?) → Q1 W') : ∃ e, Aside0 (e = (lo, hi, Q1)) ∧ Aside0 (Rs w W1 (L.set i e)) := ⟨_, ⟨rfl⟩, ⟨h.out.upd i (hi_.trans (congrArg some hx.out)) hB hk hQ⟩⟩
theorem Rs.getE {w W : World} {L : List (Nat × Nat × (World → Prop))} (h : Aside0 (Rs w W L)) (i : Nat) {x : Nat × Nat × (World → Prop)} {lo hi : Nat} {Q : World → Prop} (hi_ : L[i]? = some x) (hx : Aside0 (x = (lo, hi, Q))) : Q W := h.out.get i (hi_.trans (congrArg some hx.out))
theorem cs3 {w : World} {g : Nat} {t : TypeId} {a0 a1 a2 : Value} (H : w.heap[g]? = some (.cells #[a0, a1, a2] t (0, 0))) : w.cell? ⟨g, 0, none⟩ = some a0 ∧ w.cell? ⟨g, 1, none⟩ = some a1 ∧ w.cell? ⟨g, 2, none⟩ = some a2 := ⟨(blk_cell H 0).trans rfl, (blk_cell H 1).trans rfl, (blk_cell H 2).trans rfl⟩
theorem cx3 {w : World} {g : Nat} {t : TypeId} {a0 a1 a2 : Value} (H : w.heap[g]? = some (.cells #[a0, a1, a2] t (0, 0))) : w.cell? ⟨g, 0, none⟩ = some a0 ∧ w.cell? ⟨g, 1, none⟩ = some a1 ∧ w.cell? ⟨g, 2, none⟩ = some a2 ∧ w.frozen? ⟨g, 0, none⟩ = false ∧ w.frozen? ⟨g, 1, none⟩ = false ∧ w.frozen? ⟨g, 2, none⟩ = false := ⟨(blk_cell H 0).trans rfl, (blk_cell H 1).trans rfl, (blk_cell H 2).trans rfl, blk_frozen H 0, blk_frozen H 1, blk_frozen H 2⟩
theorem cl_3 {w : World} {g : Nat} {t : TypeId} {a0 a1 a2 : Value} (H : Aside0 (w.heap[g]? = some (.cells #[a0, a1, a2] t (0, 0)))) : w.cell? ⟨g, 0, none⟩ = some a0 ∧ w.cell? ⟨g, 1, none⟩ = some a1 ∧ w.cell? ⟨g, 2, none⟩ = some a2 ∧ w.frozen? ⟨g, 0, none⟩ = false ∧ w.frozen? ⟨g, 1, none⟩ = false ∧ w.frozen? ⟨g, 2, none⟩ = false := cx3 H.out
theorem cs9 {w : World} {g : Nat} {t : TypeId} {a0 a1 a2 a3 a4 a5 a6 a7 a8 : Value} (H : w.heap[g]? = some (.cells #[a0, a1, a2, a3, a4, a5, a6, a7, a8] t (0, 0))) : w.cell? ⟨g, 0, none⟩ = some a0 ∧ w.cell? ⟨g, 1, none⟩ = some a1 ∧ w.cell? ⟨g, 2, none⟩ = some a2 ∧ w.cell? ⟨g, 3, none⟩ = some a3 ∧ w.cell? ⟨g, 4, none⟩ = some a4 ∧ w.cell? ⟨g, 5, none⟩ = some a5 ∧ w.cell? ⟨g, 6, none⟩ = some a6 ∧ w.cell? ⟨g, 7, none⟩ = some a7 ∧ w.cell? ⟨g, 8, none⟩ = some a8 := ⟨(blk_cell H 0).trans rfl, (blk_cell H 1).trans rfl, (blk_cell H 2).trans rfl, (blk_cell H 3).trans rfl, (blk_cell H 4).trans rfl, (blk_cell H 5).trans rfl, (blk_cell H 6).trans rfl, (blk_cell H 7).trans rfl, (blk_cell H 8).trans rfl⟩
theorem cx9 {w : World} {g : Nat} {t : TypeId} {a0 a1 a2 a3 a4 a5 a6 a7 a8 : Value} (H : w.heap[g]? = some (.cells #[a0, a1, a2, a3, a4, a5, a6, a7, a8] t (0, 0))) : w.cell? ⟨g, 0, none⟩ = some a0 ∧ w.cell? ⟨g, 1, none⟩ = some a1 ∧ w.cell? ⟨g, 2, none⟩ = some a2 ∧ w.cell? ⟨g, 3, none⟩ = some a3 ∧ w.cell? ⟨g, 4, none⟩ = some a4 ∧ w.cell? ⟨g, 5, none⟩ = some a5 ∧ w.cell? ⟨g, 6, none⟩ = some a6 ∧ w.cell? ⟨g, 7, none⟩ = some a7 ∧ w.cell? ⟨g, 8, none⟩ = some a8 ∧ w.frozen? ⟨g, 0, none⟩ = false ∧ w.frozen? ⟨g, 1, none⟩ = false ∧ w.frozen? ⟨g, 2, none⟩ = false ∧ w.frozen? ⟨g, 3, none⟩ = false ∧ w.frozen? ⟨g, 4, none⟩ = false ∧ w.frozen? ⟨g, 5, none⟩ = false ∧ w.frozen? ⟨g, 6, none⟩ = false ∧ w.frozen? ⟨g, 7, none⟩ = false ∧ w.frozen? ⟨g, 8, none⟩ = false := ⟨(blk_cell H 0).trans rfl, (blk_cell H 1).trans rfl, (blk_cell H 2).trans rfl, (blk_cell H 3).trans rfl, (blk_cell H 4).trans rfl, (blk_cell H 5).trans rfl, (blk_cell H 6).trans rfl, (blk_cell H 7).trans rfl, (blk_cell H 8).trans rfl, blk_frozen H 0, blk_frozen H 1, blk_frozen H 2, blk_frozen H 3, blk_frozen H 4, blk_frozen H 5, blk_frozen H 6, blk_frozen H 7, blk_frozen H 8⟩
theorem cl_9 {w : World} {g : Nat} {t : TypeId} {a0 a1 a2 a3 a4 a5 a6 a7 a8 : Value} (H : Aside0 (w.heap[g]? = some (.cells #[a0, a1, a2, a3, a4, a5, a6, a7, a8] t (0, 0)))) : w.cell? ⟨g, 0, none⟩ = some a0 ∧ w.cell? ⟨g, 1, none⟩ = some a1 ∧ w.cell? ⟨g, 2, none⟩ = some a2 ∧ w.cell? ⟨g, 3, none⟩ = some a3 ∧ w.cell? ⟨g, 4, none⟩ = some a4 ∧ w.cell? ⟨g, 5, none⟩ = some a5 ∧ w.cell? ⟨g, 6, none⟩ = some a6 ∧ w.cell? ⟨g, 7, none⟩ = some a7 ∧ w.cell? ⟨g, 8, none⟩ = some a8 ∧ w.frozen? ⟨g, 0, none⟩ = false ∧ w.frozen? ⟨g, 1, none⟩ = false ∧ w.frozen? ⟨g, 2, none⟩ = false ∧ w.frozen? ⟨g, 3, none⟩ = false ∧ w.frozen? ⟨g, 4, none⟩ = false ∧ w.frozen? ⟨g, 5, none⟩ = false ∧ w.frozen? ⟨g, 6, none⟩ = false ∧ w.frozen? ⟨g, 7, none⟩ = false ∧ w.frozen? ⟨g, 8, none⟩ = false := cx9 H.out
theorem cs11 {w : World} {g : Nat} {t : TypeId} {a0 a1 a2 a3 a4 a5 a6 a7 a8 a9 a10 : Value} (H : w.heap[g]? = some (.cells #[a0, a1, a2, a3, a4, a5, a6, a7, a8, a9, a10] t (0, 0))) : w.cell? ⟨g, 0, none⟩ = some a0 ∧ w.cell? ⟨g, 1, none⟩ = some a1 ∧ w.cell? ⟨g, 2, none⟩ = some a2 ∧ w.cell? ⟨g, 3, none⟩ = some a3 ∧ w.cell? ⟨g, 4, none⟩ = some a4 ∧ w.cell? ⟨g, 5, none⟩ = some a5 ∧ w.cell? ⟨g, 6, none⟩ = some a6 ∧ w.cell? ⟨g, 7, none⟩ = some a7 ∧ w.cell? ⟨g, 8, none⟩ = some a8 ∧ w.cell? ⟨g, 9, none⟩ = some a9 ∧ w.cell? ⟨g, 10, none⟩ = some a10 := ⟨(blk_cell H 0).trans rfl, (blk_cell H 1).trans rfl, (blk_cell H 2).trans rfl, (blk_cell H 3).trans rfl, (blk_cell H 4).trans rfl, (blk_cell H 5).trans rfl, (blk_cell H 6).trans rfl, (blk_cell H 7).trans rfl, (blk_cell H 8).trans rfl, (blk_cell H 9).trans rfl, (blk_cell H 10).trans rfl⟩
theorem cx11 {w : World} {g : Nat} {t : TypeId} {a0 a1 a2 a3 a4 a5 a6 a7 a8 a9 a10 : Value} (H : w.heap[g]? = some (.cells #[a0, a1, a2, a3, a4, a5, a6, a7, a8, a9, a10] t (0, 0))) : w.cell? ⟨g, 0, none⟩ = some a0 ∧ w.cell? ⟨g, 1, none⟩ = some a1 ∧ w.cell? ⟨g, 2, none⟩ = some a2 ∧ w.cell? ⟨g, 3, none⟩ = some a3 ∧ w.cell? ⟨g, 4, none⟩ = some a4 ∧ w.cell? ⟨g, 5, none⟩ = some a5 ∧ w.cell? ⟨g, 6, none⟩ = some a6 ∧ w.cell? ⟨g, 7, none⟩ = some a7 ∧ w.cell? ⟨g, 8, none⟩ = some a8 ∧ w.cell? ⟨g, 9, none⟩ = some a9 ∧ w.cell? ⟨g, 10, none⟩ = some a10 ∧ w.frozen? ⟨g, 0, none⟩ = false ∧ w.frozen? ⟨g, 1, none⟩ = false ∧ w.frozen? ⟨g, 2, none⟩ = false ∧ w.frozen? ⟨g, 3, none⟩ = false ∧ w.frozen? ⟨g, 4, none⟩ = false ∧ w.frozen? ⟨g, 5, none⟩ = false ∧ w.frozen? ⟨g, 6, none⟩ = false ∧ w.frozen? ⟨g, 7, none⟩ = false ∧ w.frozen? ⟨g, 8, none⟩ = false ∧ w.frozen? ⟨g, 9, none⟩ = false ∧ w.frozen? ⟨g, 10, none⟩ = false := ⟨(blk_cell H 0).trans rfl, (blk_cell H 1).trans rfl, (blk_cell H 2).trans rfl, (blk_cell H 3).trans rfl, (blk_cell H 4).trans rfl, (blk_cell H 5).trans rfl, (blk_cell H 6).trans rfl, (blk_cell H 7).trans rfl, (blk_cell H 8).trans rfl, (blk_cell H 9).trans rfl, (blk_cell H 10).trans rfl, blk_frozen H 0, blk_frozen H 1, blk_frozen H 2, blk_frozen H 3, blk_frozen H 4, blk_frozen H 5, blk_frozen H 6, blk_frozen H 7, blk_frozen H 8, blk_frozen H 9, blk_frozen H 10⟩
theorem cl_11 {w : World} {g : Nat} {t : TypeId} {a0 a1 a2 a3 a4 a5 a6 a7 a8 a9 a10 : Value} (H : Aside0 (w.heap[g]? = some (.cells #[a0, a1, a2, a3, a4, a5, a6, a7, a8, a9, a10] t (0, 0)))) : w.cell? ⟨g, 0, none⟩ = some a0 ∧ w.cell? ⟨g, 1, none⟩ = some a1 ∧ w.cell? ⟨g, 2, none⟩ = some a2 ∧ w.cell? ⟨g, 3, none⟩ = some a3 ∧ w.cell? ⟨g, 4, none⟩ = some a4 ∧ w.cell? ⟨g, 5, none⟩ = some a5 ∧ w.cell? ⟨g, 6, none⟩ = some a6 ∧ w.cell? ⟨g, 7, none⟩ = some a7 ∧ w.cell? ⟨g, 8, none⟩ = some a8 ∧ w.cell? ⟨g, 9, none⟩ = some a9 ∧ w.cell? ⟨g, 10, none⟩ = some a10 ∧ w.frozen? ⟨g, 0, none⟩ = false ∧ w.frozen? ⟨g, 1, none⟩ = false ∧ w.frozen? ⟨g, 2, none⟩ = false ∧ w.frozen? ⟨g, 3, none⟩ = false ∧ w.frozen? ⟨g, 4, none⟩ = false ∧ w.frozen? ⟨g, 5, none⟩ = false ∧ w.frozen? ⟨g, 6, none⟩ = false ∧ w.frozen? ⟨g, 7, none⟩ = false ∧ w.frozen? ⟨g, 8, none⟩ = false ∧ w.frozen? ⟨g, 9, none⟩ = false ∧ w.frozen? ⟨g, 10, none⟩ = false := cx11 H.out
theorem laws_szNode.rd (k : Nat) (a0_0 : Int) (a0_1 : Bool) (a0_2 : Int) (a0_3 : Int) (A0_4 : Option Addr) (n0_4 c0_4 : Nat) (l0_4 : List (S131)) (a0_5 : Int) (a0_6 : Int) (a0_7 : Int) (a0_8 : Int) (a1 : Int) (r1 : Int) (w : World) (h0_4 : Rd k131 A0_4 n0_4 c0_4 l0_4 w) (h : laws_szNode.f k a0_0 a0_1 a0_2 a0_3 l0_4 a0_5 a0_6 a0_7 a0_8 a1 = some r1) :
    Calls Try.prog 9 #[.agg #[.int .i64 a0_0, .bool a0_1, .int .i64 a0_2, .int .i64 a0_3, .slice A0_4 n0_4 c0_4, .int .i64 a0_5, .int .i64 a0_6, .int .i64 a0_7, .int .i64 a0_8], .int .i64 a1] w fun e w' => e = .returned (.int .i64 r1) ∧ Below w.heap.size w w' := by
  obtain ⟨rfl, hc0_4, hr0_4⟩ := h0_4
  exact laws_szNode.calls k a0_0 a0_1 a0_2 a0_3 A0_4 c0_4 l0_4 a0_5 a0_6 a0_7 a0_8 a1 r1 w hr0_4 hc0_4 h
theorem laws_szEvent.rd (k : Nat) (a0_0 : Int) (a0_1 : Int) (A0_2 : Option Addr) (n0_2 c0_2 : Nat) (l0_2 : List (Int)) (a1 : Int) (r1 : Int) (w : World) (h0_2 : Rd (Kd.int .u8) A0_2 n0_2 c0_2 l0_2 w) (h : laws_szEvent.f a0_0 a0_1 l0_2 a1 = some r1) :
    Calls Try.prog 10 #[.agg #[.int .i64 a0_0, .int .i64 a0_1, .slice A0_2 n0_2 c0_2], .int .i64 a1] w fun e w' => e = .returned (.int .i64 r1) ∧ Below w.heap.size w w' := by
  obtain ⟨rfl, hc0_2, hr0_2⟩ := h0_2
  exact laws_szEvent.calls a0_0 a0_1 A0_2 c0_2 l0_2 a1 r1 w hr0_2 hc0_2 h
/-- Rows of a value of type st:32, in blocks of an interval. -/
def OwnT32 (b lo hi : Nat) (v4 : Value) (l4 : List (S55)) (W : World) : Prop := ∃ P4 : Nat → Prop, (∀ k, P4 k → lo ≤ k ∧ k < hi) ∧ Kd.S k55 55 W b P4 v4 l4
theorem OwnT32.foot {b lo hi : Nat} (v4 : Value) (l4 : List (S55)) {W W1 : World} (h : OwnT32 b lo hi v4 l4 W) (hW : ∀ k, lo ≤ k → k < hi → W1.heap[k]? = W.heap[k]?) : OwnT32 b lo hi v4 l4 W1 := by
  obtain ⟨P4, hp4, h4⟩ := h
  exact ⟨P4, hp4, Kd.S_move h4 (fun k hk => hW k (hp4 k hk).1 (hp4 k hk).2)⟩
theorem OwnT32.rd4 (b lo hi : Nat) (A : Option Addr) (n c : Nat) (l4 : List (S55)) (W : World) (h : OwnT32 b lo hi (.slice A n c) l4 W) : Rd k55 A n c l4 W := by
  obtain ⟨P4, hp4, h4⟩ := h
  exact Kd.S_reads' h4
theorem laws_toNode.own (k b : Nat) (a0_0 : Int) (a0_1 : Bool) (a0_2 : Int) (a0_3 : Int) (A0_4 : Option Addr) (n0_4 c0_4 : Nat) (l0_4 : List (S131)) (a0_5 : Int) (a0_6 : Int) (a0_7 : Int) (a0_8 : Int) (r1 : Int) (r2 : Bool) (r3 : Int) (r4 : Int) (r5 : List (S55)) (r6 : Int) (r7 : Int) (r8 : Int) (r9 : Int) (w : World) (hb0 : b ≤ w.heap.size) (h0_4 : Rd k131 A0_4 n0_4 c0_4 l0_4 w) (h : laws_toNode.f k a0_0 a0_1 a0_2 a0_3 l0_4 a0_5 a0_6 a0_7 a0_8 = some (r1, r2, r3, r4, r5, r6, r7, r8, r9)) :
    Calls Try.prog 12 #[.agg #[.int .i64 a0_0, .bool a0_1, .int .i64 a0_2, .int .i64 a0_3, .slice A0_4 n0_4 c0_4, .int .i64 a0_5, .int .i64 a0_6, .int .i64 a0_7, .int .i64 a0_8]] w fun e w' => ∃ (A4 : Option Addr) (n4 c4 : Nat), e = .returned (.agg #[.int .i64 r1, .bool r2, .int .i64 r3, .int .i64 r4, .slice A4 n4 c4, .int .i64 r6, .int .i64 r7, .int .i64 r8, .int .i64 r9]) ∧ (∀ W : World, (∀ k, w.heap.size ≤ k → k < w'.heap.size → W.heap[k]? = w'.heap[k]?) → OwnT32 b w.heap.size w'.heap.size (.slice A4 n4 c4) r5 W) ∧ Below w.heap.size w w' := by
  obtain ⟨rfl, hc0_4, hr0_4⟩ := h0_4
  refine (laws_toNode.calls k a0_0 a0_1 a0_2 a0_3 A0_4 c0_4 l0_4 a0_5 a0_6 a0_7 a0_8 r1 r2 r3 r4 r5 r6 r7 r8 r9 w hr0_4 hc0_4 h).mono ?_
  rintro e w' ⟨v4, rfl, ho4, hb⟩
  obtain ⟨A4, c4, rfl⟩ := Kd.S_slice ho4
  have hx4 := Kd.S_bound ho4
  exact ⟨A4, _, c4, rfl, fun W hW => OwnT32.foot _ _ (show OwnT32 b w.heap.size w'.heap.size (.slice A4 _ c4) r5 w' from ⟨_, (fun k hk => ⟨hk.2.1, hk.2.2.1⟩), Kd.S_lower hx4 hb0⟩) hW, hb⟩
/-- Rows of a value of type st:38, in blocks of an interval. -/
def OwnT38 (b lo hi : Nat) (v2 : Value) (l2 : List (Int)) (W : World) : Prop := ∃ P2 : Nat → Prop, (∀ k, P2 k → lo ≤ k ∧ k < hi) ∧ Kd.R (Kd.int .u8) 5 W b P2 v2 l2
theorem OwnT38.foot {b lo hi : Nat} (v2 : Value) (l2 : List (Int)) {W W1 : World} (h : OwnT38 b lo hi v2 l2 W) (hW : ∀ k, lo ≤ k → k < hi → W1.heap[k]? = W.heap[k]?) : OwnT38 b lo hi v2 l2 W1 := by
  obtain ⟨P2, hp2, h2⟩ := h
  exact ⟨P2, hp2, Kd.R_move h2 (fun k hk => hW k (hp2 k hk).1 (hp2 k hk).2)⟩
theorem OwnT38.rd2 (b lo hi : Nat) (A : Option Addr) (n c : Nat) (l2 : List (Int)) (W : World) (h : OwnT38 b lo hi (.slice A n c) l2 W) : Rd (Kd.int .u8) A n c l2 W := by
  obtain ⟨P2, hp2, h2⟩ := h
  exact Kd.R_reads' h2
theorem laws_toEvent.own (k b : Nat) (a0_0 : Int) (a0_1 : Int) (A0_2 : Option Addr) (n0_2 c0_2 : Nat) (l0_2 : List (Int)) (r1 : Int) (r2 : Int) (r3 : List (Int)) (w : World) (hb0 : b ≤ w.heap.size) (h0_2 : Rd (Kd.int .u8) A0_2 n0_2 c0_2 l0_2 w) (h : laws_toEvent.f k a0_0 a0_1 l0_2 = some (r1, r2, r3)) :
    Calls Try.prog 13 #[.agg #[.int .i64 a0_0, .int .i64 a0_1, .slice A0_2 n0_2 c0_2]] w fun e w' => ∃ (A2 : Option Addr) (n2 c2 : Nat), e = .returned (.agg #[.int .i64 r1, .int .i64 r2, .slice A2 n2 c2]) ∧ (∀ W : World, (∀ k, w.heap.size ≤ k → k < w'.heap.size → W.heap[k]? = w'.heap[k]?) → OwnT38 b w.heap.size w'.heap.size (.slice A2 n2 c2) r3 W) ∧ Below w.heap.size w w' := by
  obtain ⟨rfl, hc0_2, hr0_2⟩ := h0_2
  refine (laws_toEvent.calls k a0_0 a0_1 A0_2 c0_2 l0_2 r1 r2 r3 w hr0_2 hc0_2 h).mono ?_
  rintro e w' ⟨v2, rfl, ho2, hb⟩
  obtain ⟨A2, c2, rfl⟩ := Kd.R_slice ho2
  have hx2 := Kd.R_tight rfl ho2
  exact ⟨A2, _, c2, rfl, fun W hW => OwnT38.foot _ _ (show OwnT38 b w.heap.size w'.heap.size (.slice A2 _ c2) r3 w' from ⟨_, (fun k hk => ⟨Kd.R_base ho2 k hk.symm, Kd.R_lt ho2 k hk.symm⟩), Kd.R_lower hx2 hb0⟩) hW, hb⟩
/-- Rows of a value of type st:35, in blocks of an interval. -/
def OwnT35 (b lo hi : Nat) (v5 : Value) (l5 : List (S55)) (v10 : Value) (l10 : List (S57)) (W : World) : Prop := ∃ P5 P10 : Nat → Prop, (∀ k, P5 k → lo ≤ k ∧ k < hi) ∧ (∀ k, P10 k → lo ≤ k ∧ k < hi) ∧ (∀ k, P5 k → ¬ P10 k) ∧ Kd.S k55 55 W b P5 v5 l5 ∧ Kd.S k57 57 W b P10 v10 l10
theorem OwnT35.foot {b lo hi : Nat} (v5 : Value) (l5 : List (S55)) (v10 : Value) (l10 : List (S57)) {W W1 : World} (h : OwnT35 b lo hi v5 l5 v10 l10 W) (hW : ∀ k, lo ≤ k → k < hi → W1.heap[k]? = W.heap[k]?) : OwnT35 b lo hi v5 l5 v10 l10 W1 := by
  obtain ⟨P5, P10, hp5, hp10, hd5_10, h5, h10⟩ := h
  exact ⟨P5, P10, hp5, hp10, hd5_10, Kd.S_move h5 (fun k hk => hW k (hp5 k hk).1 (hp5 k hk).2), Kd.S_move h10 (fun k hk => hW k (hp10 k hk).1 (hp10 k hk).2)⟩
theorem OwnT35.rd5 (b lo hi : Nat) (A : Option Addr) (n c : Nat) (l5 : List (S55)) (v10 : Value) (l10 : List (S57)) (W : World) (h : OwnT35 b lo hi (.slice A n c) l5 v10 l10 W) : Rd k55 A n c l5 W := by
  obtain ⟨P5, P10, hp5, hp10, hd5_10, h5, h10⟩ := h
  exact Kd.S_reads' h5
theorem OwnT35.rd10 (b lo hi : Nat) (v5 : Value) (l5 : List (S55)) (A : Option Addr) (n c : Nat) (l10 : List (S57)) (W : World) (h : OwnT35 b lo hi v5 l5 (.slice A n c) l10 W) : Rd k57 A n c l10 W := by
  obtain ⟨P5, P10, hp5, hp10, hd5_10, h5, h10⟩ := h
  exact Kd.S_reads' h10
theorem spec_AddEvent.own (k b : Nat) (a0_0 : Int) (a0_1 : Bool) (a0_2 : Int) (a0_3 : Int) (A0_4 : Option Addr) (n0_4 c0_4 : Nat) (l0_4 : List (S55)) (a0_5 : Int) (a0_6 : Int) (a0_7 : Int) (a0_8 : Int) (a1_0 : Int) (a1_1 : Int) (A1_2 : Option Addr) (n1_2 c1_2 : Nat) (l1_2 : List (Int)) (r1 : Int) (r2 : Int) (r3 : Bool) (r4 : Int) (r5 : Int) (r6 : List (S55)) (r7 : Int) (r8 : Int) (r9 : Int) (r10 : Int) (w : World) (hb0 : b ≤ w.heap.size) (h0_4 : Rd k55 A0_4 n0_4 c0_4 l0_4 w) (h1_2 : Rd (Kd.int .u8) A1_2 n1_2 c1_2 l1_2 w) (h : spec_AddEvent.f k a0_0 a0_1 a0_2 a0_3 l0_4 a0_5 a0_6 a0_7 a0_8 a1_0 a1_1 l1_2 = some (r1, r2, r3, r4, r5, r6, r7, r8, r9, r10, ([] : List (S57)))) :
    Calls Try.prog 11 #[.agg #[.int .i64 a0_0, .bool a0_1, .int .i64 a0_2, .int .i64 a0_3, .slice A0_4 n0_4 c0_4, .int .i64 a0_5, .int .i64 a0_6, .int .i64 a0_7, .int .i64 a0_8], .agg #[.int .i64 a1_0, .int .i64 a1_1, .slice A1_2 n1_2 c1_2]] w fun e w' => ∃ (A5 : Option Addr) (n5 c5 : Nat) (A10 : Option Addr) (n10 c10 : Nat), e = .returned (.agg #[.int .i64 r1, .int .i64 r2, .bool r3, .int .i64 r4, .int .i64 r5, .slice A5 n5 c5, .int .i64 r7, .int .i64 r8, .int .i64 r9, .int .i64 r10, .slice A10 n10 c10]) ∧ (∀ W : World, (∀ k, w.heap.size ≤ k → k < w'.heap.size → W.heap[k]? = w'.heap[k]?) → OwnT35 b w.heap.size w'.heap.size (.slice A5 n5 c5) r6 (.slice A10 n10 c10) ([] : List (S57)) W) ∧ Below w.heap.size w w' := by
  obtain ⟨rfl, hc0_4, hr0_4⟩ := h0_4
  obtain ⟨rfl, hc1_2, hr1_2⟩ := h1_2
  refine (spec_AddEvent.calls k a0_0 a0_1 a0_2 a0_3 A0_4 c0_4 l0_4 a0_5 a0_6 a0_7 a0_8 a1_0 a1_1 A1_2 c1_2 l1_2 r1 r2 r3 r4 r5 r6 r7 r8 r9 r10 ([] : List (S57)) w hr0_4 hc0_4 hr1_2 hc1_2 h).mono ?_
  rintro e w' ⟨v5, v10, rfl, ho5, ho10, hb⟩
  obtain ⟨A5, c5, rfl⟩ := Kd.S_slice ho5
  obtain ⟨A10, c10, rfl⟩ := Kd.S_slice ho10
  have hx5 := Kd.S_bound ho5
  have hx10 := nilS ho10
  exact ⟨A5, _, c5, A10, _, c10, rfl, fun W hW => OwnT35.foot _ _ _ _ (show OwnT35 b w.heap.size w'.heap.size (.slice A5 _ c5) r6 (.slice A10 _ c10) ([] : List (S57)) w' from ⟨_, _, (fun k hk => ⟨hk.2.1, hk.2.2.1⟩), (fun k hk => ⟨Kd.S_base ho10 k hk.symm, Kd.S_lt ho10 k hk.symm⟩), (fun k h1 h2 => by obtain ⟨_, _, _, t1_, ht1, q1_, e1⟩ := h1; obtain ⟨q2_, e2⟩ := Kd.S_typed ho10 k h2.symm; rw [e1] at e2; injection e2 with e2; injection e2 with _ e2 _; subst e2; revert ht1; decide), Kd.S_lower hx5 hb0, Kd.S_lower hx10 hb0⟩) hW, hb⟩
theorem impl_AddEvent.own (k b : Nat) (a0_0 : Int) (a0_1 : Bool) (a0_2 : Int) (a0_3 : Int) (A0_4 : Option Addr) (n0_4 c0_4 : Nat) (l0_4 : List (S55)) (a0_5 : Int) (a0_6 : Int) (a0_7 : Int) (a0_8 : Int) (a1_0 : Int) (a1_1 : Int) (A1_2 : Option Addr) (n1_2 c1_2 : Nat) (l1_2 : List (Int)) (r1 : Int) (r2 : Int) (r3 : Bool) (r4 : Int) (r5 : Int) (r6 : List (S55)) (r7 : Int) (r8 : Int) (r9 : Int) (r10 : Int) (w : World) (hb0 : b ≤ w.heap.size) (h0_4 : Rd k55 A0_4 n0_4 c0_4 l0_4 w) (h1_2 : Rd (Kd.int .u8) A1_2 n1_2 c1_2 l1_2 w) (h : impl_AddEvent.f k a0_0 a0_1 a0_2 a0_3 l0_4 a0_5 a0_6 a0_7 a0_8 a1_0 a1_1 l1_2 = some (r1, r2, r3, r4, r5, r6, r7, r8, r9, r10, ([] : List (S57)))) :
    Calls Try.prog 14 #[.agg #[.int .i64 a0_0, .bool a0_1, .int .i64 a0_2, .int .i64 a0_3, .slice A0_4 n0_4 c0_4, .int .i64 a0_5, .int .i64 a0_6, .int .i64 a0_7, .int .i64 a0_8], .agg #[.int .i64 a1_0, .int .i64 a1_1, .slice A1_2 n1_2 c1_2]] w fun e w' => ∃ (A5 : Option Addr) (n5 c5 : Nat) (A10 : Option Addr) (n10 c10 : Nat), e = .returned (.agg #[.int .i64 r1, .int .i64 r2, .bool r3, .int .i64 r4, .int .i64 r5, .slice A5 n5 c5, .int .i64 r7, .int .i64 r8, .int .i64 r9, .int .i64 r10, .slice A10 n10 c10]) ∧ (∀ W : World, (∀ k, w.heap.size ≤ k → k < w'.heap.size → W.heap[k]? = w'.heap[k]?) → OwnT35 b w.heap.size w'.heap.size (.slice A5 n5 c5) r6 (.slice A10 n10 c10) ([] : List (S57)) W) ∧ Below w.heap.size w w' := by
  obtain ⟨rfl, hc0_4, hr0_4⟩ := h0_4
  obtain ⟨rfl, hc1_2, hr1_2⟩ := h1_2
  refine (impl_AddEvent.calls k a0_0 a0_1 a0_2 a0_3 A0_4 c0_4 l0_4 a0_5 a0_6 a0_7 a0_8 a1_0 a1_1 A1_2 c1_2 l1_2 r1 r2 r3 r4 r5 r6 r7 r8 r9 r10 ([] : List (S57)) w hr0_4 hc0_4 hr1_2 hc1_2 h).mono ?_
  rintro e w' ⟨v5, v10, rfl, ho5, ho10, hb⟩
  obtain ⟨A5, c5, rfl⟩ := Kd.S_slice ho5
  obtain ⟨A10, c10, rfl⟩ := Kd.S_slice ho10
  have hx5 := Kd.S_bound ho5
  have hx10 := nilS ho10
  exact ⟨A5, _, c5, A10, _, c10, rfl, fun W hW => OwnT35.foot _ _ _ _ (show OwnT35 b w.heap.size w'.heap.size (.slice A5 _ c5) r6 (.slice A10 _ c10) ([] : List (S57)) w' from ⟨_, _, (fun k hk => ⟨hk.2.1, hk.2.2.1⟩), (fun k hk => ⟨Kd.S_base ho10 k hk.symm, Kd.S_lt ho10 k hk.symm⟩), (fun k h1 h2 => by obtain ⟨_, _, _, t1_, ht1, q1_, e1⟩ := h1; obtain ⟨q2_, e2⟩ := Kd.S_typed ho10 k h2.symm; rw [e1] at e2; injection e2 with e2; injection e2 with _ e2 _; subst e2; revert ht1; decide), Kd.S_lower hx5 hb0, Kd.S_lower hx10 hb0⟩) hW, hb⟩
theorem laws_eqNodeResult.rd (k : Nat) (a0_0 : Int) (a0_1 : Int) (a0_2 : Bool) (a0_3 : Int) (a0_4 : Int) (A0_5 : Option Addr) (n0_5 c0_5 : Nat) (l0_5 : List (S55)) (a0_6 : Int) (a0_7 : Int) (a0_8 : Int) (a0_9 : Int) (A0_10 : Option Addr) (n0_10 c0_10 : Nat) (l0_10 : List (S57)) (a1_0 : Int) (a1_1 : Int) (a1_2 : Bool) (a1_3 : Int) (a1_4 : Int) (A1_5 : Option Addr) (n1_5 c1_5 : Nat) (l1_5 : List (S55)) (a1_6 : Int) (a1_7 : Int) (a1_8 : Int) (a1_9 : Int) (A1_10 : Option Addr) (n1_10 c1_10 : Nat) (l1_10 : List (S57)) (r1 : Bool) (w : World) (h0_5 : Rd k55 A0_5 n0_5 c0_5 l0_5 w) (h0_10 : Rd k57 A0_10 n0_10 c0_10 l0_10 w) (h1_5 : Rd k55 A1_5 n1_5 c1_5 l1_5 w) (h1_10 : Rd k57 A1_10 n1_10 c1_10 l1_10 w) (h : laws_eqNodeResult.f k a0_0 a0_1 a0_2 a0_3 a0_4 l0_5 a0_6 a0_7 a0_8 a0_9 l0_10 a1_0 a1_1 a1_2 a1_3 a1_4 l1_5 a1_6 a1_7 a1_8 a1_9 l1_10 = some r1) :
    Calls Try.prog 15 #[.agg #[.int .i64 a0_0, .int .i64 a0_1, .bool a0_2, .int .i64 a0_3, .int .i64 a0_4, .slice A0_5 n0_5 c0_5, .int .i64 a0_6, .int .i64 a0_7, .int .i64 a0_8, .int .i64 a0_9, .slice A0_10 n0_10 c0_10], .agg #[.int .i64 a1_0, .int .i64 a1_1, .bool a1_2, .int .i64 a1_3, .int .i64 a1_4, .slice A1_5 n1_5 c1_5, .int .i64 a1_6, .int .i64 a1_7, .int .i64 a1_8, .int .i64 a1_9, .slice A1_10 n1_10 c1_10]] w fun e w' => e = .returned (.bool r1) ∧ Below w.heap.size w w' := by
  obtain ⟨rfl, hc0_5, hr0_5⟩ := h0_5
  obtain ⟨rfl, hc0_10, hr0_10⟩ := h0_10
  obtain ⟨rfl, hc1_5, hr1_5⟩ := h1_5
  obtain ⟨rfl, hc1_10, hr1_10⟩ := h1_10
  exact laws_eqNodeResult.calls k a0_0 a0_1 a0_2 a0_3 a0_4 A0_5 c0_5 l0_5 a0_6 a0_7 a0_8 a0_9 A0_10 c0_10 l0_10 a1_0 a1_1 a1_2 a1_3 a1_4 A1_5 c1_5 l1_5 a1_6 a1_7 a1_8 a1_9 A1_10 c1_10 l1_10 r1 w hr0_5 hc0_5 hr0_10 hc0_10 hr1_5 hc1_5 hr1_10 hc1_10 h
theorem laws_eqNode.rd (k : Nat) (a0_0 : Int) (a0_1 : Bool) (a0_2 : Int) (a0_3 : Int) (A0_4 : Option Addr) (n0_4 c0_4 : Nat) (l0_4 : List (S55)) (a0_5 : Int) (a0_6 : Int) (a0_7 : Int) (a0_8 : Int) (a1_0 : Int) (a1_1 : Bool) (a1_2 : Int) (a1_3 : Int) (A1_4 : Option Addr) (n1_4 c1_4 : Nat) (l1_4 : List (S55)) (a1_5 : Int) (a1_6 : Int) (a1_7 : Int) (a1_8 : Int) (r1 : Bool) (w : World) (h0_4 : Rd k55 A0_4 n0_4 c0_4 l0_4 w) (h1_4 : Rd k55 A1_4 n1_4 c1_4 l1_4 w) (h : laws_eqNode.f k a0_0 a0_1 a0_2 a0_3 l0_4 a0_5 a0_6 a0_7 a0_8 a1_0 a1_1 a1_2 a1_3 l1_4 a1_5 a1_6 a1_7 a1_8 = some r1) :
    Calls Try.prog 16 #[.agg #[.int .i64 a0_0, .bool a0_1, .int .i64 a0_2, .int .i64 a0_3, .slice A0_4 n0_4 c0_4, .int .i64 a0_5, .int .i64 a0_6, .int .i64 a0_7, .int .i64 a0_8], .agg #[.int .i64 a1_0, .bool a1_1, .int .i64 a1_2, .int .i64 a1_3, .slice A1_4 n1_4 c1_4, .int .i64 a1_5, .int .i64 a1_6, .int .i64 a1_7, .int .i64 a1_8]] w fun e w' => e = .returned (.bool r1) ∧ Below w.heap.size w w' := by
  obtain ⟨rfl, hc0_4, hr0_4⟩ := h0_4
  obtain ⟨rfl, hc1_4, hr1_4⟩ := h1_4
  exact laws_eqNode.calls k a0_0 a0_1 a0_2 a0_3 A0_4 c0_4 l0_4 a0_5 a0_6 a0_7 a0_8 a1_0 a1_1 a1_2 a1_3 A1_4 c1_4 l1_4 a1_5 a1_6 a1_7 a1_8 r1 w hr0_4 hc0_4 hr1_4 hc1_4 h
theorem laws_eqEvent.rd (k : Nat) (a0_0 : Int) (a0_1 : Int) (A0_2 : Option Addr) (n0_2 c0_2 : Nat) (l0_2 : List (Int)) (a1_0 : Int) (a1_1 : Int) (A1_2 : Option Addr) (n1_2 c1_2 : Nat) (l1_2 : List (Int)) (r1 : Bool) (w : World) (h0_2 : Rd (Kd.int .u8) A0_2 n0_2 c0_2 l0_2 w) (h1_2 : Rd (Kd.int .u8) A1_2 n1_2 c1_2 l1_2 w) (h : laws_eqEvent.f k a0_0 a0_1 l0_2 a1_0 a1_1 l1_2 = some r1) :
    Calls Try.prog 17 #[.agg #[.int .i64 a0_0, .int .i64 a0_1, .slice A0_2 n0_2 c0_2], .agg #[.int .i64 a1_0, .int .i64 a1_1, .slice A1_2 n1_2 c1_2]] w fun e w' => e = .returned (.bool r1) ∧ Below w.heap.size w w' := by
  obtain ⟨rfl, hc0_2, hr0_2⟩ := h0_2
  obtain ⟨rfl, hc1_2, hr1_2⟩ := h1_2
  exact laws_eqEvent.calls k a0_0 a0_1 A0_2 c0_2 l0_2 a1_0 a1_1 A1_2 c1_2 l1_2 r1 w hr0_2 hc0_2 hr1_2 hc1_2 h
theorem laws_markEntryS.m (k : Nat) (P0 : Nat → Prop) (v0 : Value) (l0 : List (S55)) (a1 : Int) (r1 : Int) (r2 : List (S55)) (w0 w : World) (hB : Below w0.heap.size w0 w) (ho0 : Kd.S k55 55 w w0.heap.size P0 v0 l0) (h : laws_markEntryS.f k l0 a1 = some (r1, r2)) :
    Calls Try.prog 67 #[v0, .int .i64 a1] w fun e w' => e = .returned (.int .i64 r1) ∧ Kd.S k55 55 w' w0.heap.size P0 v0 r2 ∧ Below w0.heap.size w0 w' ∧ Kept w w' (fun k_ => P0 k_) := by
  exact laws_markEntryS.calls0 k P0 v0 l0 a1 r1 r2 w0 w hB ho0 h
def laws_markNode.f (k : Nat) (a0_0 : Int) (a0_1 : Bool) (a0_2 : Int) (a0_3 : Int) (l0_4 : List (S55)) (a0_5 : Int) (a0_6 : Int) (a0_7 : Int) (a0_8 : Int) (a1 : Int) : Option (Int × List (S55)) := (laws_markEntryS.f k l0_4 a1).bind fun b0 => some (b0.1, b0.2)
set_option maxHeartbeats 8000000 in
set_option maxRecDepth 100000 in
theorem laws_markNode.m (k : Nat) (a0_0 : Int) (a0_1 : Bool) (a0_2 : Int) (a0_3 : Int) (P0_4 : Nat → Prop) (v0_4 : Value) (l0_4 : List (S55)) (a0_5 : Int) (a0_6 : Int) (a0_7 : Int) (a0_8 : Int) (a1 : Int) (r1 : Int) (r2 : List (S55)) (w0 w : World) (hB : Below w0.heap.size w0 w) (ho4 : Kd.S k55 55 w w0.heap.size P0_4 v0_4 l0_4) (h : laws_markNode.f k a0_0 a0_1 a0_2 a0_3 l0_4 a0_5 a0_6 a0_7 a0_8 a1 = some (r1, r2)) :
    Calls Try.prog 18 #[.agg #[.int .i64 a0_0, .bool a0_1, .int .i64 a0_2, .int .i64 a0_3, v0_4, .int .i64 a0_5, .int .i64 a0_6, .int .i64 a0_7, .int .i64 a0_8], .int .i64 a1] w fun e w' => e = .returned (.int .i64 r1) ∧ Kd.S k55 55 w' w0.heap.size P0_4 v0_4 r2 ∧ Below w0.heap.size w0 w' ∧ Kept w w' (fun k_ => P0_4 k_) := by
  have hu32 := Try.underlying32
  have HO4 := Aside0.mk (Kd.S_mono (ok' := (fun k_ => P0_4 k_ ∧ k_ < w.heap.size)) (Kd.S_bound ho4) (fun k hk => ⟨hk.1, hk.2.2.1⟩))
  have HB := Aside0.mk hB
  have HBw := Aside0.mk (Below.refl w.heap.size w)
  have HK := Aside0.mk (Kept.refl w (fun k_ => P0_4 k_))
  obtain ⟨A4, c4, rfl⟩ := Kd.S_slice ho4
  unfold laws_markNode.f at h
  obtain ⟨m0, h0, h⟩ := Option.bind_eq_some_iff.mp h
  obtain ⟨m0, y0_4⟩ := m0
  obtain ⟨e1, e2⟩ : m0 = r1 ∧ y0_4 = r2 := by simpa using h
  subst e1
  subst e2
  have H0_ := Aside0.mk h0
  clear h h0 ho4  hB
  go_enter Try.func18, Try.ntmps18
  go_wp2_with (first | ((with_reducible refine gate_dst (N := 2) rfl ?_); refine boxE #[.int .i64 a0_0, .bool a0_1, .int .i64 a0_2, .int .i64 a0_3, .slice A4 l0_4.length c4, .int .i64 a0_5, .int .i64 a0_6, .int .i64 a0_7, .int .i64 a0_8] 32 (N := 2) rfl rfl ?_; intro gb hg w5 hbox hb; have BKb := Aside0.mk hbox; replace HO4 := Aside0.mk (Kd.S_below (mS HO4) hb); replace HK := Aside0.mk (Kept.below (by repeat (first | exact HK.out | apply Kept.alloc | apply Kept.drewN | apply Kept.drew)) hb); replace HB := bS HB hb; have HGW := gZ HBw hg; have HN4 := Aside0.mk (show ¬ (P0_4 gb ∧ gb < w.heap.size) from fun hp => Nat.lt_irrefl _ (Nat.lt_of_lt_of_le hp.2 HGW.out)); clear hb hbox hg; have hz6 := cl9 BKb) | ((with_reducible refine gate_callee (f := 67) rfl ?_); refine goA (some 8) rfl rfl Try.func67 rfl #[.slice A4 l0_4.length c4, .int .i64 a1] rfl ?_; (refine (laws_markEntryS.m k (fun k_ => P0_4 k_ ∧ k_ < w.heap.size) _ l0_4 a1 m0 y0_4 w0 _ ?sideB ?side4 H0_.out).mono ?_); (case sideB => exact bel HB); (case side4 => exact mS HO4); rintro e wq0 ⟨rfl, g4, hb7, hk7⟩; refine ⟨_, rfl, ?_⟩; replace HO4 := Aside0.mk g4; replace HB := Aside0.mk hb7; replace BKb := Aside0.mk (blk_kept (mB BKb) hk7 (fun h2 => (fun h_ => HN4.out h_) h2)); replace HK := Aside0.mk (Kept.then_ (S := (fun k_ => P0_4 k_)) (by repeat (first | exact HK.out | apply Kept.alloc | apply Kept.drewN | apply Kept.drew)) hk7 (fun k h2 => .inl ((fun h_ => h_.1) h2))); clear hb7 hk7 g4; have hz70 := cl9 BKb))
  go_ret
  exact ⟨rfl, Kd.S_mono (ok := (fun k_ => P0_4 k_ ∧ k_ < w.heap.size)) (mS HO4) (fun _ h => h.1), bel HB, by repeat (first | exact HK.out | apply Kept.alloc | apply Kept.drewN | apply Kept.drew)⟩
theorem laws_markNode.own (k lo hi : Nat) (a0_0 : Int) (a0_1 : Bool) (a0_2 : Int) (a0_3 : Int) (A0_4 : Option Addr) (n0_4 c0_4 : Nat) (l0_4 : List (S55)) (a0_5 : Int) (a0_6 : Int) (a0_7 : Int) (a0_8 : Int) (a1 r1 : Int) (r2 : List (S55)) (w0 w : World) (hB : Below w0.heap.size w0 w) (hO : OwnT32 w0.heap.size lo hi (.slice A0_4 n0_4 c0_4) l0_4 w) (h : laws_markNode.f k a0_0 a0_1 a0_2 a0_3 l0_4 a0_5 a0_6 a0_7 a0_8 a1 = some (r1, r2)) :
    Calls Try.prog 18 #[.agg #[.int .i64 a0_0, .bool a0_1, .int .i64 a0_2, .int .i64 a0_3, .slice A0_4 n0_4 c0_4, .int .i64 a0_5, .int .i64 a0_6, .int .i64 a0_7, .int .i64 a0_8], .int .i64 a1] w fun e w' => e = .returned (.int .i64 r1) ∧ (∀ W : World, (∀ k, lo ≤ k → k < hi → W.heap[k]? = w'.heap[k]?) → OwnT32 w0.heap.size lo hi (.slice A0_4 n0_4 c0_4) r2 W) ∧ Below w0.heap.size w0 w' ∧ Kept w w' (fun k => lo ≤ k ∧ k < hi) := by
  obtain ⟨P4, hp4, h4⟩ := hO
  refine (laws_markNode.m k a0_0 a0_1 a0_2 a0_3 P4 _ l0_4 a0_5 a0_6 a0_7 a0_8 a1 r1 r2 w0 w hB h4 h).mono ?_
  rintro e w' ⟨h1_, g4, hb_, hk_⟩
  exact ⟨h1_, fun W hW => OwnT32.foot _ _ (show OwnT32 w0.heap.size lo hi (.slice A0_4 n0_4 c0_4) r2 w' from ⟨P4, hp4, g4⟩) hW, hb_, hk_.mono (fun k hk => (fun h_ => hp4 k h_) hk)⟩
theorem laws_markEvent.m (k : Nat) (a0_0 : Int) (a0_1 : Int) (P0_2 : Nat → Prop) (v0_2 : Value) (l0_2 : List (Int)) (a1 : Int) (r1 : Int) (r2 : List (Int)) (w0 w : World) (hB : Below w0.heap.size w0 w) (ho2 : Kd.R (Kd.int .u8) 5 w w0.heap.size P0_2 v0_2 l0_2) (h : laws_markEvent.f k a0_0 a0_1 l0_2 a1 = some (r1, r2)) :
    Calls Try.prog 19 #[.agg #[.int .i64 a0_0, .int .i64 a0_1, v0_2], .int .i64 a1] w fun e w' => e = .returned (.int .i64 r1) ∧ Kd.R (Kd.int .u8) 5 w' w0.heap.size P0_2 v0_2 r2 ∧ Below w0.heap.size w0 w' ∧ Kept w w' (fun k_ => P0_2 k_) := by
  refine (laws_markEvent.calls k a0_0 a0_1 (fun k_ => some k_ = v0_2.ownBlock) v0_2 l0_2 a1 r1 r2 w0 w hB (Kd.R_tight rfl ho2) h).mono ?_
  rintro e w' ⟨h1, g2, hb, hk⟩
  exact ⟨h1, (Kd.R_mono (Kd.R_tight rfl g2) (fun k hk => ho2.1 k hk.symm)), hb, hk.mono (fun k h_ => ho2.1 k h_.symm)⟩
theorem laws_markEvent.own (k lo hi : Nat) (a0_0 : Int) (a0_1 : Int) (A0_2 : Option Addr) (n0_2 c0_2 : Nat) (l0_2 : List (Int)) (a1 r1 : Int) (r2 : List (Int)) (w0 w : World) (hB : Below w0.heap.size w0 w) (hO : OwnT38 w0.heap.size lo hi (.slice A0_2 n0_2 c0_2) l0_2 w) (h : laws_markEvent.f k a0_0 a0_1 l0_2 a1 = some (r1, r2)) :
    Calls Try.prog 19 #[.agg #[.int .i64 a0_0, .int .i64 a0_1, .slice A0_2 n0_2 c0_2], .int .i64 a1] w fun e w' => e = .returned (.int .i64 r1) ∧ (∀ W : World, (∀ k, lo ≤ k → k < hi → W.heap[k]? = w'.heap[k]?) → OwnT38 w0.heap.size lo hi (.slice A0_2 n0_2 c0_2) r2 W) ∧ Below w0.heap.size w0 w' ∧ Kept w w' (fun k => lo ≤ k ∧ k < hi) := by
  obtain ⟨P2, hp2, h2⟩ := hO
  refine (laws_markEvent.m k a0_0 a0_1 P2 _ l0_2 a1 r1 r2 w0 w hB h2 h).mono ?_
  rintro e w' ⟨h1_, g2, hb_, hk_⟩
  exact ⟨h1_, fun W hW => OwnT38.foot _ _ (show OwnT38 w0.heap.size lo hi (.slice A0_2 n0_2 c0_2) r2 w' from ⟨P2, hp2, g2⟩) hW, hb_, hk_.mono (fun k hk => (fun h_ => hp2 k h_) hk)⟩
theorem laws_markMailS.m (k : Nat) (P0 : Nat → Prop) (v0 : Value) (l0 : List (S57)) (a1 : Int) (r1 : Int) (r2 : List (S57)) (w0 w : World) (hB : Below w0.heap.size w0 w) (ho0 : Kd.S k57 57 w w0.heap.size P0 v0 l0) (h : laws_markMailS.f k l0 a1 = some (r1, r2)) :
    Calls Try.prog 69 #[v0, .int .i64 a1] w fun e w' => e = .returned (.int .i64 r1) ∧ Kd.S k57 57 w' w0.heap.size P0 v0 r2 ∧ Below w0.heap.size w0 w' ∧ Kept w w' (fun k_ => P0 k_) := by
  have e_ : l0 = [] ∧ a1 = r1 ∧ [] = r2 := by
    cases l0 with
    | nil => unfold laws_markMailS.f at h; injection h with h; injection h with h1 h2; exact ⟨rfl, h1, h2⟩
    | cons x t => cases h
  obtain ⟨rfl, rfl, rfl⟩ := e_
  refine (laws_markMailS.calls k P0 v0 [] a1 a1 [] w0 w hB ho0 rfl).mono ?_
  rintro e w' ⟨h1, g0, hb, hk⟩
  exact ⟨h1, Kd.S_mono (nilS g0) (fun k hk => (Kd.S_R ho0).1 k hk.symm), hb, hk⟩
def laws_markNodeResult.f (k : Nat) (a0_0 : Int) (a0_1 : Int) (a0_2 : Bool) (a0_3 : Int) (a0_4 : Int) (l0_5 : List (S55)) (a0_6 : Int) (a0_7 : Int) (a0_8 : Int) (a0_9 : Int) (l0_10 : List (S57)) (a1 : Int) : Option (Int × List (S55) × List (S57)) := (laws_markNode.f k a0_1 a0_2 a0_3 a0_4 l0_5 a0_6 a0_7 a0_8 a0_9 a1).bind fun b0 => (laws_markMailS.f k l0_10 b0.1).bind fun b1 => some (b1.1, b0.2, b1.2)
set_option maxHeartbeats 8000000 in
set_option maxRecDepth 100000 in
theorem laws_markNodeResult.m (k : Nat) (a0_0 : Int) (a0_1 : Int) (a0_2 : Bool) (a0_3 : Int) (a0_4 : Int) (P0_5 : Nat → Prop) (v0_5 : Value) (l0_5 : List (S55)) (a0_6 : Int) (a0_7 : Int) (a0_8 : Int) (a0_9 : Int) (P0_10 : Nat → Prop) (v0_10 : Value) (a1 : Int) (r1 : Int) (r2 : List (S55)) (w0 w : World) (hB : Below w0.heap.size w0 w) (ho5 : Kd.S k55 55 w w0.heap.size P0_5 v0_5 l0_5) (ho10 : Kd.S k57 57 w w0.heap.size P0_10 v0_10 ([] : List (S57))) (hd5_10 : ∀ k_, P0_5 k_ → ¬ P0_10 k_) (h : laws_markNodeResult.f k a0_0 a0_1 a0_2 a0_3 a0_4 l0_5 a0_6 a0_7 a0_8 a0_9 [] a1 = some (r1, r2, [])) :
    Calls Try.prog 20 #[.agg #[.int .i64 a0_0, .int .i64 a0_1, .bool a0_2, .int .i64 a0_3, .int .i64 a0_4, v0_5, .int .i64 a0_6, .int .i64 a0_7, .int .i64 a0_8, .int .i64 a0_9, v0_10], .int .i64 a1] w fun e w' => e = .returned (.int .i64 r1) ∧ Kd.S k55 55 w' w0.heap.size P0_5 v0_5 r2 ∧ Kd.S k57 57 w' w0.heap.size P0_10 v0_10 ([] : List (S57)) ∧ Below w0.heap.size w0 w' ∧ Kept w w' (fun k_ => P0_5 k_ ∨ P0_10 k_) := by
  have hu32 := Try.underlying32
  have hu35 := Try.underlying35
  have HO5 := Aside0.mk (Kd.S_mono (ok' := (fun k_ => P0_5 k_ ∧ k_ < w.heap.size)) (Kd.S_bound ho5) (fun k hk => ⟨hk.1, hk.2.2.1⟩))
  have HO10 := Aside0.mk (Kd.S_mono (ok' := (fun k_ => P0_10 k_ ∧ k_ < w.heap.size)) (Kd.S_bound ho10) (fun k hk => ⟨hk.1, hk.2.2.1⟩))
  have HD5_10 := Aside0.mk hd5_10
  have HB := Aside0.mk hB
  have HBw := Aside0.mk (Below.refl w.heap.size w)
  have HK := Aside0.mk (Kept.refl w (fun k_ => P0_5 k_ ∨ P0_10 k_))
  obtain ⟨A5, c5, rfl⟩ := Kd.S_slice ho5
  obtain ⟨A10, c10, rfl⟩ := Kd.S_slice ho10
  unfold laws_markNodeResult.f at h
  obtain ⟨m0, h0, h⟩ := Option.bind_eq_some_iff.mp h
  obtain ⟨m0, y0_5⟩ := m0
  obtain ⟨m1, h1, h⟩ := Option.bind_eq_some_iff.mp h
  obtain ⟨m1, y1_10⟩ := m1
  obtain ⟨e1, e2, e3⟩ : m1 = r1 ∧ y0_5 = r2 ∧ y1_10 = [] := by simpa using h
  subst e1
  subst e2
  subst e3
  have H0_ := Aside0.mk h0
  have H1_ := Aside0.mk h1
  clear h h0 h1 ho5 ho10 hd5_10 hB
  go_enter Try.func20, Try.ntmps20
  go_wp2_with (first | ((with_reducible refine gate_dst (N := 2) rfl ?_); refine boxE #[.int .i64 a0_0, .int .i64 a0_1, .bool a0_2, .int .i64 a0_3, .int .i64 a0_4, .slice A5 l0_5.length c5, .int .i64 a0_6, .int .i64 a0_7, .int .i64 a0_8, .int .i64 a0_9, .slice A10 ([] : List (S57)).length c10] 35 (N := 2) rfl rfl ?_; intro gb hg w5 hbox hb; have BKb := Aside0.mk hbox; replace HO5 := Aside0.mk (Kd.S_below (mS HO5) hb); replace HO10 := Aside0.mk (Kd.S_below (mS HO10) hb); replace HK := Aside0.mk (Kept.below (by repeat (first | exact HK.out | apply Kept.alloc | apply Kept.drewN | apply Kept.drew)) hb); replace HB := bS HB hb; have HGW := gZ HBw hg; have HN5 := Aside0.mk (show ¬ (P0_5 gb ∧ gb < w.heap.size) from fun hp => Nat.lt_irrefl _ (Nat.lt_of_lt_of_le hp.2 HGW.out)); have HN10 := Aside0.mk (show ¬ (P0_10 gb ∧ gb < w.heap.size) from fun hp => Nat.lt_irrefl _ (Nat.lt_of_lt_of_le hp.2 HGW.out)); clear hb hbox hg; have hz6 := cl11 BKb) | ((with_reducible refine gate_callee (f := 18) rfl ?_); refine goA (some 8) rfl rfl Try.func18 rfl #[.agg #[.int .i64 a0_1, .bool a0_2, .int .i64 a0_3, .int .i64 a0_4, .slice A5 l0_5.length c5, .int .i64 a0_6, .int .i64 a0_7, .int .i64 a0_8, .int .i64 a0_9], .int .i64 a1] rfl ?_; (refine (laws_markNode.m k a0_1 a0_2 a0_3 a0_4 (fun k_ => P0_5 k_ ∧ k_ < w.heap.size) _ l0_5 a0_6 a0_7 a0_8 a0_9 a1 m0 y0_5 w0 _ ?sideB ?side5 H0_.out).mono ?_); (case sideB => exact bel HB); (case side5 => exact mS HO5); rintro e wq0 ⟨rfl, g5, hb7, hk7⟩; refine ⟨_, rfl, ?_⟩; replace HO5 := Aside0.mk g5; replace HO10 := Aside0.mk (Kd.S_kept (ok := (fun k_ => P0_10 k_ ∧ k_ < w.heap.size)) (mS HO10) hk7 (fun k h1 h2 => (fun h_ => HD5_10.out k h_.1 h1.1) h2)); replace HB := Aside0.mk hb7; replace BKb := Aside0.mk (blk_kept (mB BKb) hk7 (fun h2 => (fun h_ => HN5.out h_) h2)); replace HK := Aside0.mk (Kept.then_ (S := (fun k_ => P0_5 k_ ∨ P0_10 k_)) (by repeat (first | exact HK.out | apply Kept.alloc | apply Kept.drewN | apply Kept.drew)) hk7 (fun k h2 => .inl ((fun h_ => .inl (h_.1)) h2))); clear hb7 hk7 g5; have hz70 := cl11 BKb) | ((with_reducible refine gate_callee (f := 69) rfl ?_); refine goA (some 12) rfl rfl Try.func69 rfl #[.slice A10 ([] : List (S57)).length c10, .int .i64 m0] rfl ?_; (refine (laws_markMailS.m k (fun k_ => P0_10 k_ ∧ k_ < w.heap.size) _ ([] : List (S57)) m0 m1 [] w0 _ ?sideB ?side10 H1_.out).mono ?_); (case sideB => exact bel HB); (case side10 => exact mS HO10); rintro e wq1 ⟨rfl, g10, hb7, hk7⟩; refine ⟨_, rfl, ?_⟩; replace HO5 := Aside0.mk (Kd.S_kept (ok := (fun k_ => P0_5 k_ ∧ k_ < w.heap.size)) (mS HO5) hk7 (fun k h1 h2 => (fun h_ => HD5_10.out k h1.1 h_.1) h2)); replace HO10 := Aside0.mk g10; replace HB := Aside0.mk hb7; replace BKb := Aside0.mk (blk_kept (mB BKb) hk7 (fun h2 => (fun h_ => HN10.out h_) h2)); replace HK := Aside0.mk (Kept.then_ (S := (fun k_ => P0_5 k_ ∨ P0_10 k_)) (by repeat (first | exact HK.out | apply Kept.alloc | apply Kept.drewN | apply Kept.drew)) hk7 (fun k h2 => .inl ((fun h_ => .inr (h_.1)) h2))); clear hb7 hk7 g10; have hz71 := cl11 BKb))
  go_ret
  exact ⟨rfl, Kd.S_mono (ok := (fun k_ => P0_5 k_ ∧ k_ < w.heap.size)) (mS HO5) (fun _ h => h.1), Kd.S_mono (ok := (fun k_ => P0_10 k_ ∧ k_ < w.heap.size)) (mS HO10) (fun _ h => h.1), bel HB, by repeat (first | exact HK.out | apply Kept.alloc | apply Kept.drewN | apply Kept.drew)⟩
theorem laws_markNodeResult.own (k lo hi : Nat) (a0_0 : Int) (a0_1 : Int) (a0_2 : Bool) (a0_3 : Int) (a0_4 : Int) (A0_5 : Option Addr) (n0_5 c0_5 : Nat) (l0_5 : List (S55)) (a0_6 : Int) (a0_7 : Int) (a0_8 : Int) (a0_9 : Int) (A0_10 : Option Addr) (n0_10 c0_10 : Nat) (a1 r1 : Int) (r2 : List (S55)) (w0 w : World) (hB : Below w0.heap.size w0 w) (hO : OwnT35 w0.heap.size lo hi (.slice A0_5 n0_5 c0_5) l0_5 (.slice A0_10 n0_10 c0_10) [] w) (h : laws_markNodeResult.f k a0_0 a0_1 a0_2 a0_3 a0_4 l0_5 a0_6 a0_7 a0_8 a0_9 [] a1 = some (r1, r2, [])) :
    Calls Try.prog 20 #[.agg #[.int .i64 a0_0, .int .i64 a0_1, .bool a0_2, .int .i64 a0_3, .int .i64 a0_4, .slice A0_5 n0_5 c0_5, .int .i64 a0_6, .int .i64 a0_7, .int .i64 a0_8, .int .i64 a0_9, .slice A0_10 n0_10 c0_10], .int .i64 a1] w fun e w' => e = .returned (.int .i64 r1) ∧ (∀ W : World, (∀ k, lo ≤ k → k < hi → W.heap[k]? = w'.heap[k]?) → OwnT35 w0.heap.size lo hi (.slice A0_5 n0_5 c0_5) r2 (.slice A0_10 n0_10 c0_10) [] W) ∧ Below w0.heap.size w0 w' ∧ Kept w w' (fun k => lo ≤ k ∧ k < hi) := by
  obtain ⟨P5, P10, hp5, hp10, hd5_10, h5, h10⟩ := hO
  refine (laws_markNodeResult.m k a0_0 a0_1 a0_2 a0_3 a0_4 P5 _ l0_5 a0_6 a0_7 a0_8 a0_9 P10 _ a1 r1 r2 w0 w hB h5 h10 hd5_10 h).mono ?_
  rintro e w' ⟨h1_, g5, g10, hb_, hk_⟩
  exact ⟨h1_, fun W hW => OwnT35.foot _ _ _ _ (show OwnT35 w0.heap.size lo hi (.slice A0_5 n0_5 c0_5) r2 (.slice A0_10 n0_10 c0_10) [] w' from ⟨P5, P10, hp5, hp10, hd5_10, g5, g10⟩) hW, hb_, hk_.mono (fun k hk => Or.elim hk (fun h_ => hp5 k h_) (fun h_2 => (fun h_ => hp10 k h_) h_2))⟩
theorem laws_heldNodeResult.rd (k : Nat) (a0_0 : Int) (a0_1 : Int) (a0_2 : Bool) (a0_3 : Int) (a0_4 : Int) (A0_5 : Option Addr) (n0_5 c0_5 : Nat) (l0_5 : List (S55)) (a0_6 : Int) (a0_7 : Int) (a0_8 : Int) (a0_9 : Int) (A0_10 : Option Addr) (n0_10 c0_10 : Nat) (l0_10 : List (S57)) (a1 : Int) (r1 : Int) (w : World) (h0_5 : Rd k55 A0_5 n0_5 c0_5 l0_5 w) (h0_10 : Rd k57 A0_10 n0_10 c0_10 l0_10 w) (h : laws_heldNodeResult.f k a0_0 a0_1 a0_2 a0_3 a0_4 l0_5 a0_6 a0_7 a0_8 a0_9 l0_10 a1 = some r1) :
    Calls Try.prog 21 #[.agg #[.int .i64 a0_0, .int .i64 a0_1, .bool a0_2, .int .i64 a0_3, .int .i64 a0_4, .slice A0_5 n0_5 c0_5, .int .i64 a0_6, .int .i64 a0_7, .int .i64 a0_8, .int .i64 a0_9, .slice A0_10 n0_10 c0_10], .int .i64 a1] w fun e w' => e = .returned (.int .i64 r1) ∧ Below w.heap.size w w' := by
  obtain ⟨rfl, hc0_5, hr0_5⟩ := h0_5
  obtain ⟨rfl, hc0_10, hr0_10⟩ := h0_10
  exact laws_heldNodeResult.calls k a0_0 a0_1 a0_2 a0_3 a0_4 A0_5 c0_5 l0_5 a0_6 a0_7 a0_8 a0_9 A0_10 c0_10 l0_10 a1 r1 w hr0_5 hc0_5 hr0_10 hc0_10 h
def laws_FnExactAddEvent.f (k : Nat) (a0_0 : Int) (a0_1 : Bool) (a0_2 : Int) (a0_3 : Int) (l0_4 : List (S131)) (a0_5 : Int) (a0_6 : Int) (a0_7 : Int) (a0_8 : Int) (a1_0 : Int) (a1_1 : Int) (l1_2 : List (Int)) : Option Bool := (laws_szNode.f k a0_0 a0_1 a0_2 a0_3 l0_4 a0_5 a0_6 a0_7 a0_8 1048576).bind fun b0 => if b0 < 0 then some true else (laws_szEvent.f a1_0 a1_1 l1_2 b0).bind fun b1 => if b1 < 0 then some true else (laws_toNode.f k a0_0 a0_1 a0_2 a0_3 l0_4 a0_5 a0_6 a0_7 a0_8).bind fun b2 => (laws_toEvent.f k a1_0 a1_1 l1_2).bind fun b3 => (spec_AddEvent.f k b2.1 b2.2.1 b2.2.2.1 b2.2.2.2.1 b2.2.2.2.2.1 b2.2.2.2.2.2.1 b2.2.2.2.2.2.2.1 b2.2.2.2.2.2.2.2.1 b2.2.2.2.2.2.2.2.2 b3.1 b3.2.1 b3.2.2).bind fun b4 => if b4.2.2.2.2.2.2.2.2.2.2.length = 0 then ((impl_AddEvent.f k b2.1 b2.2.1 b2.2.2.1 b2.2.2.2.1 b2.2.2.2.2.1 b2.2.2.2.2.2.1 b2.2.2.2.2.2.2.1 b2.2.2.2.2.2.2.2.1 b2.2.2.2.2.2.2.2.2 b3.1 b3.2.1 b3.2.2).bind fun b5 => if b5.2.2.2.2.2.2.2.2.2.2.length = 0 then ((laws_eqNodeResult.f k b5.1 b5.2.1 b5.2.2.1 b5.2.2.2.1 b5.2.2.2.2.1 b5.2.2.2.2.2.1 b5.2.2.2.2.2.2.1 b5.2.2.2.2.2.2.2.1 b5.2.2.2.2.2.2.2.2.1 b5.2.2.2.2.2.2.2.2.2.1 [] b4.1 b4.2.1 b4.2.2.1 b4.2.2.2.1 b4.2.2.2.2.1 b4.2.2.2.2.2.1 b4.2.2.2.2.2.2.1 b4.2.2.2.2.2.2.2.1 b4.2.2.2.2.2.2.2.2.1 b4.2.2.2.2.2.2.2.2.2.1 []).bind fun b6 => if b6 = true then ((laws_eqNode.f k b2.1 b2.2.1 b2.2.2.1 b2.2.2.2.1 b2.2.2.2.2.1 b2.2.2.2.2.2.1 b2.2.2.2.2.2.2.1 b2.2.2.2.2.2.2.2.1 b2.2.2.2.2.2.2.2.2 b2.1 b2.2.1 b2.2.2.1 b2.2.2.2.1 b2.2.2.2.2.1 b2.2.2.2.2.2.1 b2.2.2.2.2.2.2.1 b2.2.2.2.2.2.2.2.1 b2.2.2.2.2.2.2.2.2).bind fun b7 => if b7 = true then ((laws_eqEvent.f k b3.1 b3.2.1 b3.2.2 b3.1 b3.2.1 b3.2.2).bind fun b8 => if b8 = true then ((laws_markNode.f k b2.1 b2.2.1 b2.2.2.1 b2.2.2.2.1 b2.2.2.2.2.1 b2.2.2.2.2.2.1 b2.2.2.2.2.2.2.1 b2.2.2.2.2.2.2.2.1 b2.2.2.2.2.2.2.2.2 1).bind fun b9 => (laws_markEvent.f k b3.1 b3.2.1 b3.2.2 b9.1).bind fun b10 => if ¬ b10.1 < 0 then ((laws_markNodeResult.f k b5.1 b5.2.1 b5.2.2.1 b5.2.2.2.1 b5.2.2.2.2.1 b5.2.2.2.2.2.1 b5.2.2.2.2.2.2.1 b5.2.2.2.2.2.2.2.1 b5.2.2.2.2.2.2.2.2.1 b5.2.2.2.2.2.2.2.2.2.1 [] 1).bind fun b11 => if b11.2.2.length = 0 then ((laws_heldNodeResult.f k b5.1 b5.2.1 b5.2.2.1 b5.2.2.2.1 b5.2.2.2.2.1 b11.2.1 b5.2.2.2.2.2.2.1 b5.2.2.2.2.2.2.2.1 b5.2.2.2.2.2.2.2.2.1 b5.2.2.2.2.2.2.2.2.2.1 [] 1).bind fun b12 => if ¬ b12 < 0 then (if b12 = b11.1 then (some true) else none) else none) else none) else none) else none) else none) else none) else none) else none
set_option maxHeartbeats 16000000 in
set_option maxRecDepth 100000 in
theorem laws_FnExactAddEvent.exit1 (k : Nat) (a0_0 : Int) (a0_1 : Bool) (a0_2 : Int) (a0_3 : Int) (A0_4 : Option Addr) (c0_4 : Nat) (l0_4 : List (S131)) (a0_5 : Int) (a0_6 : Int) (a0_7 : Int) (a0_8 : Int) (a1_0 : Int) (a1_1 : Int) (A1_2 : Option Addr) (c1_2 : Nat) (l1_2 : List (Int)) (t0 : Int) (w : World) (hr0_4 : Kd.C k131 w A0_4 l0_4.length l0_4) (hc0_4 : l0_4.length ≤ c0_4) (hr1_2 : Kd.C (Kd.int .u8) w A1_2 l1_2.length l1_2) (hc1_2 : l1_2.length ≤ c1_2) (h0 : laws_szNode.f k a0_0 a0_1 a0_2 a0_3 l0_4 a0_5 a0_6 a0_7 a0_8 1048576 = some t0) (NEGt0 : t0 < 0) :
    Calls Try.prog 3 #[.agg #[.int .i64 a0_0, .bool a0_1, .int .i64 a0_2, .int .i64 a0_3, .slice A0_4 l0_4.length c0_4, .int .i64 a0_5, .int .i64 a0_6, .int .i64 a0_7, .int .i64 a0_8], .agg #[.int .i64 a1_0, .int .i64 a1_1, .slice A1_2 l1_2.length c1_2]] w fun e w' => e = .returned (.bool true) ∧ Below w.heap.size w w' := by
  have hu24 := Try.underlying24
  have hu27 := Try.underlying27
  have HR0_4 := Aside0.mk (show Rd k131 A0_4 l0_4.length c0_4 l0_4 w from ⟨rfl, hc0_4, hr0_4⟩)
  have HR1_2 := Aside0.mk (show Rd (Kd.int .u8) A1_2 l1_2.length c1_2 l1_2 w from ⟨rfl, hc1_2, hr1_2⟩)
  clear hr0_4 hc0_4 hr1_2 hc1_2
  have fc0 : decide (t0 < 0) = true := decide_eq_true NEGt0
  have A0 := Aside0.mk h0
  have XNEGt0 := Aside0.mk NEGt0
  clear h0 NEGt0
  have RS := Aside0.mk (Rs.start w)
  go_enter Try.func3, Try.ntmps3
  go_wp2_with (first | ((with_reducible refine gate_dst (N := 2) rfl ?_); refine boxE #[.int .i64 a0_0, .bool a0_1, .int .i64 a0_2, .int .i64 a0_3, .slice A0_4 l0_4.length c0_4, .int .i64 a0_5, .int .i64 a0_6, .int .i64 a0_7, .int .i64 a0_8] 24 (N := 2) rfl rfl ?_; intro gb0 hg w1_ hbox hb; obtain ⟨e1, Ee1, RS_⟩ := Rs.pushE RS hb (Q := fun W => W.heap[gb0]? = some (.cells #[.int .i64 a0_0, .bool a0_1, .int .i64 a0_2, .int .i64 a0_3, .slice A0_4 l0_4.length c0_4, .int .i64 a0_5, .int .i64 a0_6, .int .i64 a0_7, .int .i64 a0_8] 24 (0, 0))) (fun W' hW => (hW _ (Nat.le_of_eq hg.symm) (blk_lt hbox)).trans hbox); replace RS := (show Aside0 (Rs w _ [e1]) from RS_); clear RS_; clear hbox hb hg; have hz1 := cx9 (Rs.getE RS 0 rfl Ee1); skip) | ((with_reducible refine gate_dst (N := 3) rfl ?_); refine boxE #[.int .i64 a1_0, .int .i64 a1_1, .slice A1_2 l1_2.length c1_2] 27 (N := 3) rfl rfl ?_; intro gb1 hg w2_ hbox hb; obtain ⟨e2, Ee2, RS_⟩ := Rs.pushE RS hb (Q := fun W => W.heap[gb1]? = some (.cells #[.int .i64 a1_0, .int .i64 a1_1, .slice A1_2 l1_2.length c1_2] 27 (0, 0))) (fun W' hW => (hW _ (Nat.le_of_eq hg.symm) (blk_lt hbox)).trans hbox); replace RS := (show Aside0 (Rs w _ [e1, e2]) from RS_); clear RS_; clear hbox hb hg; (try clear hz1); have hz2 := cx9 (Rs.getE RS 0 rfl Ee1); have hz3 := cx3 (Rs.getE RS 1 rfl Ee2); skip) | ((with_reducible refine gate_callee (f := 9) rfl ?_); refine goA (some 16) rfl rfl Try.func9 rfl #[.agg #[.int .i64 a0_0, .bool a0_1, .int .i64 a0_2, .int .i64 a0_3, .slice A0_4 l0_4.length c0_4, .int .i64 a0_5, .int .i64 a0_6, .int .i64 a0_7, .int .i64 a0_8], .int .i64 1048576] rfl ?_; (refine (laws_szNode.rd k a0_0 a0_1 a0_2 a0_3 _ _ _ l0_4 a0_5 a0_6 a0_7 a0_8 1048576 t0 _ ?s0 A0.out).mono ?_); (case s0 => exact HR0_4.out.below RS.out.B); rintro e w3_ ⟨rfl, hb⟩; refine ⟨_, rfl, ?_⟩; replace RS := Aside0.mk (RS.out.below hb); clear hb; (try clear hz2); (try clear hz3); have hz4 := cx9 (Rs.getE RS 0 rfl Ee1); have hz5 := cx3 (Rs.getE RS 1 rfl Ee2); skip))
  go_ret
  exact ⟨rfl, RS.out.B⟩
set_option maxHeartbeats 16000000 in
set_option maxRecDepth 100000 in
theorem laws_FnExactAddEvent.exit2 (k : Nat) (a0_0 : Int) (a0_1 : Bool) (a0_2 : Int) (a0_3 : Int) (A0_4 : Option Addr) (c0_4 : Nat) (l0_4 : List (S131)) (a0_5 : Int) (a0_6 : Int) (a0_7 : Int) (a0_8 : Int) (a1_0 : Int) (a1_1 : Int) (A1_2 : Option Addr) (c1_2 : Nat) (l1_2 : List (Int)) (t0 : Int) (t1 : Int) (w : World) (hr0_4 : Kd.C k131 w A0_4 l0_4.length l0_4) (hc0_4 : l0_4.length ≤ c0_4) (hr1_2 : Kd.C (Kd.int .u8) w A1_2 l1_2.length l1_2) (hc1_2 : l1_2.length ≤ c1_2) (h0 : laws_szNode.f k a0_0 a0_1 a0_2 a0_3 l0_4 a0_5 a0_6 a0_7 a0_8 1048576 = some t0) (NEGt0 : ¬ (t0 < 0)) (h1 : laws_szEvent.f a1_0 a1_1 l1_2 t0 = some t1) (NEGt1 : t1 < 0) :
    Calls Try.prog 3 #[.agg #[.int .i64 a0_0, .bool a0_1, .int .i64 a0_2, .int .i64 a0_3, .slice A0_4 l0_4.length c0_4, .int .i64 a0_5, .int .i64 a0_6, .int .i64 a0_7, .int .i64 a0_8], .agg #[.int .i64 a1_0, .int .i64 a1_1, .slice A1_2 l1_2.length c1_2]] w fun e w' => e = .returned (.bool true) ∧ Below w.heap.size w w' := by
  have hu24 := Try.underlying24
  have hu27 := Try.underlying27
  have HR0_4 := Aside0.mk (show Rd k131 A0_4 l0_4.length c0_4 l0_4 w from ⟨rfl, hc0_4, hr0_4⟩)
  have HR1_2 := Aside0.mk (show Rd (Kd.int .u8) A1_2 l1_2.length c1_2 l1_2 w from ⟨rfl, hc1_2, hr1_2⟩)
  clear hr0_4 hc0_4 hr1_2 hc1_2
  have fc0 : decide (t0 < 0) = false := decide_eq_false NEGt0
  have fc1 : decide (t1 < 0) = true := decide_eq_true NEGt1
  have A0 := Aside0.mk h0
  have XNEGt0 := Aside0.mk NEGt0
  have A1 := Aside0.mk h1
  have XNEGt1 := Aside0.mk NEGt1
  clear h0 NEGt0 h1 NEGt1
  have RS := Aside0.mk (Rs.start w)
  go_enter Try.func3, Try.ntmps3
  go_wp2_with (first | ((with_reducible refine gate_dst (N := 2) rfl ?_); refine boxE #[.int .i64 a0_0, .bool a0_1, .int .i64 a0_2, .int .i64 a0_3, .slice A0_4 l0_4.length c0_4, .int .i64 a0_5, .int .i64 a0_6, .int .i64 a0_7, .int .i64 a0_8] 24 (N := 2) rfl rfl ?_; intro gb0 hg w1_ hbox hb; obtain ⟨e1, Ee1, RS_⟩ := Rs.pushE RS hb (Q := fun W => W.heap[gb0]? = some (.cells #[.int .i64 a0_0, .bool a0_1, .int .i64 a0_2, .int .i64 a0_3, .slice A0_4 l0_4.length c0_4, .int .i64 a0_5, .int .i64 a0_6, .int .i64 a0_7, .int .i64 a0_8] 24 (0, 0))) (fun W' hW => (hW _ (Nat.le_of_eq hg.symm) (blk_lt hbox)).trans hbox); replace RS := (show Aside0 (Rs w _ [e1]) from RS_); clear RS_; clear hbox hb hg; have hz1 := cx9 (Rs.getE RS 0 rfl Ee1); skip) | ((with_reducible refine gate_dst (N := 3) rfl ?_); refine boxE #[.int .i64 a1_0, .int .i64 a1_1, .slice A1_2 l1_2.length c1_2] 27 (N := 3) rfl rfl ?_; intro gb1 hg w2_ hbox hb; obtain ⟨e2, Ee2, RS_⟩ := Rs.pushE RS hb (Q := fun W => W.heap[gb1]? = some (.cells #[.int .i64 a1_0, .int .i64 a1_1, .slice A1_2 l1_2.length c1_2] 27 (0, 0))) (fun W' hW => (hW _ (Nat.le_of_eq hg.symm) (blk_lt hbox)).trans hbox); replace RS := (show Aside0 (Rs w _ [e1, e2]) from RS_); clear RS_; clear hbox hb hg; (try clear hz1); have hz2 := cx9 (Rs.getE RS 0 rfl Ee1); have hz3 := cx3 (Rs.getE RS 1 rfl Ee2); skip) | ((with_reducible refine gate_callee (f := 9) rfl ?_); refine goA (some 16) rfl rfl Try.func9 rfl #[.agg #[.int .i64 a0_0, .bool a0_1, .int .i64 a0_2, .int .i64 a0_3, .slice A0_4 l0_4.length c0_4, .int .i64 a0_5, .int .i64 a0_6, .int .i64 a0_7, .int .i64 a0_8], .int .i64 1048576] rfl ?_; (refine (laws_szNode.rd k a0_0 a0_1 a0_2 a0_3 _ _ _ l0_4 a0_5 a0_6 a0_7 a0_8 1048576 t0 _ ?s0 A0.out).mono ?_); (case s0 => exact HR0_4.out.below RS.out.B); rintro e w3_ ⟨rfl, hb⟩; refine ⟨_, rfl, ?_⟩; replace RS := Aside0.mk (RS.out.below hb); clear hb; (try clear hz2); (try clear hz3); have hz4 := cx9 (Rs.getE RS 0 rfl Ee1); have hz5 := cx3 (Rs.getE RS 1 rfl Ee2); skip) | ((with_reducible refine gate_callee (f := 10) rfl ?_); refine goA (some 21) rfl rfl Try.func10 rfl #[.agg #[.int .i64 a1_0, .int .i64 a1_1, .slice A1_2 l1_2.length c1_2], .int .i64 t0] rfl ?_; (refine (laws_szEvent.rd k a1_0 a1_1 _ _ _ l1_2 t0 t1 _ ?s0 A1.out).mono ?_); (case s0 => exact HR1_2.out.below RS.out.B); rintro e w4_ ⟨rfl, hb⟩; refine ⟨_, rfl, ?_⟩; replace RS := Aside0.mk (RS.out.below hb); clear hb; (try clear hz4); (try clear hz5); have hz6 := cx9 (Rs.getE RS 0 rfl Ee1); have hz7 := cx3 (Rs.getE RS 1 rfl Ee2); skip))
  go_ret
  exact ⟨rfl, RS.out.B⟩
set_option maxHeartbeats 16000000 in
set_option maxRecDepth 100000 in
theorem laws_FnExactAddEvent.good (k : Nat) (a0_0 : Int) (a0_1 : Bool) (a0_2 : Int) (a0_3 : Int) (A0_4 : Option Addr) (c0_4 : Nat) (l0_4 : List (S131)) (a0_5 : Int) (a0_6 : Int) (a0_7 : Int) (a0_8 : Int) (a1_0 : Int) (a1_1 : Int) (A1_2 : Option Addr) (c1_2 : Nat) (l1_2 : List (Int)) (t0 : Int) (t1 : Int) (t2_0 : Int) (t2_1 : Bool) (t2_2 : Int) (t2_3 : Int) (t2_4 : List (S55)) (t2_5 : Int) (t2_6 : Int) (t2_7 : Int) (t2_8 : Int) (t3_0 : Int) (t3_1 : Int) (t3_2 : List (Int)) (t4_0 : Int) (t4_1 : Int) (t4_2 : Bool) (t4_3 : Int) (t4_4 : Int) (t4_5 : List (S55)) (t4_6 : Int) (t4_7 : Int) (t4_8 : Int) (t4_9 : Int) (t5_0 : Int) (t5_1 : Int) (t5_2 : Bool) (t5_3 : Int) (t5_4 : Int) (t5_5 : List (S55)) (t5_6 : Int) (t5_7 : Int) (t5_8 : Int) (t5_9 : Int) (t9 : Int) (t9_4 : List (S55)) (t10 : Int) (t10_2 : List (Int)) (t11 : Int) (t11_5 : List (S55)) (t12 : Int) (w : World) (hr0_4 : Kd.C k131 w A0_4 l0_4.length l0_4) (hc0_4 : l0_4.length ≤ c0_4) (hr1_2 : Kd.C (Kd.int .u8) w A1_2 l1_2.length l1_2) (hc1_2 : l1_2.length ≤ c1_2) (h0 : laws_szNode.f k a0_0 a0_1 a0_2 a0_3 l0_4 a0_5 a0_6 a0_7 a0_8 1048576 = some t0) (NEGt0 : ¬ (t0 < 0)) (h1 : laws_szEvent.f a1_0 a1_1 l1_2 t0 = some t1) (NEGt1 : ¬ (t1 < 0)) (h2 : laws_toNode.f k a0_0 a0_1 a0_2 a0_3 l0_4 a0_5 a0_6 a0_7 a0_8 = some (t2_0, t2_1, t2_2, t2_3, t2_4, t2_5, t2_6, t2_7, t2_8)) (h3 : laws_toEvent.f k a1_0 a1_1 l1_2 = some (t3_0, t3_1, t3_2)) (h4 : spec_AddEvent.f k t2_0 t2_1 t2_2 t2_3 t2_4 t2_5 t2_6 t2_7 t2_8 t3_0 t3_1 t3_2 = some (t4_0, t4_1, t4_2, t4_3, t4_4, t4_5, t4_6, t4_7, t4_8, t4_9, [])) (h5 : impl_AddEvent.f k t2_0 t2_1 t2_2 t2_3 t2_4 t2_5 t2_6 t2_7 t2_8 t3_0 t3_1 t3_2 = some (t5_0, t5_1, t5_2, t5_3, t5_4, t5_5, t5_6, t5_7, t5_8, t5_9, [])) (h6 : laws_eqNodeResult.f k t5_0 t5_1 t5_2 t5_3 t5_4 t5_5 t5_6 t5_7 t5_8 t5_9 [] t4_0 t4_1 t4_2 t4_3 t4_4 t4_5 t4_6 t4_7 t4_8 t4_9 [] = some true) (h7 : laws_eqNode.f k t2_0 t2_1 t2_2 t2_3 t2_4 t2_5 t2_6 t2_7 t2_8 t2_0 t2_1 t2_2 t2_3 t2_4 t2_5 t2_6 t2_7 t2_8 = some true) (h8 : laws_eqEvent.f k t3_0 t3_1 t3_2 t3_0 t3_1 t3_2 = some true) (h9 : laws_markNode.f k t2_0 t2_1 t2_2 t2_3 t2_4 t2_5 t2_6 t2_7 t2_8 1 = some (t9, t9_4)) (h10 : laws_markEvent.f k t3_0 t3_1 t3_2 t9 = some (t10, t10_2)) (NEGt10 : ¬ t10 < 0) (h11 : laws_markNodeResult.f k t5_0 t5_1 t5_2 t5_3 t5_4 t5_5 t5_6 t5_7 t5_8 t5_9 [] 1 = some (t11, t11_5, [])) (h12 : laws_heldNodeResult.f k t5_0 t5_1 t5_2 t5_3 t5_4 t11_5 t5_6 t5_7 t5_8 t5_9 [] 1 = some t12) (NEGt12 : ¬ t12 < 0) (SAMEt12 : t12 = t11) :
    Calls Try.prog 3 #[.agg #[.int .i64 a0_0, .bool a0_1, .int .i64 a0_2, .int .i64 a0_3, .slice A0_4 l0_4.length c0_4, .int .i64 a0_5, .int .i64 a0_6, .int .i64 a0_7, .int .i64 a0_8], .agg #[.int .i64 a1_0, .int .i64 a1_1, .slice A1_2 l1_2.length c1_2]] w fun e w' => e = .returned (.bool true) ∧ Below w.heap.size w w' := by
  have hu24 := Try.underlying24
  have hu27 := Try.underlying27
  have hu32 := Try.underlying32
  have hu35 := Try.underlying35
  have hu38 := Try.underlying38
  have HR0_4 := Aside0.mk (show Rd k131 A0_4 l0_4.length c0_4 l0_4 w from ⟨rfl, hc0_4, hr0_4⟩)
  have HR1_2 := Aside0.mk (show Rd (Kd.int .u8) A1_2 l1_2.length c1_2 l1_2 w from ⟨rfl, hc1_2, hr1_2⟩)
  clear hr0_4 hc0_4 hr1_2 hc1_2
  have fc0 : decide (t0 < 0) = false := decide_eq_false NEGt0
  have fc1 : decide (t1 < 0) = false := decide_eq_false NEGt1
  have fc2 : decide (t10 < 0) = false := decide_eq_false NEGt10
  have fc3 : decide (t12 < 0) = false := decide_eq_false NEGt12
  have fc4 : (t12 != t11) = false := bne_eq_false_iff_eq.mpr SAMEt12
  have A0 := Aside0.mk h0
  have XNEGt0 := Aside0.mk NEGt0
  have A1 := Aside0.mk h1
  have XNEGt1 := Aside0.mk NEGt1
  have A2 := Aside0.mk h2
  have A3 := Aside0.mk h3
  have A4 := Aside0.mk h4
  have A5 := Aside0.mk h5
  have A6 := Aside0.mk h6
  have A7 := Aside0.mk h7
  have A8 := Aside0.mk h8
  have A9 := Aside0.mk h9
  have A10 := Aside0.mk h10
  have XNEGt10 := Aside0.mk NEGt10
  have A11 := Aside0.mk h11
  have A12 := Aside0.mk h12
  have XNEGt12 := Aside0.mk NEGt12
  have XSAMEt12 := Aside0.mk SAMEt12
  clear h0 NEGt0 h1 NEGt1 h2 h3 h4 h5 h6 h7 h8 h9 h10 NEGt10 h11 h12 NEGt12 SAMEt12
  have RS := Aside0.mk (Rs.start w)
  go_enter Try.func3, Try.ntmps3
  go_wp2_with (first | ((with_reducible refine gate_dst (N := 2) rfl ?_); refine boxE #[.int .i64 a0_0, .bool a0_1, .int .i64 a0_2, .int .i64 a0_3, .slice A0_4 l0_4.length c0_4, .int .i64 a0_5, .int .i64 a0_6, .int .i64 a0_7, .int .i64 a0_8] 24 (N := 2) rfl rfl ?_; intro gb0 hg w1_ hbox hb; obtain ⟨e1, Ee1, RS_⟩ := Rs.pushE RS hb (Q := fun W => W.heap[gb0]? = some (.cells #[.int .i64 a0_0, .bool a0_1, .int .i64 a0_2, .int .i64 a0_3, .slice A0_4 l0_4.length c0_4, .int .i64 a0_5, .int .i64 a0_6, .int .i64 a0_7, .int .i64 a0_8] 24 (0, 0))) (fun W' hW => (hW _ (Nat.le_of_eq hg.symm) (blk_lt hbox)).trans hbox); replace RS := (show Aside0 (Rs w _ [e1]) from RS_); clear RS_; clear hbox hb hg; have hz1 := cx9 (Rs.getE RS 0 rfl Ee1); skip) | ((with_reducible refine gate_dst (N := 3) rfl ?_); refine boxE #[.int .i64 a1_0, .int .i64 a1_1, .slice A1_2 l1_2.length c1_2] 27 (N := 3) rfl rfl ?_; intro gb1 hg w2_ hbox hb; obtain ⟨e2, Ee2, RS_⟩ := Rs.pushE RS hb (Q := fun W => W.heap[gb1]? = some (.cells #[.int .i64 a1_0, .int .i64 a1_1, .slice A1_2 l1_2.length c1_2] 27 (0, 0))) (fun W' hW => (hW _ (Nat.le_of_eq hg.symm) (blk_lt hbox)).trans hbox); replace RS := (show Aside0 (Rs w _ [e1, e2]) from RS_); clear RS_; clear hbox hb hg; (try clear hz1); have hz2 := cx9 (Rs.getE RS 0 rfl Ee1); have hz3 := cx3 (Rs.getE RS 1 rfl Ee2); skip) | ((with_reducible refine gate_callee (f := 9) rfl ?_); refine goA (some 16) rfl rfl Try.func9 rfl #[.agg #[.int .i64 a0_0, .bool a0_1, .int .i64 a0_2, .int .i64 a0_3, .slice A0_4 l0_4.length c0_4, .int .i64 a0_5, .int .i64 a0_6, .int .i64 a0_7, .int .i64 a0_8], .int .i64 1048576] rfl ?_; (refine (laws_szNode.rd k a0_0 a0_1 a0_2 a0_3 _ _ _ l0_4 a0_5 a0_6 a0_7 a0_8 1048576 t0 _ ?s0 A0.out).mono ?_); (case s0 => exact HR0_4.out.below RS.out.B); rintro e w3_ ⟨rfl, hb⟩; refine ⟨_, rfl, ?_⟩; replace RS := Aside0.mk (RS.out.below hb); clear hb; (try clear hz2); (try clear hz3); have hz4 := cx9 (Rs.getE RS 0 rfl Ee1); have hz5 := cx3 (Rs.getE RS 1 rfl Ee2); skip) | ((with_reducible refine gate_callee (f := 10) rfl ?_); refine goA (some 21) rfl rfl Try.func10 rfl #[.agg #[.int .i64 a1_0, .int .i64 a1_1, .slice A1_2 l1_2.length c1_2], .int .i64 t0] rfl ?_; (refine (laws_szEvent.rd k a1_0 a1_1 _ _ _ l1_2 t0 t1 _ ?s0 A1.out).mono ?_); (case s0 => exact HR1_2.out.below RS.out.B); rintro e w4_ ⟨rfl, hb⟩; refine ⟨_, rfl, ?_⟩; replace RS := Aside0.mk (RS.out.below hb); clear hb; (try clear hz4); (try clear hz5); have hz6 := cx9 (Rs.getE RS 0 rfl Ee1); have hz7 := cx3 (Rs.getE RS 1 rfl Ee2); skip))
  replace RS := Aside0.mk (Rs.drew RS.out)
  refine start_ (n := 7) (S := fun w' => (w'.cell? ⟨gb0, 0, none⟩ = some (.int .i64 a0_0) ∧ w'.cell? ⟨gb0, 1, none⟩ = some (.bool a0_1) ∧ w'.cell? ⟨gb0, 2, none⟩ = some (.int .i64 a0_2) ∧ w'.cell? ⟨gb0, 3, none⟩ = some (.int .i64 a0_3) ∧ w'.cell? ⟨gb0, 4, none⟩ = some (.slice A0_4 l0_4.length c0_4) ∧ w'.cell? ⟨gb0, 5, none⟩ = some (.int .i64 a0_5) ∧ w'.cell? ⟨gb0, 6, none⟩ = some (.int .i64 a0_6) ∧ w'.cell? ⟨gb0, 7, none⟩ = some (.int .i64 a0_7) ∧ w'.cell? ⟨gb0, 8, none⟩ = some (.int .i64 a0_8)) ∧ (w'.cell? ⟨gb1, 0, none⟩ = some (.int .i64 a1_0) ∧ w'.cell? ⟨gb1, 1, none⟩ = some (.int .i64 a1_1) ∧ w'.cell? ⟨gb1, 2, none⟩ = some (.slice A1_2 l1_2.length c1_2))) (ds := []) #[false, false, false, false, false, false, false] (by kernel_rfl) rfl rfl ⟨cs9 (Rs.getE RS 0 rfl Ee1), cs3 (Rs.getE RS 1 rfl Ee2)⟩ (fun hHeld => ?_)
  generalize w4_.drew = w5_ at RS hHeld ⊢
  refine take_ (i := 0) (N := some 24) (v := ?_) (a' := ?_) #[true, false, false, false, false, false, false] rfl rfl (by kernel_rfl) (fun _ _ _ h => h) (Or.inl ⟨by rfl, ?_⟩) hHeld ?_ ?_
  rotate_left
  · rintro w' ⟨⟨s0, s1, s2, s3, s4, s5, s6, s7, s8⟩, ⟨s9, s10, s11⟩⟩
    go_simp
    with_reducible rfl
  rotate_left
  · simp only [Act.put, List.setIfInBounds_toArray, List.set_cons_zero, List.set_cons_succ, i64_w, i32_w]
    rfl
  refine take_ (i := 2) (N := some 26) (v := ?_) (a' := ?_) #[true, false, true, false, false, false, false] rfl rfl (by kernel_rfl) (fun _ _ _ h => h) (Or.inl ⟨by rfl, ?_⟩) hHeld ?_ ?_
  rotate_left
  · rintro w' ⟨⟨s0, s1, s2, s3, s4, s5, s6, s7, s8⟩, ⟨s9, s10, s11⟩⟩
    go_simp
    with_reducible rfl
  rotate_left
  · simp only [Act.put, List.setIfInBounds_toArray, List.set_cons_zero, List.set_cons_succ, i64_w, i32_w]
    rfl
  refine join_ (σ := Option Addr × Nat × Nat × Option Addr × Nat × Nat × Option Addr × Nat × Nat × Option Addr × Nat × Nat × Nat) 0 #[true, true, true, true, true, true, true] (fun s => [(25, .agg #[.int .i64 t2_0, .bool t2_1, .int .i64 t2_2, .int .i64 t2_3, .slice s.1 s.2.1 s.2.2.1, .int .i64 t2_5, .int .i64 t2_6, .int .i64 t2_7, .int .i64 t2_8]), (27, .agg #[.int .i64 t3_0, .int .i64 t3_1, .slice s.2.2.2.1 s.2.2.2.2.1 s.2.2.2.2.2.1]), (28, .agg #[.int .i64 t4_0, .int .i64 t4_1, .bool t4_2, .int .i64 t4_3, .int .i64 t4_4, .slice s.2.2.2.2.2.2.1 s.2.2.2.2.2.2.2.1 s.2.2.2.2.2.2.2.2.1, .int .i64 t4_6, .int .i64 t4_7, .int .i64 t4_8, .int .i64 t4_9, .slice s.2.2.2.2.2.2.2.2.2.1 s.2.2.2.2.2.2.2.2.2.2.1 s.2.2.2.2.2.2.2.2.2.2.2.1]), (6, .pointer (some ⟨s.2.2.2.2.2.2.2.2.2.2.2.2, 0, none⟩))]) (fun s w' => ∃ lo2 hi2 lo3 hi3 lo4 hi4 lo5 hi5 : Nat, Rs w w' ([e1, e2] ++ [(lo2, hi2, fun W => OwnT32 w.heap.size lo2 hi2 (.slice s.1 s.2.1 s.2.2.1) t2_4 W)] ++ [(lo3, hi3, fun W => OwnT38 w.heap.size lo3 hi3 (.slice s.2.2.2.1 s.2.2.2.2.1 s.2.2.2.2.2.1) t3_2 W)] ++ [(lo4, hi4, fun W => OwnT35 w.heap.size lo4 hi4 (.slice s.2.2.2.2.2.2.1 s.2.2.2.2.2.2.2.1 s.2.2.2.2.2.2.2.2.1) t4_5 (.slice s.2.2.2.2.2.2.2.2.2.1 s.2.2.2.2.2.2.2.2.2.2.1 s.2.2.2.2.2.2.2.2.2.2.2.1) [] W)] ++ [(lo5, hi5, fun W => W.heap[s.2.2.2.2.2.2.2.2.2.2.2.2]? = some (.cells #[.int .i64 t4_0, .int .i64 t4_1, .bool t4_2, .int .i64 t4_3, .int .i64 t4_4, .slice s.2.2.2.2.2.2.1 s.2.2.2.2.2.2.2.1 s.2.2.2.2.2.2.2.2.1, .int .i64 t4_6, .int .i64 t4_7, .int .i64 t4_8, .int .i64 t4_9, .slice s.2.2.2.2.2.2.2.2.2.1 s.2.2.2.2.2.2.2.2.2.2.1 s.2.2.2.2.2.2.2.2.2.2.2.1] 35 (0, 0)))])) ?cont6 (fun hJ => ?_)
  rotate_left
  · skip
    refine two_ (i := 1) (j := 5) (Ni := some 25) (Nj := some 6) #[true, true, true, false, false, false, false] #[true, false, true, false, false, true, false] rfl rfl rfl rfl (by kernel_rfl) (by decide) (by decide) (fun K hK => ?_) (fun K hK => ?_)
    · refine goes_ Try.func12 (by kernel_rfl) rfl #[.agg #[.int .i64 a0_0, .bool a0_1, .int .i64 a0_2, .int .i64 a0_3, .slice A0_4 l0_4.length c0_4, .int .i64 a0_5, .int .i64 a0_6, .int .i64 a0_7, .int .i64 a0_8]] (by rfl) rfl rfl (by (try simp only [List.map_toArray, List.map_cons, List.map_nil]); first | done | rfl) ?_
      (refine (laws_toNode.own k w.heap.size a0_0 a0_1 a0_2 a0_3 _ _ _ l0_4 a0_5 a0_6 a0_7 a0_8 t2_0 t2_1 t2_2 t2_3 t2_4 t2_5 t2_6 t2_7 t2_8 _ ?sB ?s0 A2.out).mono ?_)
      (case sB => exact RS.out.B.size)
      (case s0 => exact HR0_4.out.below RS.out.B)
      rintro e w6_ ⟨A2_4, n2_4, c2_4, rfl, hq, hb⟩; refine ⟨_, rfl, ?_⟩; obtain ⟨e3, Ee3, RS_⟩ := Rs.pushE RS hb hq; replace RS := (show Aside0 (Rs w _ [e1, e2, e3]) from RS_); clear RS_; clear hq hb
      refine hK.out _ _ ⟨cs9 (Rs.getE RS 0 rfl Ee1), cs3 (Rs.getE RS 1 rfl Ee2)⟩ (fun hHeld => ?_)
      clear hK K
      refine norm_ (a' := ?_) ?_ ?_
      rotate_left
      · show Act.put _ (some 25) _ = _
        simp only [Act.put, List.setIfInBounds_toArray, List.set_cons_zero, List.set_cons_succ, i64_w, i32_w]
        rfl
      refine two_ (i := 3) (j := 5) (Ni := some 27) (Nj := some 6) #[true, true, true, true, false, false, false] #[true, true, true, false, false, true, false] rfl rfl rfl rfl (by kernel_rfl) (by decide) (by decide) (fun K hK => ?_) (fun K hK => ?_)
      · refine goes_ Try.func13 (by kernel_rfl) rfl #[.agg #[.int .i64 a1_0, .int .i64 a1_1, .slice A1_2 l1_2.length c1_2]] (by rfl) rfl rfl (by (try simp only [List.map_toArray, List.map_cons, List.map_nil]); first | done | rfl) ?_
        (refine (laws_toEvent.own k w.heap.size a1_0 a1_1 _ _ _ l1_2 t3_0 t3_1 t3_2 _ ?sB ?s0 A3.out).mono ?_)
        (case sB => exact RS.out.B.size)
        (case s0 => exact HR1_2.out.below RS.out.B)
        rintro e w7_ ⟨A3_2, n3_2, c3_2, rfl, hq, hb⟩; refine ⟨_, rfl, ?_⟩; obtain ⟨e4, Ee4, RS_⟩ := Rs.pushE RS hb hq; replace RS := (show Aside0 (Rs w _ [e1, e2, e3, e4]) from RS_); clear RS_; clear hq hb
        refine hK.out _ _ ⟨cs9 (Rs.getE RS 0 rfl Ee1), cs3 (Rs.getE RS 1 rfl Ee2)⟩ (fun hHeld => ?_)
        clear hK K
        refine norm_ (a' := ?_) ?_ ?_
        rotate_left
        · show Act.put _ (some 27) _ = _
          simp only [Act.put, List.setIfInBounds_toArray, List.set_cons_zero, List.set_cons_succ, i64_w, i32_w]
          rfl
        refine two_ (i := 4) (j := 5) (Ni := some 28) (Nj := some 6) #[true, true, true, true, true, false, false] #[true, true, true, true, false, true, false] rfl rfl rfl rfl (by kernel_rfl) (by decide) (by decide) (fun K hK => ?_) (fun K hK => ?_)
        · refine goes_ Try.func11 (by kernel_rfl) rfl #[.agg #[.int .i64 t2_0, .bool t2_1, .int .i64 t2_2, .int .i64 t2_3, .slice A2_4 n2_4 c2_4, .int .i64 t2_5, .int .i64 t2_6, .int .i64 t2_7, .int .i64 t2_8], .agg #[.int .i64 t3_0, .int .i64 t3_1, .slice A3_2 n3_2 c3_2]] (by rfl) rfl rfl (by (try simp only [List.map_toArray, List.map_cons, List.map_nil]); first | done | rfl) ?_
          (refine (spec_AddEvent.own k w.heap.size t2_0 t2_1 t2_2 t2_3 _ _ _ t2_4 t2_5 t2_6 t2_7 t2_8 t3_0 t3_1 _ _ _ t3_2 t4_0 t4_1 t4_2 t4_3 t4_4 t4_5 t4_6 t4_7 t4_8 t4_9 _ ?sB ?s0 ?s1 A4.out).mono ?_)
          (case sB => exact RS.out.B.size)
          (case s0 => exact OwnT32.rd4 _ _ _ _ _ _ _ _ (Rs.getE RS 2 rfl Ee3))
          (case s1 => exact OwnT38.rd2 _ _ _ _ _ _ _ _ (Rs.getE RS 3 rfl Ee4))
          rintro e w8_ ⟨A4_5, n4_5, c4_5, A4_10, n4_10, c4_10, rfl, hq, hb⟩; refine ⟨_, rfl, ?_⟩; obtain ⟨e5, Ee5, RS_⟩ := Rs.pushE RS hb hq; replace RS := (show Aside0 (Rs w _ [e1, e2, e3, e4, e5]) from RS_); clear RS_; clear hq hb
          refine hK.out _ _ ⟨cs9 (Rs.getE RS 0 rfl Ee1), cs3 (Rs.getE RS 1 rfl Ee2)⟩ (fun hHeld => ?_)
          clear hK K
          refine norm_ (a' := ?_) ?_ ?_
          rotate_left
          · show Act.put _ (some 28) _ = _
            simp only [Act.put, List.setIfInBounds_toArray, List.set_cons_zero, List.set_cons_succ, i64_w, i32_w]
            rfl
          refine one_ (i := 5) (N := some 6) #[true, true, true, true, true, true, false] rfl rfl (by kernel_rfl) (by decide) (fun K hK => ?_)
          refine box_step (N := 6) (by rfl) rfl (cs := #[.int .i64 0, .int .i64 0, .bool false, .int .i64 0, .int .i64 0, .slice none 0 0, .int .i64 0, .int .i64 0, .int .i64 0, .int .i64 0, .slice none 0 0]) (t := 35) (by first | (go_simp; done) | (go_simp; rfl)) ?_
          intro gb_ hg w9_ hbox hb
          have HGB := Aside0.mk (show w.heap.size ≤ gb_ from by rw [hg]; exact RS.out.B.size)
          have HLO := Aside0.mk (show w8_.heap.size ≤ gb_ ∧ gb_ < w9_.heap.size from ⟨Nat.le_of_eq hg.symm, blk_lt hbox⟩)
          obtain ⟨e6, Ee6, RS_⟩ := Rs.pushE RS hb (Q := fun W => W.heap[gb_]? = some (.cells #[.int .i64 0, .int .i64 0, .bool false, .int .i64 0, .int .i64 0, .slice none 0 0, .int .i64 0, .int .i64 0, .int .i64 0, .int .i64 0, .slice none 0 0] 35 (0, 0))) (fun W' hW => (hW _ (Nat.le_of_eq hg.symm) (blk_lt hbox)).trans hbox); replace RS := (show Aside0 (Rs w _ [e1, e2, e3, e4, e5, e6]) from RS_); clear RS_
          clear hbox hb hg
          refine hK.out _ _ ⟨cs9 (Rs.getE RS 0 rfl Ee1), cs3 (Rs.getE RS 1 rfl Ee2)⟩ (fun hHeld => ?_)
          clear hK K
          refine norm_ (a' := ?_) ?_ ?_
          rotate_left
          · show Act.put _ (some 6) _ = _
            simp only [Act.put, List.setIfInBounds_toArray, List.set_cons_zero, List.set_cons_succ, i64_w, i32_w]
            rfl
          refine one_ (i := 6) (N := none) #[true, true, true, true, true, true, true] rfl rfl (by kernel_rfl) (by decide) (fun K hK => ?_)
          have HBX := Aside0.mk (show w9_.heap[gb_]? = some (.cells #[.int .i64 0, .int .i64 0, .bool false, .int .i64 0, .int .i64 0, .slice none 0 0, .int .i64 0, .int .i64 0, .int .i64 0, .int .i64 0, .slice none 0 0] 35 (0, 0)) from (Rs.getE RS 5 rfl Ee6))
          have hzX := cl_11 HBX
          refine store_step (((((((((((w9_.setCell ⟨gb_, 0, none⟩ (.int .i64 t4_0)).setCell ⟨gb_, 1, none⟩ (.int .i64 t4_1)).setCell ⟨gb_, 2, none⟩ (.bool t4_2)).setCell ⟨gb_, 3, none⟩ (.int .i64 t4_3)).setCell ⟨gb_, 4, none⟩ (.int .i64 t4_4)).setCell ⟨gb_, 5, none⟩ (.slice A4_5 n4_5 c4_5)).setCell ⟨gb_, 6, none⟩ (.int .i64 t4_6)).setCell ⟨gb_, 7, none⟩ (.int .i64 t4_7)).setCell ⟨gb_, 8, none⟩ (.int .i64 t4_8)).setCell ⟨gb_, 9, none⟩ (.int .i64 t4_9)).setCell ⟨gb_, 10, none⟩ (.slice A4_10 n4_10 c4_10)) (by rfl) rfl (by first | (go_simp; done) | (go_simp; rfl)) ?_
          intro w10_ hw
          have hb : Below w.heap.size w w10_ := (by rw [hw]; repeat (with_reducible first | exact RS.out.B | refine below_set ?_ HGB.out))
          have hk : Kept w9_ w10_ (fun k => w8_.heap.size ≤ k ∧ k < w9_.heap.size) := (by rw [hw]; repeat (with_reducible first | exact Kept.refl _ _ | refine Kept.setCell ?_ (.inl HLO.out) _))
          have hbox : w10_.heap[gb_]? = some (.cells #[.int .i64 t4_0, .int .i64 t4_1, .bool t4_2, .int .i64 t4_3, .int .i64 t4_4, .slice A4_5 n4_5 c4_5, .int .i64 t4_6, .int .i64 t4_7, .int .i64 t4_8, .int .i64 t4_9, .slice A4_10 n4_10 c4_10] 35 (0, 0)) := (by rw [hw]; exact mP HBX)
          obtain ⟨e7, Ee7, RS_⟩ := Rs.updE RS 5 rfl Ee6 (Q1 := fun W => W.heap[gb_]? = some (.cells #[.int .i64 t4_0, .int .i64 t4_1, .bool t4_2, .int .i64 t4_3, .int .i64 t4_4, .slice A4_5 n4_5 c4_5, .int .i64 t4_6, .int .i64 t4_7, .int .i64 t4_8, .int .i64 t4_9, .slice A4_10 n4_10 c4_10] 35 (0, 0))) hb hk (fun W' hW => (hW _ HLO.out.1 HLO.out.2).trans hbox); replace RS := (show Aside0 (Rs w _ [e1, e2, e3, e4, e5, e7]) from RS_); clear RS_
          clear HBX hzX hbox hb hk hw
          refine hK.out _ _ ⟨cs9 (Rs.getE RS 0 rfl Ee1), cs3 (Rs.getE RS 1 rfl Ee2)⟩ (fun hHeld => ?_)
          clear hK K
          refine norm_ (a' := ?_) ?_ ?_
          rotate_left
          · show Act.put _ none _ = _
            simp only [Act.put]
            rfl
          obtain rfl := Ee3.out; obtain rfl := Ee4.out; obtain rfl := Ee5.out; obtain rfl := Ee7.out; exact norm_ rfl (hJ (A2_4, n2_4, c2_4, A3_2, n3_2, c3_2, A4_5, n4_5, c4_5, A4_10, n4_10, c4_10, gb_) _ ⟨_, _, _, _, _, _, _, _, RS.out⟩)
        · refine box_step (N := 6) (by rfl) rfl (cs := #[.int .i64 0, .int .i64 0, .bool false, .int .i64 0, .int .i64 0, .slice none 0 0, .int .i64 0, .int .i64 0, .int .i64 0, .int .i64 0, .slice none 0 0]) (t := 35) (by first | (go_simp; done) | (go_simp; rfl)) ?_
          intro gb_ hg w11_ hbox hb
          have HGB := Aside0.mk (show w.heap.size ≤ gb_ from by rw [hg]; exact RS.out.B.size)
          have HLO := Aside0.mk (show w7_.heap.size ≤ gb_ ∧ gb_ < w11_.heap.size from ⟨Nat.le_of_eq hg.symm, blk_lt hbox⟩)
          obtain ⟨e8, Ee8, RS_⟩ := Rs.pushE RS hb (Q := fun W => W.heap[gb_]? = some (.cells #[.int .i64 0, .int .i64 0, .bool false, .int .i64 0, .int .i64 0, .slice none 0 0, .int .i64 0, .int .i64 0, .int .i64 0, .int .i64 0, .slice none 0 0] 35 (0, 0))) (fun W' hW => (hW _ (Nat.le_of_eq hg.symm) (blk_lt hbox)).trans hbox); replace RS := (show Aside0 (Rs w _ [e1, e2, e3, e4, e8]) from RS_); clear RS_
          clear hbox hb hg
          refine hK.out _ _ ⟨cs9 (Rs.getE RS 0 rfl Ee1), cs3 (Rs.getE RS 1 rfl Ee2)⟩ (fun hHeld => ?_)
          clear hK K
          refine norm_ (a' := ?_) ?_ ?_
          rotate_left
          · show Act.put _ (some 6) _ = _
            simp only [Act.put, List.setIfInBounds_toArray, List.set_cons_zero, List.set_cons_succ, i64_w, i32_w]
            rfl
          refine one_ (i := 4) (N := some 28) #[true, true, true, true, true, true, false] rfl rfl (by kernel_rfl) (by decide) (fun K hK => ?_)
          refine goes_ Try.func11 (by kernel_rfl) rfl #[.agg #[.int .i64 t2_0, .bool t2_1, .int .i64 t2_2, .int .i64 t2_3, .slice A2_4 n2_4 c2_4, .int .i64 t2_5, .int .i64 t2_6, .int .i64 t2_7, .int .i64 t2_8], .agg #[.int .i64 t3_0, .int .i64 t3_1, .slice A3_2 n3_2 c3_2]] (by rfl) rfl rfl (by (try simp only [List.map_toArray, List.map_cons, List.map_nil]); first | done | rfl) ?_
          (refine (spec_AddEvent.own k w.heap.size t2_0 t2_1 t2_2 t2_3 _ _ _ t2_4 t2_5 t2_6 t2_7 t2_8 t3_0 t3_1 _ _ _ t3_2 t4_0 t4_1 t4_2 t4_3 t4_4 t4_5 t4_6 t4_7 t4_8 t4_9 _ ?sB ?s0 ?s1 A4.out).mono ?_)
          (case sB => exact RS.out.B.size)
          (case s0 => exact OwnT32.rd4 _ _ _ _ _ _ _ _ (Rs.getE RS 2 rfl Ee3))
          (case s1 => exact OwnT38.rd2 _ _ _ _ _ _ _ _ (Rs.getE RS 3 rfl Ee4))
          rintro e w12_ ⟨A4_5, n4_5, c4_5, A4_10, n4_10, c4_10, rfl, hq, hb⟩; refine ⟨_, rfl, ?_⟩; obtain ⟨e9, Ee9, RS_⟩ := Rs.pushE RS hb hq; replace RS := (show Aside0 (Rs w _ [e1, e2, e3, e4, e8, e9]) from RS_); clear RS_; replace RS := Aside0.mk (show Rs w _ [e1, e2, e3, e4, e9, e8] from Rs.swap (L := [e1, e2, e3, e4]) (x := e8) (y := e9) RS.out); clear hq hb
          refine hK.out _ _ ⟨cs9 (Rs.getE RS 0 rfl Ee1), cs3 (Rs.getE RS 1 rfl Ee2)⟩ (fun hHeld => ?_)
          clear hK K
          refine norm_ (a' := ?_) ?_ ?_
          rotate_left
          · show Act.put _ (some 28) _ = _
            simp only [Act.put, List.setIfInBounds_toArray, List.set_cons_zero, List.set_cons_succ, i64_w, i32_w]
            rfl
          refine one_ (i := 6) (N := none) #[true, true, true, true, true, true, true] rfl rfl (by kernel_rfl) (by decide) (fun K hK => ?_)
          have HBX := Aside0.mk (show w12_.heap[gb_]? = some (.cells #[.int .i64 0, .int .i64 0, .bool false, .int .i64 0, .int .i64 0, .slice none 0 0, .int .i64 0, .int .i64 0, .int .i64 0, .int .i64 0, .slice none 0 0] 35 (0, 0)) from (Rs.getE RS 5 rfl Ee8))
          have hzX := cl_11 HBX
          refine store_step (((((((((((w12_.setCell ⟨gb_, 0, none⟩ (.int .i64 t4_0)).setCell ⟨gb_, 1, none⟩ (.int .i64 t4_1)).setCell ⟨gb_, 2, none⟩ (.bool t4_2)).setCell ⟨gb_, 3, none⟩ (.int .i64 t4_3)).setCell ⟨gb_, 4, none⟩ (.int .i64 t4_4)).setCell ⟨gb_, 5, none⟩ (.slice A4_5 n4_5 c4_5)).setCell ⟨gb_, 6, none⟩ (.int .i64 t4_6)).setCell ⟨gb_, 7, none⟩ (.int .i64 t4_7)).setCell ⟨gb_, 8, none⟩ (.int .i64 t4_8)).setCell ⟨gb_, 9, none⟩ (.int .i64 t4_9)).setCell ⟨gb_, 10, none⟩ (.slice A4_10 n4_10 c4_10)) (by rfl) rfl (by first | (go_simp; done) | (go_simp; rfl)) ?_
          intro w13_ hw
          have hb : Below w.heap.size w w13_ := (by rw [hw]; repeat (with_reducible first | exact RS.out.B | refine below_set ?_ HGB.out))
          have hk : Kept w12_ w13_ (fun k => w7_.heap.size ≤ k ∧ k < w11_.heap.size) := (by rw [hw]; repeat (with_reducible first | exact Kept.refl _ _ | refine Kept.setCell ?_ (.inl HLO.out) _))
          have hbox : w13_.heap[gb_]? = some (.cells #[.int .i64 t4_0, .int .i64 t4_1, .bool t4_2, .int .i64 t4_3, .int .i64 t4_4, .slice A4_5 n4_5 c4_5, .int .i64 t4_6, .int .i64 t4_7, .int .i64 t4_8, .int .i64 t4_9, .slice A4_10 n4_10 c4_10] 35 (0, 0)) := (by rw [hw]; exact mP HBX)
          obtain ⟨e10, Ee10, RS_⟩ := Rs.updE RS 5 rfl Ee8 (Q1 := fun W => W.heap[gb_]? = some (.cells #[.int .i64 t4_0, .int .i64 t4_1, .bool t4_2, .int .i64 t4_3, .int .i64 t4_4, .slice A4_5 n4_5 c4_5, .int .i64 t4_6, .int .i64 t4_7, .int .i64 t4_8, .int .i64 t4_9, .slice A4_10 n4_10 c4_10] 35 (0, 0))) hb hk (fun W' hW => (hW _ HLO.out.1 HLO.out.2).trans hbox); replace RS := (show Aside0 (Rs w _ [e1, e2, e3, e4, e9, e10]) from RS_); clear RS_
          clear HBX hzX hbox hb hk hw
          refine hK.out _ _ ⟨cs9 (Rs.getE RS 0 rfl Ee1), cs3 (Rs.getE RS 1 rfl Ee2)⟩ (fun hHeld => ?_)
          clear hK K
          refine norm_ (a' := ?_) ?_ ?_
          rotate_left
          · show Act.put _ none _ = _
            simp only [Act.put]
            rfl
          obtain rfl := Ee3.out; obtain rfl := Ee4.out; obtain rfl := Ee9.out; obtain rfl := Ee10.out; exact norm_ rfl (hJ (A2_4, n2_4, c2_4, A3_2, n3_2, c3_2, A4_5, n4_5, c4_5, A4_10, n4_10, c4_10, gb_) _ ⟨_, _, _, _, _, _, _, _, RS.out⟩)
      · refine box_step (N := 6) (by rfl) rfl (cs := #[.int .i64 0, .int .i64 0, .bool false, .int .i64 0, .int .i64 0, .slice none 0 0, .int .i64 0, .int .i64 0, .int .i64 0, .int .i64 0, .slice none 0 0]) (t := 35) (by first | (go_simp; done) | (go_simp; rfl)) ?_
        intro gb_ hg w14_ hbox hb
        have HGB := Aside0.mk (show w.heap.size ≤ gb_ from by rw [hg]; exact RS.out.B.size)
        have HLO := Aside0.mk (show w6_.heap.size ≤ gb_ ∧ gb_ < w14_.heap.size from ⟨Nat.le_of_eq hg.symm, blk_lt hbox⟩)
        obtain ⟨e11, Ee11, RS_⟩ := Rs.pushE RS hb (Q := fun W => W.heap[gb_]? = some (.cells #[.int .i64 0, .int .i64 0, .bool false, .int .i64 0, .int .i64 0, .slice none 0 0, .int .i64 0, .int .i64 0, .int .i64 0, .int .i64 0, .slice none 0 0] 35 (0, 0))) (fun W' hW => (hW _ (Nat.le_of_eq hg.symm) (blk_lt hbox)).trans hbox); replace RS := (show Aside0 (Rs w _ [e1, e2, e3, e11]) from RS_); clear RS_
        clear hbox hb hg
        refine hK.out _ _ ⟨cs9 (Rs.getE RS 0 rfl Ee1), cs3 (Rs.getE RS 1 rfl Ee2)⟩ (fun hHeld => ?_)
        clear hK K
        refine norm_ (a' := ?_) ?_ ?_
        rotate_left
        · show Act.put _ (some 6) _ = _
          simp only [Act.put, List.setIfInBounds_toArray, List.set_cons_zero, List.set_cons_succ, i64_w, i32_w]
          rfl
        refine one_ (i := 3) (N := some 27) #[true, true, true, true, false, true, false] rfl rfl (by kernel_rfl) (by decide) (fun K hK => ?_)
        refine goes_ Try.func13 (by kernel_rfl) rfl #[.agg #[.int .i64 a1_0, .int .i64 a1_1, .slice A1_2 l1_2.length c1_2]] (by rfl) rfl rfl (by (try simp only [List.map_toArray, List.map_cons, List.map_nil]); first | done | rfl) ?_
        (refine (laws_toEvent.own k w.heap.size a1_0 a1_1 _ _ _ l1_2 t3_0 t3_1 t3_2 _ ?sB ?s0 A3.out).mono ?_)
        (case sB => exact RS.out.B.size)
        (case s0 => exact HR1_2.out.below RS.out.B)
        rintro e w15_ ⟨A3_2, n3_2, c3_2, rfl, hq, hb⟩; refine ⟨_, rfl, ?_⟩; obtain ⟨e12, Ee12, RS_⟩ := Rs.pushE RS hb hq; replace RS := (show Aside0 (Rs w _ [e1, e2, e3, e11, e12]) from RS_); clear RS_; replace RS := Aside0.mk (show Rs w _ [e1, e2, e3, e12, e11] from Rs.swap (L := [e1, e2, e3]) (x := e11) (y := e12) RS.out); clear hq hb
        refine hK.out _ _ ⟨cs9 (Rs.getE RS 0 rfl Ee1), cs3 (Rs.getE RS 1 rfl Ee2)⟩ (fun hHeld => ?_)
        clear hK K
        refine norm_ (a' := ?_) ?_ ?_
        rotate_left
        · show Act.put _ (some 27) _ = _
          simp only [Act.put, List.setIfInBounds_toArray, List.set_cons_zero, List.set_cons_succ, i64_w, i32_w]
          rfl
        refine one_ (i := 4) (N := some 28) #[true, true, true, true, true, true, false] rfl rfl (by kernel_rfl) (by decide) (fun K hK => ?_)
        refine goes_ Try.func11 (by kernel_rfl) rfl #[.agg #[.int .i64 t2_0, .bool t2_1, .int .i64 t2_2, .int .i64 t2_3, .slice A2_4 n2_4 c2_4, .int .i64 t2_5, .int .i64 t2_6, .int .i64 t2_7, .int .i64 t2_8], .agg #[.int .i64 t3_0, .int .i64 t3_1, .slice A3_2 n3_2 c3_2]] (by rfl) rfl rfl (by (try simp only [List.map_toArray, List.map_cons, List.map_nil]); first | done | rfl) ?_
        (refine (spec_AddEvent.own k w.heap.size t2_0 t2_1 t2_2 t2_3 _ _ _ t2_4 t2_5 t2_6 t2_7 t2_8 t3_0 t3_1 _ _ _ t3_2 t4_0 t4_1 t4_2 t4_3 t4_4 t4_5 t4_6 t4_7 t4_8 t4_9 _ ?sB ?s0 ?s1 A4.out).mono ?_)
        (case sB => exact RS.out.B.size)
        (case s0 => exact OwnT32.rd4 _ _ _ _ _ _ _ _ (Rs.getE RS 2 rfl Ee3))
        (case s1 => exact OwnT38.rd2 _ _ _ _ _ _ _ _ (Rs.getE RS 3 rfl Ee12))
        rintro e w16_ ⟨A4_5, n4_5, c4_5, A4_10, n4_10, c4_10, rfl, hq, hb⟩; refine ⟨_, rfl, ?_⟩; obtain ⟨e13, Ee13, RS_⟩ := Rs.pushE RS hb hq; replace RS := (show Aside0 (Rs w _ [e1, e2, e3, e12, e11, e13]) from RS_); clear RS_; replace RS := Aside0.mk (show Rs w _ [e1, e2, e3, e12, e13, e11] from Rs.swap (L := [e1, e2, e3, e12]) (x := e11) (y := e13) RS.out); clear hq hb
        refine hK.out _ _ ⟨cs9 (Rs.getE RS 0 rfl Ee1), cs3 (Rs.getE RS 1 rfl Ee2)⟩ (fun hHeld => ?_)
        clear hK K
        refine norm_ (a' := ?_) ?_ ?_
        rotate_left
        · show Act.put _ (some 28) _ = _
          simp only [Act.put, List.setIfInBounds_toArray, List.set_cons_zero, List.set_cons_succ, i64_w, i32_w]
          rfl
        refine one_ (i := 6) (N := none) #[true, true, true, true, true, true, true] rfl rfl (by kernel_rfl) (by decide) (fun K hK => ?_)
        have HBX := Aside0.mk (show w16_.heap[gb_]? = some (.cells #[.int .i64 0, .int .i64 0, .bool false, .int .i64 0, .int .i64 0, .slice none 0 0, .int .i64 0, .int .i64 0, .int .i64 0, .int .i64 0, .slice none 0 0] 35 (0, 0)) from (Rs.getE RS 5 rfl Ee11))
        have hzX := cl_11 HBX
        refine store_step (((((((((((w16_.setCell ⟨gb_, 0, none⟩ (.int .i64 t4_0)).setCell ⟨gb_, 1, none⟩ (.int .i64 t4_1)).setCell ⟨gb_, 2, none⟩ (.bool t4_2)).setCell ⟨gb_, 3, none⟩ (.int .i64 t4_3)).setCell ⟨gb_, 4, none⟩ (.int .i64 t4_4)).setCell ⟨gb_, 5, none⟩ (.slice A4_5 n4_5 c4_5)).setCell ⟨gb_, 6, none⟩ (.int .i64 t4_6)).setCell ⟨gb_, 7, none⟩ (.int .i64 t4_7)).setCell ⟨gb_, 8, none⟩ (.int .i64 t4_8)).setCell ⟨gb_, 9, none⟩ (.int .i64 t4_9)).setCell ⟨gb_, 10, none⟩ (.slice A4_10 n4_10 c4_10)) (by rfl) rfl (by first | (go_simp; done) | (go_simp; rfl)) ?_
        intro w17_ hw
        have hb : Below w.heap.size w w17_ := (by rw [hw]; repeat (with_reducible first | exact RS.out.B | refine below_set ?_ HGB.out))
        have hk : Kept w16_ w17_ (fun k => w6_.heap.size ≤ k ∧ k < w14_.heap.size) := (by rw [hw]; repeat (with_reducible first | exact Kept.refl _ _ | refine Kept.setCell ?_ (.inl HLO.out) _))
        have hbox : w17_.heap[gb_]? = some (.cells #[.int .i64 t4_0, .int .i64 t4_1, .bool t4_2, .int .i64 t4_3, .int .i64 t4_4, .slice A4_5 n4_5 c4_5, .int .i64 t4_6, .int .i64 t4_7, .int .i64 t4_8, .int .i64 t4_9, .slice A4_10 n4_10 c4_10] 35 (0, 0)) := (by rw [hw]; exact mP HBX)
        obtain ⟨e14, Ee14, RS_⟩ := Rs.updE RS 5 rfl Ee11 (Q1 := fun W => W.heap[gb_]? = some (.cells #[.int .i64 t4_0, .int .i64 t4_1, .bool t4_2, .int .i64 t4_3, .int .i64 t4_4, .slice A4_5 n4_5 c4_5, .int .i64 t4_6, .int .i64 t4_7, .int .i64 t4_8, .int .i64 t4_9, .slice A4_10 n4_10 c4_10] 35 (0, 0))) hb hk (fun W' hW => (hW _ HLO.out.1 HLO.out.2).trans hbox); replace RS := (show Aside0 (Rs w _ [e1, e2, e3, e12, e13, e14]) from RS_); clear RS_
        clear HBX hzX hbox hb hk hw
        refine hK.out _ _ ⟨cs9 (Rs.getE RS 0 rfl Ee1), cs3 (Rs.getE RS 1 rfl Ee2)⟩ (fun hHeld => ?_)
        clear hK K
        refine norm_ (a' := ?_) ?_ ?_
        rotate_left
        · show Act.put _ none _ = _
          simp only [Act.put]
          rfl
        obtain rfl := Ee3.out; obtain rfl := Ee12.out; obtain rfl := Ee13.out; obtain rfl := Ee14.out; exact norm_ rfl (hJ (A2_4, n2_4, c2_4, A3_2, n3_2, c3_2, A4_5, n4_5, c4_5, A4_10, n4_10, c4_10, gb_) _ ⟨_, _, _, _, _, _, _, _, RS.out⟩)
    · refine box_step (N := 6) (by rfl) rfl (cs := #[.int .i64 0, .int .i64 0, .bool false, .int .i64 0, .int .i64 0, .slice none 0 0, .int .i64 0, .int .i64 0, .int .i64 0, .int .i64 0, .slice none 0 0]) (t := 35) (by first | (go_simp; done) | (go_simp; rfl)) ?_
      intro gb_ hg w18_ hbox hb
      have HGB := Aside0.mk (show w.heap.size ≤ gb_ from by rw [hg]; exact RS.out.B.size)
      have HLO := Aside0.mk (show w5_.heap.size ≤ gb_ ∧ gb_ < w18_.heap.size from ⟨Nat.le_of_eq hg.symm, blk_lt hbox⟩)
      obtain ⟨e15, Ee15, RS_⟩ := Rs.pushE RS hb (Q := fun W => W.heap[gb_]? = some (.cells #[.int .i64 0, .int .i64 0, .bool false, .int .i64 0, .int .i64 0, .slice none 0 0, .int .i64 0, .int .i64 0, .int .i64 0, .int .i64 0, .slice none 0 0] 35 (0, 0))) (fun W' hW => (hW _ (Nat.le_of_eq hg.symm) (blk_lt hbox)).trans hbox); replace RS := (show Aside0 (Rs w _ [e1, e2, e15]) from RS_); clear RS_
      clear hbox hb hg
      refine hK.out _ _ ⟨cs9 (Rs.getE RS 0 rfl Ee1), cs3 (Rs.getE RS 1 rfl Ee2)⟩ (fun hHeld => ?_)
      clear hK K
      refine norm_ (a' := ?_) ?_ ?_
      rotate_left
      · show Act.put _ (some 6) _ = _
        simp only [Act.put, List.setIfInBounds_toArray, List.set_cons_zero, List.set_cons_succ, i64_w, i32_w]
        rfl
      refine one_ (i := 1) (N := some 25) #[true, true, true, false, false, true, false] rfl rfl (by kernel_rfl) (by decide) (fun K hK => ?_)
      refine goes_ Try.func12 (by kernel_rfl) rfl #[.agg #[.int .i64 a0_0, .bool a0_1, .int .i64 a0_2, .int .i64 a0_3, .slice A0_4 l0_4.length c0_4, .int .i64 a0_5, .int .i64 a0_6, .int .i64 a0_7, .int .i64 a0_8]] (by rfl) rfl rfl (by (try simp only [List.map_toArray, List.map_cons, List.map_nil]); first | done | rfl) ?_
      (refine (laws_toNode.own k w.heap.size a0_0 a0_1 a0_2 a0_3 _ _ _ l0_4 a0_5 a0_6 a0_7 a0_8 t2_0 t2_1 t2_2 t2_3 t2_4 t2_5 t2_6 t2_7 t2_8 _ ?sB ?s0 A2.out).mono ?_)
      (case sB => exact RS.out.B.size)
      (case s0 => exact HR0_4.out.below RS.out.B)
      rintro e w19_ ⟨A2_4, n2_4, c2_4, rfl, hq, hb⟩; refine ⟨_, rfl, ?_⟩; obtain ⟨e16, Ee16, RS_⟩ := Rs.pushE RS hb hq; replace RS := (show Aside0 (Rs w _ [e1, e2, e15, e16]) from RS_); clear RS_; replace RS := Aside0.mk (show Rs w _ [e1, e2, e16, e15] from Rs.swap (L := [e1, e2]) (x := e15) (y := e16) RS.out); clear hq hb
      refine hK.out _ _ ⟨cs9 (Rs.getE RS 0 rfl Ee1), cs3 (Rs.getE RS 1 rfl Ee2)⟩ (fun hHeld => ?_)
      clear hK K
      refine norm_ (a' := ?_) ?_ ?_
      rotate_left
      · show Act.put _ (some 25) _ = _
        simp only [Act.put, List.setIfInBounds_toArray, List.set_cons_zero, List.set_cons_succ, i64_w, i32_w]
        rfl
      refine one_ (i := 3) (N := some 27) #[true, true, true, true, false, true, false] rfl rfl (by kernel_rfl) (by decide) (fun K hK => ?_)
      refine goes_ Try.func13 (by kernel_rfl) rfl #[.agg #[.int .i64 a1_0, .int .i64 a1_1, .slice A1_2 l1_2.length c1_2]] (by rfl) rfl rfl (by (try simp only [List.map_toArray, List.map_cons, List.map_nil]); first | done | rfl) ?_
      (refine (laws_toEvent.own k w.heap.size a1_0 a1_1 _ _ _ l1_2 t3_0 t3_1 t3_2 _ ?sB ?s0 A3.out).mono ?_)
      (case sB => exact RS.out.B.size)
      (case s0 => exact HR1_2.out.below RS.out.B)
      rintro e w20_ ⟨A3_2, n3_2, c3_2, rfl, hq, hb⟩; refine ⟨_, rfl, ?_⟩; obtain ⟨e17, Ee17, RS_⟩ := Rs.pushE RS hb hq; replace RS := (show Aside0 (Rs w _ [e1, e2, e16, e15, e17]) from RS_); clear RS_; replace RS := Aside0.mk (show Rs w _ [e1, e2, e16, e17, e15] from Rs.swap (L := [e1, e2, e16]) (x := e15) (y := e17) RS.out); clear hq hb
      refine hK.out _ _ ⟨cs9 (Rs.getE RS 0 rfl Ee1), cs3 (Rs.getE RS 1 rfl Ee2)⟩ (fun hHeld => ?_)
      clear hK K
      refine norm_ (a' := ?_) ?_ ?_
      rotate_left
      · show Act.put _ (some 27) _ = _
        simp only [Act.put, List.setIfInBounds_toArray, List.set_cons_zero, List.set_cons_succ, i64_w, i32_w]
        rfl
      refine one_ (i := 4) (N := some 28) #[true, true, true, true, true, true, false] rfl rfl (by kernel_rfl) (by decide) (fun K hK => ?_)
      refine goes_ Try.func11 (by kernel_rfl) rfl #[.agg #[.int .i64 t2_0, .bool t2_1, .int .i64 t2_2, .int .i64 t2_3, .slice A2_4 n2_4 c2_4, .int .i64 t2_5, .int .i64 t2_6, .int .i64 t2_7, .int .i64 t2_8], .agg #[.int .i64 t3_0, .int .i64 t3_1, .slice A3_2 n3_2 c3_2]] (by rfl) rfl rfl (by (try simp only [List.map_toArray, List.map_cons, List.map_nil]); first | done | rfl) ?_
      (refine (spec_AddEvent.own k w.heap.size t2_0 t2_1 t2_2 t2_3 _ _ _ t2_4 t2_5 t2_6 t2_7 t2_8 t3_0 t3_1 _ _ _ t3_2 t4_0 t4_1 t4_2 t4_3 t4_4 t4_5 t4_6 t4_7 t4_8 t4_9 _ ?sB ?s0 ?s1 A4.out).mono ?_)
      (case sB => exact RS.out.B.size)
      (case s0 => exact OwnT32.rd4 _ _ _ _ _ _ _ _ (Rs.getE RS 2 rfl Ee16))
      (case s1 => exact OwnT38.rd2 _ _ _ _ _ _ _ _ (Rs.getE RS 3 rfl Ee17))
      rintro e w21_ ⟨A4_5, n4_5, c4_5, A4_10, n4_10, c4_10, rfl, hq, hb⟩; refine ⟨_, rfl, ?_⟩; obtain ⟨e18, Ee18, RS_⟩ := Rs.pushE RS hb hq; replace RS := (show Aside0 (Rs w _ [e1, e2, e16, e17, e15, e18]) from RS_); clear RS_; replace RS := Aside0.mk (show Rs w _ [e1, e2, e16, e17, e18, e15] from Rs.swap (L := [e1, e2, e16, e17]) (x := e15) (y := e18) RS.out); clear hq hb
      refine hK.out _ _ ⟨cs9 (Rs.getE RS 0 rfl Ee1), cs3 (Rs.getE RS 1 rfl Ee2)⟩ (fun hHeld => ?_)
      clear hK K
      refine norm_ (a' := ?_) ?_ ?_
      rotate_left
      · show Act.put _ (some 28) _ = _
        simp only [Act.put, List.setIfInBounds_toArray, List.set_cons_zero, List.set_cons_succ, i64_w, i32_w]
        rfl
      refine one_ (i := 6) (N := none) #[true, true, true, true, true, true, true] rfl rfl (by kernel_rfl) (by decide) (fun K hK => ?_)
      have HBX := Aside0.mk (show w21_.heap[gb_]? = some (.cells #[.int .i64 0, .int .i64 0, .bool false, .int .i64 0, .int .i64 0, .slice none 0 0, .int .i64 0, .int .i64 0, .int .i64 0, .int .i64 0, .slice none 0 0] 35 (0, 0)) from (Rs.getE RS 5 rfl Ee15))
      have hzX := cl_11 HBX
      refine store_step (((((((((((w21_.setCell ⟨gb_, 0, none⟩ (.int .i64 t4_0)).setCell ⟨gb_, 1, none⟩ (.int .i64 t4_1)).setCell ⟨gb_, 2, none⟩ (.bool t4_2)).setCell ⟨gb_, 3, none⟩ (.int .i64 t4_3)).setCell ⟨gb_, 4, none⟩ (.int .i64 t4_4)).setCell ⟨gb_, 5, none⟩ (.slice A4_5 n4_5 c4_5)).setCell ⟨gb_, 6, none⟩ (.int .i64 t4_6)).setCell ⟨gb_, 7, none⟩ (.int .i64 t4_7)).setCell ⟨gb_, 8, none⟩ (.int .i64 t4_8)).setCell ⟨gb_, 9, none⟩ (.int .i64 t4_9)).setCell ⟨gb_, 10, none⟩ (.slice A4_10 n4_10 c4_10)) (by rfl) rfl (by first | (go_simp; done) | (go_simp; rfl)) ?_
      intro w22_ hw
      have hb : Below w.heap.size w w22_ := (by rw [hw]; repeat (with_reducible first | exact RS.out.B | refine below_set ?_ HGB.out))
      have hk : Kept w21_ w22_ (fun k => w5_.heap.size ≤ k ∧ k < w18_.heap.size) := (by rw [hw]; repeat (with_reducible first | exact Kept.refl _ _ | refine Kept.setCell ?_ (.inl HLO.out) _))
      have hbox : w22_.heap[gb_]? = some (.cells #[.int .i64 t4_0, .int .i64 t4_1, .bool t4_2, .int .i64 t4_3, .int .i64 t4_4, .slice A4_5 n4_5 c4_5, .int .i64 t4_6, .int .i64 t4_7, .int .i64 t4_8, .int .i64 t4_9, .slice A4_10 n4_10 c4_10] 35 (0, 0)) := (by rw [hw]; exact mP HBX)
      obtain ⟨e19, Ee19, RS_⟩ := Rs.updE RS 5 rfl Ee15 (Q1 := fun W => W.heap[gb_]? = some (.cells #[.int .i64 t4_0, .int .i64 t4_1, .bool t4_2, .int .i64 t4_3, .int .i64 t4_4, .slice A4_5 n4_5 c4_5, .int .i64 t4_6, .int .i64 t4_7, .int .i64 t4_8, .int .i64 t4_9, .slice A4_10 n4_10 c4_10] 35 (0, 0))) hb hk (fun W' hW => (hW _ HLO.out.1 HLO.out.2).trans hbox); replace RS := (show Aside0 (Rs w _ [e1, e2, e16, e17, e18, e19]) from RS_); clear RS_
      clear HBX hzX hbox hb hk hw
      refine hK.out _ _ ⟨cs9 (Rs.getE RS 0 rfl Ee1), cs3 (Rs.getE RS 1 rfl Ee2)⟩ (fun hHeld => ?_)
      clear hK K
      refine norm_ (a' := ?_) ?_ ?_
      rotate_left
      · show Act.put _ none _ = _
        simp only [Act.put]
        rfl
      obtain rfl := Ee16.out; obtain rfl := Ee17.out; obtain rfl := Ee18.out; obtain rfl := Ee19.out; exact norm_ rfl (hJ (A2_4, n2_4, c2_4, A3_2, n3_2, c3_2, A4_5, n4_5, c4_5, A4_10, n4_10, c4_10, gb_) _ ⟨_, _, _, _, _, _, _, _, RS.out⟩)
  rintro ⟨A2_4, n2_4, c2_4, A3_2, n3_2, c3_2, A4_5, n4_5, c4_5, A4_10, n4_10, c4_10, gb5⟩ w23_ ⟨lo2, hi2, lo3, hi3, lo4, hi4, lo5, hi5, hRS⟩
  obtain ⟨e20, Ee20⟩ : ∃ e, Aside0 (e = ((lo2, hi2, fun W => OwnT32 w.heap.size lo2 hi2 (.slice A2_4 n2_4 c2_4) t2_4 W) : Nat × Nat × (World → Prop))) := ⟨_, ⟨rfl⟩⟩
  obtain ⟨e21, Ee21⟩ : ∃ e, Aside0 (e = ((lo3, hi3, fun W => OwnT38 w.heap.size lo3 hi3 (.slice A3_2 n3_2 c3_2) t3_2 W) : Nat × Nat × (World → Prop))) := ⟨_, ⟨rfl⟩⟩
  obtain ⟨e22, Ee22⟩ : ∃ e, Aside0 (e = ((lo4, hi4, fun W => OwnT35 w.heap.size lo4 hi4 (.slice A4_5 n4_5 c4_5) t4_5 (.slice A4_10 n4_10 c4_10) [] W) : Nat × Nat × (World → Prop))) := ⟨_, ⟨rfl⟩⟩
  obtain ⟨e23, Ee23⟩ : ∃ e, Aside0 (e = ((lo5, hi5, fun W => W.heap[gb5]? = some (.cells #[.int .i64 t4_0, .int .i64 t4_1, .bool t4_2, .int .i64 t4_3, .int .i64 t4_4, .slice A4_5 n4_5 c4_5, .int .i64 t4_6, .int .i64 t4_7, .int .i64 t4_8, .int .i64 t4_9, .slice A4_10 n4_10 c4_10] 35 (0, 0))) : Nat × Nat × (World → Prop))) := ⟨_, ⟨rfl⟩⟩
  replace RS : Aside0 (Rs w _ [e1, e2, e20, e21, e22, e23]) := ⟨by rw [Ee20.out, Ee21.out, Ee22.out, Ee23.out]; exact hRS⟩
  clear hRS
  refine norm_ (a' := ?_) ?_ ?_
  rotate_left
  · simp only [putAll, Act.put, List.setIfInBounds_toArray, List.set_cons_zero, List.set_cons_succ, i64_w, i32_w]
    rfl
  refine done_ (by kernel_rfl) ?_
  (try clear hz6)
  (try clear hz7)
  have hz8 := cx9 (Rs.getE RS 0 rfl Ee1)
  have hz9 := cx3 (Rs.getE RS 1 rfl Ee2)
  have hz10 := cx11 (Rs.getE RS 5 rfl Ee23)
  go_wp2_with (first | ((with_reducible refine gate_callee (f := 12) rfl ?_); refine goA (some 30) rfl rfl Try.func12 rfl #[.agg #[.int .i64 a0_0, .bool a0_1, .int .i64 a0_2, .int .i64 a0_3, .slice A0_4 l0_4.length c0_4, .int .i64 a0_5, .int .i64 a0_6, .int .i64 a0_7, .int .i64 a0_8]] rfl ?_; (refine (laws_toNode.own k w.heap.size a0_0 a0_1 a0_2 a0_3 _ _ _ l0_4 a0_5 a0_6 a0_7 a0_8 t2_0 t2_1 t2_2 t2_3 t2_4 t2_5 t2_6 t2_7 t2_8 _ ?sB ?s0 A2.out).mono ?_); (case sB => exact RS.out.B.size); (case s0 => exact HR0_4.out.below RS.out.B); rintro e w24_ ⟨A6_4, n6_4, c6_4, rfl, hq, hb⟩; refine ⟨_, rfl, ?_⟩; obtain ⟨e24, Ee24, RS_⟩ := Rs.pushE RS hb hq; replace RS := (show Aside0 (Rs w _ [e1, e2, e20, e21, e22, e23, e24]) from RS_); clear RS_; clear hq hb; (try clear hz8); (try clear hz9); (try clear hz10); have hz11 := cx9 (Rs.getE RS 0 rfl Ee1); have hz12 := cx3 (Rs.getE RS 1 rfl Ee2); have hz13 := cx11 (Rs.getE RS 5 rfl Ee23); skip) | ((with_reducible refine gate_dst (N := 7) rfl ?_); refine boxE #[.int .i64 0, .bool false, .int .i64 0, .int .i64 0, .slice none 0 0, .int .i64 0, .int .i64 0, .int .i64 0, .int .i64 0] 32 (N := 7) rfl rfl ?_; intro gb7 hg w25_ hbox hb; have HBX := Aside0.mk hbox; have HX := Aside0.mk hb; have GX := Aside0.mk hg; clear hb hbox hg; have hzX7 := cl_9 HBX; (with_reducible refine gate_store (t := 32) (p := 7) rfl ?_); refine store_event (t := 32) (p := 7) (v := ?vo_w26_) (w1 := (((((((((w25_.setCell ⟨gb7, 0, none⟩ (.int .i64 t2_0)).setCell ⟨gb7, 1, none⟩ (.bool t2_1)).setCell ⟨gb7, 2, none⟩ (.int .i64 t2_2)).setCell ⟨gb7, 3, none⟩ (.int .i64 t2_3)).setCell ⟨gb7, 4, none⟩ (.slice A6_4 n6_4 c6_4)).setCell ⟨gb7, 5, none⟩ (.int .i64 t2_5)).setCell ⟨gb7, 6, none⟩ (.int .i64 t2_6)).setCell ⟨gb7, 7, none⟩ (.int .i64 t2_7)).setCell ⟨gb7, 8, none⟩ (.int .i64 t2_8))) ?hg ?ho ?hn ?hr ?_; (case ho => rfl); (case hg => rfl); (case hn => rfl); (case hr => first | (go_simp; done) | (go_simp; rfl)); intro w26_ hw; have hb : Below w24_.heap.size w24_ w26_ := (by rw [hw]; repeat (with_reducible first | exact HX.out | refine below_set ?_ (Nat.le_of_eq GX.out.symm))); have hbox : w26_.heap[gb7]? = some (.cells #[.int .i64 t2_0, .bool t2_1, .int .i64 t2_2, .int .i64 t2_3, .slice A6_4 n6_4 c6_4, .int .i64 t2_5, .int .i64 t2_6, .int .i64 t2_7, .int .i64 t2_8] 32 (0, 0)) := (by rw [hw]; exact mP HBX); obtain ⟨e25, Ee25, RS_⟩ := Rs.pushE RS hb (Q := fun W => W.heap[gb7]? = some (.cells #[.int .i64 t2_0, .bool t2_1, .int .i64 t2_2, .int .i64 t2_3, .slice A6_4 n6_4 c6_4, .int .i64 t2_5, .int .i64 t2_6, .int .i64 t2_7, .int .i64 t2_8] 32 (0, 0))) (fun W' hW => (hW _ (Nat.le_of_eq GX.out.symm) (blk_lt hbox)).trans hbox); replace RS := (show Aside0 (Rs w _ [e1, e2, e20, e21, e22, e23, e24, e25]) from RS_); clear RS_; clear HBX HX GX hbox hb hw hzX7; (try clear hz11); (try clear hz12); (try clear hz13); have hz14 := cx9 (Rs.getE RS 0 rfl Ee1); have hz15 := cx3 (Rs.getE RS 1 rfl Ee2); have hz16 := cx11 (Rs.getE RS 5 rfl Ee23); have hz17 := cx9 (Rs.getE RS 7 rfl Ee25); skip) | ((with_reducible refine gate_callee (f := 13) rfl ?_); refine goA (some 32) rfl rfl Try.func13 rfl #[.agg #[.int .i64 a1_0, .int .i64 a1_1, .slice A1_2 l1_2.length c1_2]] rfl ?_; (refine (laws_toEvent.own k w.heap.size a1_0 a1_1 _ _ _ l1_2 t3_0 t3_1 t3_2 _ ?sB ?s0 A3.out).mono ?_); (case sB => exact RS.out.B.size); (case s0 => exact HR1_2.out.below RS.out.B); rintro e w27_ ⟨A8_2, n8_2, c8_2, rfl, hq, hb⟩; refine ⟨_, rfl, ?_⟩; obtain ⟨e26, Ee26, RS_⟩ := Rs.pushE RS hb hq; replace RS := (show Aside0 (Rs w _ [e1, e2, e20, e21, e22, e23, e24, e25, e26]) from RS_); clear RS_; clear hq hb; (try clear hz14); (try clear hz15); (try clear hz16); (try clear hz17); have hz18 := cx9 (Rs.getE RS 0 rfl Ee1); have hz19 := cx3 (Rs.getE RS 1 rfl Ee2); have hz20 := cx11 (Rs.getE RS 5 rfl Ee23); have hz21 := cx9 (Rs.getE RS 7 rfl Ee25); skip) | ((with_reducible refine gate_dst (N := 8) rfl ?_); refine boxE #[.int .i64 0, .int .i64 0, .slice none 0 0] 38 (N := 8) rfl rfl ?_; intro gb9 hg w28_ hbox hb; have HBX := Aside0.mk hbox; have HX := Aside0.mk hb; have GX := Aside0.mk hg; clear hb hbox hg; have hzX9 := cl_3 HBX; (with_reducible refine gate_store (t := 38) (p := 8) rfl ?_); refine store_event (t := 38) (p := 8) (v := ?vo_w29_) (w1 := (((w28_.setCell ⟨gb9, 0, none⟩ (.int .i64 t3_0)).setCell ⟨gb9, 1, none⟩ (.int .i64 t3_1)).setCell ⟨gb9, 2, none⟩ (.slice A8_2 n8_2 c8_2))) ?hg ?ho ?hn ?hr ?_; (case ho => rfl); (case hg => rfl); (case hn => rfl); (case hr => first | (go_simp; done) | (go_simp; rfl)); intro w29_ hw; have hb : Below w27_.heap.size w27_ w29_ := (by rw [hw]; repeat (with_reducible first | exact HX.out | refine below_set ?_ (Nat.le_of_eq GX.out.symm))); have hbox : w29_.heap[gb9]? = some (.cells #[.int .i64 t3_0, .int .i64 t3_1, .slice A8_2 n8_2 c8_2] 38 (0, 0)) := (by rw [hw]; exact mP HBX); obtain ⟨e27, Ee27, RS_⟩ := Rs.pushE RS hb (Q := fun W => W.heap[gb9]? = some (.cells #[.int .i64 t3_0, .int .i64 t3_1, .slice A8_2 n8_2 c8_2] 38 (0, 0))) (fun W' hW => (hW _ (Nat.le_of_eq GX.out.symm) (blk_lt hbox)).trans hbox); replace RS := (show Aside0 (Rs w _ [e1, e2, e20, e21, e22, e23, e24, e25, e26, e27]) from RS_); clear RS_; clear HBX HX GX hbox hb hw hzX9; (try clear hz18); (try clear hz19); (try clear hz20); (try clear hz21); have hz22 := cx9 (Rs.getE RS 0 rfl Ee1); have hz23 := cx3 (Rs.getE RS 1 rfl Ee2); have hz24 := cx11 (Rs.getE RS 5 rfl Ee23); have hz25 := cx9 (Rs.getE RS 7 rfl Ee25); have hz26 := cx3 (Rs.getE RS 9 rfl Ee27); skip) | ((with_reducible refine gate_callee (f := 14) rfl ?_); refine goA (some 35) rfl rfl Try.func14 rfl #[.agg #[.int .i64 t2_0, .bool t2_1, .int .i64 t2_2, .int .i64 t2_3, .slice A6_4 n6_4 c6_4, .int .i64 t2_5, .int .i64 t2_6, .int .i64 t2_7, .int .i64 t2_8], .agg #[.int .i64 t3_0, .int .i64 t3_1, .slice A8_2 n8_2 c8_2]] rfl ?_; (refine (impl_AddEvent.own k w.heap.size t2_0 t2_1 t2_2 t2_3 _ _ _ t2_4 t2_5 t2_6 t2_7 t2_8 t3_0 t3_1 _ _ _ t3_2 t5_0 t5_1 t5_2 t5_3 t5_4 t5_5 t5_6 t5_7 t5_8 t5_9 _ ?sB ?s0 ?s1 A5.out).mono ?_); (case sB => exact RS.out.B.size); (case s0 => exact OwnT32.rd4 _ _ _ _ _ _ _ _ (Rs.getE RS 6 rfl Ee24)); (case s1 => exact OwnT38.rd2 _ _ _ _ _ _ _ _ (Rs.getE RS 8 rfl Ee26)); rintro e w30_ ⟨A10_5, n10_5, c10_5, A10_10, n10_10, c10_10, rfl, hq, hb⟩; refine ⟨_, rfl, ?_⟩; obtain ⟨e28, Ee28, RS_⟩ := Rs.pushE RS hb hq; replace RS := (show Aside0 (Rs w _ [e1, e2, e20, e21, e22, e23, e24, e25, e26, e27, e28]) from RS_); clear RS_; clear hq hb; (try clear hz22); (try clear hz23); (try clear hz24); (try clear hz25); (try clear hz26); have hz27 := cx9 (Rs.getE RS 0 rfl Ee1); have hz28 := cx3 (Rs.getE RS 1 rfl Ee2); have hz29 := cx11 (Rs.getE RS 5 rfl Ee23); have hz30 := cx9 (Rs.getE RS 7 rfl Ee25); have hz31 := cx3 (Rs.getE RS 9 rfl Ee27); skip) | ((with_reducible refine gate_dst (N := 9) rfl ?_); refine boxE #[.int .i64 0, .int .i64 0, .bool false, .int .i64 0, .int .i64 0, .slice none 0 0, .int .i64 0, .int .i64 0, .int .i64 0, .int .i64 0, .slice none 0 0] 35 (N := 9) rfl rfl ?_; intro gb11 hg w31_ hbox hb; have HBX := Aside0.mk hbox; have HX := Aside0.mk hb; have GX := Aside0.mk hg; clear hb hbox hg; have hzX11 := cl_11 HBX; (with_reducible refine gate_store (t := 35) (p := 9) rfl ?_); refine store_event (t := 35) (p := 9) (v := ?vo_w32_) (w1 := (((((((((((w31_.setCell ⟨gb11, 0, none⟩ (.int .i64 t5_0)).setCell ⟨gb11, 1, none⟩ (.int .i64 t5_1)).setCell ⟨gb11, 2, none⟩ (.bool t5_2)).setCell ⟨gb11, 3, none⟩ (.int .i64 t5_3)).setCell ⟨gb11, 4, none⟩ (.int .i64 t5_4)).setCell ⟨gb11, 5, none⟩ (.slice A10_5 n10_5 c10_5)).setCell ⟨gb11, 6, none⟩ (.int .i64 t5_6)).setCell ⟨gb11, 7, none⟩ (.int .i64 t5_7)).setCell ⟨gb11, 8, none⟩ (.int .i64 t5_8)).setCell ⟨gb11, 9, none⟩ (.int .i64 t5_9)).setCell ⟨gb11, 10, none⟩ (.slice A10_10 n10_10 c10_10))) ?hg ?ho ?hn ?hr ?_; (case ho => rfl); (case hg => rfl); (case hn => rfl); (case hr => first | (go_simp; done) | (go_simp; rfl)); intro w32_ hw; have hb : Below w30_.heap.size w30_ w32_ := (by rw [hw]; repeat (with_reducible first | exact HX.out | refine below_set ?_ (Nat.le_of_eq GX.out.symm))); have hbox : w32_.heap[gb11]? = some (.cells #[.int .i64 t5_0, .int .i64 t5_1, .bool t5_2, .int .i64 t5_3, .int .i64 t5_4, .slice A10_5 n10_5 c10_5, .int .i64 t5_6, .int .i64 t5_7, .int .i64 t5_8, .int .i64 t5_9, .slice A10_10 n10_10 c10_10] 35 (0, 0)) := (by rw [hw]; exact mP HBX); obtain ⟨e29, Ee29, RS_⟩ := Rs.pushE RS hb (Q := fun W => W.heap[gb11]? = some (.cells #[.int .i64 t5_0, .int .i64 t5_1, .bool t5_2, .int .i64 t5_3, .int .i64 t5_4, .slice A10_5 n10_5 c10_5, .int .i64 t5_6, .int .i64 t5_7, .int .i64 t5_8, .int .i64 t5_9, .slice A10_10 n10_10 c10_10] 35 (0, 0))) (fun W' hW => (hW _ (Nat.le_of_eq GX.out.symm) (blk_lt hbox)).trans hbox); replace RS := (show Aside0 (Rs w _ [e1, e2, e20, e21, e22, e23, e24, e25, e26, e27, e28, e29]) from RS_); clear RS_; clear HBX HX GX hbox hb hw hzX11; (try clear hz27); (try clear hz28); (try clear hz29); (try clear hz30); (try clear hz31); have hz32 := cx9 (Rs.getE RS 0 rfl Ee1); have hz33 := cx3 (Rs.getE RS 1 rfl Ee2); have hz34 := cx11 (Rs.getE RS 5 rfl Ee23); have hz35 := cx9 (Rs.getE RS 7 rfl Ee25); have hz36 := cx3 (Rs.getE RS 9 rfl Ee27); have hz37 := cx11 (Rs.getE RS 11 rfl Ee29); skip) | ((with_reducible refine gate_callee (f := 15) rfl ?_); refine goA (some 38) rfl rfl Try.func15 rfl #[.agg #[.int .i64 t5_0, .int .i64 t5_1, .bool t5_2, .int .i64 t5_3, .int .i64 t5_4, .slice A10_5 n10_5 c10_5, .int .i64 t5_6, .int .i64 t5_7, .int .i64 t5_8, .int .i64 t5_9, .slice A10_10 n10_10 c10_10], .agg #[.int .i64 t4_0, .int .i64 t4_1, .bool t4_2, .int .i64 t4_3, .int .i64 t4_4, .slice A4_5 n4_5 c4_5, .int .i64 t4_6, .int .i64 t4_7, .int .i64 t4_8, .int .i64 t4_9, .slice A4_10 n4_10 c4_10]] rfl ?_; (refine (laws_eqNodeResult.rd k t5_0 t5_1 t5_2 t5_3 t5_4 _ _ _ t5_5 t5_6 t5_7 t5_8 t5_9 _ _ _ [] t4_0 t4_1 t4_2 t4_3 t4_4 _ _ _ t4_5 t4_6 t4_7 t4_8 t4_9 _ _ _ [] true _ ?s0 ?s1 ?s2 ?s3 A6.out).mono ?_); (case s0 => exact OwnT35.rd5 _ _ _ _ _ _ _ _ _ _ (Rs.getE RS 10 rfl Ee28)); (case s1 => exact OwnT35.rd10 _ _ _ _ _ _ _ _ _ _ (Rs.getE RS 10 rfl Ee28)); (case s2 => exact OwnT35.rd5 _ _ _ _ _ _ _ _ _ _ (Rs.getE RS 4 rfl Ee22)); (case s3 => exact OwnT35.rd10 _ _ _ _ _ _ _ _ _ _ (Rs.getE RS 4 rfl Ee22)); rintro e w33_ ⟨rfl, hb⟩; refine ⟨_, rfl, ?_⟩; replace RS := Aside0.mk (RS.out.below hb); clear hb; (try clear hz32); (try clear hz33); (try clear hz34); (try clear hz35); (try clear hz36); (try clear hz37); have hz38 := cx9 (Rs.getE RS 0 rfl Ee1); have hz39 := cx3 (Rs.getE RS 1 rfl Ee2); have hz40 := cx11 (Rs.getE RS 5 rfl Ee23); have hz41 := cx9 (Rs.getE RS 7 rfl Ee25); have hz42 := cx3 (Rs.getE RS 9 rfl Ee27); have hz43 := cx11 (Rs.getE RS 11 rfl Ee29); skip))
  replace RS := Aside0.mk (Rs.drew RS.out)
  refine start_ (n := 5) (S := fun w' => (w'.cell? ⟨gb7, 0, none⟩ = some (.int .i64 t2_0) ∧ w'.cell? ⟨gb7, 1, none⟩ = some (.bool t2_1) ∧ w'.cell? ⟨gb7, 2, none⟩ = some (.int .i64 t2_2) ∧ w'.cell? ⟨gb7, 3, none⟩ = some (.int .i64 t2_3) ∧ w'.cell? ⟨gb7, 4, none⟩ = some (.slice A6_4 n6_4 c6_4) ∧ w'.cell? ⟨gb7, 5, none⟩ = some (.int .i64 t2_5) ∧ w'.cell? ⟨gb7, 6, none⟩ = some (.int .i64 t2_6) ∧ w'.cell? ⟨gb7, 7, none⟩ = some (.int .i64 t2_7) ∧ w'.cell? ⟨gb7, 8, none⟩ = some (.int .i64 t2_8)) ∧ (w'.cell? ⟨gb0, 0, none⟩ = some (.int .i64 a0_0) ∧ w'.cell? ⟨gb0, 1, none⟩ = some (.bool a0_1) ∧ w'.cell? ⟨gb0, 2, none⟩ = some (.int .i64 a0_2) ∧ w'.cell? ⟨gb0, 3, none⟩ = some (.int .i64 a0_3) ∧ w'.cell? ⟨gb0, 4, none⟩ = some (.slice A0_4 l0_4.length c0_4) ∧ w'.cell? ⟨gb0, 5, none⟩ = some (.int .i64 a0_5) ∧ w'.cell? ⟨gb0, 6, none⟩ = some (.int .i64 a0_6) ∧ w'.cell? ⟨gb0, 7, none⟩ = some (.int .i64 a0_7) ∧ w'.cell? ⟨gb0, 8, none⟩ = some (.int .i64 a0_8))) (ds := []) #[false, false, false, false, false] (by kernel_rfl) rfl rfl ⟨cs9 (Rs.getE RS 7 rfl Ee25), cs9 (Rs.getE RS 0 rfl Ee1)⟩ (fun hHeld => ?_)
  generalize w33_.drew = w34_ at RS hHeld ⊢
  refine take_ (i := 0) (N := some 40) (v := ?_) (a' := ?_) #[true, false, false, false, false] rfl rfl (by kernel_rfl) (fun _ _ _ h => h) (Or.inl ⟨by rfl, ?_⟩) hHeld ?_ ?_
  rotate_left
  · rintro w' ⟨⟨s0, s1, s2, s3, s4, s5, s6, s7, s8⟩, ⟨s9, s10, s11, s12, s13, s14, s15, s16, s17⟩⟩
    go_simp
    with_reducible rfl
  rotate_left
  · simp only [Act.put, List.setIfInBounds_toArray, List.set_cons_zero, List.set_cons_succ, i64_w, i32_w]
    rfl
  refine take_ (i := 1) (N := some 41) (v := ?_) (a' := ?_) #[true, true, false, false, false] rfl rfl (by kernel_rfl) (fun _ _ _ h => h) (Or.inl ⟨by rfl, ?_⟩) hHeld ?_ ?_
  rotate_left
  · rintro w' ⟨⟨s0, s1, s2, s3, s4, s5, s6, s7, s8⟩, ⟨s9, s10, s11, s12, s13, s14, s15, s16, s17⟩⟩
    go_simp
    with_reducible rfl
  rotate_left
  · simp only [Act.put, List.setIfInBounds_toArray, List.set_cons_zero, List.set_cons_succ, i64_w, i32_w]
    rfl
  refine one_ (i := 2) (N := some 42) #[true, true, true, false, false] rfl rfl (by kernel_rfl) (by decide) (fun K hK => ?_)
  refine goes_ Try.func12 (by kernel_rfl) rfl #[.agg #[.int .i64 a0_0, .bool a0_1, .int .i64 a0_2, .int .i64 a0_3, .slice A0_4 l0_4.length c0_4, .int .i64 a0_5, .int .i64 a0_6, .int .i64 a0_7, .int .i64 a0_8]] (by rfl) rfl rfl (by (try simp only [List.map_toArray, List.map_cons, List.map_nil]); first | done | rfl) ?_
  (refine (laws_toNode.own k w.heap.size a0_0 a0_1 a0_2 a0_3 _ _ _ l0_4 a0_5 a0_6 a0_7 a0_8 t2_0 t2_1 t2_2 t2_3 t2_4 t2_5 t2_6 t2_7 t2_8 _ ?sB ?s0 A2.out).mono ?_)
  (case sB => exact RS.out.B.size)
  (case s0 => exact HR0_4.out.below RS.out.B)
  rintro e w35_ ⟨A12_4, n12_4, c12_4, rfl, hq, hb⟩; refine ⟨_, rfl, ?_⟩; obtain ⟨e30, Ee30, RS_⟩ := Rs.pushE RS hb hq; replace RS := (show Aside0 (Rs w _ [e1, e2, e20, e21, e22, e23, e24, e25, e26, e27, e28, e29, e30]) from RS_); clear RS_; clear hq hb
  refine hK.out _ _ ⟨cs9 (Rs.getE RS 7 rfl Ee25), cs9 (Rs.getE RS 0 rfl Ee1)⟩ (fun hHeld => ?_)
  clear hK K
  refine norm_ (a' := ?_) ?_ ?_
  rotate_left
  · show Act.put _ (some 42) _ = _
    simp only [Act.put, List.setIfInBounds_toArray, List.set_cons_zero, List.set_cons_succ, i64_w, i32_w]
    rfl
  refine one_ (i := 3) (N := some 43) #[true, true, true, true, false] rfl rfl (by kernel_rfl) (by decide) (fun K hK => ?_)
  refine goes_ Try.func16 (by kernel_rfl) rfl #[.agg #[.int .i64 t2_0, .bool t2_1, .int .i64 t2_2, .int .i64 t2_3, .slice A6_4 n6_4 c6_4, .int .i64 t2_5, .int .i64 t2_6, .int .i64 t2_7, .int .i64 t2_8], .agg #[.int .i64 t2_0, .bool t2_1, .int .i64 t2_2, .int .i64 t2_3, .slice A12_4 n12_4 c12_4, .int .i64 t2_5, .int .i64 t2_6, .int .i64 t2_7, .int .i64 t2_8]] (by rfl) rfl rfl (by (try simp only [List.map_toArray, List.map_cons, List.map_nil]); first | done | rfl) ?_
  (refine (laws_eqNode.rd k t2_0 t2_1 t2_2 t2_3 _ _ _ t2_4 t2_5 t2_6 t2_7 t2_8 t2_0 t2_1 t2_2 t2_3 _ _ _ t2_4 t2_5 t2_6 t2_7 t2_8 true _ ?s0 ?s1 A7.out).mono ?_)
  (case s0 => exact OwnT32.rd4 _ _ _ _ _ _ _ _ (Rs.getE RS 6 rfl Ee24))
  (case s1 => exact OwnT32.rd4 _ _ _ _ _ _ _ _ (Rs.getE RS 12 rfl Ee30))
  rintro e w36_ ⟨rfl, hb⟩; refine ⟨_, rfl, ?_⟩; replace RS := Aside0.mk (RS.out.below hb); clear hb
  refine hK.out _ _ ⟨cs9 (Rs.getE RS 7 rfl Ee25), cs9 (Rs.getE RS 0 rfl Ee1)⟩ (fun hHeld => ?_)
  clear hK K
  refine norm_ (a' := ?_) ?_ ?_
  rotate_left
  · show Act.put _ (some 43) _ = _
    simp only [Act.put, List.setIfInBounds_toArray, List.set_cons_zero, List.set_cons_succ, i64_w, i32_w]
    rfl
  refine pure_ (i := 4) (N := some 44) (v := ?_) (a' := ?_) #[true, true, true, true, true] rfl rfl (by kernel_rfl) (fun _ _ _ h => h) (Or.inl ⟨by rfl, ?_⟩) ?_ ?_
  rotate_left
  · intro w'
    go_simp
    with_reducible rfl
  rotate_left
  · simp only [Act.put, List.setIfInBounds_toArray, List.set_cons_zero, List.set_cons_succ, i64_w, i32_w]
    rfl
  refine done_ (by kernel_rfl) ?_
  (try clear hz38)
  (try clear hz39)
  (try clear hz40)
  (try clear hz41)
  (try clear hz42)
  (try clear hz43)
  have hz44 := cx9 (Rs.getE RS 0 rfl Ee1)
  have hz45 := cx3 (Rs.getE RS 1 rfl Ee2)
  have hz46 := cx11 (Rs.getE RS 5 rfl Ee23)
  have hz47 := cx9 (Rs.getE RS 7 rfl Ee25)
  have hz48 := cx3 (Rs.getE RS 9 rfl Ee27)
  have hz49 := cx11 (Rs.getE RS 11 rfl Ee29)
  try go_wp2
  replace RS := Aside0.mk (Rs.drew RS.out)
  refine start_ (n := 5) (S := fun w' => (w'.cell? ⟨gb9, 0, none⟩ = some (.int .i64 t3_0) ∧ w'.cell? ⟨gb9, 1, none⟩ = some (.int .i64 t3_1) ∧ w'.cell? ⟨gb9, 2, none⟩ = some (.slice A8_2 n8_2 c8_2)) ∧ (w'.cell? ⟨gb1, 0, none⟩ = some (.int .i64 a1_0) ∧ w'.cell? ⟨gb1, 1, none⟩ = some (.int .i64 a1_1) ∧ w'.cell? ⟨gb1, 2, none⟩ = some (.slice A1_2 l1_2.length c1_2))) (ds := []) #[false, false, false, false, false] (by kernel_rfl) rfl rfl ⟨cs3 (Rs.getE RS 9 rfl Ee27), cs3 (Rs.getE RS 1 rfl Ee2)⟩ (fun hHeld => ?_)
  generalize w36_.drew = w37_ at RS hHeld ⊢
  refine take_ (i := 0) (N := some 45) (v := ?_) (a' := ?_) #[true, false, false, false, false] rfl rfl (by kernel_rfl) (fun _ _ _ h => h) (Or.inl ⟨by rfl, ?_⟩) hHeld ?_ ?_
  rotate_left
  · rintro w' ⟨⟨s0, s1, s2⟩, ⟨s3, s4, s5⟩⟩
    go_simp
    with_reducible rfl
  rotate_left
  · simp only [Act.put, List.setIfInBounds_toArray, List.set_cons_zero, List.set_cons_succ, i64_w, i32_w]
    rfl
  refine take_ (i := 1) (N := some 46) (v := ?_) (a' := ?_) #[true, true, false, false, false] rfl rfl (by kernel_rfl) (fun _ _ _ h => h) (Or.inl ⟨by rfl, ?_⟩) hHeld ?_ ?_
  rotate_left
  · rintro w' ⟨⟨s0, s1, s2⟩, ⟨s3, s4, s5⟩⟩
    go_simp
    with_reducible rfl
  rotate_left
  · simp only [Act.put, List.setIfInBounds_toArray, List.set_cons_zero, List.set_cons_succ, i64_w, i32_w]
    rfl
  refine one_ (i := 2) (N := some 47) #[true, true, true, false, false] rfl rfl (by kernel_rfl) (by decide) (fun K hK => ?_)
  refine goes_ Try.func13 (by kernel_rfl) rfl #[.agg #[.int .i64 a1_0, .int .i64 a1_1, .slice A1_2 l1_2.length c1_2]] (by rfl) rfl rfl (by (try simp only [List.map_toArray, List.map_cons, List.map_nil]); first | done | rfl) ?_
  (refine (laws_toEvent.own k w.heap.size a1_0 a1_1 _ _ _ l1_2 t3_0 t3_1 t3_2 _ ?sB ?s0 A3.out).mono ?_)
  (case sB => exact RS.out.B.size)
  (case s0 => exact HR1_2.out.below RS.out.B)
  rintro e w38_ ⟨A13_2, n13_2, c13_2, rfl, hq, hb⟩; refine ⟨_, rfl, ?_⟩; obtain ⟨e31, Ee31, RS_⟩ := Rs.pushE RS hb hq; replace RS := (show Aside0 (Rs w _ [e1, e2, e20, e21, e22, e23, e24, e25, e26, e27, e28, e29, e30, e31]) from RS_); clear RS_; clear hq hb
  refine hK.out _ _ ⟨cs3 (Rs.getE RS 9 rfl Ee27), cs3 (Rs.getE RS 1 rfl Ee2)⟩ (fun hHeld => ?_)
  clear hK K
  refine norm_ (a' := ?_) ?_ ?_
  rotate_left
  · show Act.put _ (some 47) _ = _
    simp only [Act.put, List.setIfInBounds_toArray, List.set_cons_zero, List.set_cons_succ, i64_w, i32_w]
    rfl
  refine one_ (i := 3) (N := some 48) #[true, true, true, true, false] rfl rfl (by kernel_rfl) (by decide) (fun K hK => ?_)
  refine goes_ Try.func17 (by kernel_rfl) rfl #[.agg #[.int .i64 t3_0, .int .i64 t3_1, .slice A8_2 n8_2 c8_2], .agg #[.int .i64 t3_0, .int .i64 t3_1, .slice A13_2 n13_2 c13_2]] (by rfl) rfl rfl (by (try simp only [List.map_toArray, List.map_cons, List.map_nil]); first | done | rfl) ?_
  (refine (laws_eqEvent.rd k t3_0 t3_1 _ _ _ t3_2 t3_0 t3_1 _ _ _ t3_2 true _ ?s0 ?s1 A8.out).mono ?_)
  (case s0 => exact OwnT38.rd2 _ _ _ _ _ _ _ _ (Rs.getE RS 8 rfl Ee26))
  (case s1 => exact OwnT38.rd2 _ _ _ _ _ _ _ _ (Rs.getE RS 13 rfl Ee31))
  rintro e w39_ ⟨rfl, hb⟩; refine ⟨_, rfl, ?_⟩; replace RS := Aside0.mk (RS.out.below hb); clear hb
  refine hK.out _ _ ⟨cs3 (Rs.getE RS 9 rfl Ee27), cs3 (Rs.getE RS 1 rfl Ee2)⟩ (fun hHeld => ?_)
  clear hK K
  refine norm_ (a' := ?_) ?_ ?_
  rotate_left
  · show Act.put _ (some 48) _ = _
    simp only [Act.put, List.setIfInBounds_toArray, List.set_cons_zero, List.set_cons_succ, i64_w, i32_w]
    rfl
  refine pure_ (i := 4) (N := some 49) (v := ?_) (a' := ?_) #[true, true, true, true, true] rfl rfl (by kernel_rfl) (fun _ _ _ h => h) (Or.inl ⟨by rfl, ?_⟩) ?_ ?_
  rotate_left
  · intro w'
    go_simp
    with_reducible rfl
  rotate_left
  · simp only [Act.put, List.setIfInBounds_toArray, List.set_cons_zero, List.set_cons_succ, i64_w, i32_w]
    rfl
  refine done_ (by kernel_rfl) ?_
  (try clear hz44)
  (try clear hz45)
  (try clear hz46)
  (try clear hz47)
  (try clear hz48)
  (try clear hz49)
  have hz50 := cx9 (Rs.getE RS 0 rfl Ee1)
  have hz51 := cx3 (Rs.getE RS 1 rfl Ee2)
  have hz52 := cx11 (Rs.getE RS 5 rfl Ee23)
  have hz53 := cx9 (Rs.getE RS 7 rfl Ee25)
  have hz54 := cx3 (Rs.getE RS 9 rfl Ee27)
  have hz55 := cx11 (Rs.getE RS 11 rfl Ee29)
  go_wp2_with (first | ((with_reducible refine gate_callee (f := 18) rfl ?_); refine goA (some 52) rfl rfl Try.func18 rfl #[.agg #[.int .i64 t2_0, .bool t2_1, .int .i64 t2_2, .int .i64 t2_3, .slice A6_4 n6_4 c6_4, .int .i64 t2_5, .int .i64 t2_6, .int .i64 t2_7, .int .i64 t2_8], .int .i64 1] rfl ?_; (refine (laws_markNode.own k _ _ t2_0 t2_1 t2_2 t2_3 _ _ _ t2_4 t2_5 t2_6 t2_7 t2_8 1 t9 t9_4 w _ ?sB (Rs.getE RS 6 rfl Ee24) A9.out).mono ?_); (case sB => exact RS.out.B); rintro e w40_ ⟨rfl, hq, hb, hk⟩; refine ⟨_, rfl, ?_⟩; obtain ⟨e32, Ee32, RS_⟩ := Rs.updE RS 6 rfl Ee24 hb hk hq; replace RS := (show Aside0 (Rs w _ [e1, e2, e20, e21, e22, e23, e32, e25, e26, e27, e28, e29, e30, e31]) from RS_); clear RS_; clear hq hb hk; (try clear hz50); (try clear hz51); (try clear hz52); (try clear hz53); (try clear hz54); (try clear hz55); have hz56 := cx9 (Rs.getE RS 0 rfl Ee1); have hz57 := cx3 (Rs.getE RS 1 rfl Ee2); have hz58 := cx11 (Rs.getE RS 5 rfl Ee23); have hz59 := cx9 (Rs.getE RS 7 rfl Ee25); have hz60 := cx3 (Rs.getE RS 9 rfl Ee27); have hz61 := cx11 (Rs.getE RS 11 rfl Ee29); skip) | ((with_reducible refine gate_callee (f := 19) rfl ?_); refine goA (some 55) rfl rfl Try.func19 rfl #[.agg #[.int .i64 t3_0, .int .i64 t3_1, .slice A8_2 n8_2 c8_2], .int .i64 t9] rfl ?_; (refine (laws_markEvent.own k _ _ t3_0 t3_1 _ _ _ t3_2 t9 t10 t10_2 w _ ?sB (Rs.getE RS 8 rfl Ee26) A10.out).mono ?_); (case sB => exact RS.out.B); rintro e w41_ ⟨rfl, hq, hb, hk⟩; refine ⟨_, rfl, ?_⟩; obtain ⟨e33, Ee33, RS_⟩ := Rs.updE RS 8 rfl Ee26 hb hk hq; replace RS := (show Aside0 (Rs w _ [e1, e2, e20, e21, e22, e23, e32, e25, e33, e27, e28, e29, e30, e31]) from RS_); clear RS_; clear hq hb hk; (try clear hz56); (try clear hz57); (try clear hz58); (try clear hz59); (try clear hz60); (try clear hz61); have hz62 := cx9 (Rs.getE RS 0 rfl Ee1); have hz63 := cx3 (Rs.getE RS 1 rfl Ee2); have hz64 := cx11 (Rs.getE RS 5 rfl Ee23); have hz65 := cx9 (Rs.getE RS 7 rfl Ee25); have hz66 := cx3 (Rs.getE RS 9 rfl Ee27); have hz67 := cx11 (Rs.getE RS 11 rfl Ee29); skip) | ((with_reducible refine gate_callee (f := 15) rfl ?_); (with_reducible refine gateG ?gw42 ?_); (case gw42 => rfl); refine goA (some 61) rfl rfl Try.func15 rfl #[.agg #[.int .i64 t5_0, .int .i64 t5_1, .bool t5_2, .int .i64 t5_3, .int .i64 t5_4, .slice A10_5 n10_5 c10_5, .int .i64 t5_6, .int .i64 t5_7, .int .i64 t5_8, .int .i64 t5_9, .slice A10_10 n10_10 c10_10], .agg #[.int .i64 t4_0, .int .i64 t4_1, .bool t4_2, .int .i64 t4_3, .int .i64 t4_4, .slice A4_5 n4_5 c4_5, .int .i64 t4_6, .int .i64 t4_7, .int .i64 t4_8, .int .i64 t4_9, .slice A4_10 n4_10 c4_10]] rfl ?_; (refine (laws_eqNodeResult.rd k t5_0 t5_1 t5_2 t5_3 t5_4 _ _ _ t5_5 t5_6 t5_7 t5_8 t5_9 _ _ _ [] t4_0 t4_1 t4_2 t4_3 t4_4 _ _ _ t4_5 t4_6 t4_7 t4_8 t4_9 _ _ _ [] true _ ?s0 ?s1 ?s2 ?s3 A6.out).mono ?_); (case s0 => exact OwnT35.rd5 _ _ _ _ _ _ _ _ _ _ (Rs.getE RS 10 rfl Ee28)); (case s1 => exact OwnT35.rd10 _ _ _ _ _ _ _ _ _ _ (Rs.getE RS 10 rfl Ee28)); (case s2 => exact OwnT35.rd5 _ _ _ _ _ _ _ _ _ _ (Rs.getE RS 4 rfl Ee22)); (case s3 => exact OwnT35.rd10 _ _ _ _ _ _ _ _ _ _ (Rs.getE RS 4 rfl Ee22)); rintro e w42_ ⟨rfl, hb⟩; refine ⟨_, rfl, ?_⟩; replace RS := Aside0.mk (RS.out.below hb); clear hb; (try clear hz62); (try clear hz63); (try clear hz64); (try clear hz65); (try clear hz66); (try clear hz67); have hz68 := cx9 (Rs.getE RS 0 rfl Ee1); have hz69 := cx3 (Rs.getE RS 1 rfl Ee2); have hz70 := cx11 (Rs.getE RS 5 rfl Ee23); have hz71 := cx9 (Rs.getE RS 7 rfl Ee25); have hz72 := cx3 (Rs.getE RS 9 rfl Ee27); have hz73 := cx11 (Rs.getE RS 11 rfl Ee29); skip) | ((with_reducible refine gate_callee (f := 20) rfl ?_); refine goA (some 66) rfl rfl Try.func20 rfl #[.agg #[.int .i64 t5_0, .int .i64 t5_1, .bool t5_2, .int .i64 t5_3, .int .i64 t5_4, .slice A10_5 n10_5 c10_5, .int .i64 t5_6, .int .i64 t5_7, .int .i64 t5_8, .int .i64 t5_9, .slice A10_10 n10_10 c10_10], .int .i64 1] rfl ?_; (refine (laws_markNodeResult.own k _ _ t5_0 t5_1 t5_2 t5_3 t5_4 _ _ _ t5_5 t5_6 t5_7 t5_8 t5_9 _ _ _ 1 t11 t11_5 w _ ?sB (Rs.getE RS 10 rfl Ee28) A11.out).mono ?_); (case sB => exact RS.out.B); rintro e w43_ ⟨rfl, hq, hb, hk⟩; refine ⟨_, rfl, ?_⟩; obtain ⟨e34, Ee34, RS_⟩ := Rs.updE RS 10 rfl Ee28 hb hk hq; replace RS := (show Aside0 (Rs w _ [e1, e2, e20, e21, e22, e23, e32, e25, e33, e27, e34, e29, e30, e31]) from RS_); clear RS_; clear hq hb hk; (try clear hz68); (try clear hz69); (try clear hz70); (try clear hz71); (try clear hz72); (try clear hz73); have hz74 := cx9 (Rs.getE RS 0 rfl Ee1); have hz75 := cx3 (Rs.getE RS 1 rfl Ee2); have hz76 := cx11 (Rs.getE RS 5 rfl Ee23); have hz77 := cx9 (Rs.getE RS 7 rfl Ee25); have hz78 := cx3 (Rs.getE RS 9 rfl Ee27); have hz79 := cx11 (Rs.getE RS 11 rfl Ee29); skip) | ((with_reducible refine gate_callee (f := 21) rfl ?_); refine goA (some 69) rfl rfl Try.func21 rfl #[.agg #[.int .i64 t5_0, .int .i64 t5_1, .bool t5_2, .int .i64 t5_3, .int .i64 t5_4, .slice A10_5 n10_5 c10_5, .int .i64 t5_6, .int .i64 t5_7, .int .i64 t5_8, .int .i64 t5_9, .slice A10_10 n10_10 c10_10], .int .i64 1] rfl ?_; (refine (laws_heldNodeResult.rd k t5_0 t5_1 t5_2 t5_3 t5_4 _ _ _ t11_5 t5_6 t5_7 t5_8 t5_9 _ _ _ [] 1 t12 _ ?s0 ?s1 A12.out).mono ?_); (case s0 => exact OwnT35.rd5 _ _ _ _ _ _ _ _ _ _ (Rs.getE RS 10 rfl Ee34)); (case s1 => exact OwnT35.rd10 _ _ _ _ _ _ _ _ _ _ (Rs.getE RS 10 rfl Ee34)); rintro e w44_ ⟨rfl, hb⟩; refine ⟨_, rfl, ?_⟩; replace RS := Aside0.mk (RS.out.below hb); clear hb; (try clear hz74); (try clear hz75); (try clear hz76); (try clear hz77); (try clear hz78); (try clear hz79); have hz80 := cx9 (Rs.getE RS 0 rfl Ee1); have hz81 := cx3 (Rs.getE RS 1 rfl Ee2); have hz82 := cx11 (Rs.getE RS 5 rfl Ee23); have hz83 := cx9 (Rs.getE RS 7 rfl Ee25); have hz84 := cx3 (Rs.getE RS 9 rfl Ee27); have hz85 := cx11 (Rs.getE RS 11 rfl Ee29); skip))
  replace RS := Aside0.mk (Rs.drew RS.out)
  refine start_ (n := 7) (S := fun w' => (w'.cell? ⟨gb0, 0, none⟩ = some (.int .i64 a0_0) ∧ w'.cell? ⟨gb0, 1, none⟩ = some (.bool a0_1) ∧ w'.cell? ⟨gb0, 2, none⟩ = some (.int .i64 a0_2) ∧ w'.cell? ⟨gb0, 3, none⟩ = some (.int .i64 a0_3) ∧ w'.cell? ⟨gb0, 4, none⟩ = some (.slice A0_4 l0_4.length c0_4) ∧ w'.cell? ⟨gb0, 5, none⟩ = some (.int .i64 a0_5) ∧ w'.cell? ⟨gb0, 6, none⟩ = some (.int .i64 a0_6) ∧ w'.cell? ⟨gb0, 7, none⟩ = some (.int .i64 a0_7) ∧ w'.cell? ⟨gb0, 8, none⟩ = some (.int .i64 a0_8)) ∧ (w'.cell? ⟨gb1, 0, none⟩ = some (.int .i64 a1_0) ∧ w'.cell? ⟨gb1, 1, none⟩ = some (.int .i64 a1_1) ∧ w'.cell? ⟨gb1, 2, none⟩ = some (.slice A1_2 l1_2.length c1_2))) (ds := []) #[false, false, false, false, false, false, false] (by kernel_rfl) rfl rfl ⟨cs9 (Rs.getE RS 0 rfl Ee1), cs3 (Rs.getE RS 1 rfl Ee2)⟩ (fun hHeld => ?_)
  generalize w44_.drew = w45_ at RS hHeld ⊢
  refine take_ (i := 0) (N := some 75) (v := ?_) (a' := ?_) #[true, false, false, false, false, false, false] rfl rfl (by kernel_rfl) (fun _ _ _ h => h) (Or.inl ⟨by rfl, ?_⟩) hHeld ?_ ?_
  rotate_left
  · rintro w' ⟨⟨s0, s1, s2, s3, s4, s5, s6, s7, s8⟩, ⟨s9, s10, s11⟩⟩
    go_simp
    with_reducible rfl
  rotate_left
  · simp only [Act.put, List.setIfInBounds_toArray, List.set_cons_zero, List.set_cons_succ, i64_w, i32_w]
    rfl
  refine take_ (i := 2) (N := some 77) (v := ?_) (a' := ?_) #[true, false, true, false, false, false, false] rfl rfl (by kernel_rfl) (fun _ _ _ h => h) (Or.inl ⟨by rfl, ?_⟩) hHeld ?_ ?_
  rotate_left
  · rintro w' ⟨⟨s0, s1, s2, s3, s4, s5, s6, s7, s8⟩, ⟨s9, s10, s11⟩⟩
    go_simp
    with_reducible rfl
  rotate_left
  · simp only [Act.put, List.setIfInBounds_toArray, List.set_cons_zero, List.set_cons_succ, i64_w, i32_w]
    rfl
  refine join_ (σ := Option Addr × Nat × Nat × Option Addr × Nat × Nat × Option Addr × Nat × Nat × Option Addr × Nat × Nat × Nat) 0 #[true, true, true, true, true, true, true] (fun s => [(76, .agg #[.int .i64 t2_0, .bool t2_1, .int .i64 t2_2, .int .i64 t2_3, .slice s.1 s.2.1 s.2.2.1, .int .i64 t2_5, .int .i64 t2_6, .int .i64 t2_7, .int .i64 t2_8]), (78, .agg #[.int .i64 t3_0, .int .i64 t3_1, .slice s.2.2.2.1 s.2.2.2.2.1 s.2.2.2.2.2.1]), (79, .agg #[.int .i64 t5_0, .int .i64 t5_1, .bool t5_2, .int .i64 t5_3, .int .i64 t5_4, .slice s.2.2.2.2.2.2.1 s.2.2.2.2.2.2.2.1 s.2.2.2.2.2.2.2.2.1, .int .i64 t5_6, .int .i64 t5_7, .int .i64 t5_8, .int .i64 t5_9, .slice s.2.2.2.2.2.2.2.2.2.1 s.2.2.2.2.2.2.2.2.2.2.1 s.2.2.2.2.2.2.2.2.2.2.2.1]), (13, .pointer (some ⟨s.2.2.2.2.2.2.2.2.2.2.2.2, 0, none⟩))]) (fun s w' => ∃ lo14 hi14 lo15 hi15 lo16 hi16 lo17 hi17 : Nat, Rs w w' ([e1, e2, e20, e21, e22, e23, e32, e25, e33, e27, e34, e29, e30, e31] ++ [(lo14, hi14, fun W => OwnT32 w.heap.size lo14 hi14 (.slice s.1 s.2.1 s.2.2.1) t2_4 W)] ++ [(lo15, hi15, fun W => OwnT38 w.heap.size lo15 hi15 (.slice s.2.2.2.1 s.2.2.2.2.1 s.2.2.2.2.2.1) t3_2 W)] ++ [(lo16, hi16, fun W => OwnT35 w.heap.size lo16 hi16 (.slice s.2.2.2.2.2.2.1 s.2.2.2.2.2.2.2.1 s.2.2.2.2.2.2.2.2.1) t5_5 (.slice s.2.2.2.2.2.2.2.2.2.1 s.2.2.2.2.2.2.2.2.2.2.1 s.2.2.2.2.2.2.2.2.2.2.2.1) [] W)] ++ [(lo17, hi17, fun W => W.heap[s.2.2.2.2.2.2.2.2.2.2.2.2]? = some (.cells #[.int .i64 t5_0, .int .i64 t5_1, .bool t5_2, .int .i64 t5_3, .int .i64 t5_4, .slice s.2.2.2.2.2.2.1 s.2.2.2.2.2.2.2.1 s.2.2.2.2.2.2.2.2.1, .int .i64 t5_6, .int .i64 t5_7, .int .i64 t5_8, .int .i64 t5_9, .slice s.2.2.2.2.2.2.2.2.2.1 s.2.2.2.2.2.2.2.2.2.2.1 s.2.2.2.2.2.2.2.2.2.2.2.1] 35 (0, 0)))])) ?cont13 (fun hJ => ?_)
  rotate_left
  · skip
    refine two_ (i := 1) (j := 5) (Ni := some 76) (Nj := some 13) #[true, true, true, false, false, false, false] #[true, false, true, false, false, true, false] rfl rfl rfl rfl (by kernel_rfl) (by decide) (by decide) (fun K hK => ?_) (fun K hK => ?_)
    · refine goes_ Try.func12 (by kernel_rfl) rfl #[.agg #[.int .i64 a0_0, .bool a0_1, .int .i64 a0_2, .int .i64 a0_3, .slice A0_4 l0_4.length c0_4, .int .i64 a0_5, .int .i64 a0_6, .int .i64 a0_7, .int .i64 a0_8]] (by rfl) rfl rfl (by (try simp only [List.map_toArray, List.map_cons, List.map_nil]); first | done | rfl) ?_
      (refine (laws_toNode.own k w.heap.size a0_0 a0_1 a0_2 a0_3 _ _ _ l0_4 a0_5 a0_6 a0_7 a0_8 t2_0 t2_1 t2_2 t2_3 t2_4 t2_5 t2_6 t2_7 t2_8 _ ?sB ?s0 A2.out).mono ?_)
      (case sB => exact RS.out.B.size)
      (case s0 => exact HR0_4.out.below RS.out.B)
      rintro e w46_ ⟨A14_4, n14_4, c14_4, rfl, hq, hb⟩; refine ⟨_, rfl, ?_⟩; obtain ⟨e35, Ee35, RS_⟩ := Rs.pushE RS hb hq; replace RS := (show Aside0 (Rs w _ [e1, e2, e20, e21, e22, e23, e32, e25, e33, e27, e34, e29, e30, e31, e35]) from RS_); clear RS_; clear hq hb
      refine hK.out _ _ ⟨cs9 (Rs.getE RS 0 rfl Ee1), cs3 (Rs.getE RS 1 rfl Ee2)⟩ (fun hHeld => ?_)
      clear hK K
      refine norm_ (a' := ?_) ?_ ?_
      rotate_left
      · show Act.put _ (some 76) _ = _
        simp only [Act.put, List.setIfInBounds_toArray, List.set_cons_zero, List.set_cons_succ, i64_w, i32_w]
        rfl
      refine two_ (i := 3) (j := 5) (Ni := some 78) (Nj := some 13) #[true, true, true, true, false, false, false] #[true, true, true, false, false, true, false] rfl rfl rfl rfl (by kernel_rfl) (by decide) (by decide) (fun K hK => ?_) (fun K hK => ?_)
      · refine goes_ Try.func13 (by kernel_rfl) rfl #[.agg #[.int .i64 a1_0, .int .i64 a1_1, .slice A1_2 l1_2.length c1_2]] (by rfl) rfl rfl (by (try simp only [List.map_toArray, List.map_cons, List.map_nil]); first | done | rfl) ?_
        (refine (laws_toEvent.own k w.heap.size a1_0 a1_1 _ _ _ l1_2 t3_0 t3_1 t3_2 _ ?sB ?s0 A3.out).mono ?_)
        (case sB => exact RS.out.B.size)
        (case s0 => exact HR1_2.out.below RS.out.B)
        rintro e w47_ ⟨A15_2, n15_2, c15_2, rfl, hq, hb⟩; refine ⟨_, rfl, ?_⟩; obtain ⟨e36, Ee36, RS_⟩ := Rs.pushE RS hb hq; replace RS := (show Aside0 (Rs w _ [e1, e2, e20, e21, e22, e23, e32, e25, e33, e27, e34, e29, e30, e31, e35, e36]) from RS_); clear RS_; clear hq hb
        refine hK.out _ _ ⟨cs9 (Rs.getE RS 0 rfl Ee1), cs3 (Rs.getE RS 1 rfl Ee2)⟩ (fun hHeld => ?_)
        clear hK K
        refine norm_ (a' := ?_) ?_ ?_
        rotate_left
        · show Act.put _ (some 78) _ = _
          simp only [Act.put, List.setIfInBounds_toArray, List.set_cons_zero, List.set_cons_succ, i64_w, i32_w]
          rfl
        refine two_ (i := 4) (j := 5) (Ni := some 79) (Nj := some 13) #[true, true, true, true, true, false, false] #[true, true, true, true, false, true, false] rfl rfl rfl rfl (by kernel_rfl) (by decide) (by decide) (fun K hK => ?_) (fun K hK => ?_)
        · refine goes_ Try.func14 (by kernel_rfl) rfl #[.agg #[.int .i64 t2_0, .bool t2_1, .int .i64 t2_2, .int .i64 t2_3, .slice A14_4 n14_4 c14_4, .int .i64 t2_5, .int .i64 t2_6, .int .i64 t2_7, .int .i64 t2_8], .agg #[.int .i64 t3_0, .int .i64 t3_1, .slice A15_2 n15_2 c15_2]] (by rfl) rfl rfl (by (try simp only [List.map_toArray, List.map_cons, List.map_nil]); first | done | rfl) ?_
          (refine (impl_AddEvent.own k w.heap.size t2_0 t2_1 t2_2 t2_3 _ _ _ t2_4 t2_5 t2_6 t2_7 t2_8 t3_0 t3_1 _ _ _ t3_2 t5_0 t5_1 t5_2 t5_3 t5_4 t5_5 t5_6 t5_7 t5_8 t5_9 _ ?sB ?s0 ?s1 A5.out).mono ?_)
          (case sB => exact RS.out.B.size)
          (case s0 => exact OwnT32.rd4 _ _ _ _ _ _ _ _ (Rs.getE RS 14 rfl Ee35))
          (case s1 => exact OwnT38.rd2 _ _ _ _ _ _ _ _ (Rs.getE RS 15 rfl Ee36))
          rintro e w48_ ⟨A16_5, n16_5, c16_5, A16_10, n16_10, c16_10, rfl, hq, hb⟩; refine ⟨_, rfl, ?_⟩; obtain ⟨e37, Ee37, RS_⟩ := Rs.pushE RS hb hq; replace RS := (show Aside0 (Rs w _ [e1, e2, e20, e21, e22, e23, e32, e25, e33, e27, e34, e29, e30, e31, e35, e36, e37]) from RS_); clear RS_; clear hq hb
          refine hK.out _ _ ⟨cs9 (Rs.getE RS 0 rfl Ee1), cs3 (Rs.getE RS 1 rfl Ee2)⟩ (fun hHeld => ?_)
          clear hK K
          refine norm_ (a' := ?_) ?_ ?_
          rotate_left
          · show Act.put _ (some 79) _ = _
            simp only [Act.put, List.setIfInBounds_toArray, List.set_cons_zero, List.set_cons_succ, i64_w, i32_w]
            rfl
          refine one_ (i := 5) (N := some 13) #[true, true, true, true, true, true, false] rfl rfl (by kernel_rfl) (by decide) (fun K hK => ?_)
          refine box_step (N := 13) (by rfl) rfl (cs := #[.int .i64 0, .int .i64 0, .bool false, .int .i64 0, .int .i64 0, .slice none 0 0, .int .i64 0, .int .i64 0, .int .i64 0, .int .i64 0, .slice none 0 0]) (t := 35) (by first | (go_simp; done) | (go_simp; rfl)) ?_
          intro gb_ hg w49_ hbox hb
          have HGB := Aside0.mk (show w.heap.size ≤ gb_ from by rw [hg]; exact RS.out.B.size)
          have HLO := Aside0.mk (show w48_.heap.size ≤ gb_ ∧ gb_ < w49_.heap.size from ⟨Nat.le_of_eq hg.symm, blk_lt hbox⟩)
          obtain ⟨e38, Ee38, RS_⟩ := Rs.pushE RS hb (Q := fun W => W.heap[gb_]? = some (.cells #[.int .i64 0, .int .i64 0, .bool false, .int .i64 0, .int .i64 0, .slice none 0 0, .int .i64 0, .int .i64 0, .int .i64 0, .int .i64 0, .slice none 0 0] 35 (0, 0))) (fun W' hW => (hW _ (Nat.le_of_eq hg.symm) (blk_lt hbox)).trans hbox); replace RS := (show Aside0 (Rs w _ [e1, e2, e20, e21, e22, e23, e32, e25, e33, e27, e34, e29, e30, e31, e35, e36, e37, e38]) from RS_); clear RS_
          clear hbox hb hg
          refine hK.out _ _ ⟨cs9 (Rs.getE RS 0 rfl Ee1), cs3 (Rs.getE RS 1 rfl Ee2)⟩ (fun hHeld => ?_)
          clear hK K
          refine norm_ (a' := ?_) ?_ ?_
          rotate_left
          · show Act.put _ (some 13) _ = _
            simp only [Act.put, List.setIfInBounds_toArray, List.set_cons_zero, List.set_cons_succ, i64_w, i32_w]
            rfl
          refine one_ (i := 6) (N := none) #[true, true, true, true, true, true, true] rfl rfl (by kernel_rfl) (by decide) (fun K hK => ?_)
          have HBX := Aside0.mk (show w49_.heap[gb_]? = some (.cells #[.int .i64 0, .int .i64 0, .bool false, .int .i64 0, .int .i64 0, .slice none 0 0, .int .i64 0, .int .i64 0, .int .i64 0, .int .i64 0, .slice none 0 0] 35 (0, 0)) from (Rs.getE RS 17 rfl Ee38))
          have hzX := cl_11 HBX
          refine store_step (((((((((((w49_.setCell ⟨gb_, 0, none⟩ (.int .i64 t5_0)).setCell ⟨gb_, 1, none⟩ (.int .i64 t5_1)).setCell ⟨gb_, 2, none⟩ (.bool t5_2)).setCell ⟨gb_, 3, none⟩ (.int .i64 t5_3)).setCell ⟨gb_, 4, none⟩ (.int .i64 t5_4)).setCell ⟨gb_, 5, none⟩ (.slice A16_5 n16_5 c16_5)).setCell ⟨gb_, 6, none⟩ (.int .i64 t5_6)).setCell ⟨gb_, 7, none⟩ (.int .i64 t5_7)).setCell ⟨gb_, 8, none⟩ (.int .i64 t5_8)).setCell ⟨gb_, 9, none⟩ (.int .i64 t5_9)).setCell ⟨gb_, 10, none⟩ (.slice A16_10 n16_10 c16_10)) (by rfl) rfl (by first | (go_simp; done) | (go_simp; rfl)) ?_
          intro w50_ hw
          have hb : Below w.heap.size w w50_ := (by rw [hw]; repeat (with_reducible first | exact RS.out.B | refine below_set ?_ HGB.out))
          have hk : Kept w49_ w50_ (fun k => w48_.heap.size ≤ k ∧ k < w49_.heap.size) := (by rw [hw]; repeat (with_reducible first | exact Kept.refl _ _ | refine Kept.setCell ?_ (.inl HLO.out) _))
          have hbox : w50_.heap[gb_]? = some (.cells #[.int .i64 t5_0, .int .i64 t5_1, .bool t5_2, .int .i64 t5_3, .int .i64 t5_4, .slice A16_5 n16_5 c16_5, .int .i64 t5_6, .int .i64 t5_7, .int .i64 t5_8, .int .i64 t5_9, .slice A16_10 n16_10 c16_10] 35 (0, 0)) := (by rw [hw]; exact mP HBX)
          obtain ⟨e39, Ee39, RS_⟩ := Rs.updE RS 17 rfl Ee38 (Q1 := fun W => W.heap[gb_]? = some (.cells #[.int .i64 t5_0, .int .i64 t5_1, .bool t5_2, .int .i64 t5_3, .int .i64 t5_4, .slice A16_5 n16_5 c16_5, .int .i64 t5_6, .int .i64 t5_7, .int .i64 t5_8, .int .i64 t5_9, .slice A16_10 n16_10 c16_10] 35 (0, 0))) hb hk (fun W' hW => (hW _ HLO.out.1 HLO.out.2).trans hbox); replace RS := (show Aside0 (Rs w _ [e1, e2, e20, e21, e22, e23, e32, e25, e33, e27, e34, e29, e30, e31, e35, e36, e37, e39]) from RS_); clear RS_
          clear HBX hzX hbox hb hk hw
          refine hK.out _ _ ⟨cs9 (Rs.getE RS 0 rfl Ee1), cs3 (Rs.getE RS 1 rfl Ee2)⟩ (fun hHeld => ?_)
          clear hK K
          refine norm_ (a' := ?_) ?_ ?_
          rotate_left
          · show Act.put _ none _ = _
            simp only [Act.put]
            rfl
          obtain rfl := Ee35.out; obtain rfl := Ee36.out; obtain rfl := Ee37.out; obtain rfl := Ee39.out; exact norm_ rfl (hJ (A14_4, n14_4, c14_4, A15_2, n15_2, c15_2, A16_5, n16_5, c16_5, A16_10, n16_10, c16_10, gb_) _ ⟨_, _, _, _, _, _, _, _, RS.out⟩)
        · refine box_step (N := 13) (by rfl) rfl (cs := #[.int .i64 0, .int .i64 0, .bool false, .int .i64 0, .int .i64 0, .slice none 0 0, .int .i64 0, .int .i64 0, .int .i64 0, .int .i64 0, .slice none 0 0]) (t := 35) (by first | (go_simp; done) | (go_simp; rfl)) ?_
          intro gb_ hg w51_ hbox hb
          have HGB := Aside0.mk (show w.heap.size ≤ gb_ from by rw [hg]; exact RS.out.B.size)
          have HLO := Aside0.mk (show w47_.heap.size ≤ gb_ ∧ gb_ < w51_.heap.size from ⟨Nat.le_of_eq hg.symm, blk_lt hbox⟩)
          obtain ⟨e40, Ee40, RS_⟩ := Rs.pushE RS hb (Q := fun W => W.heap[gb_]? = some (.cells #[.int .i64 0, .int .i64 0, .bool false, .int .i64 0, .int .i64 0, .slice none 0 0, .int .i64 0, .int .i64 0, .int .i64 0, .int .i64 0, .slice none 0 0] 35 (0, 0))) (fun W' hW => (hW _ (Nat.le_of_eq hg.symm) (blk_lt hbox)).trans hbox); replace RS := (show Aside0 (Rs w _ [e1, e2, e20, e21, e22, e23, e32, e25, e33, e27, e34, e29, e30, e31, e35, e36, e40]) from RS_); clear RS_
          clear hbox hb hg
          refine hK.out _ _ ⟨cs9 (Rs.getE RS 0 rfl Ee1), cs3 (Rs.getE RS 1 rfl Ee2)⟩ (fun hHeld => ?_)
          clear hK K
          refine norm_ (a' := ?_) ?_ ?_
          rotate_left
          · show Act.put _ (some 13) _ = _
            simp only [Act.put, List.setIfInBounds_toArray, List.set_cons_zero, List.set_cons_succ, i64_w, i32_w]
            rfl
          refine one_ (i := 4) (N := some 79) #[true, true, true, true, true, true, false] rfl rfl (by kernel_rfl) (by decide) (fun K hK => ?_)
          refine goes_ Try.func14 (by kernel_rfl) rfl #[.agg #[.int .i64 t2_0, .bool t2_1, .int .i64 t2_2, .int .i64 t2_3, .slice A14_4 n14_4 c14_4, .int .i64 t2_5, .int .i64 t2_6, .int .i64 t2_7, .int .i64 t2_8], .agg #[.int .i64 t3_0, .int .i64 t3_1, .slice A15_2 n15_2 c15_2]] (by rfl) rfl rfl (by (try simp only [List.map_toArray, List.map_cons, List.map_nil]); first | done | rfl) ?_
          (refine (impl_AddEvent.own k w.heap.size t2_0 t2_1 t2_2 t2_3 _ _ _ t2_4 t2_5 t2_6 t2_7 t2_8 t3_0 t3_1 _ _ _ t3_2 t5_0 t5_1 t5_2 t5_3 t5_4 t5_5 t5_6 t5_7 t5_8 t5_9 _ ?sB ?s0 ?s1 A5.out).mono ?_)
          (case sB => exact RS.out.B.size)
          (case s0 => exact OwnT32.rd4 _ _ _ _ _ _ _ _ (Rs.getE RS 14 rfl Ee35))
          (case s1 => exact OwnT38.rd2 _ _ _ _ _ _ _ _ (Rs.getE RS 15 rfl Ee36))
          rintro e w52_ ⟨A16_5, n16_5, c16_5, A16_10, n16_10, c16_10, rfl, hq, hb⟩; refine ⟨_, rfl, ?_⟩; obtain ⟨e41, Ee41, RS_⟩ := Rs.pushE RS hb hq; replace RS := (show Aside0 (Rs w _ [e1, e2, e20, e21, e22, e23, e32, e25, e33, e27, e34, e29, e30, e31, e35, e36, e40, e41]) from RS_); clear RS_; replace RS := Aside0.mk (show Rs w _ [e1, e2, e20, e21, e22, e23, e32, e25, e33, e27, e34, e29, e30, e31, e35, e36, e41, e40] from Rs.swap (L := [e1, e2, e20, e21, e22, e23, e32, e25, e33, e27, e34, e29, e30, e31, e35, e36]) (x := e40) (y := e41) RS.out); clear hq hb
          refine hK.out _ _ ⟨cs9 (Rs.getE RS 0 rfl Ee1), cs3 (Rs.getE RS 1 rfl Ee2)⟩ (fun hHeld => ?_)
          clear hK K
          refine norm_ (a' := ?_) ?_ ?_
          rotate_left
          · show Act.put _ (some 79) _ = _
            simp only [Act.put, List.setIfInBounds_toArray, List.set_cons_zero, List.set_cons_succ, i64_w, i32_w]
            rfl
          refine one_ (i := 6) (N := none) #[true, true, true, true, true, true, true] rfl rfl (by kernel_rfl) (by decide) (fun K hK => ?_)
          have HBX := Aside0.mk (show w52_.heap[gb_]? = some (.cells #[.int .i64 0, .int .i64 0, .bool false, .int .i64 0, .int .i64 0, .slice none 0 0, .int .i64 0, .int .i64 0, .int .i64 0, .int .i64 0, .slice none 0 0] 35 (0, 0)) from (Rs.getE RS 17 rfl Ee40))
          have hzX := cl_11 HBX
          refine store_step (((((((((((w52_.setCell ⟨gb_, 0, none⟩ (.int .i64 t5_0)).setCell ⟨gb_, 1, none⟩ (.int .i64 t5_1)).setCell ⟨gb_, 2, none⟩ (.bool t5_2)).setCell ⟨gb_, 3, none⟩ (.int .i64 t5_3)).setCell ⟨gb_, 4, none⟩ (.int .i64 t5_4)).setCell ⟨gb_, 5, none⟩ (.slice A16_5 n16_5 c16_5)).setCell ⟨gb_, 6, none⟩ (.int .i64 t5_6)).setCell ⟨gb_, 7, none⟩ (.int .i64 t5_7)).setCell ⟨gb_, 8, none⟩ (.int .i64 t5_8)).setCell ⟨gb_, 9, none⟩ (.int .i64 t5_9)).setCell ⟨gb_, 10, none⟩ (.slice A16_10 n16_10 c16_10)) (by rfl) rfl (by first | (go_simp; done) | (go_simp; rfl)) ?_
          intro w53_ hw
          have hb : Below w.heap.size w w53_ := (by rw [hw]; repeat (with_reducible first | exact RS.out.B | refine below_set ?_ HGB.out))
          have hk : Kept w52_ w53_ (fun k => w47_.heap.size ≤ k ∧ k < w51_.heap.size) := (by rw [hw]; repeat (with_reducible first | exact Kept.refl _ _ | refine Kept.setCell ?_ (.inl HLO.out) _))
          have hbox : w53_.heap[gb_]? = some (.cells #[.int .i64 t5_0, .int .i64 t5_1, .bool t5_2, .int .i64 t5_3, .int .i64 t5_4, .slice A16_5 n16_5 c16_5, .int .i64 t5_6, .int .i64 t5_7, .int .i64 t5_8, .int .i64 t5_9, .slice A16_10 n16_10 c16_10] 35 (0, 0)) := (by rw [hw]; exact mP HBX)
          obtain ⟨e42, Ee42, RS_⟩ := Rs.updE RS 17 rfl Ee40 (Q1 := fun W => W.heap[gb_]? = some (.cells #[.int .i64 t5_0, .int .i64 t5_1, .bool t5_2, .int .i64 t5_3, .int .i64 t5_4, .slice A16_5 n16_5 c16_5, .int .i64 t5_6, .int .i64 t5_7, .int .i64 t5_8, .int .i64 t5_9, .slice A16_10 n16_10 c16_10] 35 (0, 0))) hb hk (fun W' hW => (hW _ HLO.out.1 HLO.out.2).trans hbox); replace RS := (show Aside0 (Rs w _ [e1, e2, e20, e21, e22, e23, e32, e25, e33, e27, e34, e29, e30, e31, e35, e36, e41, e42]) from RS_); clear RS_
          clear HBX hzX hbox hb hk hw
          refine hK.out _ _ ⟨cs9 (Rs.getE RS 0 rfl Ee1), cs3 (Rs.getE RS 1 rfl Ee2)⟩ (fun hHeld => ?_)
          clear hK K
          refine norm_ (a' := ?_) ?_ ?_
          rotate_left
          · show Act.put _ none _ = _
            simp only [Act.put]
            rfl
          obtain rfl := Ee35.out; obtain rfl := Ee36.out; obtain rfl := Ee41.out; obtain rfl := Ee42.out; exact norm_ rfl (hJ (A14_4, n14_4, c14_4, A15_2, n15_2, c15_2, A16_5, n16_5, c16_5, A16_10, n16_10, c16_10, gb_) _ ⟨_, _, _, _, _, _, _, _, RS.out⟩)
      · refine box_step (N := 13) (by rfl) rfl (cs := #[.int .i64 0, .int .i64 0, .bool false, .int .i64 0, .int .i64 0, .slice none 0 0, .int .i64 0, .int .i64 0, .int .i64 0, .int .i64 0, .slice none 0 0]) (t := 35) (by first | (go_simp; done) | (go_simp; rfl)) ?_
        intro gb_ hg w54_ hbox hb
        have HGB := Aside0.mk (show w.heap.size ≤ gb_ from by rw [hg]; exact RS.out.B.size)
        have HLO := Aside0.mk (show w46_.heap.size ≤ gb_ ∧ gb_ < w54_.heap.size from ⟨Nat.le_of_eq hg.symm, blk_lt hbox⟩)
        obtain ⟨e43, Ee43, RS_⟩ := Rs.pushE RS hb (Q := fun W => W.heap[gb_]? = some (.cells #[.int .i64 0, .int .i64 0, .bool false, .int .i64 0, .int .i64 0, .slice none 0 0, .int .i64 0, .int .i64 0, .int .i64 0, .int .i64 0, .slice none 0 0] 35 (0, 0))) (fun W' hW => (hW _ (Nat.le_of_eq hg.symm) (blk_lt hbox)).trans hbox); replace RS := (show Aside0 (Rs w _ [e1, e2, e20, e21, e22, e23, e32, e25, e33, e27, e34, e29, e30, e31, e35, e43]) from RS_); clear RS_
        clear hbox hb hg
        refine hK.out _ _ ⟨cs9 (Rs.getE RS 0 rfl Ee1), cs3 (Rs.getE RS 1 rfl Ee2)⟩ (fun hHeld => ?_)
        clear hK K
        refine norm_ (a' := ?_) ?_ ?_
        rotate_left
        · show Act.put _ (some 13) _ = _
          simp only [Act.put, List.setIfInBounds_toArray, List.set_cons_zero, List.set_cons_succ, i64_w, i32_w]
          rfl
        refine one_ (i := 3) (N := some 78) #[true, true, true, true, false, true, false] rfl rfl (by kernel_rfl) (by decide) (fun K hK => ?_)
        refine goes_ Try.func13 (by kernel_rfl) rfl #[.agg #[.int .i64 a1_0, .int .i64 a1_1, .slice A1_2 l1_2.length c1_2]] (by rfl) rfl rfl (by (try simp only [List.map_toArray, List.map_cons, List.map_nil]); first | done | rfl) ?_
        (refine (laws_toEvent.own k w.heap.size a1_0 a1_1 _ _ _ l1_2 t3_0 t3_1 t3_2 _ ?sB ?s0 A3.out).mono ?_)
        (case sB => exact RS.out.B.size)
        (case s0 => exact HR1_2.out.below RS.out.B)
        rintro e w55_ ⟨A15_2, n15_2, c15_2, rfl, hq, hb⟩; refine ⟨_, rfl, ?_⟩; obtain ⟨e44, Ee44, RS_⟩ := Rs.pushE RS hb hq; replace RS := (show Aside0 (Rs w _ [e1, e2, e20, e21, e22, e23, e32, e25, e33, e27, e34, e29, e30, e31, e35, e43, e44]) from RS_); clear RS_; replace RS := Aside0.mk (show Rs w _ [e1, e2, e20, e21, e22, e23, e32, e25, e33, e27, e34, e29, e30, e31, e35, e44, e43] from Rs.swap (L := [e1, e2, e20, e21, e22, e23, e32, e25, e33, e27, e34, e29, e30, e31, e35]) (x := e43) (y := e44) RS.out); clear hq hb
        refine hK.out _ _ ⟨cs9 (Rs.getE RS 0 rfl Ee1), cs3 (Rs.getE RS 1 rfl Ee2)⟩ (fun hHeld => ?_)
        clear hK K
        refine norm_ (a' := ?_) ?_ ?_
        rotate_left
        · show Act.put _ (some 78) _ = _
          simp only [Act.put, List.setIfInBounds_toArray, List.set_cons_zero, List.set_cons_succ, i64_w, i32_w]
          rfl
        refine one_ (i := 4) (N := some 79) #[true, true, true, true, true, true, false] rfl rfl (by kernel_rfl) (by decide) (fun K hK => ?_)
        refine goes_ Try.func14 (by kernel_rfl) rfl #[.agg #[.int .i64 t2_0, .bool t2_1, .int .i64 t2_2, .int .i64 t2_3, .slice A14_4 n14_4 c14_4, .int .i64 t2_5, .int .i64 t2_6, .int .i64 t2_7, .int .i64 t2_8], .agg #[.int .i64 t3_0, .int .i64 t3_1, .slice A15_2 n15_2 c15_2]] (by rfl) rfl rfl (by (try simp only [List.map_toArray, List.map_cons, List.map_nil]); first | done | rfl) ?_
        (refine (impl_AddEvent.own k w.heap.size t2_0 t2_1 t2_2 t2_3 _ _ _ t2_4 t2_5 t2_6 t2_7 t2_8 t3_0 t3_1 _ _ _ t3_2 t5_0 t5_1 t5_2 t5_3 t5_4 t5_5 t5_6 t5_7 t5_8 t5_9 _ ?sB ?s0 ?s1 A5.out).mono ?_)
        (case sB => exact RS.out.B.size)
        (case s0 => exact OwnT32.rd4 _ _ _ _ _ _ _ _ (Rs.getE RS 14 rfl Ee35))
        (case s1 => exact OwnT38.rd2 _ _ _ _ _ _ _ _ (Rs.getE RS 15 rfl Ee44))
        rintro e w56_ ⟨A16_5, n16_5, c16_5, A16_10, n16_10, c16_10, rfl, hq, hb⟩; refine ⟨_, rfl, ?_⟩; obtain ⟨e45, Ee45, RS_⟩ := Rs.pushE RS hb hq; replace RS := (show Aside0 (Rs w _ [e1, e2, e20, e21, e22, e23, e32, e25, e33, e27, e34, e29, e30, e31, e35, e44, e43, e45]) from RS_); clear RS_; replace RS := Aside0.mk (show Rs w _ [e1, e2, e20, e21, e22, e23, e32, e25, e33, e27, e34, e29, e30, e31, e35, e44, e45, e43] from Rs.swap (L := [e1, e2, e20, e21, e22, e23, e32, e25, e33, e27, e34, e29, e30, e31, e35, e44]) (x := e43) (y := e45) RS.out); clear hq hb
        refine hK.out _ _ ⟨cs9 (Rs.getE RS 0 rfl Ee1), cs3 (Rs.getE RS 1 rfl Ee2)⟩ (fun hHeld => ?_)
        clear hK K
        refine norm_ (a' := ?_) ?_ ?_
        rotate_left
        · show Act.put _ (some 79) _ = _
          simp only [Act.put, List.setIfInBounds_toArray, List.set_cons_zero, List.set_cons_succ, i64_w, i32_w]
          rfl
        refine one_ (i := 6) (N := none) #[true, true, true, true, true, true, true] rfl rfl (by kernel_rfl) (by decide) (fun K hK => ?_)
        have HBX := Aside0.mk (show w56_.heap[gb_]? = some (.cells #[.int .i64 0, .int .i64 0, .bool false, .int .i64 0, .int .i64 0, .slice none 0 0, .int .i64 0, .int .i64 0, .int .i64 0, .int .i64 0, .slice none 0 0] 35 (0, 0)) from (Rs.getE RS 17 rfl Ee43))
        have hzX := cl_11 HBX
        refine store_step (((((((((((w56_.setCell ⟨gb_, 0, none⟩ (.int .i64 t5_0)).setCell ⟨gb_, 1, none⟩ (.int .i64 t5_1)).setCell ⟨gb_, 2, none⟩ (.bool t5_2)).setCell ⟨gb_, 3, none⟩ (.int .i64 t5_3)).setCell ⟨gb_, 4, none⟩ (.int .i64 t5_4)).setCell ⟨gb_, 5, none⟩ (.slice A16_5 n16_5 c16_5)).setCell ⟨gb_, 6, none⟩ (.int .i64 t5_6)).setCell ⟨gb_, 7, none⟩ (.int .i64 t5_7)).setCell ⟨gb_, 8, none⟩ (.int .i64 t5_8)).setCell ⟨gb_, 9, none⟩ (.int .i64 t5_9)).setCell ⟨gb_, 10, none⟩ (.slice A16_10 n16_10 c16_10)) (by rfl) rfl (by first | (go_simp; done) | (go_simp; rfl)) ?_
        intro w57_ hw
        have hb : Below w.heap.size w w57_ := (by rw [hw]; repeat (with_reducible first | exact RS.out.B | refine below_set ?_ HGB.out))
        have hk : Kept w56_ w57_ (fun k => w46_.heap.size ≤ k ∧ k < w54_.heap.size) := (by rw [hw]; repeat (with_reducible first | exact Kept.refl _ _ | refine Kept.setCell ?_ (.inl HLO.out) _))
        have hbox : w57_.heap[gb_]? = some (.cells #[.int .i64 t5_0, .int .i64 t5_1, .bool t5_2, .int .i64 t5_3, .int .i64 t5_4, .slice A16_5 n16_5 c16_5, .int .i64 t5_6, .int .i64 t5_7, .int .i64 t5_8, .int .i64 t5_9, .slice A16_10 n16_10 c16_10] 35 (0, 0)) := (by rw [hw]; exact mP HBX)
        obtain ⟨e46, Ee46, RS_⟩ := Rs.updE RS 17 rfl Ee43 (Q1 := fun W => W.heap[gb_]? = some (.cells #[.int .i64 t5_0, .int .i64 t5_1, .bool t5_2, .int .i64 t5_3, .int .i64 t5_4, .slice A16_5 n16_5 c16_5, .int .i64 t5_6, .int .i64 t5_7, .int .i64 t5_8, .int .i64 t5_9, .slice A16_10 n16_10 c16_10] 35 (0, 0))) hb hk (fun W' hW => (hW _ HLO.out.1 HLO.out.2).trans hbox); replace RS := (show Aside0 (Rs w _ [e1, e2, e20, e21, e22, e23, e32, e25, e33, e27, e34, e29, e30, e31, e35, e44, e45, e46]) from RS_); clear RS_
        clear HBX hzX hbox hb hk hw
        refine hK.out _ _ ⟨cs9 (Rs.getE RS 0 rfl Ee1), cs3 (Rs.getE RS 1 rfl Ee2)⟩ (fun hHeld => ?_)
        clear hK K
        refine norm_ (a' := ?_) ?_ ?_
        rotate_left
        · show Act.put _ none _ = _
          simp only [Act.put]
          rfl
        obtain rfl := Ee35.out; obtain rfl := Ee44.out; obtain rfl := Ee45.out; obtain rfl := Ee46.out; exact norm_ rfl (hJ (A14_4, n14_4, c14_4, A15_2, n15_2, c15_2, A16_5, n16_5, c16_5, A16_10, n16_10, c16_10, gb_) _ ⟨_, _, _, _, _, _, _, _, RS.out⟩)
    · refine box_step (N := 13) (by rfl) rfl (cs := #[.int .i64 0, .int .i64 0, .bool false, .int .i64 0, .int .i64 0, .slice none 0 0, .int .i64 0, .int .i64 0, .int .i64 0, .int .i64 0, .slice none 0 0]) (t := 35) (by first | (go_simp; done) | (go_simp; rfl)) ?_
      intro gb_ hg w58_ hbox hb
      have HGB := Aside0.mk (show w.heap.size ≤ gb_ from by rw [hg]; exact RS.out.B.size)
      have HLO := Aside0.mk (show w45_.heap.size ≤ gb_ ∧ gb_ < w58_.heap.size from ⟨Nat.le_of_eq hg.symm, blk_lt hbox⟩)
      obtain ⟨e47, Ee47, RS_⟩ := Rs.pushE RS hb (Q := fun W => W.heap[gb_]? = some (.cells #[.int .i64 0, .int .i64 0, .bool false, .int .i64 0, .int .i64 0, .slice none 0 0, .int .i64 0, .int .i64 0, .int .i64 0, .int .i64 0, .slice none 0 0] 35 (0, 0))) (fun W' hW => (hW _ (Nat.le_of_eq hg.symm) (blk_lt hbox)).trans hbox); replace RS := (show Aside0 (Rs w _ [e1, e2, e20, e21, e22, e23, e32, e25, e33, e27, e34, e29, e30, e31, e47]) from RS_); clear RS_
      clear hbox hb hg
      refine hK.out _ _ ⟨cs9 (Rs.getE RS 0 rfl Ee1), cs3 (Rs.getE RS 1 rfl Ee2)⟩ (fun hHeld => ?_)
      clear hK K
      refine norm_ (a' := ?_) ?_ ?_
      rotate_left
      · show Act.put _ (some 13) _ = _
        simp only [Act.put, List.setIfInBounds_toArray, List.set_cons_zero, List.set_cons_succ, i64_w, i32_w]
        rfl
      refine one_ (i := 1) (N := some 76) #[true, true, true, false, false, true, false] rfl rfl (by kernel_rfl) (by decide) (fun K hK => ?_)
      refine goes_ Try.func12 (by kernel_rfl) rfl #[.agg #[.int .i64 a0_0, .bool a0_1, .int .i64 a0_2, .int .i64 a0_3, .slice A0_4 l0_4.length c0_4, .int .i64 a0_5, .int .i64 a0_6, .int .i64 a0_7, .int .i64 a0_8]] (by rfl) rfl rfl (by (try simp only [List.map_toArray, List.map_cons, List.map_nil]); first | done | rfl) ?_
      (refine (laws_toNode.own k w.heap.size a0_0 a0_1 a0_2 a0_3 _ _ _ l0_4 a0_5 a0_6 a0_7 a0_8 t2_0 t2_1 t2_2 t2_3 t2_4 t2_5 t2_6 t2_7 t2_8 _ ?sB ?s0 A2.out).mono ?_)
      (case sB => exact RS.out.B.size)
      (case s0 => exact HR0_4.out.below RS.out.B)
      rintro e w59_ ⟨A14_4, n14_4, c14_4, rfl, hq, hb⟩; refine ⟨_, rfl, ?_⟩; obtain ⟨e48, Ee48, RS_⟩ := Rs.pushE RS hb hq; replace RS := (show Aside0 (Rs w _ [e1, e2, e20, e21, e22, e23, e32, e25, e33, e27, e34, e29, e30, e31, e47, e48]) from RS_); clear RS_; replace RS := Aside0.mk (show Rs w _ [e1, e2, e20, e21, e22, e23, e32, e25, e33, e27, e34, e29, e30, e31, e48, e47] from Rs.swap (L := [e1, e2, e20, e21, e22, e23, e32, e25, e33, e27, e34, e29, e30, e31]) (x := e47) (y := e48) RS.out); clear hq hb
      refine hK.out _ _ ⟨cs9 (Rs.getE RS 0 rfl Ee1), cs3 (Rs.getE RS 1 rfl Ee2)⟩ (fun hHeld => ?_)
      clear hK K
      refine norm_ (a' := ?_) ?_ ?_
      rotate_left
      · show Act.put _ (some 76) _ = _
        simp only [Act.put, List.setIfInBounds_toArray, List.set_cons_zero, List.set_cons_succ, i64_w, i32_w]
        rfl
      refine one_ (i := 3) (N := some 78) #[true, true, true, true, false, true, false] rfl rfl (by kernel_rfl) (by decide) (fun K hK => ?_)
      refine goes_ Try.func13 (by kernel_rfl) rfl #[.agg #[.int .i64 a1_0, .int .i64 a1_1, .slice A1_2 l1_2.length c1_2]] (by rfl) rfl rfl (by (try simp only [List.map_toArray, List.map_cons, List.map_nil]); first | done | rfl) ?_
      (refine (laws_toEvent.own k w.heap.size a1_0 a1_1 _ _ _ l1_2 t3_0 t3_1 t3_2 _ ?sB ?s0 A3.out).mono ?_)
      (case sB => exact RS.out.B.size)
      (case s0 => exact HR1_2.out.below RS.out.B)
      rintro e w60_ ⟨A15_2, n15_2, c15_2, rfl, hq, hb⟩; refine ⟨_, rfl, ?_⟩; obtain ⟨e49, Ee49, RS_⟩ := Rs.pushE RS hb hq; replace RS := (show Aside0 (Rs w _ [e1, e2, e20, e21, e22, e23, e32, e25, e33, e27, e34, e29, e30, e31, e48, e47, e49]) from RS_); clear RS_; replace RS := Aside0.mk (show Rs w _ [e1, e2, e20, e21, e22, e23, e32, e25, e33, e27, e34, e29, e30, e31, e48, e49, e47] from Rs.swap (L := [e1, e2, e20, e21, e22, e23, e32, e25, e33, e27, e34, e29, e30, e31, e48]) (x := e47) (y := e49) RS.out); clear hq hb
      refine hK.out _ _ ⟨cs9 (Rs.getE RS 0 rfl Ee1), cs3 (Rs.getE RS 1 rfl Ee2)⟩ (fun hHeld => ?_)
      clear hK K
      refine norm_ (a' := ?_) ?_ ?_
      rotate_left
      · show Act.put _ (some 78) _ = _
        simp only [Act.put, List.setIfInBounds_toArray, List.set_cons_zero, List.set_cons_succ, i64_w, i32_w]
        rfl
      refine one_ (i := 4) (N := some 79) #[true, true, true, true, true, true, false] rfl rfl (by kernel_rfl) (by decide) (fun K hK => ?_)
      refine goes_ Try.func14 (by kernel_rfl) rfl #[.agg #[.int .i64 t2_0, .bool t2_1, .int .i64 t2_2, .int .i64 t2_3, .slice A14_4 n14_4 c14_4, .int .i64 t2_5, .int .i64 t2_6, .int .i64 t2_7, .int .i64 t2_8], .agg #[.int .i64 t3_0, .int .i64 t3_1, .slice A15_2 n15_2 c15_2]] (by rfl) rfl rfl (by (try simp only [List.map_toArray, List.map_cons, List.map_nil]); first | done | rfl) ?_
      (refine (impl_AddEvent.own k w.heap.size t2_0 t2_1 t2_2 t2_3 _ _ _ t2_4 t2_5 t2_6 t2_7 t2_8 t3_0 t3_1 _ _ _ t3_2 t5_0 t5_1 t5_2 t5_3 t5_4 t5_5 t5_6 t5_7 t5_8 t5_9 _ ?sB ?s0 ?s1 A5.out).mono ?_)
      (case sB => exact RS.out.B.size)
      (case s0 => exact OwnT32.rd4 _ _ _ _ _ _ _ _ (Rs.getE RS 14 rfl Ee48))
      (case s1 => exact OwnT38.rd2 _ _ _ _ _ _ _ _ (Rs.getE RS 15 rfl Ee49))
      rintro e w61_ ⟨A16_5, n16_5, c16_5, A16_10, n16_10, c16_10, rfl, hq, hb⟩; refine ⟨_, rfl, ?_⟩; obtain ⟨e50, Ee50, RS_⟩ := Rs.pushE RS hb hq; replace RS := (show Aside0 (Rs w _ [e1, e2, e20, e21, e22, e23, e32, e25, e33, e27, e34, e29, e30, e31, e48, e49, e47, e50]) from RS_); clear RS_; replace RS := Aside0.mk (show Rs w _ [e1, e2, e20, e21, e22, e23, e32, e25, e33, e27, e34, e29, e30, e31, e48, e49, e50, e47] from Rs.swap (L := [e1, e2, e20, e21, e22, e23, e32, e25, e33, e27, e34, e29, e30, e31, e48, e49]) (x := e47) (y := e50) RS.out); clear hq hb
      refine hK.out _ _ ⟨cs9 (Rs.getE RS 0 rfl Ee1), cs3 (Rs.getE RS 1 rfl Ee2)⟩ (fun hHeld => ?_)
      clear hK K
      refine norm_ (a' := ?_) ?_ ?_
      rotate_left
      · show Act.put _ (some 79) _ = _
        simp only [Act.put, List.setIfInBounds_toArray, List.set_cons_zero, List.set_cons_succ, i64_w, i32_w]
        rfl
      refine one_ (i := 6) (N := none) #[true, true, true, true, true, true, true] rfl rfl (by kernel_rfl) (by decide) (fun K hK => ?_)
      have HBX := Aside0.mk (show w61_.heap[gb_]? = some (.cells #[.int .i64 0, .int .i64 0, .bool false, .int .i64 0, .int .i64 0, .slice none 0 0, .int .i64 0, .int .i64 0, .int .i64 0, .int .i64 0, .slice none 0 0] 35 (0, 0)) from (Rs.getE RS 17 rfl Ee47))
      have hzX := cl_11 HBX
      refine store_step (((((((((((w61_.setCell ⟨gb_, 0, none⟩ (.int .i64 t5_0)).setCell ⟨gb_, 1, none⟩ (.int .i64 t5_1)).setCell ⟨gb_, 2, none⟩ (.bool t5_2)).setCell ⟨gb_, 3, none⟩ (.int .i64 t5_3)).setCell ⟨gb_, 4, none⟩ (.int .i64 t5_4)).setCell ⟨gb_, 5, none⟩ (.slice A16_5 n16_5 c16_5)).setCell ⟨gb_, 6, none⟩ (.int .i64 t5_6)).setCell ⟨gb_, 7, none⟩ (.int .i64 t5_7)).setCell ⟨gb_, 8, none⟩ (.int .i64 t5_8)).setCell ⟨gb_, 9, none⟩ (.int .i64 t5_9)).setCell ⟨gb_, 10, none⟩ (.slice A16_10 n16_10 c16_10)) (by rfl) rfl (by first | (go_simp; done) | (go_simp; rfl)) ?_
      intro w62_ hw
      have hb : Below w.heap.size w w62_ := (by rw [hw]; repeat (with_reducible first | exact RS.out.B | refine below_set ?_ HGB.out))
      have hk : Kept w61_ w62_ (fun k => w45_.heap.size ≤ k ∧ k < w58_.heap.size) := (by rw [hw]; repeat (with_reducible first | exact Kept.refl _ _ | refine Kept.setCell ?_ (.inl HLO.out) _))
      have hbox : w62_.heap[gb_]? = some (.cells #[.int .i64 t5_0, .int .i64 t5_1, .bool t5_2, .int .i64 t5_3, .int .i64 t5_4, .slice A16_5 n16_5 c16_5, .int .i64 t5_6, .int .i64 t5_7, .int .i64 t5_8, .int .i64 t5_9, .slice A16_10 n16_10 c16_10] 35 (0, 0)) := (by rw [hw]; exact mP HBX)
      obtain ⟨e51, Ee51, RS_⟩ := Rs.updE RS 17 rfl Ee47 (Q1 := fun W => W.heap[gb_]? = some (.cells #[.int .i64 t5_0, .int .i64 t5_1, .bool t5_2, .int .i64 t5_3, .int .i64 t5_4, .slice A16_5 n16_5 c16_5, .int .i64 t5_6, .int .i64 t5_7, .int .i64 t5_8, .int .i64 t5_9, .slice A16_10 n16_10 c16_10] 35 (0, 0))) hb hk (fun W' hW => (hW _ HLO.out.1 HLO.out.2).trans hbox); replace RS := (show Aside0 (Rs w _ [e1, e2, e20, e21, e22, e23, e32, e25, e33, e27, e34, e29, e30, e31, e48, e49, e50, e51]) from RS_); clear RS_
      clear HBX hzX hbox hb hk hw
      refine hK.out _ _ ⟨cs9 (Rs.getE RS 0 rfl Ee1), cs3 (Rs.getE RS 1 rfl Ee2)⟩ (fun hHeld => ?_)
      clear hK K
      refine norm_ (a' := ?_) ?_ ?_
      rotate_left
      · show Act.put _ none _ = _
        simp only [Act.put]
        rfl
      obtain rfl := Ee48.out; obtain rfl := Ee49.out; obtain rfl := Ee50.out; obtain rfl := Ee51.out; exact norm_ rfl (hJ (A14_4, n14_4, c14_4, A15_2, n15_2, c15_2, A16_5, n16_5, c16_5, A16_10, n16_10, c16_10, gb_) _ ⟨_, _, _, _, _, _, _, _, RS.out⟩)
  rintro ⟨A14_4, n14_4, c14_4, A15_2, n15_2, c15_2, A16_5, n16_5, c16_5, A16_10, n16_10, c16_10, gb17⟩ w63_ ⟨lo14, hi14, lo15, hi15, lo16, hi16, lo17, hi17, hRS⟩
  obtain ⟨e52, Ee52⟩ : ∃ e, Aside0 (e = ((lo14, hi14, fun W => OwnT32 w.heap.size lo14 hi14 (.slice A14_4 n14_4 c14_4) t2_4 W) : Nat × Nat × (World → Prop))) := ⟨_, ⟨rfl⟩⟩
  obtain ⟨e53, Ee53⟩ : ∃ e, Aside0 (e = ((lo15, hi15, fun W => OwnT38 w.heap.size lo15 hi15 (.slice A15_2 n15_2 c15_2) t3_2 W) : Nat × Nat × (World → Prop))) := ⟨_, ⟨rfl⟩⟩
  obtain ⟨e54, Ee54⟩ : ∃ e, Aside0 (e = ((lo16, hi16, fun W => OwnT35 w.heap.size lo16 hi16 (.slice A16_5 n16_5 c16_5) t5_5 (.slice A16_10 n16_10 c16_10) [] W) : Nat × Nat × (World → Prop))) := ⟨_, ⟨rfl⟩⟩
  obtain ⟨e55, Ee55⟩ : ∃ e, Aside0 (e = ((lo17, hi17, fun W => W.heap[gb17]? = some (.cells #[.int .i64 t5_0, .int .i64 t5_1, .bool t5_2, .int .i64 t5_3, .int .i64 t5_4, .slice A16_5 n16_5 c16_5, .int .i64 t5_6, .int .i64 t5_7, .int .i64 t5_8, .int .i64 t5_9, .slice A16_10 n16_10 c16_10] 35 (0, 0))) : Nat × Nat × (World → Prop))) := ⟨_, ⟨rfl⟩⟩
  replace RS : Aside0 (Rs w _ [e1, e2, e20, e21, e22, e23, e32, e25, e33, e27, e34, e29, e30, e31, e52, e53, e54, e55]) := ⟨by rw [Ee52.out, Ee53.out, Ee54.out, Ee55.out]; exact hRS⟩
  clear hRS
  refine norm_ (a' := ?_) ?_ ?_
  rotate_left
  · simp only [putAll, Act.put, List.setIfInBounds_toArray, List.set_cons_zero, List.set_cons_succ, i64_w, i32_w]
    rfl
  refine done_ (by kernel_rfl) ?_
  (try clear hz80)
  (try clear hz81)
  (try clear hz82)
  (try clear hz83)
  (try clear hz84)
  (try clear hz85)
  have hz86 := cx9 (Rs.getE RS 0 rfl Ee1)
  have hz87 := cx3 (Rs.getE RS 1 rfl Ee2)
  have hz88 := cx11 (Rs.getE RS 5 rfl Ee23)
  have hz89 := cx9 (Rs.getE RS 7 rfl Ee25)
  have hz90 := cx3 (Rs.getE RS 9 rfl Ee27)
  have hz91 := cx11 (Rs.getE RS 11 rfl Ee29)
  have hz92 := cx11 (Rs.getE RS 17 rfl Ee55)
  go_wp2_with (first | ((with_reducible refine gate_callee (f := 15) rfl ?_); refine goA (some 82) rfl rfl Try.func15 rfl #[.agg #[.int .i64 t5_0, .int .i64 t5_1, .bool t5_2, .int .i64 t5_3, .int .i64 t5_4, .slice A16_5 n16_5 c16_5, .int .i64 t5_6, .int .i64 t5_7, .int .i64 t5_8, .int .i64 t5_9, .slice A16_10 n16_10 c16_10], .agg #[.int .i64 t4_0, .int .i64 t4_1, .bool t4_2, .int .i64 t4_3, .int .i64 t4_4, .slice A4_5 n4_5 c4_5, .int .i64 t4_6, .int .i64 t4_7, .int .i64 t4_8, .int .i64 t4_9, .slice A4_10 n4_10 c4_10]] rfl ?_; (refine (laws_eqNodeResult.rd k t5_0 t5_1 t5_2 t5_3 t5_4 _ _ _ t5_5 t5_6 t5_7 t5_8 t5_9 _ _ _ [] t4_0 t4_1 t4_2 t4_3 t4_4 _ _ _ t4_5 t4_6 t4_7 t4_8 t4_9 _ _ _ [] true _ ?s0 ?s1 ?s2 ?s3 A6.out).mono ?_); (case s0 => exact OwnT35.rd5 _ _ _ _ _ _ _ _ _ _ (Rs.getE RS 16 rfl Ee54)); (case s1 => exact OwnT35.rd10 _ _ _ _ _ _ _ _ _ _ (Rs.getE RS 16 rfl Ee54)); (case s2 => exact OwnT35.rd5 _ _ _ _ _ _ _ _ _ _ (Rs.getE RS 4 rfl Ee22)); (case s3 => exact OwnT35.rd10 _ _ _ _ _ _ _ _ _ _ (Rs.getE RS 4 rfl Ee22)); rintro e w64_ ⟨rfl, hb⟩; refine ⟨_, rfl, ?_⟩; replace RS := Aside0.mk (RS.out.below hb); clear hb; (try clear hz86); (try clear hz87); (try clear hz88); (try clear hz89); (try clear hz90); (try clear hz91); (try clear hz92); have hz93 := cx9 (Rs.getE RS 0 rfl Ee1); have hz94 := cx3 (Rs.getE RS 1 rfl Ee2); have hz95 := cx11 (Rs.getE RS 5 rfl Ee23); have hz96 := cx9 (Rs.getE RS 7 rfl Ee25); have hz97 := cx3 (Rs.getE RS 9 rfl Ee27); have hz98 := cx11 (Rs.getE RS 11 rfl Ee29); have hz99 := cx11 (Rs.getE RS 17 rfl Ee55); skip) | ((with_reducible refine gate_callee (f := 21) rfl ?_); refine goA (some 86) rfl rfl Try.func21 rfl #[.agg #[.int .i64 t5_0, .int .i64 t5_1, .bool t5_2, .int .i64 t5_3, .int .i64 t5_4, .slice A10_5 n10_5 c10_5, .int .i64 t5_6, .int .i64 t5_7, .int .i64 t5_8, .int .i64 t5_9, .slice A10_10 n10_10 c10_10], .int .i64 1] rfl ?_; (refine (laws_heldNodeResult.rd k t5_0 t5_1 t5_2 t5_3 t5_4 _ _ _ t11_5 t5_6 t5_7 t5_8 t5_9 _ _ _ [] 1 t12 _ ?s0 ?s1 A12.out).mono ?_); (case s0 => exact OwnT35.rd5 _ _ _ _ _ _ _ _ _ _ (Rs.getE RS 10 rfl Ee34)); (case s1 => exact OwnT35.rd10 _ _ _ _ _ _ _ _ _ _ (Rs.getE RS 10 rfl Ee34)); rintro e w65_ ⟨rfl, hb⟩; refine ⟨_, rfl, ?_⟩; replace RS := Aside0.mk (RS.out.below hb); clear hb; (try clear hz93); (try clear hz94); (try clear hz95); (try clear hz96); (try clear hz97); (try clear hz98); (try clear hz99); have hz100 := cx9 (Rs.getE RS 0 rfl Ee1); have hz101 := cx3 (Rs.getE RS 1 rfl Ee2); have hz102 := cx11 (Rs.getE RS 5 rfl Ee23); have hz103 := cx9 (Rs.getE RS 7 rfl Ee25); have hz104 := cx3 (Rs.getE RS 9 rfl Ee27); have hz105 := cx11 (Rs.getE RS 11 rfl Ee29); have hz106 := cx11 (Rs.getE RS 17 rfl Ee55); skip))
  go_ret
  exact ⟨rfl, RS.out.B⟩
theorem laws_FnExactAddEvent.calls (k : Nat) (a0_0 : Int) (a0_1 : Bool) (a0_2 : Int) (a0_3 : Int) (A0_4 : Option Addr) (c0_4 : Nat) (l0_4 : List (S131)) (a0_5 : Int) (a0_6 : Int) (a0_7 : Int) (a0_8 : Int) (a1_0 : Int) (a1_1 : Int) (A1_2 : Option Addr) (c1_2 : Nat) (l1_2 : List (Int)) (w : World) (hr0_4 : Kd.C k131 w A0_4 l0_4.length l0_4) (hc0_4 : l0_4.length ≤ c0_4) (hr1_2 : Kd.C (Kd.int .u8) w A1_2 l1_2.length l1_2) (hc1_2 : l1_2.length ≤ c1_2) (h : laws_FnExactAddEvent.f k a0_0 a0_1 a0_2 a0_3 l0_4 a0_5 a0_6 a0_7 a0_8 a1_0 a1_1 l1_2 = some true) :
  Calls Try.prog 3 #[.agg #[.int .i64 a0_0, .bool a0_1, .int .i64 a0_2, .int .i64 a0_3, .slice A0_4 l0_4.length c0_4, .int .i64 a0_5, .int .i64 a0_6, .int .i64 a0_7, .int .i64 a0_8], .agg #[.int .i64 a1_0, .int .i64 a1_1, .slice A1_2 l1_2.length c1_2]] w fun e w' => e = .returned (.bool true) ∧ Below w.heap.size w w' := by
  unfold laws_FnExactAddEvent.f at h
  obtain ⟨b0, h0, h⟩ := Option.bind_eq_some_iff.mp h
  obtain ⟨t0, rfl⟩ : ∃ z, z = b0 := ⟨_, rfl⟩
  (try simp only at h)
  by_cases NEGt0 : t0 < 0
  · exact laws_FnExactAddEvent.exit1 k a0_0 a0_1 a0_2 a0_3 A0_4 c0_4 l0_4 a0_5 a0_6 a0_7 a0_8 a1_0 a1_1 A1_2 c1_2 l1_2 t0 w hr0_4 hc0_4 hr1_2 hc1_2 h0 NEGt0
  rw [if_neg NEGt0] at h
  obtain ⟨b1, h1, h⟩ := Option.bind_eq_some_iff.mp h
  obtain ⟨t1, rfl⟩ : ∃ z, z = b1 := ⟨_, rfl⟩
  (try simp only at h)
  by_cases NEGt1 : t1 < 0
  · exact laws_FnExactAddEvent.exit2 k a0_0 a0_1 a0_2 a0_3 A0_4 c0_4 l0_4 a0_5 a0_6 a0_7 a0_8 a1_0 a1_1 A1_2 c1_2 l1_2 t0 t1 w hr0_4 hc0_4 hr1_2 hc1_2 h0 NEGt0 h1 NEGt1
  rw [if_neg NEGt1] at h
  obtain ⟨b2, h2, h⟩ := Option.bind_eq_some_iff.mp h
  obtain ⟨t2_0, t2_1, t2_2, t2_3, t2_4, t2_5, t2_6, t2_7, t2_8⟩ := b2
  (try simp only at h)
  obtain ⟨b3, h3, h⟩ := Option.bind_eq_some_iff.mp h
  obtain ⟨t3_0, t3_1, t3_2⟩ := b3
  (try simp only at h)
  obtain ⟨b4, h4, h⟩ := Option.bind_eq_some_iff.mp h
  obtain ⟨t4_0, t4_1, t4_2, t4_3, t4_4, t4_5, t4_6, t4_7, t4_8, t4_9, t4_10⟩ := b4
  (try simp only at h)
  by_cases NILt4_10 : t4_10.length = 0
  rotate_left
  · rw [if_neg NILt4_10] at h; cases h
  rw [if_pos NILt4_10] at h
  obtain rfl := List.eq_nil_of_length_eq_zero NILt4_10
  obtain ⟨b5, h5, h⟩ := Option.bind_eq_some_iff.mp h
  obtain ⟨t5_0, t5_1, t5_2, t5_3, t5_4, t5_5, t5_6, t5_7, t5_8, t5_9, t5_10⟩ := b5
  (try simp only at h)
  by_cases NILt5_10 : t5_10.length = 0
  rotate_left
  · rw [if_neg NILt5_10] at h; cases h
  rw [if_pos NILt5_10] at h
  obtain rfl := List.eq_nil_of_length_eq_zero NILt5_10
  obtain ⟨b6, h6, h⟩ := Option.bind_eq_some_iff.mp h
  obtain ⟨t6, rfl⟩ : ∃ z, z = b6 := ⟨_, rfl⟩
  (try simp only at h)
  by_cases EQt6 : t6 = true
  rotate_left
  · rw [if_neg EQt6] at h; cases h
  rw [if_pos EQt6] at h
  subst EQt6
  obtain ⟨b7, h7, h⟩ := Option.bind_eq_some_iff.mp h
  obtain ⟨t7, rfl⟩ : ∃ z, z = b7 := ⟨_, rfl⟩
  (try simp only at h)
  by_cases EQt7 : t7 = true
  rotate_left
  · rw [if_neg EQt7] at h; cases h
  rw [if_pos EQt7] at h
  subst EQt7
  obtain ⟨b8, h8, h⟩ := Option.bind_eq_some_iff.mp h
  obtain ⟨t8, rfl⟩ : ∃ z, z = b8 := ⟨_, rfl⟩
  (try simp only at h)
  by_cases EQt8 : t8 = true
  rotate_left
  · rw [if_neg EQt8] at h; cases h
  rw [if_pos EQt8] at h
  subst EQt8
  obtain ⟨b9, h9, h⟩ := Option.bind_eq_some_iff.mp h
  obtain ⟨t9, t9_4⟩ := b9
  (try simp only at h)
  obtain ⟨b10, h10, h⟩ := Option.bind_eq_some_iff.mp h
  obtain ⟨t10, t10_2⟩ := b10
  (try simp only at h)
  by_cases NEGt10 : ¬ t10 < 0
  rotate_left
  · rw [if_neg NEGt10] at h; cases h
  rw [if_pos NEGt10] at h
  obtain ⟨b11, h11, h⟩ := Option.bind_eq_some_iff.mp h
  obtain ⟨t11, t11_5, t11_10⟩ := b11
  (try simp only at h)
  by_cases NILt11_10 : t11_10.length = 0
  rotate_left
  · rw [if_neg NILt11_10] at h; cases h
  rw [if_pos NILt11_10] at h
  obtain rfl := List.eq_nil_of_length_eq_zero NILt11_10
  obtain ⟨b12, h12, h⟩ := Option.bind_eq_some_iff.mp h
  obtain ⟨t12, rfl⟩ : ∃ z, z = b12 := ⟨_, rfl⟩
  (try simp only at h)
  by_cases NEGt12 : ¬ t12 < 0
  rotate_left
  · rw [if_neg NEGt12] at h; cases h
  rw [if_pos NEGt12] at h
  by_cases SAMEt12 : t12 = t11
  rotate_left
  · rw [if_neg SAMEt12] at h; cases h
  rw [if_pos SAMEt12] at h
  exact laws_FnExactAddEvent.good k a0_0 a0_1 a0_2 a0_3 A0_4 c0_4 l0_4 a0_5 a0_6 a0_7 a0_8 a1_0 a1_1 A1_2 c1_2 l1_2 t0 t1 t2_0 t2_1 t2_2 t2_3 t2_4 t2_5 t2_6 t2_7 t2_8 t3_0 t3_1 t3_2 t4_0 t4_1 t4_2 t4_3 t4_4 t4_5 t4_6 t4_7 t4_8 t4_9 t5_0 t5_1 t5_2 t5_3 t5_4 t5_5 t5_6 t5_7 t5_8 t5_9 t9 t9_4 t10 t10_2 t11 t11_5 t12 w hr0_4 hc0_4 hr1_2 hc1_2 h0 NEGt0 h1 NEGt1 h2 h3 h4 h5 h6 h7 h8 h9 h10 NEGt10 h11 h12 NEGt12 SAMEt12

end Go.Proofs.Ytgfoifkkffffgab.PFnExactAddEvent
