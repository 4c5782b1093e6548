-- The law's own contract (wip/tools/lawgen.py)
import Derived.Test.YtgfoifkkffffgaaPFnExactNewNodex0
import Derived.Test.YtgfoifkkffffgaaPFnExactNewNodex1
import Derived.Test.YtgfoifkkffffgaaPFnExactNewNodex2
import Derived.Test.YtgfoifkkffffgaaPFnExactNewNodex3
import Derived.Test.YtgfoifkkffffgaaPFnExactNewNodex4
import Derived.Test.YtgfoifkkffffgaaPFnExactNewNodex5
namespace Go.Proofs.Ytgfoifkkffffgaa.PFnExactNewNode
open Go.RowKit Go.Proofs.YtgfoifkkffffgaaW.PrintWords Go.Proofs.YtgfoifkkffffgaaW.PrintLast Go.Proofs.YtgfoifkkffffgaaW.PrintMore
attribute [local go_sem] max2_int min2_int max_two min_two max_three min_three max_four min_four   -- for this text's walks alone
set_option linter.unusedVariables false
set_option linter.unusedSimpArgs false

/-- What is owned: each thing in blocks of an interval of its own. -/
def Apart2 (x y : Nat × Nat × (World → Prop)) : Prop := x.2.1 ≤ y.1 ∨ y.2.1 ≤ x.1
def Own1 (W : World) (b : Nat) (x : Nat × Nat × (World → Prop)) : Prop := b ≤ x.1 ∧ x.1 ≤ x.2.1 ∧ x.2.1 ≤ W.heap.size ∧ ∀ W' : World, (∀ k, x.1 ≤ k → k < x.2.1 → W'.heap[k]? = W.heap[k]?) → x.2.2 W'
theorem Own1.step {W W1 : World} {b : Nat} {x : Nat × Nat × (World → Prop)} (h : Own1 W b x) (hs : W.heap.size ≤ W1.heap.size) (hm : ∀ k, x.1 ≤ k → k < x.2.1 → W1.heap[k]? = W.heap[k]?) : Own1 W1 b x := ⟨h.1, h.2.1, Nat.le_trans h.2.2.1 hs, fun W' hW => h.2.2.2 W' (fun k ka kb => (hW k ka kb).trans (hm k ka kb))⟩
/-- The world now, against the one of the call's begin: what lay there lies there, and what was made. -/
structure Rs (w W : World) (L : List (Nat × Nat × (World → Prop))) : Prop where
  B : Below w.heap.size w W
  S : ∀ x ∈ L, Own1 W w.heap.size x
  D : L.Pairwise Apart2
theorem Rs.start (w : World) : Rs w w [] := ⟨Below.refl _ _, fun _ h => (by cases h), List.Pairwise.nil⟩
theorem Rs.below {w W W1 : World} {L : List (Nat × Nat × (World → Prop))} (h : Rs w W L) (hb : Below W.heap.size W W1) : Rs w W1 L := ⟨below_step h.B hb, fun x hx => (h.S x hx).step hb.size (fun k _ kb => hb.block k (Nat.lt_of_lt_of_le kb (h.S x hx).2.2.1)), h.D⟩
theorem Rs.alloc {w W : World} {L : List (Nat × Nat × (World → Prop))} (h : Rs w W L) (o : Obj) : Rs w (W.alloc o) L := h.below (below_alloc (Below.refl _ _) o)
theorem Rs.drew {w W : World} {L : List (Nat × Nat × (World → Prop))} (h : Rs w W L) : Rs w W.drew L := h.below (below_drew (Below.refl _ _))
theorem Rs.drewN {w W : World} {L : List (Nat × Nat × (World → Prop))} (h : Rs w W L) (m : Nat) : Rs w (W.drewN m) L := h.below (pw_below_drewN (Below.refl _ _) m)
theorem Rs.push {w W W1 : World} {L : List (Nat × Nat × (World → Prop))} {Q : World → Prop} (h : Rs w W L) (hb : Below W.heap.size W W1) (hQ : ∀ W' : World, (∀ k, W.heap.size ≤ k → k < W1.heap.size → W'.heap[k]? = W1.heap[k]?) → Q W') : Rs w W1 (L ++ [(W.heap.size, W1.heap.size, Q)]) := by
  have h1 := h.below hb
  refine ⟨h1.B, fun x hx => ?_, ?_⟩
  · rcases List.mem_append.1 hx with hx | hx
    · exact h1.S x hx
    · rw [List.mem_singleton] at hx
      subst hx
      exact ⟨h.B.size, hb.size, Nat.le_refl _, hQ⟩
  · rw [List.pairwise_append]
    refine ⟨h.D, List.pairwise_singleton _ _, fun x hx y hy => ?_⟩
    rw [List.mem_singleton] at hy
    subst hy
    exact .inl (h.S x hx).2.2.1
theorem Rs.at_ {w W : World} {L : List (Nat × Nat × (World → Prop))} (h : Rs w W L) (i : Nat) {x : Nat × Nat × (World → Prop)} (hi_ : L[i]? = some x) : Own1 W w.heap.size x := h.S x (List.mem_of_getElem? hi_)
theorem Rs.get {w W : World} {L : List (Nat × Nat × (World → Prop))} (h : Rs w W L) (i : Nat) {lo hi : Nat} {Q : World → Prop} (hi_ : L[i]? = some (lo, hi, Q)) : Q W := (h.at_ i hi_).2.2.2 W (fun _ _ _ => rfl)
theorem Rs.low {w W : World} {L : List (Nat × Nat × (World → Prop))} (h : Rs w W L) (i : Nat) {lo hi : Nat} {Q : World → Prop} (hi_ : L[i]? = some (lo, hi, Q)) : w.heap.size ≤ lo ∧ hi ≤ W.heap.size := ⟨(h.at_ i hi_).1, (h.at_ i hi_).2.2.1⟩
theorem apart_set : ∀ {L : List (Nat × Nat × (World → Prop))} (i : Nat) {lo hi : Nat} {Q Q1 : World → Prop}, L[i]? = some (lo, hi, Q) → L.Pairwise Apart2 → (L.set i (lo, hi, Q1)).Pairwise Apart2 ∧ ∀ x ∈ L.set i (lo, hi, Q1), x = (lo, hi, Q1) ∨ (x ∈ L ∧ Apart2 x (lo, hi, Q))
  | [], _, _, _, _, _, h, _ => by simp at h
  | y :: t, 0, lo, hi, Q, Q1, h, hd => by
    simp only [List.getElem?_cons_zero, Option.some.injEq] at h
    subst h
    rw [List.pairwise_cons] at hd
    refine ⟨List.pairwise_cons.2 ⟨fun z hz => hd.1 z hz, hd.2⟩, fun x hx => ?_⟩
    rcases List.mem_cons.1 hx with rfl | hx
    · exact .inl rfl
    · exact .inr ⟨List.mem_cons_of_mem _ hx, (hd.1 x hx).symm⟩
  | y :: t, i + 1, lo, hi, Q, Q1, h, hd => by
    rw [List.getElem?_cons_succ] at h
    rw [List.pairwise_cons] at hd
    obtain ⟨h1, h2⟩ := apart_set (Q1 := Q1) i h hd.2
    have hy := hd.1 _ (List.mem_of_getElem? h)
    refine ⟨List.pairwise_cons.2 ⟨fun z hz => ?_, h1⟩, fun x hx => ?_⟩
    · rcases h2 z hz with rfl | ⟨hz, _⟩
      · exact hy
      · exact hd.1 z hz
    · rcases List.mem_cons.1 hx with rfl | hx
      · exact .inr ⟨List.mem_cons_self, hy⟩
      · rcases h2 x hx with hx | ⟨hx, ha⟩
        · exact .inl hx
        · exact .inr ⟨List.mem_cons_of_mem _ hx, ha⟩
theorem Rs.upd {w W W1 : World} {L : List (Nat × Nat × (World → Prop))} {Q1 : World → Prop} (h : Rs w W L) (i : Nat) {lo hi : Nat} {Q : World → Prop} (hi_ : L[i]? = some (lo, hi, Q)) (hB : Below w.heap.size w W1) (hk : Kept W W1 (fun k => lo ≤ k ∧ k < hi)) (hQ : ∀ W' : World, (∀ k, lo ≤ k → k < hi → W'.heap[k]? = W1.heap[k]?) → Q1 W') : Rs w W1 (L.set i (lo, hi, Q1)) := by
  obtain ⟨h1, h2⟩ := apart_set (Q1 := Q1) i hi_ h.D
  have h0 := h.at_ i hi_
  refine ⟨hB, fun x hx => ?_, h1⟩
  rcases h2 x hx with rfl | ⟨hx, ha⟩
  · exact ⟨h0.1, h0.2.1, Nat.le_trans h0.2.2.1 hk.1, hQ⟩
  · refine (h.S x hx).step hk.1 (fun k ka kb => hk.2 k (Nat.lt_of_lt_of_le kb (h.S x hx).2.2.1) (fun hn => ?_))
    rcases ha with ha | ha
    · exact Nat.not_le_of_lt kb (Nat.le_trans ha hn.1)
    · exact Nat.not_le_of_lt hn.2 (Nat.le_trans ha ka)
theorem Rs.swap {w W : World} {L : List (Nat × Nat × (World → Prop))} {x y : Nat × Nat × (World → Prop)} (h : Rs w W (L ++ [x] ++ [y])) : Rs w W (L ++ [y] ++ [x]) := by
  have hp : (L ++ [x] ++ [y]).Perm (L ++ [y] ++ [x]) := by
    rw [List.append_assoc, List.append_assoc]
    exact List.Perm.append_left _ (List.Perm.swap y x [])
  exact ⟨h.B, fun z hz => h.S z (hp.symm.subset hz), (hp.pairwise_iff (fun hs => hs.symm)).1 h.D⟩
theorem Rs.updLast {w W W1 : World} {L : List (Nat × Nat × (World → Prop))} {lo hi : Nat} {Q Q1 : World → Prop} (h : Rs w W (L ++ [(lo, hi, Q)])) (hB : Below w.heap.size w W1) (hk : Kept W W1 (fun k => lo ≤ k ∧ k < hi)) (hQ : ∀ W' : World, (∀ k, lo ≤ k → k < hi → W'.heap[k]? = W1.heap[k]?) → Q1 W') : Rs w W1 (L ++ [(lo, hi, Q1)]) := by
  have := h.upd (Q1 := Q1) (lo := lo) (hi := hi) (Q := Q) L.length (by simp) hB hk hQ
  simpa using this
theorem Rs.last {w W : World} {L : List (Nat × Nat × (World → Prop))} {lo hi : Nat} {Q : World → Prop} (h : Rs w W (L ++ [(lo, hi, Q)])) : Q W := h.get (lo := lo) (hi := hi) (Q := Q) L.length (by simp)
theorem mRs {Q P : Prop} (H : Aside0 Q) (k : Q → P := by intro h_; (with_reducible repeat (first | apply Rs.alloc | apply Rs.drewN | apply Rs.drew)); exact h_) : P := k H.out
/-- A row that can be read. -/
def Rd {α : Type} (d : Kd α) (A : Option Addr) (n c : Nat) (l : List α) (W : World) : Prop := n = l.length ∧ n ≤ c ∧ d.C W A l.length l
theorem Rd.below {α : Type} {d : Kd α} {A : Option Addr} {n c : Nat} {l : List α} {W W1 : World} (h : Rd d A n c l W) (hb : Below W.heap.size W W1) : Rd d A n c l W1 := ⟨h.1, h.2.1, Kd.C_below h.2.2 hb⟩
theorem nilS {α : Type} {d : Kd α} {e : Nat} {w : World} {base : Nat} {ok : Nat → Prop} {v : Value} (h : Kd.S d e w base ok v ([] : List α)) : Kd.S d e w base (fun k => some k = v.ownBlock) v ([] : List α) := by
  obtain ⟨f, h0, inner, ho, hr⟩ := h
  exact ⟨f, fun k hk => hk.symm, inner, ho, ⟨hr.1, fun m p hm => by simp at hm⟩⟩
theorem distinct_ {L M : List Nat} (h : ∀ t ∈ L, t ∉ M) : ∀ t, t ∈ L → t ∈ M → False := h
/-- A store as one step of a region of any order. -/
theorem store_step {P : Program} {ops : Array Oper} {o : Oper} {a : Act} {Q : Exit → Act → World → Prop} {Kc : Act → World → Prop} {W : World} (w1 : World) (hw : Region.wanted o (yielded ops a.tmps) = true) (hN : o.dst = none)
    (hrun : (execOp a.eval o).run P W = .ok .skip w1) (h : ∀ w', w' = w1 → Kc (a.put none undef) w') : if Region.wanted o (yielded ops a.tmps) = true then Oper.wp P o a W Kc Q else Kc (a.put none undef) W := by
  rw [if_pos hw]
  unfold Oper.wp
  rw [hrun]
  show Kc (a.put o.dst undef) w1
  rw [hN]
  exact h _ rfl
theorem cs11 {w : World} {g : Nat} {t : TypeId} {a0 a1 a2 a3 a4 a5 a6 a7 a8 a9 a10 : Value} (H : w.heap[g]? = some (.cells #[a0, a1, a2, a3, a4, a5, a6, a7, a8, a9, a10] t (0, 0))) : w.cell? ⟨g, 0, none⟩ = some a0 ∧ w.cell? ⟨g, 1, none⟩ = some a1 ∧ w.cell? ⟨g, 2, none⟩ = some a2 ∧ w.cell? ⟨g, 3, none⟩ = some a3 ∧ w.cell? ⟨g, 4, none⟩ = some a4 ∧ w.cell? ⟨g, 5, none⟩ = some a5 ∧ w.cell? ⟨g, 6, none⟩ = some a6 ∧ w.cell? ⟨g, 7, none⟩ = some a7 ∧ w.cell? ⟨g, 8, none⟩ = some a8 ∧ w.cell? ⟨g, 9, none⟩ = some a9 ∧ w.cell? ⟨g, 10, none⟩ = some a10 := ⟨(blk_cell H 0).trans rfl, (blk_cell H 1).trans rfl, (blk_cell H 2).trans rfl, (blk_cell H 3).trans rfl, (blk_cell H 4).trans rfl, (blk_cell H 5).trans rfl, (blk_cell H 6).trans rfl, (blk_cell H 7).trans rfl, (blk_cell H 8).trans rfl, (blk_cell H 9).trans rfl, (blk_cell H 10).trans rfl⟩
theorem cx11 {w : World} {g : Nat} {t : TypeId} {a0 a1 a2 a3 a4 a5 a6 a7 a8 a9 a10 : Value} (H : w.heap[g]? = some (.cells #[a0, a1, a2, a3, a4, a5, a6, a7, a8, a9, a10] t (0, 0))) : w.cell? ⟨g, 0, none⟩ = some a0 ∧ w.cell? ⟨g, 1, none⟩ = some a1 ∧ w.cell? ⟨g, 2, none⟩ = some a2 ∧ w.cell? ⟨g, 3, none⟩ = some a3 ∧ w.cell? ⟨g, 4, none⟩ = some a4 ∧ w.cell? ⟨g, 5, none⟩ = some a5 ∧ w.cell? ⟨g, 6, none⟩ = some a6 ∧ w.cell? ⟨g, 7, none⟩ = some a7 ∧ w.cell? ⟨g, 8, none⟩ = some a8 ∧ w.cell? ⟨g, 9, none⟩ = some a9 ∧ w.cell? ⟨g, 10, none⟩ = some a10 ∧ w.frozen? ⟨g, 0, none⟩ = false ∧ w.frozen? ⟨g, 1, none⟩ = false ∧ w.frozen? ⟨g, 2, none⟩ = false ∧ w.frozen? ⟨g, 3, none⟩ = false ∧ w.frozen? ⟨g, 4, none⟩ = false ∧ w.frozen? ⟨g, 5, none⟩ = false ∧ w.frozen? ⟨g, 6, none⟩ = false ∧ w.frozen? ⟨g, 7, none⟩ = false ∧ w.frozen? ⟨g, 8, none⟩ = false ∧ w.frozen? ⟨g, 9, none⟩ = false ∧ w.frozen? ⟨g, 10, none⟩ = false := ⟨(blk_cell H 0).trans rfl, (blk_cell H 1).trans rfl, (blk_cell H 2).trans rfl, (blk_cell H 3).trans rfl, (blk_cell H 4).trans rfl, (blk_cell H 5).trans rfl, (blk_cell H 6).trans rfl, (blk_cell H 7).trans rfl, (blk_cell H 8).trans rfl, (blk_cell H 9).trans rfl, (blk_cell H 10).trans rfl, blk_frozen H 0, blk_frozen H 1, blk_frozen H 2, blk_frozen H 3, blk_frozen H 4, blk_frozen H 5, blk_frozen H 6, blk_frozen H 7, blk_frozen H 8, blk_frozen H 9, blk_frozen H 10⟩
theorem cl_11 {w : World} {g : Nat} {t : TypeId} {a0 a1 a2 a3 a4 a5 a6 a7 a8 a9 a10 : Value} (H : Aside0 (w.heap[g]? = some (.cells #[a0, a1, a2, a3, a4, a5, a6, a7, a8, a9, a10] t (0, 0)))) : w.cell? ⟨g, 0, none⟩ = some a0 ∧ w.cell? ⟨g, 1, none⟩ = some a1 ∧ w.cell? ⟨g, 2, none⟩ = some a2 ∧ w.cell? ⟨g, 3, none⟩ = some a3 ∧ w.cell? ⟨g, 4, none⟩ = some a4 ∧ w.cell? ⟨g, 5, none⟩ = some a5 ∧ w.cell? ⟨g, 6, none⟩ = some a6 ∧ w.cell? ⟨g, 7, none⟩ = some a7 ∧ w.cell? ⟨g, 8, none⟩ = some a8 ∧ w.cell? ⟨g, 9, none⟩ = some a9 ∧ w.cell? ⟨g, 10, none⟩ = some a10 ∧ w.frozen? ⟨g, 0, none⟩ = false ∧ w.frozen? ⟨g, 1, none⟩ = false ∧ w.frozen? ⟨g, 2, none⟩ = false ∧ w.frozen? ⟨g, 3, none⟩ = false ∧ w.frozen? ⟨g, 4, none⟩ = false ∧ w.frozen? ⟨g, 5, none⟩ = false ∧ w.frozen? ⟨g, 6, none⟩ = false ∧ w.frozen? ⟨g, 7, none⟩ = false ∧ w.frozen? ⟨g, 8, none⟩ = false ∧ w.frozen? ⟨g, 9, none⟩ = false ∧ w.frozen? ⟨g, 10, none⟩ = false := cx11 H.out
/-- Rows of a value of type st:35, in blocks of an interval. -/
def OwnT35 (b lo hi : Nat) (v5 : Value) (l5 : List (S51)) (v10 : Value) (l10 : List (S53)) (W : World) : Prop := ∃ P5 P10 : Nat → Prop, (∀ k, P5 k → lo ≤ k ∧ k < hi) ∧ (∀ k, P10 k → lo ≤ k ∧ k < hi) ∧ (∀ k, P5 k → ¬ P10 k) ∧ Kd.S k51 51 W b P5 v5 l5 ∧ Kd.S k53 53 W b P10 v10 l10
theorem OwnT35.foot {b lo hi : Nat} (v5 : Value) (l5 : List (S51)) (v10 : Value) (l10 : List (S53)) {W W1 : World} (h : OwnT35 b lo hi v5 l5 v10 l10 W) (hW : ∀ k, lo ≤ k → k < hi → W1.heap[k]? = W.heap[k]?) : OwnT35 b lo hi v5 l5 v10 l10 W1 := by
  obtain ⟨P5, P10, hp5, hp10, hd5_10, h5, h10⟩ := h
  exact ⟨P5, P10, hp5, hp10, hd5_10, Kd.S_move h5 (fun k hk => hW k (hp5 k hk).1 (hp5 k hk).2), Kd.S_move h10 (fun k hk => hW k (hp10 k hk).1 (hp10 k hk).2)⟩
theorem OwnT35.rd5 (b lo hi : Nat) (A : Option Addr) (n c : Nat) (l5 : List (S51)) (v10 : Value) (l10 : List (S53)) (W : World) (h : OwnT35 b lo hi (.slice A n c) l5 v10 l10 W) : Rd k51 A n c l5 W := by
  obtain ⟨P5, P10, hp5, hp10, hd5_10, h5, h10⟩ := h
  exact Kd.S_reads' h5
theorem OwnT35.rd10 (b lo hi : Nat) (v5 : Value) (l5 : List (S51)) (A : Option Addr) (n c : Nat) (l10 : List (S53)) (W : World) (h : OwnT35 b lo hi v5 l5 (.slice A n c) l10 W) : Rd k53 A n c l10 W := by
  obtain ⟨P5, P10, hp5, hp10, hd5_10, h5, h10⟩ := h
  exact Kd.S_reads' h10
theorem spec_NewNode.own (k b : Nat) (a0 : Int) (r1 : Int) (r2 : Int) (r3 : Bool) (r4 : Int) (r5 : Int) (r6 : List (S51)) (r7 : Int) (r8 : Int) (r9 : Int) (r10 : Int) (w : World) (hb0 : b ≤ w.heap.size)  (h : spec_NewNode.f a0 = some (r1, r2, r3, r4, r5, r6, r7, r8, r9, r10, ([] : List (S53)))) :
    Calls Try.prog 14 #[.int .i64 a0] w fun e w' => ∃ (A5 : Option Addr) (n5 c5 : Nat) (A10 : Option Addr) (n10 c10 : Nat), e = .returned (.agg #[.int .i64 r1, .int .i64 r2, .bool r3, .int .i64 r4, .int .i64 r5, .slice A5 n5 c5, .int .i64 r7, .int .i64 r8, .int .i64 r9, .int .i64 r10, .slice A10 n10 c10]) ∧ (∀ W : World, (∀ k, w.heap.size ≤ k → k < w'.heap.size → W.heap[k]? = w'.heap[k]?) → OwnT35 b w.heap.size w'.heap.size (.slice A5 n5 c5) r6 (.slice A10 n10 c10) ([] : List (S53)) W) ∧ Below w.heap.size w w' := by
  refine (spec_NewNode.calls a0 r1 r2 r3 r4 r5 r6 r7 r8 r9 r10 ([] : List (S53)) w h).mono ?_
  rintro e w' ⟨v5, v10, rfl, ho5, ho10, hb⟩
  obtain ⟨A5, c5, rfl⟩ := Kd.S_slice ho5
  obtain ⟨A10, c10, rfl⟩ := Kd.S_slice ho10
  have hx5 := Kd.S_bound ho5
  have hx10 := nilS ho10
  exact ⟨A5, _, c5, A10, _, c10, rfl, fun W hW => OwnT35.foot _ _ _ _ (show OwnT35 b w.heap.size w'.heap.size (.slice A5 _ c5) r6 (.slice A10 _ c10) ([] : List (S53)) w' from ⟨_, _, (fun k hk => ⟨hk.2.1, hk.2.2.1⟩), (fun k hk => ⟨Kd.S_base ho10 k hk.symm, Kd.S_lt ho10 k hk.symm⟩), (fun k h1 h2 => by obtain ⟨_, _, _, t1_, ht1, q1_, e1⟩ := h1; obtain ⟨q2_, e2⟩ := Kd.S_typed ho10 k h2.symm; rw [e1] at e2; injection e2 with e2; injection e2 with _ e2 _; subst e2; revert ht1; decide), Kd.S_lower hx5 hb0, Kd.S_lower hx10 hb0⟩) hW, hb⟩
theorem impl_NewNode.own (k b : Nat) (a0 : Int) (r1 : Int) (r2 : Int) (r3 : Bool) (r4 : Int) (r5 : Int) (r6 : List (S51)) (r7 : Int) (r8 : Int) (r9 : Int) (r10 : Int) (w : World) (hb0 : b ≤ w.heap.size)  (h : impl_NewNode.f a0 = some (r1, r2, r3, r4, r5, r6, r7, r8, r9, r10, ([] : List (S53)))) :
    Calls Try.prog 15 #[.int .i64 a0] w fun e w' => ∃ (A5 : Option Addr) (n5 c5 : Nat) (A10 : Option Addr) (n10 c10 : Nat), e = .returned (.agg #[.int .i64 r1, .int .i64 r2, .bool r3, .int .i64 r4, .int .i64 r5, .slice A5 n5 c5, .int .i64 r7, .int .i64 r8, .int .i64 r9, .int .i64 r10, .slice A10 n10 c10]) ∧ (∀ W : World, (∀ k, w.heap.size ≤ k → k < w'.heap.size → W.heap[k]? = w'.heap[k]?) → OwnT35 b w.heap.size w'.heap.size (.slice A5 n5 c5) r6 (.slice A10 n10 c10) ([] : List (S53)) W) ∧ Below w.heap.size w w' := by
  refine (impl_NewNode.calls a0 r1 r2 r3 r4 r5 r6 r7 r8 r9 r10 ([] : List (S53)) w h).mono ?_
  rintro e w' ⟨v5, v10, rfl, ho5, ho10, hb⟩
  obtain ⟨A5, c5, rfl⟩ := Kd.S_slice ho5
  obtain ⟨A10, c10, rfl⟩ := Kd.S_slice ho10
  have hx5 := Kd.S_bound ho5
  have hx10 := nilS ho10
  exact ⟨A5, _, c5, A10, _, c10, rfl, fun W hW => OwnT35.foot _ _ _ _ (show OwnT35 b w.heap.size w'.heap.size (.slice A5 _ c5) r6 (.slice A10 _ c10) ([] : List (S53)) w' from ⟨_, _, (fun k hk => ⟨hk.2.1, hk.2.2.1⟩), (fun k hk => ⟨Kd.S_base ho10 k hk.symm, Kd.S_lt ho10 k hk.symm⟩), (fun k h1 h2 => by obtain ⟨_, _, _, t1_, ht1, q1_, e1⟩ := h1; obtain ⟨q2_, e2⟩ := Kd.S_typed ho10 k h2.symm; rw [e1] at e2; injection e2 with e2; injection e2 with _ e2 _; subst e2; revert ht1; decide), Kd.S_lower hx5 hb0, Kd.S_lower hx10 hb0⟩) hW, hb⟩
theorem laws_eqNodeResult.rd (k : Nat) (a0_0 : Int) (a0_1 : Int) (a0_2 : Bool) (a0_3 : Int) (a0_4 : Int) (A0_5 : Option Addr) (n0_5 c0_5 : Nat) (l0_5 : List (S51)) (a0_6 : Int) (a0_7 : Int) (a0_8 : Int) (a0_9 : Int) (A0_10 : Option Addr) (n0_10 c0_10 : Nat) (l0_10 : List (S53)) (a1_0 : Int) (a1_1 : Int) (a1_2 : Bool) (a1_3 : Int) (a1_4 : Int) (A1_5 : Option Addr) (n1_5 c1_5 : Nat) (l1_5 : List (S51)) (a1_6 : Int) (a1_7 : Int) (a1_8 : Int) (a1_9 : Int) (A1_10 : Option Addr) (n1_10 c1_10 : Nat) (l1_10 : List (S53)) (r1 : Bool) (w : World) (h0_5 : Rd k51 A0_5 n0_5 c0_5 l0_5 w) (h0_10 : Rd k53 A0_10 n0_10 c0_10 l0_10 w) (h1_5 : Rd k51 A1_5 n1_5 c1_5 l1_5 w) (h1_10 : Rd k53 A1_10 n1_10 c1_10 l1_10 w) (h : laws_eqNodeResult.f k a0_0 a0_1 a0_2 a0_3 a0_4 l0_5 a0_6 a0_7 a0_8 a0_9 l0_10 a1_0 a1_1 a1_2 a1_3 a1_4 l1_5 a1_6 a1_7 a1_8 a1_9 l1_10 = some r1) :
    Calls Try.prog 16 #[.agg #[.int .i64 a0_0, .int .i64 a0_1, .bool a0_2, .int .i64 a0_3, .int .i64 a0_4, .slice A0_5 n0_5 c0_5, .int .i64 a0_6, .int .i64 a0_7, .int .i64 a0_8, .int .i64 a0_9, .slice A0_10 n0_10 c0_10], .agg #[.int .i64 a1_0, .int .i64 a1_1, .bool a1_2, .int .i64 a1_3, .int .i64 a1_4, .slice A1_5 n1_5 c1_5, .int .i64 a1_6, .int .i64 a1_7, .int .i64 a1_8, .int .i64 a1_9, .slice A1_10 n1_10 c1_10]] w fun e w' => e = .returned (.bool r1) ∧ Below w.heap.size w w' := by
  obtain ⟨rfl, hc0_5, hr0_5⟩ := h0_5
  obtain ⟨rfl, hc0_10, hr0_10⟩ := h0_10
  obtain ⟨rfl, hc1_5, hr1_5⟩ := h1_5
  obtain ⟨rfl, hc1_10, hr1_10⟩ := h1_10
  exact laws_eqNodeResult.calls k a0_0 a0_1 a0_2 a0_3 a0_4 A0_5 c0_5 l0_5 a0_6 a0_7 a0_8 a0_9 A0_10 c0_10 l0_10 a1_0 a1_1 a1_2 a1_3 a1_4 A1_5 c1_5 l1_5 a1_6 a1_7 a1_8 a1_9 A1_10 c1_10 l1_10 r1 w hr0_5 hc0_5 hr0_10 hc0_10 hr1_5 hc1_5 hr1_10 hc1_10 h
theorem laws_markEntryS.m (k : Nat) (P0 : Nat → Prop) (v0 : Value) (l0 : List (S51)) (a1 : Int) (r1 : Int) (r2 : List (S51)) (w0 w : World) (hB : Below w0.heap.size w0 w) (ho0 : Kd.S k51 51 w w0.heap.size P0 v0 l0) (h : laws_markEntryS.f k l0 a1 = some (r1, r2)) :
    Calls Try.prog 53 #[v0, .int .i64 a1] w fun e w' => e = .returned (.int .i64 r1) ∧ Kd.S k51 51 w' w0.heap.size P0 v0 r2 ∧ Below w0.heap.size w0 w' ∧ Kept w w' (fun k_ => P0 k_) := by
  exact laws_markEntryS.calls0 k P0 v0 l0 a1 r1 r2 w0 w hB ho0 h
def laws_markNode.f (k : Nat) (a0_0 : Int) (a0_1 : Bool) (a0_2 : Int) (a0_3 : Int) (l0_4 : List (S51)) (a0_5 : Int) (a0_6 : Int) (a0_7 : Int) (a0_8 : Int) (a1 : Int) : Option (Int × List (S51)) := (laws_markEntryS.f k l0_4 a1).bind fun b0 => some (b0.1, b0.2)
set_option maxHeartbeats 8000000 in
set_option maxRecDepth 100000 in
theorem laws_markNode.m (k : Nat) (a0_0 : Int) (a0_1 : Bool) (a0_2 : Int) (a0_3 : Int) (P0_4 : Nat → Prop) (v0_4 : Value) (l0_4 : List (S51)) (a0_5 : Int) (a0_6 : Int) (a0_7 : Int) (a0_8 : Int) (a1 : Int) (r1 : Int) (r2 : List (S51)) (w0 w : World) (hB : Below w0.heap.size w0 w) (ho4 : Kd.S k51 51 w w0.heap.size P0_4 v0_4 l0_4) (h : laws_markNode.f k a0_0 a0_1 a0_2 a0_3 l0_4 a0_5 a0_6 a0_7 a0_8 a1 = some (r1, r2)) :
    Calls Try.prog 26 #[.agg #[.int .i64 a0_0, .bool a0_1, .int .i64 a0_2, .int .i64 a0_3, v0_4, .int .i64 a0_5, .int .i64 a0_6, .int .i64 a0_7, .int .i64 a0_8], .int .i64 a1] w fun e w' => e = .returned (.int .i64 r1) ∧ Kd.S k51 51 w' w0.heap.size P0_4 v0_4 r2 ∧ Below w0.heap.size w0 w' ∧ Kept w w' (fun k_ => P0_4 k_) := by
  have hu29 := Try.underlying29
  have HO4 := Aside0.mk (Kd.S_mono (ok' := (fun k_ => P0_4 k_ ∧ k_ < w.heap.size)) (Kd.S_bound ho4) (fun k hk => ⟨hk.1, hk.2.2.1⟩))
  have HB := Aside0.mk hB
  have HBw := Aside0.mk (Below.refl w.heap.size w)
  have HK := Aside0.mk (Kept.refl w (fun k_ => P0_4 k_))
  obtain ⟨A4, c4, rfl⟩ := Kd.S_slice ho4
  unfold laws_markNode.f at h
  obtain ⟨m0, h0, h⟩ := Option.bind_eq_some_iff.mp h
  obtain ⟨m0, y0_4⟩ := m0
  obtain ⟨e1, e2⟩ : m0 = r1 ∧ y0_4 = r2 := by simpa using h
  subst e1
  subst e2
  have H0_ := Aside0.mk h0
  clear h h0 ho4  hB
  go_enter Try.func26, Try.ntmps26
  go_wp2_with (first | ((with_reducible refine gate_dst (N := 2) rfl ?_); refine boxE #[.int .i64 a0_0, .bool a0_1, .int .i64 a0_2, .int .i64 a0_3, .slice A4 l0_4.length c4, .int .i64 a0_5, .int .i64 a0_6, .int .i64 a0_7, .int .i64 a0_8] 29 (N := 2) rfl rfl ?_; intro gb hg w5 hbox hb; have BKb := Aside0.mk hbox; replace HO4 := Aside0.mk (Kd.S_below (mS HO4) hb); replace HK := Aside0.mk (Kept.below (by repeat (first | exact HK.out | apply Kept.alloc | apply Kept.drewN | apply Kept.drew)) hb); replace HB := bS HB hb; have HGW := gZ HBw hg; have HN4 := Aside0.mk (show ¬ (P0_4 gb ∧ gb < w.heap.size) from fun hp => Nat.lt_irrefl _ (Nat.lt_of_lt_of_le hp.2 HGW.out)); clear hb hbox hg; have hz6 := cl9 BKb) | ((with_reducible refine gate_callee (f := 53) rfl ?_); refine goA (some 8) rfl rfl Try.func53 rfl #[.slice A4 l0_4.length c4, .int .i64 a1] rfl ?_; (refine (laws_markEntryS.m k (fun k_ => P0_4 k_ ∧ k_ < w.heap.size) _ l0_4 a1 m0 y0_4 w0 _ ?sideB ?side4 H0_.out).mono ?_); (case sideB => exact bel HB); (case side4 => exact mS HO4); rintro e wq0 ⟨rfl, g4, hb7, hk7⟩; refine ⟨_, rfl, ?_⟩; replace HO4 := Aside0.mk g4; replace HB := Aside0.mk hb7; replace BKb := Aside0.mk (blk_kept (mB BKb) hk7 (fun h2 => (fun h_ => HN4.out h_) h2)); replace HK := Aside0.mk (Kept.then_ (S := (fun k_ => P0_4 k_)) (by repeat (first | exact HK.out | apply Kept.alloc | apply Kept.drewN | apply Kept.drew)) hk7 (fun k h2 => .inl ((fun h_ => h_.1) h2))); clear hb7 hk7 g4; have hz70 := cl9 BKb))
  go_ret
  exact ⟨rfl, Kd.S_mono (ok := (fun k_ => P0_4 k_ ∧ k_ < w.heap.size)) (mS HO4) (fun _ h => h.1), bel HB, by repeat (first | exact HK.out | apply Kept.alloc | apply Kept.drewN | apply Kept.drew)⟩
theorem laws_markMailS.m (k : Nat) (P0 : Nat → Prop) (v0 : Value) (l0 : List (S53)) (a1 : Int) (r1 : Int) (r2 : List (S53)) (w0 w : World) (hB : Below w0.heap.size w0 w) (ho0 : Kd.S k53 53 w w0.heap.size P0 v0 l0) (h : laws_markMailS.f k l0 a1 = some (r1, r2)) :
    Calls Try.prog 42 #[v0, .int .i64 a1] w fun e w' => e = .returned (.int .i64 r1) ∧ Kd.S k53 53 w' w0.heap.size P0 v0 r2 ∧ Below w0.heap.size w0 w' ∧ Kept w w' (fun k_ => P0 k_) := by
  have e_ : l0 = [] ∧ a1 = r1 ∧ [] = r2 := by
    cases l0 with
    | nil => unfold laws_markMailS.f at h; injection h with h; injection h with h1 h2; exact ⟨rfl, h1, h2⟩
    | cons x t => cases h
  obtain ⟨rfl, rfl, rfl⟩ := e_
  refine (laws_markMailS.calls k P0 v0 [] a1 a1 [] w0 w hB ho0 rfl).mono ?_
  rintro e w' ⟨h1, g0, hb, hk⟩
  exact ⟨h1, Kd.S_mono (nilS g0) (fun k hk => (Kd.S_R ho0).1 k hk.symm), hb, hk⟩
def laws_markNodeResult.f (k : Nat) (a0_0 : Int) (a0_1 : Int) (a0_2 : Bool) (a0_3 : Int) (a0_4 : Int) (l0_5 : List (S51)) (a0_6 : Int) (a0_7 : Int) (a0_8 : Int) (a0_9 : Int) (l0_10 : List (S53)) (a1 : Int) : Option (Int × List (S51) × List (S53)) := (laws_markNode.f k a0_1 a0_2 a0_3 a0_4 l0_5 a0_6 a0_7 a0_8 a0_9 a1).bind fun b0 => (laws_markMailS.f k l0_10 b0.1).bind fun b1 => some (b1.1, b0.2, b1.2)
set_option maxHeartbeats 8000000 in
set_option maxRecDepth 100000 in
theorem laws_markNodeResult.m (k : Nat) (a0_0 : Int) (a0_1 : Int) (a0_2 : Bool) (a0_3 : Int) (a0_4 : Int) (P0_5 : Nat → Prop) (v0_5 : Value) (l0_5 : List (S51)) (a0_6 : Int) (a0_7 : Int) (a0_8 : Int) (a0_9 : Int) (P0_10 : Nat → Prop) (v0_10 : Value) (a1 : Int) (r1 : Int) (r2 : List (S51)) (w0 w : World) (hB : Below w0.heap.size w0 w) (ho5 : Kd.S k51 51 w w0.heap.size P0_5 v0_5 l0_5) (ho10 : Kd.S k53 53 w w0.heap.size P0_10 v0_10 ([] : List (S53))) (hd5_10 : ∀ k_, P0_5 k_ → ¬ P0_10 k_) (h : laws_markNodeResult.f k a0_0 a0_1 a0_2 a0_3 a0_4 l0_5 a0_6 a0_7 a0_8 a0_9 [] a1 = some (r1, r2, [])) :
    Calls Try.prog 17 #[.agg #[.int .i64 a0_0, .int .i64 a0_1, .bool a0_2, .int .i64 a0_3, .int .i64 a0_4, v0_5, .int .i64 a0_6, .int .i64 a0_7, .int .i64 a0_8, .int .i64 a0_9, v0_10], .int .i64 a1] w fun e w' => e = .returned (.int .i64 r1) ∧ Kd.S k51 51 w' w0.heap.size P0_5 v0_5 r2 ∧ Kd.S k53 53 w' w0.heap.size P0_10 v0_10 ([] : List (S53)) ∧ Below w0.heap.size w0 w' ∧ Kept w w' (fun k_ => P0_5 k_ ∨ P0_10 k_) := by
  have hu29 := Try.underlying29
  have hu35 := Try.underlying35
  have HO5 := Aside0.mk (Kd.S_mono (ok' := (fun k_ => P0_5 k_ ∧ k_ < w.heap.size)) (Kd.S_bound ho5) (fun k hk => ⟨hk.1, hk.2.2.1⟩))
  have HO10 := Aside0.mk (Kd.S_mono (ok' := (fun k_ => P0_10 k_ ∧ k_ < w.heap.size)) (Kd.S_bound ho10) (fun k hk => ⟨hk.1, hk.2.2.1⟩))
  have HD5_10 := Aside0.mk hd5_10
  have HB := Aside0.mk hB
  have HBw := Aside0.mk (Below.refl w.heap.size w)
  have HK := Aside0.mk (Kept.refl w (fun k_ => P0_5 k_ ∨ P0_10 k_))
  obtain ⟨A5, c5, rfl⟩ := Kd.S_slice ho5
  obtain ⟨A10, c10, rfl⟩ := Kd.S_slice ho10
  unfold laws_markNodeResult.f at h
  obtain ⟨m0, h0, h⟩ := Option.bind_eq_some_iff.mp h
  obtain ⟨m0, y0_5⟩ := m0
  obtain ⟨m1, h1, h⟩ := Option.bind_eq_some_iff.mp h
  obtain ⟨m1, y1_10⟩ := m1
  obtain ⟨e1, e2, e3⟩ : m1 = r1 ∧ y0_5 = r2 ∧ y1_10 = [] := by simpa using h
  subst e1
  subst e2
  subst e3
  have H0_ := Aside0.mk h0
  have H1_ := Aside0.mk h1
  clear h h0 h1 ho5 ho10 hd5_10 hB
  go_enter Try.func17, Try.ntmps17
  go_wp2_with (first | ((with_reducible refine gate_dst (N := 2) rfl ?_); refine boxE #[.int .i64 a0_0, .int .i64 a0_1, .bool a0_2, .int .i64 a0_3, .int .i64 a0_4, .slice A5 l0_5.length c5, .int .i64 a0_6, .int .i64 a0_7, .int .i64 a0_8, .int .i64 a0_9, .slice A10 ([] : List (S53)).length c10] 35 (N := 2) rfl rfl ?_; intro gb hg w5 hbox hb; have BKb := Aside0.mk hbox; replace HO5 := Aside0.mk (Kd.S_below (mS HO5) hb); replace HO10 := Aside0.mk (Kd.S_below (mS HO10) hb); replace HK := Aside0.mk (Kept.below (by repeat (first | exact HK.out | apply Kept.alloc | apply Kept.drewN | apply Kept.drew)) hb); replace HB := bS HB hb; have HGW := gZ HBw hg; have HN5 := Aside0.mk (show ¬ (P0_5 gb ∧ gb < w.heap.size) from fun hp => Nat.lt_irrefl _ (Nat.lt_of_lt_of_le hp.2 HGW.out)); have HN10 := Aside0.mk (show ¬ (P0_10 gb ∧ gb < w.heap.size) from fun hp => Nat.lt_irrefl _ (Nat.lt_of_lt_of_le hp.2 HGW.out)); clear hb hbox hg; have hz6 := cl11 BKb) | ((with_reducible refine gate_callee (f := 26) rfl ?_); refine goA (some 8) rfl rfl Try.func26 rfl #[.agg #[.int .i64 a0_1, .bool a0_2, .int .i64 a0_3, .int .i64 a0_4, .slice A5 l0_5.length c5, .int .i64 a0_6, .int .i64 a0_7, .int .i64 a0_8, .int .i64 a0_9], .int .i64 a1] rfl ?_; (refine (laws_markNode.m k a0_1 a0_2 a0_3 a0_4 (fun k_ => P0_5 k_ ∧ k_ < w.heap.size) _ l0_5 a0_6 a0_7 a0_8 a0_9 a1 m0 y0_5 w0 _ ?sideB ?side5 H0_.out).mono ?_); (case sideB => exact bel HB); (case side5 => exact mS HO5); rintro e wq0 ⟨rfl, g5, hb7, hk7⟩; refine ⟨_, rfl, ?_⟩; replace HO5 := Aside0.mk g5; replace HO10 := Aside0.mk (Kd.S_kept (ok := (fun k_ => P0_10 k_ ∧ k_ < w.heap.size)) (mS HO10) hk7 (fun k h1 h2 => (fun h_ => HD5_10.out k h_.1 h1.1) h2)); replace HB := Aside0.mk hb7; replace BKb := Aside0.mk (blk_kept (mB BKb) hk7 (fun h2 => (fun h_ => HN5.out h_) h2)); replace HK := Aside0.mk (Kept.then_ (S := (fun k_ => P0_5 k_ ∨ P0_10 k_)) (by repeat (first | exact HK.out | apply Kept.alloc | apply Kept.drewN | apply Kept.drew)) hk7 (fun k h2 => .inl ((fun h_ => .inl (h_.1)) h2))); clear hb7 hk7 g5; have hz70 := cl11 BKb) | ((with_reducible refine gate_callee (f := 42) rfl ?_); refine goA (some 12) rfl rfl Try.func42 rfl #[.slice A10 ([] : List (S53)).length c10, .int .i64 m0] rfl ?_; (refine (laws_markMailS.m k (fun k_ => P0_10 k_ ∧ k_ < w.heap.size) _ ([] : List (S53)) m0 m1 [] w0 _ ?sideB ?side10 H1_.out).mono ?_); (case sideB => exact bel HB); (case side10 => exact mS HO10); rintro e wq1 ⟨rfl, g10, hb7, hk7⟩; refine ⟨_, rfl, ?_⟩; replace HO5 := Aside0.mk (Kd.S_kept (ok := (fun k_ => P0_5 k_ ∧ k_ < w.heap.size)) (mS HO5) hk7 (fun k h1 h2 => (fun h_ => HD5_10.out k h1.1 h_.1) h2)); replace HO10 := Aside0.mk g10; replace HB := Aside0.mk hb7; replace BKb := Aside0.mk (blk_kept (mB BKb) hk7 (fun h2 => (fun h_ => HN10.out h_) h2)); replace HK := Aside0.mk (Kept.then_ (S := (fun k_ => P0_5 k_ ∨ P0_10 k_)) (by repeat (first | exact HK.out | apply Kept.alloc | apply Kept.drewN | apply Kept.drew)) hk7 (fun k h2 => .inl ((fun h_ => .inr (h_.1)) h2))); clear hb7 hk7 g10; have hz71 := cl11 BKb))
  go_ret
  exact ⟨rfl, Kd.S_mono (ok := (fun k_ => P0_5 k_ ∧ k_ < w.heap.size)) (mS HO5) (fun _ h => h.1), Kd.S_mono (ok := (fun k_ => P0_10 k_ ∧ k_ < w.heap.size)) (mS HO10) (fun _ h => h.1), bel HB, by repeat (first | exact HK.out | apply Kept.alloc | apply Kept.drewN | apply Kept.drew)⟩
theorem laws_markNodeResult.own (k lo hi : Nat) (a0_0 : Int) (a0_1 : Int) (a0_2 : Bool) (a0_3 : Int) (a0_4 : Int) (A0_5 : Option Addr) (n0_5 c0_5 : Nat) (l0_5 : List (S51)) (a0_6 : Int) (a0_7 : Int) (a0_8 : Int) (a0_9 : Int) (A0_10 : Option Addr) (n0_10 c0_10 : Nat) (a1 r1 : Int) (r2 : List (S51)) (w0 w : World) (hB : Below w0.heap.size w0 w) (hO : OwnT35 w0.heap.size lo hi (.slice A0_5 n0_5 c0_5) l0_5 (.slice A0_10 n0_10 c0_10) [] w) (h : laws_markNodeResult.f k a0_0 a0_1 a0_2 a0_3 a0_4 l0_5 a0_6 a0_7 a0_8 a0_9 [] a1 = some (r1, r2, [])) :
    Calls Try.prog 17 #[.agg #[.int .i64 a0_0, .int .i64 a0_1, .bool a0_2, .int .i64 a0_3, .int .i64 a0_4, .slice A0_5 n0_5 c0_5, .int .i64 a0_6, .int .i64 a0_7, .int .i64 a0_8, .int .i64 a0_9, .slice A0_10 n0_10 c0_10], .int .i64 a1] w fun e w' => e = .returned (.int .i64 r1) ∧ (∀ W : World, (∀ k, lo ≤ k → k < hi → W.heap[k]? = w'.heap[k]?) → OwnT35 w0.heap.size lo hi (.slice A0_5 n0_5 c0_5) r2 (.slice A0_10 n0_10 c0_10) [] W) ∧ Below w0.heap.size w0 w' ∧ Kept w w' (fun k => lo ≤ k ∧ k < hi) := by
  obtain ⟨P5, P10, hp5, hp10, hd5_10, h5, h10⟩ := hO
  refine (laws_markNodeResult.m k a0_0 a0_1 a0_2 a0_3 a0_4 P5 _ l0_5 a0_6 a0_7 a0_8 a0_9 P10 _ a1 r1 r2 w0 w hB h5 h10 hd5_10 h).mono ?_
  rintro e w' ⟨h1_, g5, g10, hb_, hk_⟩
  exact ⟨h1_, fun W hW => OwnT35.foot _ _ _ _ (show OwnT35 w0.heap.size lo hi (.slice A0_5 n0_5 c0_5) r2 (.slice A0_10 n0_10 c0_10) [] w' from ⟨P5, P10, hp5, hp10, hd5_10, g5, g10⟩) hW, hb_, hk_.mono (fun k hk => Or.elim hk (fun h_ => hp5 k h_) (fun h_2 => (fun h_ => hp10 k h_) h_2))⟩
theorem laws_heldNodeResult.rd (k : Nat) (a0_0 : Int) (a0_1 : Int) (a0_2 : Bool) (a0_3 : Int) (a0_4 : Int) (A0_5 : Option Addr) (n0_5 c0_5 : Nat) (l0_5 : List (S51)) (a0_6 : Int) (a0_7 : Int) (a0_8 : Int) (a0_9 : Int) (A0_10 : Option Addr) (n0_10 c0_10 : Nat) (l0_10 : List (S53)) (a1 : Int) (r1 : Int) (w : World) (h0_5 : Rd k51 A0_5 n0_5 c0_5 l0_5 w) (h0_10 : Rd k53 A0_10 n0_10 c0_10 l0_10 w) (h : laws_heldNodeResult.f k a0_0 a0_1 a0_2 a0_3 a0_4 l0_5 a0_6 a0_7 a0_8 a0_9 l0_10 a1 = some r1) :
    Calls Try.prog 18 #[.agg #[.int .i64 a0_0, .int .i64 a0_1, .bool a0_2, .int .i64 a0_3, .int .i64 a0_4, .slice A0_5 n0_5 c0_5, .int .i64 a0_6, .int .i64 a0_7, .int .i64 a0_8, .int .i64 a0_9, .slice A0_10 n0_10 c0_10], .int .i64 a1] w fun e w' => e = .returned (.int .i64 r1) ∧ Below w.heap.size w w' := by
  obtain ⟨rfl, hc0_5, hr0_5⟩ := h0_5
  obtain ⟨rfl, hc0_10, hr0_10⟩ := h0_10
  exact laws_heldNodeResult.calls k a0_0 a0_1 a0_2 a0_3 a0_4 A0_5 c0_5 l0_5 a0_6 a0_7 a0_8 a0_9 A0_10 c0_10 l0_10 a1 r1 w hr0_5 hc0_5 hr0_10 hc0_10 h
def laws_FnExactNewNode.f (k : Nat) (a0 : Int) : Option Bool := (spec_NewNode.f a0).bind fun b0 => if b0.2.2.2.2.2.2.2.2.2.2.length = 0 then ((impl_NewNode.f a0).bind fun b1 => if b1.2.2.2.2.2.2.2.2.2.2.length = 0 then ((laws_eqNodeResult.f k b1.1 b1.2.1 b1.2.2.1 b1.2.2.2.1 b1.2.2.2.2.1 b1.2.2.2.2.2.1 b1.2.2.2.2.2.2.1 b1.2.2.2.2.2.2.2.1 b1.2.2.2.2.2.2.2.2.1 b1.2.2.2.2.2.2.2.2.2.1 [] b0.1 b0.2.1 b0.2.2.1 b0.2.2.2.1 b0.2.2.2.2.1 b0.2.2.2.2.2.1 b0.2.2.2.2.2.2.1 b0.2.2.2.2.2.2.2.1 b0.2.2.2.2.2.2.2.2.1 b0.2.2.2.2.2.2.2.2.2.1 []).bind fun b2 => if b2 = true then ((laws_markNodeResult.f k b1.1 b1.2.1 b1.2.2.1 b1.2.2.2.1 b1.2.2.2.2.1 b1.2.2.2.2.2.1 b1.2.2.2.2.2.2.1 b1.2.2.2.2.2.2.2.1 b1.2.2.2.2.2.2.2.2.1 b1.2.2.2.2.2.2.2.2.2.1 [] 1).bind fun b3 => if b3.2.2.length = 0 then ((laws_heldNodeResult.f k b1.1 b1.2.1 b1.2.2.1 b1.2.2.2.1 b1.2.2.2.2.1 b3.2.1 b1.2.2.2.2.2.2.1 b1.2.2.2.2.2.2.2.1 b1.2.2.2.2.2.2.2.2.1 b1.2.2.2.2.2.2.2.2.2.1 [] 1).bind fun b4 => if ¬ b4 < 0 then (if b4 = b3.1 then (some true) else none) else none) else none) else none) else none) else none
set_option maxHeartbeats 16000000 in
set_option maxRecDepth 100000 in
theorem laws_FnExactNewNode.good (k : Nat) (a0 : Int) (t0_0 : Int) (t0_1 : Int) (t0_2 : Bool) (t0_3 : Int) (t0_4 : Int) (t0_5 : List (S51)) (t0_6 : Int) (t0_7 : Int) (t0_8 : Int) (t0_9 : Int) (t1_0 : Int) (t1_1 : Int) (t1_2 : Bool) (t1_3 : Int) (t1_4 : Int) (t1_5 : List (S51)) (t1_6 : Int) (t1_7 : Int) (t1_8 : Int) (t1_9 : Int) (t3 : Int) (t3_5 : List (S51)) (t4 : Int) (w : World)  (h0 : spec_NewNode.f a0 = some (t0_0, t0_1, t0_2, t0_3, t0_4, t0_5, t0_6, t0_7, t0_8, t0_9, [])) (h1 : impl_NewNode.f a0 = some (t1_0, t1_1, t1_2, t1_3, t1_4, t1_5, t1_6, t1_7, t1_8, t1_9, [])) (h2 : laws_eqNodeResult.f k t1_0 t1_1 t1_2 t1_3 t1_4 t1_5 t1_6 t1_7 t1_8 t1_9 [] t0_0 t0_1 t0_2 t0_3 t0_4 t0_5 t0_6 t0_7 t0_8 t0_9 [] = some true) (h3 : laws_markNodeResult.f k t1_0 t1_1 t1_2 t1_3 t1_4 t1_5 t1_6 t1_7 t1_8 t1_9 [] 1 = some (t3, t3_5, [])) (h4 : laws_heldNodeResult.f k t1_0 t1_1 t1_2 t1_3 t1_4 t3_5 t1_6 t1_7 t1_8 t1_9 [] 1 = some t4) (NEGt4 : ¬ t4 < 0) (SAMEt4 : t4 = t3) :
    Calls Try.prog 4 #[.int .i64 a0] w fun e w' => e = .returned (.bool true) ∧ Below w.heap.size w w' := by
  have hu29 := Try.underlying29
  have hu35 := Try.underlying35
  have fc0 : decide (t4 < 0) = false := decide_eq_false NEGt4
  have fc1 : (t4 != t3) = false := bne_eq_false_iff_eq.mpr SAMEt4
  have A0 := Aside0.mk h0
  have A1 := Aside0.mk h1
  have A2 := Aside0.mk h2
  have A3 := Aside0.mk h3
  have A4 := Aside0.mk h4
  have XNEGt4 := Aside0.mk NEGt4
  have XSAMEt4 := Aside0.mk SAMEt4
  clear h0 h1 h2 h3 h4 NEGt4 SAMEt4
  have RS := Aside0.mk (Rs.start w)
  go_enter Try.func4, Try.ntmps4
  go_wp2_with (first | ((with_reducible refine gate_callee (f := 14) rfl ?_); refine goA (some 9) rfl rfl Try.func14 rfl #[.int .i64 a0] rfl ?_; (refine (spec_NewNode.own k w.heap.size a0 t0_0 t0_1 t0_2 t0_3 t0_4 t0_5 t0_6 t0_7 t0_8 t0_9 _ ?sB  A0.out).mono ?_); (case sB => exact RS.out.B.size); rintro e w1_ ⟨A0_5, n0_5, c0_5, A0_10, n0_10, c0_10, rfl, hq, hb⟩; refine ⟨_, rfl, ?_⟩; replace RS := Aside0.mk (RS.out.push hb hq); clear hq hb; skip) | ((with_reducible refine gate_dst (N := 3) rfl ?_); refine boxE #[.int .i64 0, .int .i64 0, .bool false, .int .i64 0, .int .i64 0, .slice none 0 0, .int .i64 0, .int .i64 0, .int .i64 0, .int .i64 0, .slice none 0 0] 35 (N := 3) rfl rfl ?_; intro gb1 hg w2_ hbox hb; have HBX := Aside0.mk hbox; have HX := Aside0.mk hb; have GX := Aside0.mk hg; clear hb hbox hg; have hzX1 := cl_11 HBX; (with_reducible refine gate_store (t := 35) (p := 3) rfl ?_); refine store_event (t := 35) (p := 3) (v := ?vo_w3_) (w1 := (((((((((((w2_.setCell ⟨gb1, 0, none⟩ (.int .i64 t0_0)).setCell ⟨gb1, 1, none⟩ (.int .i64 t0_1)).setCell ⟨gb1, 2, none⟩ (.bool t0_2)).setCell ⟨gb1, 3, none⟩ (.int .i64 t0_3)).setCell ⟨gb1, 4, none⟩ (.int .i64 t0_4)).setCell ⟨gb1, 5, none⟩ (.slice A0_5 n0_5 c0_5)).setCell ⟨gb1, 6, none⟩ (.int .i64 t0_6)).setCell ⟨gb1, 7, none⟩ (.int .i64 t0_7)).setCell ⟨gb1, 8, none⟩ (.int .i64 t0_8)).setCell ⟨gb1, 9, none⟩ (.int .i64 t0_9)).setCell ⟨gb1, 10, none⟩ (.slice A0_10 n0_10 c0_10))) ?hg ?ho ?hn ?hr ?_; (case ho => rfl); (case hg => rfl); (case hn => rfl); (case hr => first | (go_simp; done) | (go_simp; rfl)); intro w3_ hw; have hb : Below w1_.heap.size w1_ w3_ := (by rw [hw]; repeat (with_reducible first | exact HX.out | refine below_set ?_ (Nat.le_of_eq GX.out.symm))); have hbox : w3_.heap[gb1]? = some (.cells #[.int .i64 t0_0, .int .i64 t0_1, .bool t0_2, .int .i64 t0_3, .int .i64 t0_4, .slice A0_5 n0_5 c0_5, .int .i64 t0_6, .int .i64 t0_7, .int .i64 t0_8, .int .i64 t0_9, .slice A0_10 n0_10 c0_10] 35 (0, 0)) := (by rw [hw]; exact mP HBX); replace RS := Aside0.mk (RS.out.push hb (Q := fun W => W.heap[gb1]? = some (.cells #[.int .i64 t0_0, .int .i64 t0_1, .bool t0_2, .int .i64 t0_3, .int .i64 t0_4, .slice A0_5 n0_5 c0_5, .int .i64 t0_6, .int .i64 t0_7, .int .i64 t0_8, .int .i64 t0_9, .slice A0_10 n0_10 c0_10] 35 (0, 0))) (fun W' hW => (hW _ (Nat.le_of_eq GX.out.symm) (blk_lt hbox)).trans hbox)); clear HBX HX GX hbox hb hw hzX1; have hz1 := cx11 (RS.out.get 1 rfl); skip) | ((with_reducible refine gate_callee (f := 15) rfl ?_); refine goA (some 11) rfl rfl Try.func15 rfl #[.int .i64 a0] rfl ?_; (refine (impl_NewNode.own k w.heap.size a0 t1_0 t1_1 t1_2 t1_3 t1_4 t1_5 t1_6 t1_7 t1_8 t1_9 _ ?sB  A1.out).mono ?_); (case sB => exact RS.out.B.size); rintro e w4_ ⟨A2_5, n2_5, c2_5, A2_10, n2_10, c2_10, rfl, hq, hb⟩; refine ⟨_, rfl, ?_⟩; replace RS := Aside0.mk (RS.out.push hb hq); clear hq hb; (try clear hz1); have hz2 := cx11 (RS.out.get 1 rfl); skip) | ((with_reducible refine gate_dst (N := 4) rfl ?_); refine boxE #[.int .i64 0, .int .i64 0, .bool false, .int .i64 0, .int .i64 0, .slice none 0 0, .int .i64 0, .int .i64 0, .int .i64 0, .int .i64 0, .slice none 0 0] 35 (N := 4) rfl rfl ?_; intro gb3 hg w5_ hbox hb; have HBX := Aside0.mk hbox; have HX := Aside0.mk hb; have GX := Aside0.mk hg; clear hb hbox hg; have hzX3 := cl_11 HBX; (with_reducible refine gate_store (t := 35) (p := 4) rfl ?_); refine store_event (t := 35) (p := 4) (v := ?vo_w6_) (w1 := (((((((((((w5_.setCell ⟨gb3, 0, none⟩ (.int .i64 t1_0)).setCell ⟨gb3, 1, none⟩ (.int .i64 t1_1)).setCell ⟨gb3, 2, none⟩ (.bool t1_2)).setCell ⟨gb3, 3, none⟩ (.int .i64 t1_3)).setCell ⟨gb3, 4, none⟩ (.int .i64 t1_4)).setCell ⟨gb3, 5, none⟩ (.slice A2_5 n2_5 c2_5)).setCell ⟨gb3, 6, none⟩ (.int .i64 t1_6)).setCell ⟨gb3, 7, none⟩ (.int .i64 t1_7)).setCell ⟨gb3, 8, none⟩ (.int .i64 t1_8)).setCell ⟨gb3, 9, none⟩ (.int .i64 t1_9)).setCell ⟨gb3, 10, none⟩ (.slice A2_10 n2_10 c2_10))) ?hg ?ho ?hn ?hr ?_; (case ho => rfl); (case hg => rfl); (case hn => rfl); (case hr => first | (go_simp; done) | (go_simp; rfl)); intro w6_ hw; have hb : Below w4_.heap.size w4_ w6_ := (by rw [hw]; repeat (with_reducible first | exact HX.out | refine below_set ?_ (Nat.le_of_eq GX.out.symm))); have hbox : w6_.heap[gb3]? = some (.cells #[.int .i64 t1_0, .int .i64 t1_1, .bool t1_2, .int .i64 t1_3, .int .i64 t1_4, .slice A2_5 n2_5 c2_5, .int .i64 t1_6, .int .i64 t1_7, .int .i64 t1_8, .int .i64 t1_9, .slice A2_10 n2_10 c2_10] 35 (0, 0)) := (by rw [hw]; exact mP HBX); replace RS := Aside0.mk (RS.out.push hb (Q := fun W => W.heap[gb3]? = some (.cells #[.int .i64 t1_0, .int .i64 t1_1, .bool t1_2, .int .i64 t1_3, .int .i64 t1_4, .slice A2_5 n2_5 c2_5, .int .i64 t1_6, .int .i64 t1_7, .int .i64 t1_8, .int .i64 t1_9, .slice A2_10 n2_10 c2_10] 35 (0, 0))) (fun W' hW => (hW _ (Nat.le_of_eq GX.out.symm) (blk_lt hbox)).trans hbox)); clear HBX HX GX hbox hb hw hzX3; (try clear hz2); have hz3 := cx11 (RS.out.get 1 rfl); have hz4 := cx11 (RS.out.get 3 rfl); skip) | ((with_reducible refine gate_callee (f := 16) rfl ?_); refine goA (some 14) rfl rfl Try.func16 rfl #[.agg #[.int .i64 t1_0, .int .i64 t1_1, .bool t1_2, .int .i64 t1_3, .int .i64 t1_4, .slice A2_5 n2_5 c2_5, .int .i64 t1_6, .int .i64 t1_7, .int .i64 t1_8, .int .i64 t1_9, .slice A2_10 n2_10 c2_10], .agg #[.int .i64 t0_0, .int .i64 t0_1, .bool t0_2, .int .i64 t0_3, .int .i64 t0_4, .slice A0_5 n0_5 c0_5, .int .i64 t0_6, .int .i64 t0_7, .int .i64 t0_8, .int .i64 t0_9, .slice A0_10 n0_10 c0_10]] rfl ?_; (refine (laws_eqNodeResult.rd k t1_0 t1_1 t1_2 t1_3 t1_4 _ _ _ t1_5 t1_6 t1_7 t1_8 t1_9 _ _ _ [] t0_0 t0_1 t0_2 t0_3 t0_4 _ _ _ t0_5 t0_6 t0_7 t0_8 t0_9 _ _ _ [] true _ ?s0 ?s1 ?s2 ?s3 A2.out).mono ?_); (case s0 => exact OwnT35.rd5 _ _ _ _ _ _ _ _ _ _ (RS.out.get 2 rfl)); (case s1 => exact OwnT35.rd10 _ _ _ _ _ _ _ _ _ _ (RS.out.get 2 rfl)); (case s2 => exact OwnT35.rd5 _ _ _ _ _ _ _ _ _ _ (RS.out.get 0 rfl)); (case s3 => exact OwnT35.rd10 _ _ _ _ _ _ _ _ _ _ (RS.out.get 0 rfl)); rintro e w7_ ⟨rfl, hb⟩; refine ⟨_, rfl, ?_⟩; replace RS := Aside0.mk (RS.out.below hb); clear hb; (try clear hz3); (try clear hz4); have hz5 := cx11 (RS.out.get 1 rfl); have hz6 := cx11 (RS.out.get 3 rfl); skip) | ((with_reducible refine gate_callee (f := 17) rfl ?_); refine goA (some 18) rfl rfl Try.func17 rfl #[.agg #[.int .i64 t1_0, .int .i64 t1_1, .bool t1_2, .int .i64 t1_3, .int .i64 t1_4, .slice A2_5 n2_5 c2_5, .int .i64 t1_6, .int .i64 t1_7, .int .i64 t1_8, .int .i64 t1_9, .slice A2_10 n2_10 c2_10], .int .i64 1] rfl ?_; (refine (laws_markNodeResult.own k _ _ t1_0 t1_1 t1_2 t1_3 t1_4 _ _ _ t1_5 t1_6 t1_7 t1_8 t1_9 _ _ _ 1 t3 t3_5 w _ ?sB (RS.out.get 2 rfl) A3.out).mono ?_); (case sB => exact RS.out.B); rintro e w8_ ⟨rfl, hq, hb, hk⟩; refine ⟨_, rfl, ?_⟩; replace RS := Aside0.mk (RS.out.upd 2 rfl hb hk hq); clear hq hb hk; (try clear hz5); (try clear hz6); have hz7 := cx11 (RS.out.get 1 rfl); have hz8 := cx11 (RS.out.get 3 rfl); skip) | ((with_reducible refine gate_callee (f := 18) rfl ?_); refine goA (some 21) rfl rfl Try.func18 rfl #[.agg #[.int .i64 t1_0, .int .i64 t1_1, .bool t1_2, .int .i64 t1_3, .int .i64 t1_4, .slice A2_5 n2_5 c2_5, .int .i64 t1_6, .int .i64 t1_7, .int .i64 t1_8, .int .i64 t1_9, .slice A2_10 n2_10 c2_10], .int .i64 1] rfl ?_; (refine (laws_heldNodeResult.rd k t1_0 t1_1 t1_2 t1_3 t1_4 _ _ _ t3_5 t1_6 t1_7 t1_8 t1_9 _ _ _ [] 1 t4 _ ?s0 ?s1 A4.out).mono ?_); (case s0 => exact OwnT35.rd5 _ _ _ _ _ _ _ _ _ _ (RS.out.get 2 rfl)); (case s1 => exact OwnT35.rd10 _ _ _ _ _ _ _ _ _ _ (RS.out.get 2 rfl)); rintro e w9_ ⟨rfl, hb⟩; refine ⟨_, rfl, ?_⟩; replace RS := Aside0.mk (RS.out.below hb); clear hb; (try clear hz7); (try clear hz8); have hz9 := cx11 (RS.out.get 1 rfl); have hz10 := cx11 (RS.out.get 3 rfl); skip) | ((with_reducible refine gate_callee (f := 15) rfl ?_); refine goA (some 28) rfl rfl Try.func15 rfl #[.int .i64 a0] rfl ?_; (refine (impl_NewNode.own k w.heap.size a0 t1_0 t1_1 t1_2 t1_3 t1_4 t1_5 t1_6 t1_7 t1_8 t1_9 _ ?sB  A1.out).mono ?_); (case sB => exact RS.out.B.size); rintro e w10_ ⟨A4_5, n4_5, c4_5, A4_10, n4_10, c4_10, rfl, hq, hb⟩; refine ⟨_, rfl, ?_⟩; replace RS := Aside0.mk (RS.out.push hb hq); clear hq hb; (try clear hz9); (try clear hz10); have hz11 := cx11 (RS.out.get 1 rfl); have hz12 := cx11 (RS.out.get 3 rfl); skip) | ((with_reducible refine gate_dst (N := 7) rfl ?_); refine boxE #[.int .i64 0, .int .i64 0, .bool false, .int .i64 0, .int .i64 0, .slice none 0 0, .int .i64 0, .int .i64 0, .int .i64 0, .int .i64 0, .slice none 0 0] 35 (N := 7) rfl rfl ?_; intro gb5 hg w11_ hbox hb; have HBX := Aside0.mk hbox; have HX := Aside0.mk hb; have GX := Aside0.mk hg; clear hb hbox hg; have hzX5 := cl_11 HBX; (with_reducible refine gate_store (t := 35) (p := 7) rfl ?_); refine store_event (t := 35) (p := 7) (v := ?vo_w12_) (w1 := (((((((((((w11_.setCell ⟨gb5, 0, none⟩ (.int .i64 t1_0)).setCell ⟨gb5, 1, none⟩ (.int .i64 t1_1)).setCell ⟨gb5, 2, none⟩ (.bool t1_2)).setCell ⟨gb5, 3, none⟩ (.int .i64 t1_3)).setCell ⟨gb5, 4, none⟩ (.int .i64 t1_4)).setCell ⟨gb5, 5, none⟩ (.slice A4_5 n4_5 c4_5)).setCell ⟨gb5, 6, none⟩ (.int .i64 t1_6)).setCell ⟨gb5, 7, none⟩ (.int .i64 t1_7)).setCell ⟨gb5, 8, none⟩ (.int .i64 t1_8)).setCell ⟨gb5, 9, none⟩ (.int .i64 t1_9)).setCell ⟨gb5, 10, none⟩ (.slice A4_10 n4_10 c4_10))) ?hg ?ho ?hn ?hr ?_; (case ho => rfl); (case hg => rfl); (case hn => rfl); (case hr => first | (go_simp; done) | (go_simp; rfl)); intro w12_ hw; have hb : Below w10_.heap.size w10_ w12_ := (by rw [hw]; repeat (with_reducible first | exact HX.out | refine below_set ?_ (Nat.le_of_eq GX.out.symm))); have hbox : w12_.heap[gb5]? = some (.cells #[.int .i64 t1_0, .int .i64 t1_1, .bool t1_2, .int .i64 t1_3, .int .i64 t1_4, .slice A4_5 n4_5 c4_5, .int .i64 t1_6, .int .i64 t1_7, .int .i64 t1_8, .int .i64 t1_9, .slice A4_10 n4_10 c4_10] 35 (0, 0)) := (by rw [hw]; exact mP HBX); replace RS := Aside0.mk (RS.out.push hb (Q := fun W => W.heap[gb5]? = some (.cells #[.int .i64 t1_0, .int .i64 t1_1, .bool t1_2, .int .i64 t1_3, .int .i64 t1_4, .slice A4_5 n4_5 c4_5, .int .i64 t1_6, .int .i64 t1_7, .int .i64 t1_8, .int .i64 t1_9, .slice A4_10 n4_10 c4_10] 35 (0, 0))) (fun W' hW => (hW _ (Nat.le_of_eq GX.out.symm) (blk_lt hbox)).trans hbox)); clear HBX HX GX hbox hb hw hzX5; (try clear hz11); (try clear hz12); have hz13 := cx11 (RS.out.get 1 rfl); have hz14 := cx11 (RS.out.get 3 rfl); have hz15 := cx11 (RS.out.get 5 rfl); skip) | ((with_reducible refine gate_callee (f := 16) rfl ?_); refine goA (some 31) rfl rfl Try.func16 rfl #[.agg #[.int .i64 t1_0, .int .i64 t1_1, .bool t1_2, .int .i64 t1_3, .int .i64 t1_4, .slice A4_5 n4_5 c4_5, .int .i64 t1_6, .int .i64 t1_7, .int .i64 t1_8, .int .i64 t1_9, .slice A4_10 n4_10 c4_10], .agg #[.int .i64 t0_0, .int .i64 t0_1, .bool t0_2, .int .i64 t0_3, .int .i64 t0_4, .slice A0_5 n0_5 c0_5, .int .i64 t0_6, .int .i64 t0_7, .int .i64 t0_8, .int .i64 t0_9, .slice A0_10 n0_10 c0_10]] rfl ?_; (refine (laws_eqNodeResult.rd k t1_0 t1_1 t1_2 t1_3 t1_4 _ _ _ t1_5 t1_6 t1_7 t1_8 t1_9 _ _ _ [] t0_0 t0_1 t0_2 t0_3 t0_4 _ _ _ t0_5 t0_6 t0_7 t0_8 t0_9 _ _ _ [] true _ ?s0 ?s1 ?s2 ?s3 A2.out).mono ?_); (case s0 => exact OwnT35.rd5 _ _ _ _ _ _ _ _ _ _ (RS.out.get 4 rfl)); (case s1 => exact OwnT35.rd10 _ _ _ _ _ _ _ _ _ _ (RS.out.get 4 rfl)); (case s2 => exact OwnT35.rd5 _ _ _ _ _ _ _ _ _ _ (RS.out.get 0 rfl)); (case s3 => exact OwnT35.rd10 _ _ _ _ _ _ _ _ _ _ (RS.out.get 0 rfl)); rintro e w13_ ⟨rfl, hb⟩; refine ⟨_, rfl, ?_⟩; replace RS := Aside0.mk (RS.out.below hb); clear hb; (try clear hz13); (try clear hz14); (try clear hz15); have hz16 := cx11 (RS.out.get 1 rfl); have hz17 := cx11 (RS.out.get 3 rfl); have hz18 := cx11 (RS.out.get 5 rfl); skip) | ((with_reducible refine gate_callee (f := 18) rfl ?_); refine goA (some 35) rfl rfl Try.func18 rfl #[.agg #[.int .i64 t1_0, .int .i64 t1_1, .bool t1_2, .int .i64 t1_3, .int .i64 t1_4, .slice A2_5 n2_5 c2_5, .int .i64 t1_6, .int .i64 t1_7, .int .i64 t1_8, .int .i64 t1_9, .slice A2_10 n2_10 c2_10], .int .i64 1] rfl ?_; (refine (laws_heldNodeResult.rd k t1_0 t1_1 t1_2 t1_3 t1_4 _ _ _ t3_5 t1_6 t1_7 t1_8 t1_9 _ _ _ [] 1 t4 _ ?s0 ?s1 A4.out).mono ?_); (case s0 => exact OwnT35.rd5 _ _ _ _ _ _ _ _ _ _ (RS.out.get 2 rfl)); (case s1 => exact OwnT35.rd10 _ _ _ _ _ _ _ _ _ _ (RS.out.get 2 rfl)); rintro e w14_ ⟨rfl, hb⟩; refine ⟨_, rfl, ?_⟩; replace RS := Aside0.mk (RS.out.below hb); clear hb; (try clear hz16); (try clear hz17); (try clear hz18); have hz19 := cx11 (RS.out.get 1 rfl); have hz20 := cx11 (RS.out.get 3 rfl); have hz21 := cx11 (RS.out.get 5 rfl); skip))
  go_ret
  exact ⟨rfl, RS.out.B⟩
theorem laws_FnExactNewNode.calls (k : Nat) (a0 : Int) (w : World)  (h : laws_FnExactNewNode.f k a0 = some true) :
  Calls Try.prog 4 #[.int .i64 a0] w fun e w' => e = .returned (.bool true) ∧ Below w.heap.size w w' := by
  unfold laws_FnExactNewNode.f at h
  obtain ⟨b0, h0, h⟩ := Option.bind_eq_some_iff.mp h
  obtain ⟨t0_0, t0_1, t0_2, t0_3, t0_4, t0_5, t0_6, t0_7, t0_8, t0_9, t0_10⟩ := b0
  (try simp only at h)
  by_cases NILt0_10 : t0_10.length = 0
  rotate_left
  · rw [if_neg NILt0_10] at h; cases h
  rw [if_pos NILt0_10] at h
  obtain rfl := List.eq_nil_of_length_eq_zero NILt0_10
  obtain ⟨b1, h1, h⟩ := Option.bind_eq_some_iff.mp h
  obtain ⟨t1_0, t1_1, t1_2, t1_3, t1_4, t1_5, t1_6, t1_7, t1_8, t1_9, t1_10⟩ := b1
  (try simp only at h)
  by_cases NILt1_10 : t1_10.length = 0
  rotate_left
  · rw [if_neg NILt1_10] at h; cases h
  rw [if_pos NILt1_10] at h
  obtain rfl := List.eq_nil_of_length_eq_zero NILt1_10
  obtain ⟨b2, h2, h⟩ := Option.bind_eq_some_iff.mp h
  obtain ⟨t2, rfl⟩ : ∃ z, z = b2 := ⟨_, rfl⟩
  (try simp only at h)
  by_cases EQt2 : t2 = true
  rotate_left
  · rw [if_neg EQt2] at h; cases h
  rw [if_pos EQt2] at h
  subst EQt2
  obtain ⟨b3, h3, h⟩ := Option.bind_eq_some_iff.mp h
  obtain ⟨t3, t3_5, t3_10⟩ := b3
  (try simp only at h)
  by_cases NILt3_10 : t3_10.length = 0
  rotate_left
  · rw [if_neg NILt3_10] at h; cases h
  rw [if_pos NILt3_10] at h
  obtain rfl := List.eq_nil_of_length_eq_zero NILt3_10
  obtain ⟨b4, h4, h⟩ := Option.bind_eq_some_iff.mp h
  obtain ⟨t4, rfl⟩ : ∃ z, z = b4 := ⟨_, rfl⟩
  (try simp only at h)
  by_cases NEGt4 : ¬ t4 < 0
  rotate_left
  · rw [if_neg NEGt4] at h; cases h
  rw [if_pos NEGt4] at h
  by_cases SAMEt4 : t4 = t3
  rotate_left
  · rw [if_neg SAMEt4] at h; cases h
  rw [if_pos SAMEt4] at h
  exact laws_FnExactNewNode.good k a0 t0_0 t0_1 t0_2 t0_3 t0_4 t0_5 t0_6 t0_7 t0_8 t0_9 t1_0 t1_1 t1_2 t1_3 t1_4 t1_5 t1_6 t1_7 t1_8 t1_9 t3 t3_5 t4 w  h0 h1 h2 h3 h4 NEGt4 SAMEt4

end Go.Proofs.Ytgfoifkkffffgaa.PFnExactNewNode
