-- Laid by a turned copy of the printer (wip/tools/patch_print.py)
import Derived.Test.YtgfoifkkffffgabPFnExactAddEventx0
import Derived.Test.YtgfoifkkffffgabPFnExactAddEventx1
namespace Go.Proofs.Ytgfoifkkffffgab.PFnExactAddEvent
open Go.RowKit Go.Proofs.YtgfoifkkffffgabW.PrintWords Go.Proofs.YtgfoifkkffffgabW.PrintLast Go.Proofs.YtgfoifkkffffgabW.PrintMore
attribute [local go_sem] max2_int min2_int max_two min_two max_three min_three max_four min_four   -- for this text's walks alone
set_option linter.unusedVariables false
set_option linter.unusedSimpArgs false

/-- A state of type 32 at block g of W; what its slices lead to came in by w0. -/
def IsS32 (w0 W : World) (g : Nat) (f0 : Int) (f1 : Bool) (f2 : Int) (f3 : Int) (f4 : List (S55)) (f5 : Int) (f6 : Int) (f7 : Int) (f8 : Int) : Prop := ∃ A4 c4, W.heap[g]? = some (.cells #[.int .i64 f0, .bool f1, .int .i64 f2, .int .i64 f3, .slice A4 f4.length c4, .int .i64 f5, .int .i64 f6, .int .i64 f7, .int .i64 f8] 32 (0, 0)) ∧ w0.heap.size ≤ g ∧ Kd.C k55 w0 A4 f4.length f4 ∧ f4.length ≤ c4
theorem IsS32.grown {w0 W : World} {g : Nat} {f0 : Int} {f1 : Bool} {f2 : Int} {f3 : Int} {f4 : List (S55)} {f5 : Int} {f6 : Int} {f7 : Int} {f8 : Int} {W1 : World} {row : Option Nat} (h : IsS32 w0 W g f0 f1 f2 f3 f4 f5 f6 f7 f8) (hw : W.grownBy W1 row) (hne : some g ≠ row) : IsS32 w0 W1 g f0 f1 f2 f3 f4 f5 f6 f7 f8 := by
 obtain ⟨A4, c4, hb, hg, hr4, hl4⟩ := h
 exact ⟨A4, c4, blk_grown hb hw hne, hg, hr4, hl4⟩
theorem IsS32.own_neN {w0 W : World} {g : Nat} {f0 : Int} {f1 : Bool} {f2 : Int} {f3 : Int} {f4 : List (S55)} {f5 : Int} {f6 : Int} {f7 : Int} {f8 : Int} {α : Type} {d : Kd α} {e : Nat} {base : Nat} {ok : Nat → Prop} {v : Value} {xs : List α} (h : IsS32 w0 W g f0 f1 f2 f3 f4 f5 f6 f7 f8) (ho : Kd.N d e W base ok v xs) (ht : e ≠ 32) : some g ≠ v.ownBlock := by
 obtain ⟨A4, c4, hb, hg, hr4, hl4⟩ := h
 exact Kd.N_ne ho hb ht
theorem IsS32.fresh {w0 W : World} {g : Nat} {f0 : Int} {f1 : Bool} {f2 : Int} {f3 : Int} {f4 : List (S55)} {f5 : Int} {f6 : Int} {f7 : Int} {f8 : Int} (h : IsS32 w0 W g f0 f1 f2 f3 f4 f5 f6 f7 f8) : ∀ k, W.heap.size ≤ k → k ≠ g := by
 obtain ⟨A4, c4, hb, hg, hr4, hl4⟩ := h
 exact Kd.freshB hb
theorem IsS32.kept {w0 W : World} {g : Nat} {f0 : Int} {f1 : Bool} {f2 : Int} {f3 : Int} {f4 : List (S55)} {f5 : Int} {f6 : Int} {f7 : Int} {f8 : Int} {W1 : World} {S : Nat → Prop} (h : IsS32 w0 W g f0 f1 f2 f3 f4 f5 f6 f7 f8) (hk : Kept W W1 S) (hne : ¬ S g) : IsS32 w0 W1 g f0 f1 f2 f3 f4 f5 f6 f7 f8 := by
 obtain ⟨A4, c4, hb, hg, hr4, hl4⟩ := h
 exact ⟨A4, c4, blk_kept hb hk hne, hg, hr4, hl4⟩
theorem IsS32.below {w0 W : World} {g : Nat} {f0 : Int} {f1 : Bool} {f2 : Int} {f3 : Int} {f4 : List (S55)} {f5 : Int} {f6 : Int} {f7 : Int} {f8 : Int} {W1 : World} (h : IsS32 w0 W g f0 f1 f2 f3 f4 f5 f6 f7 f8) (hw : Below W.heap.size W W1) : IsS32 w0 W1 g f0 f1 f2 f3 f4 f5 f6 f7 f8 := h.grown (grown_of_below hw none) (by simp)
theorem IsS32.alloc {w0 W : World} {g : Nat} {f0 : Int} {f1 : Bool} {f2 : Int} {f3 : Int} {f4 : List (S55)} {f5 : Int} {f6 : Int} {f7 : Int} {f8 : Int} (h : IsS32 w0 W g f0 f1 f2 f3 f4 f5 f6 f7 f8) (o : Obj) : IsS32 w0 (W.alloc o) g f0 f1 f2 f3 f4 f5 f6 f7 f8 := h.below (below_alloc (Below.refl _ _) o)
theorem IsS32.drewN {w0 W : World} {g : Nat} {f0 : Int} {f1 : Bool} {f2 : Int} {f3 : Int} {f4 : List (S55)} {f5 : Int} {f6 : Int} {f7 : Int} {f8 : Int} (h : IsS32 w0 W g f0 f1 f2 f3 f4 f5 f6 f7 f8) (m : Nat) : IsS32 w0 (W.drewN m) g f0 f1 f2 f3 f4 f5 f6 f7 f8 := h
theorem IsS32.drew {w0 W : World} {g : Nat} {f0 : Int} {f1 : Bool} {f2 : Int} {f3 : Int} {f4 : List (S55)} {f5 : Int} {f6 : Int} {f7 : Int} {f8 : Int} (h : IsS32 w0 W g f0 f1 f2 f3 f4 f5 f6 f7 f8) : IsS32 w0 W.drew g f0 f1 f2 f3 f4 f5 f6 f7 f8 := h
theorem IsS32.at_ {w0 W : World} {g : Nat} {f0 : Int} {f1 : Bool} {f2 : Int} {f3 : Int} {f4 : List (S55)} {f5 : Int} {f6 : Int} {f7 : Int} {f8 : Int} {w' : World} {m : Nat} (hq : W.drewN m = w') (h : IsS32 w0 W g f0 f1 f2 f3 f4 f5 f6 f7 f8) : IsS32 w0 w' g f0 f1 f2 f3 f4 f5 f6 f7 f8 := by subst hq; exact IsS32.drewN h m
theorem IsS32.apart {w0 W : World} {g : Nat} {f0 : Int} {f1 : Bool} {f2 : Int} {f3 : Int} {f4 : List (S55)} {f5 : Int} {f6 : Int} {f7 : Int} {f8 : Int} {α : Type} {d : Kd α} {e : Nat} {base : Nat} {ok : Nat → Prop} {v : Value} {xs : List α} (h : IsS32 w0 W g f0 f1 f2 f3 f4 f5 f6 f7 f8) (ho : d.R e W base ok v xs) (ht : ∀ q, q ∈ e :: d.E → q ≠ 32) : d.R e W base (fun k => ok k ∧ k ≠ g) v xs := by
 obtain ⟨A4, c4, hb, hg, hr4, hl4⟩ := h
 exact Kd.R_types ho hb ht
theorem IsS32.own_ne {w0 W : World} {g : Nat} {f0 : Int} {f1 : Bool} {f2 : Int} {f3 : Int} {f4 : List (S55)} {f5 : Int} {f6 : Int} {f7 : Int} {f8 : Int} {α : Type} {d : Kd α} {e : Nat} {base : Nat} {ok : Nat → Prop} {v : Value} {xs : List α} (h : IsS32 w0 W g f0 f1 f2 f3 f4 f5 f6 f7 f8) (ho : d.R e W base ok v xs) (ht : e ≠ 32) : some g ≠ v.ownBlock := by
 obtain ⟨A4, c4, hb, hg, hr4, hl4⟩ := h
 exact Kd.R_ne ho hb ht
theorem IsS32.apartQ {w0 W : World} {g : Nat} {f0 : Int} {f1 : Bool} {f2 : Int} {f3 : Int} {f4 : List (S55)} {f5 : Int} {f6 : Int} {f7 : Int} {f8 : Int} {α : Type} {d : Kd α} {e : Nat} {base : Nat} {ok : Nat → Prop} {v : Value} {xs : List α} (h : IsS32 w0 W g f0 f1 f2 f3 f4 f5 f6 f7 f8) (ho : d.Q e W base ok v xs) (ht : ∀ q, q ∈ e :: d.E → q ≠ 32) : d.Q e W base (fun k => ok k ∧ k ≠ g) v xs := by
 obtain ⟨A4, c4, hb, hg, hr4, hl4⟩ := h
 exact Kd.Q_types ho hb ht
theorem IsS32.own_neQ {w0 W : World} {g : Nat} {f0 : Int} {f1 : Bool} {f2 : Int} {f3 : Int} {f4 : List (S55)} {f5 : Int} {f6 : Int} {f7 : Int} {f8 : Int} {α : Type} {d : Kd α} {e : Nat} {base : Nat} {ok : Nat → Prop} {v : Value} {xs : List α} (h : IsS32 w0 W g f0 f1 f2 f3 f4 f5 f6 f7 f8) (ho : d.Q e W base ok v xs) (ht : e ≠ 32) : some g ≠ v.ownBlock := by
 obtain ⟨A4, c4, hb, hg, hr4, hl4⟩ := h
 exact Kd.Q_ne ho hb ht
theorem IsS32.apartS {w0 W : World} {g : Nat} {f0 : Int} {f1 : Bool} {f2 : Int} {f3 : Int} {f4 : List (S55)} {f5 : Int} {f6 : Int} {f7 : Int} {f8 : Int} {α : Type} {d : Kd α} {e : Nat} {base : Nat} {ok : Nat → Prop} {v : Value} {xs : List α} (h : IsS32 w0 W g f0 f1 f2 f3 f4 f5 f6 f7 f8) (ho : d.S e W base ok v xs) (ht : ∀ q, q ∈ e :: d.E → q ≠ 32) : d.S e W base (fun k => ok k ∧ k ≠ g) v xs := by
 obtain ⟨A4, c4, hb, hg, hr4, hl4⟩ := h
 exact Kd.S_types ho hb ht
theorem IsS32.own_neS {w0 W : World} {g : Nat} {f0 : Int} {f1 : Bool} {f2 : Int} {f3 : Int} {f4 : List (S55)} {f5 : Int} {f6 : Int} {f7 : Int} {f8 : Int} {α : Type} {d : Kd α} {e : Nat} {base : Nat} {ok : Nat → Prop} {v : Value} {xs : List α} (h : IsS32 w0 W g f0 f1 f2 f3 f4 f5 f6 f7 f8) (ho : d.S e W base ok v xs) (ht : e ≠ 32) : some g ≠ v.ownBlock := by
 obtain ⟨A4, c4, hb, hg, hr4, hl4⟩ := h
 exact Kd.S_ne ho hb ht
theorem IsS32.lt {w0 W : World} {g : Nat} {f0 : Int} {f1 : Bool} {f2 : Int} {f3 : Int} {f4 : List (S55)} {f5 : Int} {f6 : Int} {f7 : Int} {f8 : Int} (h : IsS32 w0 W g f0 f1 f2 f3 f4 f5 f6 f7 f8) : g < W.heap.size := by
 obtain ⟨A4, c4, hb, hg, hr4, hl4⟩ := h
 exact blk_lt hb
theorem IsS32.ge {w0 W : World} {g : Nat} {f0 : Int} {f1 : Bool} {f2 : Int} {f3 : Int} {f4 : List (S55)} {f5 : Int} {f6 : Int} {f7 : Int} {f8 : Int} (h : IsS32 w0 W g f0 f1 f2 f3 f4 f5 f6 f7 f8) : w0.heap.size ≤ g := by
 obtain ⟨A4, c4, hb, hg, hr4, hl4⟩ := h
 exact hg
theorem IsS32.ne_blk {w0 W : World} {g : Nat} {f0 : Int} {f1 : Bool} {f2 : Int} {f3 : Int} {f4 : List (S55)} {f5 : Int} {f6 : Int} {f7 : Int} {f8 : Int} {a : Nat} {cs : Array Value} {t : TypeId} {fr : Nat × Nat} (h : IsS32 w0 W g f0 f1 f2 f3 f4 f5 f6 f7 f8) (hb2 : W.heap[a]? = some (.cells cs t fr)) (ht : t ≠ 32) : g ≠ a := by
 obtain ⟨A4, c4, hb, hg, hr4, hl4⟩ := h
 rintro rfl
 rw [hb] at hb2
 injection hb2 with hb2
 injection hb2 with _ ht2
 exact ht ht2.symm
theorem IsS32.far {w0 W : World} {g : Nat} {f0 : Int} {f1 : Bool} {f2 : Int} {f3 : Int} {f4 : List (S55)} {f5 : Int} {f6 : Int} {f7 : Int} {f8 : Int} {p : Addr} (h : IsS32 w0 W g f0 f1 f2 f3 f4 f5 f6 f7 f8) (hne : g ≠ p.block) (u : Value) : IsS32 w0 (W.setCell p u) g f0 f1 f2 f3 f4 f5 f6 f7 f8 := by
 obtain ⟨A4, c4, hb, hg, hr4, hl4⟩ := h
 exact ⟨A4, c4, blk_far hb hne u, hg, hr4, hl4⟩
theorem cellS32_0 {W : World} {g : Nat} {A4 : Option Addr} {c4 : Nat} {f0 : Int} {f1 : Bool} {f2 : Int} {f3 : Int} {f4 : List (S55)} {f5 : Int} {f6 : Int} {f7 : Int} {f8 : Int} (h : W.heap[g]? = some (.cells #[.int .i64 f0, .bool f1, .int .i64 f2, .int .i64 f3, .slice A4 f4.length c4, .int .i64 f5, .int .i64 f6, .int .i64 f7, .int .i64 f8] 32 (0, 0))) : W.cell? ⟨g, 0, none⟩ = some (.int .i64 f0) := (blk_cell h 0).trans rfl
theorem IsS32.set_0 {w0 W : World} {g : Nat} {f0 : Int} {f1 : Bool} {f2 : Int} {f3 : Int} {f4 : List (S55)} {f5 : Int} {f6 : Int} {f7 : Int} {f8 : Int} (h : IsS32 w0 W g f0 f1 f2 f3 f4 f5 f6 f7 f8) (x : Int) : IsS32 w0 (W.setCell ⟨g, 0, none⟩ (.int .i64 x)) g x f1 f2 f3 f4 f5 f6 f7 f8 := by
 obtain ⟨A4, c4, hb, hg, hr4, hl4⟩ := h
 exact ⟨A4, c4, by simpa using blk_set hb 0 (.int .i64 x), hg, hr4, hl4⟩
theorem cellS32_1 {W : World} {g : Nat} {A4 : Option Addr} {c4 : Nat} {f0 : Int} {f1 : Bool} {f2 : Int} {f3 : Int} {f4 : List (S55)} {f5 : Int} {f6 : Int} {f7 : Int} {f8 : Int} (h : W.heap[g]? = some (.cells #[.int .i64 f0, .bool f1, .int .i64 f2, .int .i64 f3, .slice A4 f4.length c4, .int .i64 f5, .int .i64 f6, .int .i64 f7, .int .i64 f8] 32 (0, 0))) : W.cell? ⟨g, 1, none⟩ = some (.bool f1) := (blk_cell h 1).trans rfl
theorem IsS32.set_1 {w0 W : World} {g : Nat} {f0 : Int} {f1 : Bool} {f2 : Int} {f3 : Int} {f4 : List (S55)} {f5 : Int} {f6 : Int} {f7 : Int} {f8 : Int} (h : IsS32 w0 W g f0 f1 f2 f3 f4 f5 f6 f7 f8) (x : Bool) : IsS32 w0 (W.setCell ⟨g, 1, none⟩ (.bool x)) g f0 x f2 f3 f4 f5 f6 f7 f8 := by
 obtain ⟨A4, c4, hb, hg, hr4, hl4⟩ := h
 exact ⟨A4, c4, by simpa using blk_set hb 1 (.bool x), hg, hr4, hl4⟩
theorem cellS32_2 {W : World} {g : Nat} {A4 : Option Addr} {c4 : Nat} {f0 : Int} {f1 : Bool} {f2 : Int} {f3 : Int} {f4 : List (S55)} {f5 : Int} {f6 : Int} {f7 : Int} {f8 : Int} (h : W.heap[g]? = some (.cells #[.int .i64 f0, .bool f1, .int .i64 f2, .int .i64 f3, .slice A4 f4.length c4, .int .i64 f5, .int .i64 f6, .int .i64 f7, .int .i64 f8] 32 (0, 0))) : W.cell? ⟨g, 2, none⟩ = some (.int .i64 f2) := (blk_cell h 2).trans rfl
theorem IsS32.set_2 {w0 W : World} {g : Nat} {f0 : Int} {f1 : Bool} {f2 : Int} {f3 : Int} {f4 : List (S55)} {f5 : Int} {f6 : Int} {f7 : Int} {f8 : Int} (h : IsS32 w0 W g f0 f1 f2 f3 f4 f5 f6 f7 f8) (x : Int) : IsS32 w0 (W.setCell ⟨g, 2, none⟩ (.int .i64 x)) g f0 f1 x f3 f4 f5 f6 f7 f8 := by
 obtain ⟨A4, c4, hb, hg, hr4, hl4⟩ := h
 exact ⟨A4, c4, by simpa using blk_set hb 2 (.int .i64 x), hg, hr4, hl4⟩
theorem cellS32_3 {W : World} {g : Nat} {A4 : Option Addr} {c4 : Nat} {f0 : Int} {f1 : Bool} {f2 : Int} {f3 : Int} {f4 : List (S55)} {f5 : Int} {f6 : Int} {f7 : Int} {f8 : Int} (h : W.heap[g]? = some (.cells #[.int .i64 f0, .bool f1, .int .i64 f2, .int .i64 f3, .slice A4 f4.length c4, .int .i64 f5, .int .i64 f6, .int .i64 f7, .int .i64 f8] 32 (0, 0))) : W.cell? ⟨g, 3, none⟩ = some (.int .i64 f3) := (blk_cell h 3).trans rfl
theorem IsS32.set_3 {w0 W : World} {g : Nat} {f0 : Int} {f1 : Bool} {f2 : Int} {f3 : Int} {f4 : List (S55)} {f5 : Int} {f6 : Int} {f7 : Int} {f8 : Int} (h : IsS32 w0 W g f0 f1 f2 f3 f4 f5 f6 f7 f8) (x : Int) : IsS32 w0 (W.setCell ⟨g, 3, none⟩ (.int .i64 x)) g f0 f1 f2 x f4 f5 f6 f7 f8 := by
 obtain ⟨A4, c4, hb, hg, hr4, hl4⟩ := h
 exact ⟨A4, c4, by simpa using blk_set hb 3 (.int .i64 x), hg, hr4, hl4⟩
theorem cellS32_4 {W : World} {g : Nat} {A4 : Option Addr} {c4 : Nat} {f0 : Int} {f1 : Bool} {f2 : Int} {f3 : Int} {f4 : List (S55)} {f5 : Int} {f6 : Int} {f7 : Int} {f8 : Int} (h : W.heap[g]? = some (.cells #[.int .i64 f0, .bool f1, .int .i64 f2, .int .i64 f3, .slice A4 f4.length c4, .int .i64 f5, .int .i64 f6, .int .i64 f7, .int .i64 f8] 32 (0, 0))) : W.cell? ⟨g, 4, none⟩ = some (.slice A4 f4.length c4) := (blk_cell h 4).trans rfl
theorem cellS32_5 {W : World} {g : Nat} {A4 : Option Addr} {c4 : Nat} {f0 : Int} {f1 : Bool} {f2 : Int} {f3 : Int} {f4 : List (S55)} {f5 : Int} {f6 : Int} {f7 : Int} {f8 : Int} (h : W.heap[g]? = some (.cells #[.int .i64 f0, .bool f1, .int .i64 f2, .int .i64 f3, .slice A4 f4.length c4, .int .i64 f5, .int .i64 f6, .int .i64 f7, .int .i64 f8] 32 (0, 0))) : W.cell? ⟨g, 5, none⟩ = some (.int .i64 f5) := (blk_cell h 5).trans rfl
theorem IsS32.set_5 {w0 W : World} {g : Nat} {f0 : Int} {f1 : Bool} {f2 : Int} {f3 : Int} {f4 : List (S55)} {f5 : Int} {f6 : Int} {f7 : Int} {f8 : Int} (h : IsS32 w0 W g f0 f1 f2 f3 f4 f5 f6 f7 f8) (x : Int) : IsS32 w0 (W.setCell ⟨g, 5, none⟩ (.int .i64 x)) g f0 f1 f2 f3 f4 x f6 f7 f8 := by
 obtain ⟨A4, c4, hb, hg, hr4, hl4⟩ := h
 exact ⟨A4, c4, by simpa using blk_set hb 5 (.int .i64 x), hg, hr4, hl4⟩
theorem cellS32_6 {W : World} {g : Nat} {A4 : Option Addr} {c4 : Nat} {f0 : Int} {f1 : Bool} {f2 : Int} {f3 : Int} {f4 : List (S55)} {f5 : Int} {f6 : Int} {f7 : Int} {f8 : Int} (h : W.heap[g]? = some (.cells #[.int .i64 f0, .bool f1, .int .i64 f2, .int .i64 f3, .slice A4 f4.length c4, .int .i64 f5, .int .i64 f6, .int .i64 f7, .int .i64 f8] 32 (0, 0))) : W.cell? ⟨g, 6, none⟩ = some (.int .i64 f6) := (blk_cell h 6).trans rfl
theorem IsS32.set_6 {w0 W : World} {g : Nat} {f0 : Int} {f1 : Bool} {f2 : Int} {f3 : Int} {f4 : List (S55)} {f5 : Int} {f6 : Int} {f7 : Int} {f8 : Int} (h : IsS32 w0 W g f0 f1 f2 f3 f4 f5 f6 f7 f8) (x : Int) : IsS32 w0 (W.setCell ⟨g, 6, none⟩ (.int .i64 x)) g f0 f1 f2 f3 f4 f5 x f7 f8 := by
 obtain ⟨A4, c4, hb, hg, hr4, hl4⟩ := h
 exact ⟨A4, c4, by simpa using blk_set hb 6 (.int .i64 x), hg, hr4, hl4⟩
theorem cellS32_7 {W : World} {g : Nat} {A4 : Option Addr} {c4 : Nat} {f0 : Int} {f1 : Bool} {f2 : Int} {f3 : Int} {f4 : List (S55)} {f5 : Int} {f6 : Int} {f7 : Int} {f8 : Int} (h : W.heap[g]? = some (.cells #[.int .i64 f0, .bool f1, .int .i64 f2, .int .i64 f3, .slice A4 f4.length c4, .int .i64 f5, .int .i64 f6, .int .i64 f7, .int .i64 f8] 32 (0, 0))) : W.cell? ⟨g, 7, none⟩ = some (.int .i64 f7) := (blk_cell h 7).trans rfl
theorem IsS32.set_7 {w0 W : World} {g : Nat} {f0 : Int} {f1 : Bool} {f2 : Int} {f3 : Int} {f4 : List (S55)} {f5 : Int} {f6 : Int} {f7 : Int} {f8 : Int} (h : IsS32 w0 W g f0 f1 f2 f3 f4 f5 f6 f7 f8) (x : Int) : IsS32 w0 (W.setCell ⟨g, 7, none⟩ (.int .i64 x)) g f0 f1 f2 f3 f4 f5 f6 x f8 := by
 obtain ⟨A4, c4, hb, hg, hr4, hl4⟩ := h
 exact ⟨A4, c4, by simpa using blk_set hb 7 (.int .i64 x), hg, hr4, hl4⟩
theorem cellS32_8 {W : World} {g : Nat} {A4 : Option Addr} {c4 : Nat} {f0 : Int} {f1 : Bool} {f2 : Int} {f3 : Int} {f4 : List (S55)} {f5 : Int} {f6 : Int} {f7 : Int} {f8 : Int} (h : W.heap[g]? = some (.cells #[.int .i64 f0, .bool f1, .int .i64 f2, .int .i64 f3, .slice A4 f4.length c4, .int .i64 f5, .int .i64 f6, .int .i64 f7, .int .i64 f8] 32 (0, 0))) : W.cell? ⟨g, 8, none⟩ = some (.int .i64 f8) := (blk_cell h 8).trans rfl
theorem IsS32.set_8 {w0 W : World} {g : Nat} {f0 : Int} {f1 : Bool} {f2 : Int} {f3 : Int} {f4 : List (S55)} {f5 : Int} {f6 : Int} {f7 : Int} {f8 : Int} (h : IsS32 w0 W g f0 f1 f2 f3 f4 f5 f6 f7 f8) (x : Int) : IsS32 w0 (W.setCell ⟨g, 8, none⟩ (.int .i64 x)) g f0 f1 f2 f3 f4 f5 f6 f7 x := by
 obtain ⟨A4, c4, hb, hg, hr4, hl4⟩ := h
 exact ⟨A4, c4, by simpa using blk_set hb 8 (.int .i64 x), hg, hr4, hl4⟩
theorem IsS32.new (w0 W : World) (A4 : Option Addr) (c4 : Nat) (f0 : Int) (f1 : Bool) (f2 : Int) (f3 : Int) (f4 : List (S55)) (f5 : Int) (f6 : Int) (f7 : Int) (f8 : Int) (hB : Below w0.heap.size w0 W) (hr4 : Kd.C k55 w0 A4 f4.length f4) (hl4 : f4.length ≤ c4) : IsS32 w0 (W.alloc (.cells #[.int .i64 f0, .bool f1, .int .i64 f2, .int .i64 f3, .slice A4 f4.length c4, .int .i64 f5, .int .i64 f6, .int .i64 f7, .int .i64 f8] 32)) W.heap.size f0 f1 f2 f3 f4 f5 f6 f7 f8 := ⟨A4, c4, by simpa using heap_alloc_new W _, hB.size, hr4, hl4⟩

/-! ### spec_l12Log: function 126 -/
def spec_l12Log.l0 : Nat → Int → Int → Bool → Int → Int → List (S55) → Int → Int → Int → Int → Option (Int × Int × Bool × Int × Int × Int × Int × Int × Int)
 | 0, _, _, _, _, _, _, _, _, _, _ => none
 | k + 1, x3, x1000, x1001, x1002, x1003, x1004, x1005, x1006, x1007, x1008 => if x3 < (x1004.length : Int) then (if 0 ≤ x3 then ((spec_EntryFault.f k ((rd_T55 x1004 x3).f0) ((rd_T55 x1004 x3).f1.f0) ((rd_T55 x1004 x3).f1.f1) ((rd_T55 x1004 x3).f1.f2)).bind fun t118 => (if t118 = 0 then (if ((rd_T55 x1004 x3).f0) > x1003 then (some (1, x1000, x1001, x1002, x1003, x1005, x1006, x1007, x1008)) else (if x3 > 0 then (if 0 ≤ (wrap64 (x3 - 1)) then (if (wrap64 (x3 - 1)) < (x1004.length : Int) then (if ((rd_T55 x1004 x3).f0) < ((rd_T55 x1004 (wrap64 (x3 - 1))).f0) then (some (1, x1000, x1001, x1002, x1003, x1005, x1006, x1007, x1008)) else (spec_l12Log.l0 k (wrap64 (x3 + 1)) x1000 x1001 x1002 x1003 x1004 x1005 x1006 x1007 x1008)) else (none)) else (none)) else (spec_l12Log.l0 k (wrap64 (x3 + 1)) x1000 x1001 x1002 x1003 x1004 x1005 x1006 x1007 x1008))) else (some (t118, x1000, x1001, x1002, x1003, x1005, x1006, x1007, x1008)))) else (none)) else (some (0, x1000, x1001, x1002, x1003, x1005, x1006, x1007, x1008))
def spec_l12Log.f (k : Nat) (s0_0 : Int) (s0_1 : Bool) (s0_2 : Int) (s0_3 : Int) (s0_4 : List (S55)) (s0_5 : Int) (s0_6 : Int) (s0_7 : Int) (s0_8 : Int) : Option (Int × Int × Bool × Int × Int × Int × Int × Int × Int) := if (s0_4.length : Int) > 100 then (some (2, s0_0, s0_1, s0_2, s0_3, s0_5, s0_6, s0_7, s0_8)) else (spec_l12Log.l0 k 0 s0_0 s0_1 s0_2 s0_3 s0_4 s0_5 s0_6 s0_7 s0_8)
theorem spec_l12Log.mono_l : ∀ k, (∀ y0 y1 y2 y3 y4 y5 y6 y7 y8 y9, LeO (spec_l12Log.l0 k y0 y1 y2 y3 y4 y5 y6 y7 y8 y9) (spec_l12Log.l0 (k + 1) y0 y1 y2 y3 y4 y5 y6 y7 y8 y9))
 | 0 => fun _ _ _ _ _ _ _ _ _ _ r h => by simp [spec_l12Log.l0] at h
 | k + 1 => by
  have ih0 := spec_l12Log.mono_l k
  intro y0 y1 y2 y3 y4 y5 y6 y7 y8 y9
  unfold spec_l12Log.l0
  repeat' first
  | (with_reducible exact ih0 _ _ _ _ _ _ _ _ _ _)
  | (with_reducible exact spec_EntryFault.mono _ _ _ _ _)
  | (with_reducible exact LeO.refl _)
  | (with_reducible exact LeO.none _)
  | (with_reducible refine LeO.ite ?_ ?_)
  | (with_reducible refine LeO.bind ?_ (fun _ => ?_))
  | exact ih0 _ _ _ _ _ _ _ _ _ _
  | exact spec_EntryFault.mono _ _ _ _ _
  | exact LeO.none _
  | refine LeO.ite ?_ ?_
  | refine LeO.bind ?_ (fun _ => ?_)
theorem spec_l12Log.mono : ∀ a0 a1 a2 a3 a4 a5 a6 a7 a8 k, LeO (spec_l12Log.f k a0 a1 a2 a3 a4 a5 a6 a7 a8) (spec_l12Log.f (k + 1) a0 a1 a2 a3 a4 a5 a6 a7 a8) := by
 intro a0 a1 a2 a3 a4 a5 a6 a7 a8 k
 have ih0 := spec_l12Log.mono_l k
 unfold spec_l12Log.f
 repeat' first
   | (with_reducible exact ih0 _ _ _ _ _ _ _ _ _ _)
   | (with_reducible exact spec_EntryFault.mono _ _ _ _ _)
   | (with_reducible exact LeO.refl _)
   | (with_reducible exact LeO.none _)
   | (with_reducible refine LeO.ite ?_ ?_)
   | (with_reducible refine LeO.bind ?_ (fun _ => ?_))
   | exact ih0 _ _ _ _ _ _ _ _ _ _
   | exact spec_EntryFault.mono _ _ _ _ _
   | exact LeO.none _
   | refine LeO.ite ?_ ?_
   | refine LeO.bind ?_ (fun _ => ?_)
set_option maxHeartbeats 8000000 in
set_option maxRecDepth 100000 in
theorem spec_l12Log.calls (k : Nat) (g : Nat) (s0_0 : Int) (s0_1 : Bool) (s0_2 : Int) (s0_3 : Int) (s0_4 : List (S55)) (s0_5 : Int) (s0_6 : Int) (s0_7 : Int) (s0_8 : Int) (r1 : Int) (r2 : Int) (r3 : Bool) (r4 : Int) (r5 : Int) (r6 : Int) (r7 : Int) (r8 : Int) (r9 : Int) (w0 w : World) (hI : IsS32 w0 w g s0_0 s0_1 s0_2 s0_3 s0_4 s0_5 s0_6 s0_7 s0_8) (hB : Below w0.heap.size w0 w) (h : spec_l12Log.f k s0_0 s0_1 s0_2 s0_3 s0_4 s0_5 s0_6 s0_7 s0_8 = some (r1, r2, r3, r4, r5, r6, r7, r8, r9)) :
  Calls Try.prog 126 #[.pointer (some ⟨g, 0, none⟩)] w fun e w' => e = .returned (.int .i64 r1) ∧ IsS32 w0 w' g r2 r3 r4 r5 s0_4 r6 r7 r8 r9 ∧ Below w0.heap.size w0 w' ∧ KeepBut w w' g none := by
 have hu55 := Try.underlying55
 have hu38 := Try.underlying38
 have HI0 := Aside0.mk hI
 have HK := am (KeepBut.refl w g none)
 have HL := Aside0.mk hB.size
 clear hI
 have HW0 := Aside0.mk hB.size
 have HB := Aside0.mk hB
 clear hB
 have H : (if (s0_4.length : Int) > 100 then (some (2, s0_0, s0_1, s0_2, s0_3, s0_5, s0_6, s0_7, s0_8)) else (spec_l12Log.l0 k 0 s0_0 s0_1 s0_2 s0_3 s0_4 s0_5 s0_6 s0_7 s0_8)) = some (r1, r2, r3, r4, r5, r6, r7, r8, r9) := h
 clear h
 by_cases c2 : (s0_4.length : Int) > 100
 ·
  rw [if_pos c2] at H
  have c2b0 : decide (100 < (s0_4.length : Int)) = true := decide_eq_true c2
  have c2b1 : decide (100 < s0_4.length) = true := decide_eq_true (by omega)
  clear c2
  simp only [Option.some.injEq, Prod.mk.injEq] at H
  obtain ⟨rfl, rfl, rfl, rfl, rfl, rfl, rfl, rfl, rfl⟩ := H
  obtain ⟨ASz3_4, cSz3_4, HGz3, hgz3, HSz3_4, HLz3_4⟩ := HI0.out
  have hcz3_0 := cellS32_0 HGz3
  have hcz3_1 := cellS32_1 HGz3
  have hcz3_2 := cellS32_2 HGz3
  have hcz3_3 := cellS32_3 HGz3
  have hcz3_4 := cellS32_4 HGz3
  have hcz3_5 := cellS32_5 HGz3
  have hcz3_6 := cellS32_6 HGz3
  have hcz3_7 := cellS32_7 HGz3
  have hcz3_8 := cellS32_8 HGz3
  have hfz3_0 := blk_frozen HGz3 0
  have hfz3_1 := blk_frozen HGz3 1
  have hfz3_2 := blk_frozen HGz3 2
  have hfz3_3 := blk_frozen HGz3 3
  have hfz3_5 := blk_frozen HGz3 5
  have hfz3_6 := blk_frozen HGz3 6
  have hfz3_7 := blk_frozen HGz3 7
  have hfz3_8 := blk_frozen HGz3 8
  clear HGz3 hgz3
  go_enter Try.func126, Try.ntmps126
  go_wp2
  repeat (go_quiet (fail); try go_wp2)
  go_ret
  exact ⟨by first | rfl | (simp [errW_none, errW_some] <;> rfl) | (simp [*, errW_none, errW_some] <;> rfl), by repeat (first | (with_reducible first | exact HI0.out | apply IsS32.alloc | apply IsS32.drewN | apply IsS32.drew | apply IsS32.set_0 | apply IsS32.set_1 | apply IsS32.set_2 | apply IsS32.set_3 | apply IsS32.set_5 | apply IsS32.set_6 | apply IsS32.set_7 | apply IsS32.set_8) | exact HI0.out), by repeat (first | (with_reducible first | exact HB.out | apply below_alloc | apply pw_below_drewN | apply below_drew1 | refine below_set ?_ (IsS32.ge HI0.out)) | exact HB.out), by repeat (first | (with_reducible first | exact HK.out | apply KeepBut.set_ | apply keep_drewN | apply keep_drew | apply keep_alloc) | exact HK.out)⟩
 rw [if_neg c2] at H
 have c2b0 : decide (100 < (s0_4.length : Int)) = false := decide_eq_false c2
 have c2b1 : decide (100 < s0_4.length) = false := decide_eq_false (by omega)
 clear c2
 have H' := Aside0.mk H
 clear H
 obtain ⟨ASz4_4, cSz4_4, HGz4, hgz4, HSz4_4, HLz4_4⟩ := HI0.out
 have hcz4_0 := cellS32_0 HGz4
 have hcz4_1 := cellS32_1 HGz4
 have hcz4_2 := cellS32_2 HGz4
 have hcz4_3 := cellS32_3 HGz4
 have hcz4_4 := cellS32_4 HGz4
 have hcz4_5 := cellS32_5 HGz4
 have hcz4_6 := cellS32_6 HGz4
 have hcz4_7 := cellS32_7 HGz4
 have hcz4_8 := cellS32_8 HGz4
 have hfz4_0 := blk_frozen HGz4 0
 have hfz4_1 := blk_frozen HGz4 1
 have hfz4_2 := blk_frozen HGz4 2
 have hfz4_3 := blk_frozen HGz4 3
 have hfz4_5 := blk_frozen HGz4 5
 have hfz4_6 := blk_frozen HGz4 6
 have hfz4_7 := blk_frozen HGz4 7
 have hfz4_8 := blk_frozen HGz4 8
 clear HGz4 hgz4
 go_enter Try.func126, Try.ntmps126
 go_wp2
 repeat (go_quiet (fail); try go_wp2)
 go_loopg [3] k (fun kq v3 w' => ∃ (x3_1 : Int), v3 = .int .i64 x3_1 ∧ Aside0 (spec_l12Log.l0 kq x3_1 s0_0 s0_1 s0_2 s0_3 s0_4 s0_5 s0_6 s0_7 s0_8 = some (r1, r2, r3, r4, r5, r6, r7, r8, r9)) ∧ Aside0 (kq ≤ k) ∧ Aside0 (IsS32 w0 w' g s0_0 s0_1 s0_2 s0_3 s0_4 s0_5 s0_6 s0_7 s0_8) ∧ Aside0 (KeepBut w w' g none) ∧ Aside0 (Below w0.heap.size w0 w'))
 case atStart => exact ⟨(0), (by first | rfl | (simp; done) | (simp [*]; done)), H', ⟨Nat.le_refl _⟩, ⟨by repeat (first | (with_reducible first | exact HI0.out | apply IsS32.alloc | apply IsS32.drewN | apply IsS32.drew | apply IsS32.set_0 | apply IsS32.set_1 | apply IsS32.set_2 | apply IsS32.set_3 | apply IsS32.set_5 | apply IsS32.set_6 | apply IsS32.set_7 | apply IsS32.set_8) | exact HI0.out)⟩, ⟨by repeat (first | (with_reducible first | exact HK.out | apply KeepBut.set_ | apply keep_drewN | apply keep_drew | apply keep_alloc) | exact HK.out)⟩, ⟨by repeat (first | (with_reducible first | exact HB.out | apply below_alloc | apply pw_below_drewN | apply below_drew1 | refine below_set ?_ (IsS32.ge HI0.out)) | exact HB.out)⟩⟩
 case round =>
  clear H'
  try clear c1
  try clear c2
  try clear c2b0
  try clear c2b1
  try clear p2
  try clear hcz3_0
  try clear hcz3_1
  try clear hcz3_2
  try clear hcz3_3
  try clear hcz3_4
  try clear hcz3_5
  try clear hcz3_6
  try clear hcz3_7
  try clear hcz3_8
  try clear hcz4_0
  try clear hcz4_1
  try clear hcz4_2
  try clear hcz4_3
  try clear hcz4_4
  try clear hcz4_5
  try clear hcz4_6
  try clear hcz4_7
  try clear hcz4_8
  try clear hfz3_0
  try clear hfz3_1
  try clear hfz3_2
  try clear hfz3_3
  try clear hfz3_5
  try clear hfz3_6
  try clear hfz3_7
  try clear hfz3_8
  try clear hfz4_0
  try clear hfz4_1
  try clear hfz4_2
  try clear hfz4_3
  try clear hfz4_5
  try clear hfz4_6
  try clear hfz4_7
  try clear hfz4_8
  obtain ⟨x3_1, rfl, HA, HK1, HI0, HK, HB⟩ := hrel
  cases gk with
  | zero => exact absurd HA.out (by simp [spec_l12Log.l0])
  | succ k1 =>
   have H := HA.out
   clear HA
   simp only [spec_l12Log.l0] at H
   by_cases c5 : x3_1 < (s0_4.length : Int)
   ·
    rw [if_pos c5] at H
    have c5b0 : decide (x3_1 < (s0_4.length : Int)) = true := decide_eq_true c5
    clear c5
    by_cases c6 : 0 ≤ x3_1
    ·
     rw [if_pos c6] at H
     have c6b0 : decide (0 ≤ x3_1) = true := decide_eq_true c6
     clear c6
     replace H := Option.bind_eq_some_iff.mp H
     obtain ⟨t118, A70, H⟩ := H
     replace H : (if t118 = 0 then (if ((rd_T55 s0_4 x3_1).f0) > s0_3 then (some (1, s0_0, s0_1, s0_2, s0_3, s0_5, s0_6, s0_7, s0_8)) else (if x3_1 > 0 then (if 0 ≤ (wrap64 (x3_1 - 1)) then (if (wrap64 (x3_1 - 1)) < (s0_4.length : Int) then (if ((rd_T55 s0_4 x3_1).f0) < ((rd_T55 s0_4 (wrap64 (x3_1 - 1))).f0) then (some (1, s0_0, s0_1, s0_2, s0_3, s0_5, s0_6, s0_7, s0_8)) else (spec_l12Log.l0 k1 (wrap64 (x3_1 + 1)) s0_0 s0_1 s0_2 s0_3 s0_4 s0_5 s0_6 s0_7 s0_8)) else (none)) else (none)) else (spec_l12Log.l0 k1 (wrap64 (x3_1 + 1)) s0_0 s0_1 s0_2 s0_3 s0_4 s0_5 s0_6 s0_7 s0_8))) else (some (t118, s0_0, s0_1, s0_2, s0_3, s0_5, s0_6, s0_7, s0_8))) = some (r1, r2, r3, r4, r5, r6, r7, r8, r9) := H
     have A7 := Aside0.mk A70
     clear A70
     by_cases c8 : t118 = 0
     ·
      rw [if_pos c8] at H
      have c8b0 : (t118 == 0) = true := beq_iff_eq.mpr c8
      have c8b1 : (t118 != 0) = false := bne_eq_false_iff_eq.mpr c8
      clear c8
      by_cases c9 : ((rd_T55 s0_4 x3_1).f0) > s0_3
      ·
       rw [if_pos c9] at H
       have c9b0 : decide (s0_3 < ((rd_T55 s0_4 x3_1).f0)) = true := decide_eq_true c9
       clear c9
       simp only [Option.some.injEq, Prod.mk.injEq] at H
       obtain ⟨rfl, rfl, rfl, rfl, rfl, rfl, rfl, rfl, rfl⟩ := H
       obtain ⟨ASz10_4, cSz10_4, HGz10, hgz10, HSz10_4, HLz10_4⟩ := HI0.out
       have hcz10_0 := cellS32_0 HGz10
       have hcz10_1 := cellS32_1 HGz10
       have hcz10_2 := cellS32_2 HGz10
       have hcz10_3 := cellS32_3 HGz10
       have hcz10_4 := cellS32_4 HGz10
       have hcz10_5 := cellS32_5 HGz10
       have hcz10_6 := cellS32_6 HGz10
       have hcz10_7 := cellS32_7 HGz10
       have hcz10_8 := cellS32_8 HGz10
       have hfz10_0 := blk_frozen HGz10 0
       have hfz10_1 := blk_frozen HGz10 1
       have hfz10_2 := blk_frozen HGz10 2
       have hfz10_3 := blk_frozen HGz10 3
       have hfz10_5 := blk_frozen HGz10 5
       have hfz10_6 := blk_frozen HGz10 6
       have hfz10_7 := blk_frozen HGz10 7
       have hfz10_8 := blk_frozen HGz10 8
       clear HGz10 hgz10
       have p117 : 0 ≤ (x3_1 : Int) := of_decide_eq_true (by first | (with_reducible assumption) | assumption)
       have q117 : x3_1 < (s0_4.length : Int) := of_decide_eq_true (by first | (with_reducible assumption) | assumption)
       obtain ⟨ad117, A117_3, c117_3, e117, hx117_0, hx117_1, hx117_2, hx117_3, hl117_3, hi117_3⟩ := at_T55 HSz10_4 x3_1 p117 q117
       cases e117
       replace hx117_0 := pw_cell_below HB.out hx117_0
       replace hx117_1 := pw_cell_below HB.out hx117_1
       replace hx117_2 := pw_cell_below HB.out hx117_2
       replace hx117_3 := pw_cell_below HB.out hx117_3
       have HR117_3 := am (Kd.C_below hi117_3 HB.out)
       have HC117_3 := Aside0.mk hl117_3
       clear hi117_3 hl117_3
       replace p117 := eq_true p117
       replace q117 := eq_true q117
       go_wp2_with (first | (go_at_call 129; (with_reducible refine (spec_EntryFault.calls k1 ((rd_T55 s0_4 x3_1).f0) ((rd_T55 s0_4 x3_1).f1.f0) ((rd_T55 s0_4 x3_1).f1.f1) _ _ ((rd_T55 s0_4 x3_1).f1.f2) t118 _ ?side1 ?side2 A7.out).mono ?_); (case side1 => exact by repeat (first | (with_reducible exact HR117_3.out) | (with_reducible refine Kd.C_alloc ?_ _) | (with_reducible refine Kd.C_drewN ?_ _) | (with_reducible refine Kd.C_drew ?_) | exact HR117_3.out)); (case side2 => exact HC117_3.out); rintro e w11 ⟨rfl, hb⟩; replace HR117_3 := am (Kd.C_below (by repeat (first | (with_reducible exact HR117_3.out) | (with_reducible refine Kd.C_alloc ?_ _) | (with_reducible refine Kd.C_drewN ?_ _) | (with_reducible refine Kd.C_drew ?_) | exact HR117_3.out)) hb); replace HK := am (KeepBut.trans (by repeat (first | (with_reducible first | exact HK.out | apply KeepBut.set_ | apply keep_drewN | apply keep_drew | apply keep_alloc) | exact HK.out)) (KeepBut.of_below hb g none) (.inl rfl)); replace HB := am (below_step (by repeat (first | (with_reducible first | exact HB.out | apply below_alloc | apply pw_below_drewN | apply below_drew1 | refine below_set ?_ (IsS32.ge HI0.out)) | exact HB.out)) hb); replace HI0 := am (IsS32.below (by repeat (first | (with_reducible first | exact HI0.out | apply IsS32.alloc | apply IsS32.drewN | apply IsS32.drew | apply IsS32.set_0 | apply IsS32.set_1 | apply IsS32.set_2 | apply IsS32.set_3 | apply IsS32.set_5 | apply IsS32.set_6 | apply IsS32.set_7 | apply IsS32.set_8) | exact HI0.out)) hb); (try clear hb); (try clear hb2); (try clear hk); (try clear hi); obtain ⟨ASz12_4, cSz12_4, HGz12, hgz12, HSz12_4, HLz12_4⟩ := HI0.out; have hcz12_0 := cellS32_0 HGz12; have hcz12_1 := cellS32_1 HGz12; have hcz12_2 := cellS32_2 HGz12; have hcz12_3 := cellS32_3 HGz12; have hcz12_4 := cellS32_4 HGz12; have hcz12_5 := cellS32_5 HGz12; have hcz12_6 := cellS32_6 HGz12; have hcz12_7 := cellS32_7 HGz12; have hcz12_8 := cellS32_8 HGz12; have hfz12_0 := blk_frozen HGz12 0; have hfz12_1 := blk_frozen HGz12 1; have hfz12_2 := blk_frozen HGz12 2; have hfz12_3 := blk_frozen HGz12 3; have hfz12_5 := blk_frozen HGz12 5; have hfz12_6 := blk_frozen HGz12 6; have hfz12_7 := blk_frozen HGz12 7; have hfz12_8 := blk_frozen HGz12 8; clear HGz12 hgz12; have p119 : 0 ≤ (x3_1 : Int) := of_decide_eq_true (by first | (with_reducible assumption) | assumption); have q119 : x3_1 < (s0_4.length : Int) := of_decide_eq_true (by first | (with_reducible assumption) | assumption); obtain ⟨ad119, A119_3, c119_3, e119, hx119_0, hx119_1, hx119_2, hx119_3, hl119_3, hi119_3⟩ := at_T55 HSz12_4 x3_1 p119 q119; cases e119; replace hx119_0 := pw_cell_below HB.out hx119_0; replace hx119_1 := pw_cell_below HB.out hx119_1; replace hx119_2 := pw_cell_below HB.out hx119_2; replace hx119_3 := pw_cell_below HB.out hx119_3; have HR119_3 := am (Kd.C_below hi119_3 HB.out); have HC119_3 := Aside0.mk hl119_3; clear hi119_3 hl119_3; replace p119 := eq_true p119; replace q119 := eq_true q119))
       repeat (go_quiet ((go_at_call 129; (with_reducible refine (spec_EntryFault.calls k1 ((rd_T55 s0_4 x3_1).f0) ((rd_T55 s0_4 x3_1).f1.f0) ((rd_T55 s0_4 x3_1).f1.f1) _ _ ((rd_T55 s0_4 x3_1).f1.f2) t118 _ ?side1 ?side2 A7.out).mono ?_); (case side1 => exact by repeat (first | (with_reducible exact HR117_3.out) | (with_reducible refine Kd.C_alloc ?_ _) | (with_reducible refine Kd.C_drewN ?_ _) | (with_reducible refine Kd.C_drew ?_) | exact HR117_3.out)); (case side2 => exact HC117_3.out); rintro e w11 ⟨rfl, hb⟩; replace HR117_3 := am (Kd.C_below (by repeat (first | (with_reducible exact HR117_3.out) | (with_reducible refine Kd.C_alloc ?_ _) | (with_reducible refine Kd.C_drewN ?_ _) | (with_reducible refine Kd.C_drew ?_) | exact HR117_3.out)) hb); replace HK := am (KeepBut.trans (by repeat (first | (with_reducible first | exact HK.out | apply KeepBut.set_ | apply keep_drewN | apply keep_drew | apply keep_alloc) | exact HK.out)) (KeepBut.of_below hb g none) (.inl rfl)); replace HB := am (below_step (by repeat (first | (with_reducible first | exact HB.out | apply below_alloc | apply pw_below_drewN | apply below_drew1 | refine below_set ?_ (IsS32.ge HI0.out)) | exact HB.out)) hb); replace HI0 := am (IsS32.below (by repeat (first | (with_reducible first | exact HI0.out | apply IsS32.alloc | apply IsS32.drewN | apply IsS32.drew | apply IsS32.set_0 | apply IsS32.set_1 | apply IsS32.set_2 | apply IsS32.set_3 | apply IsS32.set_5 | apply IsS32.set_6 | apply IsS32.set_7 | apply IsS32.set_8) | exact HI0.out)) hb); (try clear hb); (try clear hb2); (try clear hk); (try clear hi); obtain ⟨ASz12_4, cSz12_4, HGz12, hgz12, HSz12_4, HLz12_4⟩ := HI0.out; have hcz12_0 := cellS32_0 HGz12; have hcz12_1 := cellS32_1 HGz12; have hcz12_2 := cellS32_2 HGz12; have hcz12_3 := cellS32_3 HGz12; have hcz12_4 := cellS32_4 HGz12; have hcz12_5 := cellS32_5 HGz12; have hcz12_6 := cellS32_6 HGz12; have hcz12_7 := cellS32_7 HGz12; have hcz12_8 := cellS32_8 HGz12; have hfz12_0 := blk_frozen HGz12 0; have hfz12_1 := blk_frozen HGz12 1; have hfz12_2 := blk_frozen HGz12 2; have hfz12_3 := blk_frozen HGz12 3; have hfz12_5 := blk_frozen HGz12 5; have hfz12_6 := blk_frozen HGz12 6; have hfz12_7 := blk_frozen HGz12 7; have hfz12_8 := blk_frozen HGz12 8; clear HGz12 hgz12; have p119 : 0 ≤ (x3_1 : Int) := of_decide_eq_true (by first | (with_reducible assumption) | assumption); have q119 : x3_1 < (s0_4.length : Int) := of_decide_eq_true (by first | (with_reducible assumption) | assumption); obtain ⟨ad119, A119_3, c119_3, e119, hx119_0, hx119_1, hx119_2, hx119_3, hl119_3, hi119_3⟩ := at_T55 HSz12_4 x3_1 p119 q119; cases e119; replace hx119_0 := pw_cell_below HB.out hx119_0; replace hx119_1 := pw_cell_below HB.out hx119_1; replace hx119_2 := pw_cell_below HB.out hx119_2; replace hx119_3 := pw_cell_below HB.out hx119_3; have HR119_3 := am (Kd.C_below hi119_3 HB.out); have HC119_3 := Aside0.mk hl119_3; clear hi119_3 hl119_3; replace p119 := eq_true p119; replace q119 := eq_true q119)); try go_wp2_with (first | (go_at_call 129; (with_reducible refine (spec_EntryFault.calls k1 ((rd_T55 s0_4 x3_1).f0) ((rd_T55 s0_4 x3_1).f1.f0) ((rd_T55 s0_4 x3_1).f1.f1) _ _ ((rd_T55 s0_4 x3_1).f1.f2) t118 _ ?side1 ?side2 A7.out).mono ?_); (case side1 => exact by repeat (first | (with_reducible exact HR117_3.out) | (with_reducible refine Kd.C_alloc ?_ _) | (with_reducible refine Kd.C_drewN ?_ _) | (with_reducible refine Kd.C_drew ?_) | exact HR117_3.out)); (case side2 => exact HC117_3.out); rintro e w11 ⟨rfl, hb⟩; replace HR117_3 := am (Kd.C_below (by repeat (first | (with_reducible exact HR117_3.out) | (with_reducible refine Kd.C_alloc ?_ _) | (with_reducible refine Kd.C_drewN ?_ _) | (with_reducible refine Kd.C_drew ?_) | exact HR117_3.out)) hb); replace HK := am (KeepBut.trans (by repeat (first | (with_reducible first | exact HK.out | apply KeepBut.set_ | apply keep_drewN | apply keep_drew | apply keep_alloc) | exact HK.out)) (KeepBut.of_below hb g none) (.inl rfl)); replace HB := am (below_step (by repeat (first | (with_reducible first | exact HB.out | apply below_alloc | apply pw_below_drewN | apply below_drew1 | refine below_set ?_ (IsS32.ge HI0.out)) | exact HB.out)) hb); replace HI0 := am (IsS32.below (by repeat (first | (with_reducible first | exact HI0.out | apply IsS32.alloc | apply IsS32.drewN | apply IsS32.drew | apply IsS32.set_0 | apply IsS32.set_1 | apply IsS32.set_2 | apply IsS32.set_3 | apply IsS32.set_5 | apply IsS32.set_6 | apply IsS32.set_7 | apply IsS32.set_8) | exact HI0.out)) hb); (try clear hb); (try clear hb2); (try clear hk); (try clear hi); obtain ⟨ASz12_4, cSz12_4, HGz12, hgz12, HSz12_4, HLz12_4⟩ := HI0.out; have hcz12_0 := cellS32_0 HGz12; have hcz12_1 := cellS32_1 HGz12; have hcz12_2 := cellS32_2 HGz12; have hcz12_3 := cellS32_3 HGz12; have hcz12_4 := cellS32_4 HGz12; have hcz12_5 := cellS32_5 HGz12; have hcz12_6 := cellS32_6 HGz12; have hcz12_7 := cellS32_7 HGz12; have hcz12_8 := cellS32_8 HGz12; have hfz12_0 := blk_frozen HGz12 0; have hfz12_1 := blk_frozen HGz12 1; have hfz12_2 := blk_frozen HGz12 2; have hfz12_3 := blk_frozen HGz12 3; have hfz12_5 := blk_frozen HGz12 5; have hfz12_6 := blk_frozen HGz12 6; have hfz12_7 := blk_frozen HGz12 7; have hfz12_8 := blk_frozen HGz12 8; clear HGz12 hgz12; have p119 : 0 ≤ (x3_1 : Int) := of_decide_eq_true (by first | (with_reducible assumption) | assumption); have q119 : x3_1 < (s0_4.length : Int) := of_decide_eq_true (by first | (with_reducible assumption) | assumption); obtain ⟨ad119, A119_3, c119_3, e119, hx119_0, hx119_1, hx119_2, hx119_3, hl119_3, hi119_3⟩ := at_T55 HSz12_4 x3_1 p119 q119; cases e119; replace hx119_0 := pw_cell_below HB.out hx119_0; replace hx119_1 := pw_cell_below HB.out hx119_1; replace hx119_2 := pw_cell_below HB.out hx119_2; replace hx119_3 := pw_cell_below HB.out hx119_3; have HR119_3 := am (Kd.C_below hi119_3 HB.out); have HC119_3 := Aside0.mk hl119_3; clear hi119_3 hl119_3; replace p119 := eq_true p119; replace q119 := eq_true q119)))
       go_ret
       exact ⟨by first | rfl | (simp [errW_none, errW_some] <;> rfl) | (simp [*, errW_none, errW_some] <;> rfl), by repeat (first | (with_reducible first | exact HI0.out | apply IsS32.alloc | apply IsS32.drewN | apply IsS32.drew | apply IsS32.set_0 | apply IsS32.set_1 | apply IsS32.set_2 | apply IsS32.set_3 | apply IsS32.set_5 | apply IsS32.set_6 | apply IsS32.set_7 | apply IsS32.set_8) | exact HI0.out), by repeat (first | (with_reducible first | exact HB.out | apply below_alloc | apply pw_below_drewN | apply below_drew1 | refine below_set ?_ (IsS32.ge HI0.out)) | exact HB.out), by repeat (first | (with_reducible first | exact HK.out | apply KeepBut.set_ | apply keep_drewN | apply keep_drew | apply keep_alloc) | exact HK.out)⟩
      rw [if_neg c9] at H
      have c9b0 : decide (s0_3 < ((rd_T55 s0_4 x3_1).f0)) = false := decide_eq_false c9
      clear c9
      by_cases c13 : x3_1 > 0
      ·
       rw [if_pos c13] at H
       have c13b0 : decide (0 < x3_1) = true := decide_eq_true c13
       clear c13
       obtain ⟨ji14, hji14⟩ : ∃ j_ : Int, (wrap64 (x3_1 - 1)) = j_ := ⟨_, rfl⟩
       replace H : (if 0 ≤ (ji14) then (if (ji14) < (s0_4.length : Int) then (if ((rd_T55 s0_4 x3_1).f0) < ((rd_T55 s0_4 (ji14)).f0) then (some (1, s0_0, s0_1, s0_2, s0_3, s0_5, s0_6, s0_7, s0_8)) else (spec_l12Log.l0 k1 (wrap64 (x3_1 + 1)) s0_0 s0_1 s0_2 s0_3 s0_4 s0_5 s0_6 s0_7 s0_8)) else (none)) else (none)) = some (r1, r2, r3, r4, r5, r6, r7, r8, r9) := by first | (rw [hji14] at H; exact H) | (simp only [hji14] at H ⊢; exact H)
       (try rw [hji14] at A7)
       have hji14w : (IntKind.i64.wrap (x3_1 - 1)) = ji14 := (i64_w _).trans hji14
       by_cases c15 : 0 ≤ (ji14)
       ·
        rw [if_pos c15] at H
        have c15b0 : decide (0 ≤ (ji14)) = true := decide_eq_true c15
        clear c15
        by_cases c16 : (ji14) < (s0_4.length : Int)
        ·
         rw [if_pos c16] at H
         have c16b0 : decide ((ji14) < (s0_4.length : Int)) = true := decide_eq_true c16
         clear c16
         by_cases c17 : ((rd_T55 s0_4 x3_1).f0) < ((rd_T55 s0_4 (ji14)).f0)
         ·
          rw [if_pos c17] at H
          have c17b0 : decide (((rd_T55 s0_4 x3_1).f0) < ((rd_T55 s0_4 (ji14)).f0)) = true := decide_eq_true c17
          clear c17
          simp only [Option.some.injEq, Prod.mk.injEq] at H
          obtain ⟨rfl, rfl, rfl, rfl, rfl, rfl, rfl, rfl, rfl⟩ := H
          obtain ⟨ASz18_4, cSz18_4, HGz18, hgz18, HSz18_4, HLz18_4⟩ := HI0.out
          have hcz18_0 := cellS32_0 HGz18
          have hcz18_1 := cellS32_1 HGz18
          have hcz18_2 := cellS32_2 HGz18
          have hcz18_3 := cellS32_3 HGz18
          have hcz18_4 := cellS32_4 HGz18
          have hcz18_5 := cellS32_5 HGz18
          have hcz18_6 := cellS32_6 HGz18
          have hcz18_7 := cellS32_7 HGz18
          have hcz18_8 := cellS32_8 HGz18
          have hfz18_0 := blk_frozen HGz18 0
          have hfz18_1 := blk_frozen HGz18 1
          have hfz18_2 := blk_frozen HGz18 2
          have hfz18_3 := blk_frozen HGz18 3
          have hfz18_5 := blk_frozen HGz18 5
          have hfz18_6 := blk_frozen HGz18 6
          have hfz18_7 := blk_frozen HGz18 7
          have hfz18_8 := blk_frozen HGz18 8
          clear HGz18 hgz18
          have p117 : 0 ≤ (x3_1 : Int) := of_decide_eq_true (by first | (with_reducible assumption) | assumption)
          have q117 : x3_1 < (s0_4.length : Int) := of_decide_eq_true (by first | (with_reducible assumption) | assumption)
          obtain ⟨ad117, A117_3, c117_3, e117, hx117_0, hx117_1, hx117_2, hx117_3, hl117_3, hi117_3⟩ := at_T55 HSz18_4 x3_1 p117 q117
          cases e117
          replace hx117_0 := pw_cell_below HB.out hx117_0
          replace hx117_1 := pw_cell_below HB.out hx117_1
          replace hx117_2 := pw_cell_below HB.out hx117_2
          replace hx117_3 := pw_cell_below HB.out hx117_3
          have HR117_3 := am (Kd.C_below hi117_3 HB.out)
          have HC117_3 := Aside0.mk hl117_3
          clear hi117_3 hl117_3
          replace p117 := eq_true p117
          replace q117 := eq_true q117
          go_wp2_with (first | (go_at_call 129; (with_reducible refine (spec_EntryFault.calls k1 ((rd_T55 s0_4 x3_1).f0) ((rd_T55 s0_4 x3_1).f1.f0) ((rd_T55 s0_4 x3_1).f1.f1) _ _ ((rd_T55 s0_4 x3_1).f1.f2) t118 _ ?side1 ?side2 A7.out).mono ?_); (case side1 => exact by repeat (first | (with_reducible exact HR117_3.out) | (with_reducible refine Kd.C_alloc ?_ _) | (with_reducible refine Kd.C_drewN ?_ _) | (with_reducible refine Kd.C_drew ?_) | exact HR117_3.out)); (case side2 => exact HC117_3.out); rintro e w19 ⟨rfl, hb⟩; replace HR117_3 := am (Kd.C_below (by repeat (first | (with_reducible exact HR117_3.out) | (with_reducible refine Kd.C_alloc ?_ _) | (with_reducible refine Kd.C_drewN ?_ _) | (with_reducible refine Kd.C_drew ?_) | exact HR117_3.out)) hb); replace HK := am (KeepBut.trans (by repeat (first | (with_reducible first | exact HK.out | apply KeepBut.set_ | apply keep_drewN | apply keep_drew | apply keep_alloc) | exact HK.out)) (KeepBut.of_below hb g none) (.inl rfl)); replace HB := am (below_step (by repeat (first | (with_reducible first | exact HB.out | apply below_alloc | apply pw_below_drewN | apply below_drew1 | refine below_set ?_ (IsS32.ge HI0.out)) | exact HB.out)) hb); replace HI0 := am (IsS32.below (by repeat (first | (with_reducible first | exact HI0.out | apply IsS32.alloc | apply IsS32.drewN | apply IsS32.drew | apply IsS32.set_0 | apply IsS32.set_1 | apply IsS32.set_2 | apply IsS32.set_3 | apply IsS32.set_5 | apply IsS32.set_6 | apply IsS32.set_7 | apply IsS32.set_8) | exact HI0.out)) hb); (try clear hb); (try clear hb2); (try clear hk); (try clear hi); obtain ⟨ASz20_4, cSz20_4, HGz20, hgz20, HSz20_4, HLz20_4⟩ := HI0.out; have hcz20_0 := cellS32_0 HGz20; have hcz20_1 := cellS32_1 HGz20; have hcz20_2 := cellS32_2 HGz20; have hcz20_3 := cellS32_3 HGz20; have hcz20_4 := cellS32_4 HGz20; have hcz20_5 := cellS32_5 HGz20; have hcz20_6 := cellS32_6 HGz20; have hcz20_7 := cellS32_7 HGz20; have hcz20_8 := cellS32_8 HGz20; have hfz20_0 := blk_frozen HGz20 0; have hfz20_1 := blk_frozen HGz20 1; have hfz20_2 := blk_frozen HGz20 2; have hfz20_3 := blk_frozen HGz20 3; have hfz20_5 := blk_frozen HGz20 5; have hfz20_6 := blk_frozen HGz20 6; have hfz20_7 := blk_frozen HGz20 7; have hfz20_8 := blk_frozen HGz20 8; clear HGz20 hgz20; have p119 : 0 ≤ (x3_1 : Int) := of_decide_eq_true (by first | (with_reducible assumption) | assumption); have q119 : x3_1 < (s0_4.length : Int) := of_decide_eq_true (by first | (with_reducible assumption) | assumption); obtain ⟨ad119, A119_3, c119_3, e119, hx119_0, hx119_1, hx119_2, hx119_3, hl119_3, hi119_3⟩ := at_T55 HSz20_4 x3_1 p119 q119; cases e119; replace hx119_0 := pw_cell_below HB.out hx119_0; replace hx119_1 := pw_cell_below HB.out hx119_1; replace hx119_2 := pw_cell_below HB.out hx119_2; replace hx119_3 := pw_cell_below HB.out hx119_3; have HR119_3 := am (Kd.C_below hi119_3 HB.out); have HC119_3 := Aside0.mk hl119_3; clear hi119_3 hl119_3; replace p119 := eq_true p119; replace q119 := eq_true q119; have p120 : 0 ≤ (x3_1 : Int) := of_decide_eq_true (by first | (with_reducible assumption) | assumption); have q120 : x3_1 < (s0_4.length : Int) := of_decide_eq_true (by first | (with_reducible assumption) | assumption); obtain ⟨ad120, A120_3, c120_3, e120, hx120_0, hx120_1, hx120_2, hx120_3, hl120_3, hi120_3⟩ := at_T55 HSz20_4 x3_1 p120 q120; obtain rfl : ad119 = ad120 := (by injection e120); replace hx120_0 := pw_cell_below HB.out hx120_0; replace hx120_1 := pw_cell_below HB.out hx120_1; replace hx120_2 := pw_cell_below HB.out hx120_2; replace hx120_3 := pw_cell_below HB.out hx120_3; have HR120_3 := am (Kd.C_below hi120_3 HB.out); have HC120_3 := Aside0.mk hl120_3; clear hi120_3 hl120_3; replace p120 := eq_true p120; replace q120 := eq_true q120; have p121 : 0 ≤ ((ji14) : Int) := of_decide_eq_true (by first | (with_reducible assumption) | assumption); have q121 : (ji14) < (s0_4.length : Int) := of_decide_eq_true (by first | (with_reducible assumption) | assumption); obtain ⟨ad121, A121_3, c121_3, e121, hx121_0, hx121_1, hx121_2, hx121_3, hl121_3, hi121_3⟩ := at_T55 HSz20_4 (ji14) p121 q121; obtain rfl : ad119 = ad121 := (by injection e121); replace hx121_0 := pw_cell_below HB.out hx121_0; replace hx121_1 := pw_cell_below HB.out hx121_1; replace hx121_2 := pw_cell_below HB.out hx121_2; replace hx121_3 := pw_cell_below HB.out hx121_3; have HR121_3 := am (Kd.C_below hi121_3 HB.out); have HC121_3 := Aside0.mk hl121_3; clear hi121_3 hl121_3; replace p121 := eq_true p121; replace q121 := eq_true q121))
          repeat (go_quiet ((go_at_call 129; (with_reducible refine (spec_EntryFault.calls k1 ((rd_T55 s0_4 x3_1).f0) ((rd_T55 s0_4 x3_1).f1.f0) ((rd_T55 s0_4 x3_1).f1.f1) _ _ ((rd_T55 s0_4 x3_1).f1.f2) t118 _ ?side1 ?side2 A7.out).mono ?_); (case side1 => exact by repeat (first | (with_reducible exact HR117_3.out) | (with_reducible refine Kd.C_alloc ?_ _) | (with_reducible refine Kd.C_drewN ?_ _) | (with_reducible refine Kd.C_drew ?_) | exact HR117_3.out)); (case side2 => exact HC117_3.out); rintro e w19 ⟨rfl, hb⟩; replace HR117_3 := am (Kd.C_below (by repeat (first | (with_reducible exact HR117_3.out) | (with_reducible refine Kd.C_alloc ?_ _) | (with_reducible refine Kd.C_drewN ?_ _) | (with_reducible refine Kd.C_drew ?_) | exact HR117_3.out)) hb); replace HK := am (KeepBut.trans (by repeat (first | (with_reducible first | exact HK.out | apply KeepBut.set_ | apply keep_drewN | apply keep_drew | apply keep_alloc) | exact HK.out)) (KeepBut.of_below hb g none) (.inl rfl)); replace HB := am (below_step (by repeat (first | (with_reducible first | exact HB.out | apply below_alloc | apply pw_below_drewN | apply below_drew1 | refine below_set ?_ (IsS32.ge HI0.out)) | exact HB.out)) hb); replace HI0 := am (IsS32.below (by repeat (first | (with_reducible first | exact HI0.out | apply IsS32.alloc | apply IsS32.drewN | apply IsS32.drew | apply IsS32.set_0 | apply IsS32.set_1 | apply IsS32.set_2 | apply IsS32.set_3 | apply IsS32.set_5 | apply IsS32.set_6 | apply IsS32.set_7 | apply IsS32.set_8) | exact HI0.out)) hb); (try clear hb); (try clear hb2); (try clear hk); (try clear hi); obtain ⟨ASz20_4, cSz20_4, HGz20, hgz20, HSz20_4, HLz20_4⟩ := HI0.out; have hcz20_0 := cellS32_0 HGz20; have hcz20_1 := cellS32_1 HGz20; have hcz20_2 := cellS32_2 HGz20; have hcz20_3 := cellS32_3 HGz20; have hcz20_4 := cellS32_4 HGz20; have hcz20_5 := cellS32_5 HGz20; have hcz20_6 := cellS32_6 HGz20; have hcz20_7 := cellS32_7 HGz20; have hcz20_8 := cellS32_8 HGz20; have hfz20_0 := blk_frozen HGz20 0; have hfz20_1 := blk_frozen HGz20 1; have hfz20_2 := blk_frozen HGz20 2; have hfz20_3 := blk_frozen HGz20 3; have hfz20_5 := blk_frozen HGz20 5; have hfz20_6 := blk_frozen HGz20 6; have hfz20_7 := blk_frozen HGz20 7; have hfz20_8 := blk_frozen HGz20 8; clear HGz20 hgz20; have p119 : 0 ≤ (x3_1 : Int) := of_decide_eq_true (by first | (with_reducible assumption) | assumption); have q119 : x3_1 < (s0_4.length : Int) := of_decide_eq_true (by first | (with_reducible assumption) | assumption); obtain ⟨ad119, A119_3, c119_3, e119, hx119_0, hx119_1, hx119_2, hx119_3, hl119_3, hi119_3⟩ := at_T55 HSz20_4 x3_1 p119 q119; cases e119; replace hx119_0 := pw_cell_below HB.out hx119_0; replace hx119_1 := pw_cell_below HB.out hx119_1; replace hx119_2 := pw_cell_below HB.out hx119_2; replace hx119_3 := pw_cell_below HB.out hx119_3; have HR119_3 := am (Kd.C_below hi119_3 HB.out); have HC119_3 := Aside0.mk hl119_3; clear hi119_3 hl119_3; replace p119 := eq_true p119; replace q119 := eq_true q119; have p120 : 0 ≤ (x3_1 : Int) := of_decide_eq_true (by first | (with_reducible assumption) | assumption); have q120 : x3_1 < (s0_4.length : Int) := of_decide_eq_true (by first | (with_reducible assumption) | assumption); obtain ⟨ad120, A120_3, c120_3, e120, hx120_0, hx120_1, hx120_2, hx120_3, hl120_3, hi120_3⟩ := at_T55 HSz20_4 x3_1 p120 q120; obtain rfl : ad119 = ad120 := (by injection e120); replace hx120_0 := pw_cell_below HB.out hx120_0; replace hx120_1 := pw_cell_below HB.out hx120_1; replace hx120_2 := pw_cell_below HB.out hx120_2; replace hx120_3 := pw_cell_below HB.out hx120_3; have HR120_3 := am (Kd.C_below hi120_3 HB.out); have HC120_3 := Aside0.mk hl120_3; clear hi120_3 hl120_3; replace p120 := eq_true p120; replace q120 := eq_true q120; have p121 : 0 ≤ ((ji14) : Int) := of_decide_eq_true (by first | (with_reducible assumption) | assumption); have q121 : (ji14) < (s0_4.length : Int) := of_decide_eq_true (by first | (with_reducible assumption) | assumption); obtain ⟨ad121, A121_3, c121_3, e121, hx121_0, hx121_1, hx121_2, hx121_3, hl121_3, hi121_3⟩ := at_T55 HSz20_4 (ji14) p121 q121; obtain rfl : ad119 = ad121 := (by injection e121); replace hx121_0 := pw_cell_below HB.out hx121_0; replace hx121_1 := pw_cell_below HB.out hx121_1; replace hx121_2 := pw_cell_below HB.out hx121_2; replace hx121_3 := pw_cell_below HB.out hx121_3; have HR121_3 := am (Kd.C_below hi121_3 HB.out); have HC121_3 := Aside0.mk hl121_3; clear hi121_3 hl121_3; replace p121 := eq_true p121; replace q121 := eq_true q121)); try go_wp2_with (first | (go_at_call 129; (with_reducible refine (spec_EntryFault.calls k1 ((rd_T55 s0_4 x3_1).f0) ((rd_T55 s0_4 x3_1).f1.f0) ((rd_T55 s0_4 x3_1).f1.f1) _ _ ((rd_T55 s0_4 x3_1).f1.f2) t118 _ ?side1 ?side2 A7.out).mono ?_); (case side1 => exact by repeat (first | (with_reducible exact HR117_3.out) | (with_reducible refine Kd.C_alloc ?_ _) | (with_reducible refine Kd.C_drewN ?_ _) | (with_reducible refine Kd.C_drew ?_) | exact HR117_3.out)); (case side2 => exact HC117_3.out); rintro e w19 ⟨rfl, hb⟩; replace HR117_3 := am (Kd.C_below (by repeat (first | (with_reducible exact HR117_3.out) | (with_reducible refine Kd.C_alloc ?_ _) | (with_reducible refine Kd.C_drewN ?_ _) | (with_reducible refine Kd.C_drew ?_) | exact HR117_3.out)) hb); replace HK := am (KeepBut.trans (by repeat (first | (with_reducible first | exact HK.out | apply KeepBut.set_ | apply keep_drewN | apply keep_drew | apply keep_alloc) | exact HK.out)) (KeepBut.of_below hb g none) (.inl rfl)); replace HB := am (below_step (by repeat (first | (with_reducible first | exact HB.out | apply below_alloc | apply pw_below_drewN | apply below_drew1 | refine below_set ?_ (IsS32.ge HI0.out)) | exact HB.out)) hb); replace HI0 := am (IsS32.below (by repeat (first | (with_reducible first | exact HI0.out | apply IsS32.alloc | apply IsS32.drewN | apply IsS32.drew | apply IsS32.set_0 | apply IsS32.set_1 | apply IsS32.set_2 | apply IsS32.set_3 | apply IsS32.set_5 | apply IsS32.set_6 | apply IsS32.set_7 | apply IsS32.set_8) | exact HI0.out)) hb); (try clear hb); (try clear hb2); (try clear hk); (try clear hi); obtain ⟨ASz20_4, cSz20_4, HGz20, hgz20, HSz20_4, HLz20_4⟩ := HI0.out; have hcz20_0 := cellS32_0 HGz20; have hcz20_1 := cellS32_1 HGz20; have hcz20_2 := cellS32_2 HGz20; have hcz20_3 := cellS32_3 HGz20; have hcz20_4 := cellS32_4 HGz20; have hcz20_5 := cellS32_5 HGz20; have hcz20_6 := cellS32_6 HGz20; have hcz20_7 := cellS32_7 HGz20; have hcz20_8 := cellS32_8 HGz20; have hfz20_0 := blk_frozen HGz20 0; have hfz20_1 := blk_frozen HGz20 1; have hfz20_2 := blk_frozen HGz20 2; have hfz20_3 := blk_frozen HGz20 3; have hfz20_5 := blk_frozen HGz20 5; have hfz20_6 := blk_frozen HGz20 6; have hfz20_7 := blk_frozen HGz20 7; have hfz20_8 := blk_frozen HGz20 8; clear HGz20 hgz20; have p119 : 0 ≤ (x3_1 : Int) := of_decide_eq_true (by first | (with_reducible assumption) | assumption); have q119 : x3_1 < (s0_4.length : Int) := of_decide_eq_true (by first | (with_reducible assumption) | assumption); obtain ⟨ad119, A119_3, c119_3, e119, hx119_0, hx119_1, hx119_2, hx119_3, hl119_3, hi119_3⟩ := at_T55 HSz20_4 x3_1 p119 q119; cases e119; replace hx119_0 := pw_cell_below HB.out hx119_0; replace hx119_1 := pw_cell_below HB.out hx119_1; replace hx119_2 := pw_cell_below HB.out hx119_2; replace hx119_3 := pw_cell_below HB.out hx119_3; have HR119_3 := am (Kd.C_below hi119_3 HB.out); have HC119_3 := Aside0.mk hl119_3; clear hi119_3 hl119_3; replace p119 := eq_true p119; replace q119 := eq_true q119; have p120 : 0 ≤ (x3_1 : Int) := of_decide_eq_true (by first | (with_reducible assumption) | assumption); have q120 : x3_1 < (s0_4.length : Int) := of_decide_eq_true (by first | (with_reducible assumption) | assumption); obtain ⟨ad120, A120_3, c120_3, e120, hx120_0, hx120_1, hx120_2, hx120_3, hl120_3, hi120_3⟩ := at_T55 HSz20_4 x3_1 p120 q120; obtain rfl : ad119 = ad120 := (by injection e120); replace hx120_0 := pw_cell_below HB.out hx120_0; replace hx120_1 := pw_cell_below HB.out hx120_1; replace hx120_2 := pw_cell_below HB.out hx120_2; replace hx120_3 := pw_cell_below HB.out hx120_3; have HR120_3 := am (Kd.C_below hi120_3 HB.out); have HC120_3 := Aside0.mk hl120_3; clear hi120_3 hl120_3; replace p120 := eq_true p120; replace q120 := eq_true q120; have p121 : 0 ≤ ((ji14) : Int) := of_decide_eq_true (by first | (with_reducible assumption) | assumption); have q121 : (ji14) < (s0_4.length : Int) := of_decide_eq_true (by first | (with_reducible assumption) | assumption); obtain ⟨ad121, A121_3, c121_3, e121, hx121_0, hx121_1, hx121_2, hx121_3, hl121_3, hi121_3⟩ := at_T55 HSz20_4 (ji14) p121 q121; obtain rfl : ad119 = ad121 := (by injection e121); replace hx121_0 := pw_cell_below HB.out hx121_0; replace hx121_1 := pw_cell_below HB.out hx121_1; replace hx121_2 := pw_cell_below HB.out hx121_2; replace hx121_3 := pw_cell_below HB.out hx121_3; have HR121_3 := am (Kd.C_below hi121_3 HB.out); have HC121_3 := Aside0.mk hl121_3; clear hi121_3 hl121_3; replace p121 := eq_true p121; replace q121 := eq_true q121)))
          go_ret
          exact ⟨by first | rfl | (simp [errW_none, errW_some] <;> rfl) | (simp only [← hji14]; first | rfl | (simp [errW_none, errW_some] <;> rfl)) | (simp [*, errW_none, errW_some] <;> rfl), by repeat (first | (with_reducible first | exact HI0.out | apply IsS32.alloc | apply IsS32.drewN | apply IsS32.drew | apply IsS32.set_0 | apply IsS32.set_1 | apply IsS32.set_2 | apply IsS32.set_3 | apply IsS32.set_5 | apply IsS32.set_6 | apply IsS32.set_7 | apply IsS32.set_8) | exact HI0.out), by repeat (first | (with_reducible first | exact HB.out | apply below_alloc | apply pw_below_drewN | apply below_drew1 | refine below_set ?_ (IsS32.ge HI0.out)) | exact HB.out), by repeat (first | (with_reducible first | exact HK.out | apply KeepBut.set_ | apply keep_drewN | apply keep_drew | apply keep_alloc) | exact HK.out)⟩
         rw [if_neg c17] at H
         have c17b0 : decide (((rd_T55 s0_4 x3_1).f0) < ((rd_T55 s0_4 (ji14)).f0)) = false := decide_eq_false c17
         clear c17
         have H' := Aside0.mk H
         clear H
         obtain ⟨ASz21_4, cSz21_4, HGz21, hgz21, HSz21_4, HLz21_4⟩ := HI0.out
         have hcz21_0 := cellS32_0 HGz21
         have hcz21_1 := cellS32_1 HGz21
         have hcz21_2 := cellS32_2 HGz21
         have hcz21_3 := cellS32_3 HGz21
         have hcz21_4 := cellS32_4 HGz21
         have hcz21_5 := cellS32_5 HGz21
         have hcz21_6 := cellS32_6 HGz21
         have hcz21_7 := cellS32_7 HGz21
         have hcz21_8 := cellS32_8 HGz21
         have hfz21_0 := blk_frozen HGz21 0
         have hfz21_1 := blk_frozen HGz21 1
         have hfz21_2 := blk_frozen HGz21 2
         have hfz21_3 := blk_frozen HGz21 3
         have hfz21_5 := blk_frozen HGz21 5
         have hfz21_6 := blk_frozen HGz21 6
         have hfz21_7 := blk_frozen HGz21 7
         have hfz21_8 := blk_frozen HGz21 8
         clear HGz21 hgz21
         have p117 : 0 ≤ (x3_1 : Int) := of_decide_eq_true (by first | (with_reducible assumption) | assumption)
         have q117 : x3_1 < (s0_4.length : Int) := of_decide_eq_true (by first | (with_reducible assumption) | assumption)
         obtain ⟨ad117, A117_3, c117_3, e117, hx117_0, hx117_1, hx117_2, hx117_3, hl117_3, hi117_3⟩ := at_T55 HSz21_4 x3_1 p117 q117
         cases e117
         replace hx117_0 := pw_cell_below HB.out hx117_0
         replace hx117_1 := pw_cell_below HB.out hx117_1
         replace hx117_2 := pw_cell_below HB.out hx117_2
         replace hx117_3 := pw_cell_below HB.out hx117_3
         have HR117_3 := am (Kd.C_below hi117_3 HB.out)
         have HC117_3 := Aside0.mk hl117_3
         clear hi117_3 hl117_3
         replace p117 := eq_true p117
         replace q117 := eq_true q117
         go_wp2_with (first | (go_at_call 129; (with_reducible refine (spec_EntryFault.calls k1 ((rd_T55 s0_4 x3_1).f0) ((rd_T55 s0_4 x3_1).f1.f0) ((rd_T55 s0_4 x3_1).f1.f1) _ _ ((rd_T55 s0_4 x3_1).f1.f2) t118 _ ?side1 ?side2 A7.out).mono ?_); (case side1 => exact by repeat (first | (with_reducible exact HR117_3.out) | (with_reducible refine Kd.C_alloc ?_ _) | (with_reducible refine Kd.C_drewN ?_ _) | (with_reducible refine Kd.C_drew ?_) | exact HR117_3.out)); (case side2 => exact HC117_3.out); rintro e w22 ⟨rfl, hb⟩; replace HR117_3 := am (Kd.C_below (by repeat (first | (with_reducible exact HR117_3.out) | (with_reducible refine Kd.C_alloc ?_ _) | (with_reducible refine Kd.C_drewN ?_ _) | (with_reducible refine Kd.C_drew ?_) | exact HR117_3.out)) hb); replace HK := am (KeepBut.trans (by repeat (first | (with_reducible first | exact HK.out | apply KeepBut.set_ | apply keep_drewN | apply keep_drew | apply keep_alloc) | exact HK.out)) (KeepBut.of_below hb g none) (.inl rfl)); replace HB := am (below_step (by repeat (first | (with_reducible first | exact HB.out | apply below_alloc | apply pw_below_drewN | apply below_drew1 | refine below_set ?_ (IsS32.ge HI0.out)) | exact HB.out)) hb); replace HI0 := am (IsS32.below (by repeat (first | (with_reducible first | exact HI0.out | apply IsS32.alloc | apply IsS32.drewN | apply IsS32.drew | apply IsS32.set_0 | apply IsS32.set_1 | apply IsS32.set_2 | apply IsS32.set_3 | apply IsS32.set_5 | apply IsS32.set_6 | apply IsS32.set_7 | apply IsS32.set_8) | exact HI0.out)) hb); (try clear hb); (try clear hb2); (try clear hk); (try clear hi); obtain ⟨ASz23_4, cSz23_4, HGz23, hgz23, HSz23_4, HLz23_4⟩ := HI0.out; have hcz23_0 := cellS32_0 HGz23; have hcz23_1 := cellS32_1 HGz23; have hcz23_2 := cellS32_2 HGz23; have hcz23_3 := cellS32_3 HGz23; have hcz23_4 := cellS32_4 HGz23; have hcz23_5 := cellS32_5 HGz23; have hcz23_6 := cellS32_6 HGz23; have hcz23_7 := cellS32_7 HGz23; have hcz23_8 := cellS32_8 HGz23; have hfz23_0 := blk_frozen HGz23 0; have hfz23_1 := blk_frozen HGz23 1; have hfz23_2 := blk_frozen HGz23 2; have hfz23_3 := blk_frozen HGz23 3; have hfz23_5 := blk_frozen HGz23 5; have hfz23_6 := blk_frozen HGz23 6; have hfz23_7 := blk_frozen HGz23 7; have hfz23_8 := blk_frozen HGz23 8; clear HGz23 hgz23; have p119 : 0 ≤ (x3_1 : Int) := of_decide_eq_true (by first | (with_reducible assumption) | assumption); have q119 : x3_1 < (s0_4.length : Int) := of_decide_eq_true (by first | (with_reducible assumption) | assumption); obtain ⟨ad119, A119_3, c119_3, e119, hx119_0, hx119_1, hx119_2, hx119_3, hl119_3, hi119_3⟩ := at_T55 HSz23_4 x3_1 p119 q119; cases e119; replace hx119_0 := pw_cell_below HB.out hx119_0; replace hx119_1 := pw_cell_below HB.out hx119_1; replace hx119_2 := pw_cell_below HB.out hx119_2; replace hx119_3 := pw_cell_below HB.out hx119_3; have HR119_3 := am (Kd.C_below hi119_3 HB.out); have HC119_3 := Aside0.mk hl119_3; clear hi119_3 hl119_3; replace p119 := eq_true p119; replace q119 := eq_true q119; have p120 : 0 ≤ (x3_1 : Int) := of_decide_eq_true (by first | (with_reducible assumption) | assumption); have q120 : x3_1 < (s0_4.length : Int) := of_decide_eq_true (by first | (with_reducible assumption) | assumption); obtain ⟨ad120, A120_3, c120_3, e120, hx120_0, hx120_1, hx120_2, hx120_3, hl120_3, hi120_3⟩ := at_T55 HSz23_4 x3_1 p120 q120; obtain rfl : ad119 = ad120 := (by injection e120); replace hx120_0 := pw_cell_below HB.out hx120_0; replace hx120_1 := pw_cell_below HB.out hx120_1; replace hx120_2 := pw_cell_below HB.out hx120_2; replace hx120_3 := pw_cell_below HB.out hx120_3; have HR120_3 := am (Kd.C_below hi120_3 HB.out); have HC120_3 := Aside0.mk hl120_3; clear hi120_3 hl120_3; replace p120 := eq_true p120; replace q120 := eq_true q120; have p121 : 0 ≤ ((ji14) : Int) := of_decide_eq_true (by first | (with_reducible assumption) | assumption); have q121 : (ji14) < (s0_4.length : Int) := of_decide_eq_true (by first | (with_reducible assumption) | assumption); obtain ⟨ad121, A121_3, c121_3, e121, hx121_0, hx121_1, hx121_2, hx121_3, hl121_3, hi121_3⟩ := at_T55 HSz23_4 (ji14) p121 q121; obtain rfl : ad119 = ad121 := (by injection e121); replace hx121_0 := pw_cell_below HB.out hx121_0; replace hx121_1 := pw_cell_below HB.out hx121_1; replace hx121_2 := pw_cell_below HB.out hx121_2; replace hx121_3 := pw_cell_below HB.out hx121_3; have HR121_3 := am (Kd.C_below hi121_3 HB.out); have HC121_3 := Aside0.mk hl121_3; clear hi121_3 hl121_3; replace p121 := eq_true p121; replace q121 := eq_true q121))
         repeat (go_quiet ((go_at_call 129; (with_reducible refine (spec_EntryFault.calls k1 ((rd_T55 s0_4 x3_1).f0) ((rd_T55 s0_4 x3_1).f1.f0) ((rd_T55 s0_4 x3_1).f1.f1) _ _ ((rd_T55 s0_4 x3_1).f1.f2) t118 _ ?side1 ?side2 A7.out).mono ?_); (case side1 => exact by repeat (first | (with_reducible exact HR117_3.out) | (with_reducible refine Kd.C_alloc ?_ _) | (with_reducible refine Kd.C_drewN ?_ _) | (with_reducible refine Kd.C_drew ?_) | exact HR117_3.out)); (case side2 => exact HC117_3.out); rintro e w22 ⟨rfl, hb⟩; replace HR117_3 := am (Kd.C_below (by repeat (first | (with_reducible exact HR117_3.out) | (with_reducible refine Kd.C_alloc ?_ _) | (with_reducible refine Kd.C_drewN ?_ _) | (with_reducible refine Kd.C_drew ?_) | exact HR117_3.out)) hb); replace HK := am (KeepBut.trans (by repeat (first | (with_reducible first | exact HK.out | apply KeepBut.set_ | apply keep_drewN | apply keep_drew | apply keep_alloc) | exact HK.out)) (KeepBut.of_below hb g none) (.inl rfl)); replace HB := am (below_step (by repeat (first | (with_reducible first | exact HB.out | apply below_alloc | apply pw_below_drewN | apply below_drew1 | refine below_set ?_ (IsS32.ge HI0.out)) | exact HB.out)) hb); replace HI0 := am (IsS32.below (by repeat (first | (with_reducible first | exact HI0.out | apply IsS32.alloc | apply IsS32.drewN | apply IsS32.drew | apply IsS32.set_0 | apply IsS32.set_1 | apply IsS32.set_2 | apply IsS32.set_3 | apply IsS32.set_5 | apply IsS32.set_6 | apply IsS32.set_7 | apply IsS32.set_8) | exact HI0.out)) hb); (try clear hb); (try clear hb2); (try clear hk); (try clear hi); obtain ⟨ASz23_4, cSz23_4, HGz23, hgz23, HSz23_4, HLz23_4⟩ := HI0.out; have hcz23_0 := cellS32_0 HGz23; have hcz23_1 := cellS32_1 HGz23; have hcz23_2 := cellS32_2 HGz23; have hcz23_3 := cellS32_3 HGz23; have hcz23_4 := cellS32_4 HGz23; have hcz23_5 := cellS32_5 HGz23; have hcz23_6 := cellS32_6 HGz23; have hcz23_7 := cellS32_7 HGz23; have hcz23_8 := cellS32_8 HGz23; have hfz23_0 := blk_frozen HGz23 0; have hfz23_1 := blk_frozen HGz23 1; have hfz23_2 := blk_frozen HGz23 2; have hfz23_3 := blk_frozen HGz23 3; have hfz23_5 := blk_frozen HGz23 5; have hfz23_6 := blk_frozen HGz23 6; have hfz23_7 := blk_frozen HGz23 7; have hfz23_8 := blk_frozen HGz23 8; clear HGz23 hgz23; have p119 : 0 ≤ (x3_1 : Int) := of_decide_eq_true (by first | (with_reducible assumption) | assumption); have q119 : x3_1 < (s0_4.length : Int) := of_decide_eq_true (by first | (with_reducible assumption) | assumption); obtain ⟨ad119, A119_3, c119_3, e119, hx119_0, hx119_1, hx119_2, hx119_3, hl119_3, hi119_3⟩ := at_T55 HSz23_4 x3_1 p119 q119; cases e119; replace hx119_0 := pw_cell_below HB.out hx119_0; replace hx119_1 := pw_cell_below HB.out hx119_1; replace hx119_2 := pw_cell_below HB.out hx119_2; replace hx119_3 := pw_cell_below HB.out hx119_3; have HR119_3 := am (Kd.C_below hi119_3 HB.out); have HC119_3 := Aside0.mk hl119_3; clear hi119_3 hl119_3; replace p119 := eq_true p119; replace q119 := eq_true q119; have p120 : 0 ≤ (x3_1 : Int) := of_decide_eq_true (by first | (with_reducible assumption) | assumption); have q120 : x3_1 < (s0_4.length : Int) := of_decide_eq_true (by first | (with_reducible assumption) | assumption); obtain ⟨ad120, A120_3, c120_3, e120, hx120_0, hx120_1, hx120_2, hx120_3, hl120_3, hi120_3⟩ := at_T55 HSz23_4 x3_1 p120 q120; obtain rfl : ad119 = ad120 := (by injection e120); replace hx120_0 := pw_cell_below HB.out hx120_0; replace hx120_1 := pw_cell_below HB.out hx120_1; replace hx120_2 := pw_cell_below HB.out hx120_2; replace hx120_3 := pw_cell_below HB.out hx120_3; have HR120_3 := am (Kd.C_below hi120_3 HB.out); have HC120_3 := Aside0.mk hl120_3; clear hi120_3 hl120_3; replace p120 := eq_true p120; replace q120 := eq_true q120; have p121 : 0 ≤ ((ji14) : Int) := of_decide_eq_true (by first | (with_reducible assumption) | assumption); have q121 : (ji14) < (s0_4.length : Int) := of_decide_eq_true (by first | (with_reducible assumption) | assumption); obtain ⟨ad121, A121_3, c121_3, e121, hx121_0, hx121_1, hx121_2, hx121_3, hl121_3, hi121_3⟩ := at_T55 HSz23_4 (ji14) p121 q121; obtain rfl : ad119 = ad121 := (by injection e121); replace hx121_0 := pw_cell_below HB.out hx121_0; replace hx121_1 := pw_cell_below HB.out hx121_1; replace hx121_2 := pw_cell_below HB.out hx121_2; replace hx121_3 := pw_cell_below HB.out hx121_3; have HR121_3 := am (Kd.C_below hi121_3 HB.out); have HC121_3 := Aside0.mk hl121_3; clear hi121_3 hl121_3; replace p121 := eq_true p121; replace q121 := eq_true q121)); try go_wp2_with (first | (go_at_call 129; (with_reducible refine (spec_EntryFault.calls k1 ((rd_T55 s0_4 x3_1).f0) ((rd_T55 s0_4 x3_1).f1.f0) ((rd_T55 s0_4 x3_1).f1.f1) _ _ ((rd_T55 s0_4 x3_1).f1.f2) t118 _ ?side1 ?side2 A7.out).mono ?_); (case side1 => exact by repeat (first | (with_reducible exact HR117_3.out) | (with_reducible refine Kd.C_alloc ?_ _) | (with_reducible refine Kd.C_drewN ?_ _) | (with_reducible refine Kd.C_drew ?_) | exact HR117_3.out)); (case side2 => exact HC117_3.out); rintro e w22 ⟨rfl, hb⟩; replace HR117_3 := am (Kd.C_below (by repeat (first | (with_reducible exact HR117_3.out) | (with_reducible refine Kd.C_alloc ?_ _) | (with_reducible refine Kd.C_drewN ?_ _) | (with_reducible refine Kd.C_drew ?_) | exact HR117_3.out)) hb); replace HK := am (KeepBut.trans (by repeat (first | (with_reducible first | exact HK.out | apply KeepBut.set_ | apply keep_drewN | apply keep_drew | apply keep_alloc) | exact HK.out)) (KeepBut.of_below hb g none) (.inl rfl)); replace HB := am (below_step (by repeat (first | (with_reducible first | exact HB.out | apply below_alloc | apply pw_below_drewN | apply below_drew1 | refine below_set ?_ (IsS32.ge HI0.out)) | exact HB.out)) hb); replace HI0 := am (IsS32.below (by repeat (first | (with_reducible first | exact HI0.out | apply IsS32.alloc | apply IsS32.drewN | apply IsS32.drew | apply IsS32.set_0 | apply IsS32.set_1 | apply IsS32.set_2 | apply IsS32.set_3 | apply IsS32.set_5 | apply IsS32.set_6 | apply IsS32.set_7 | apply IsS32.set_8) | exact HI0.out)) hb); (try clear hb); (try clear hb2); (try clear hk); (try clear hi); obtain ⟨ASz23_4, cSz23_4, HGz23, hgz23, HSz23_4, HLz23_4⟩ := HI0.out; have hcz23_0 := cellS32_0 HGz23; have hcz23_1 := cellS32_1 HGz23; have hcz23_2 := cellS32_2 HGz23; have hcz23_3 := cellS32_3 HGz23; have hcz23_4 := cellS32_4 HGz23; have hcz23_5 := cellS32_5 HGz23; have hcz23_6 := cellS32_6 HGz23; have hcz23_7 := cellS32_7 HGz23; have hcz23_8 := cellS32_8 HGz23; have hfz23_0 := blk_frozen HGz23 0; have hfz23_1 := blk_frozen HGz23 1; have hfz23_2 := blk_frozen HGz23 2; have hfz23_3 := blk_frozen HGz23 3; have hfz23_5 := blk_frozen HGz23 5; have hfz23_6 := blk_frozen HGz23 6; have hfz23_7 := blk_frozen HGz23 7; have hfz23_8 := blk_frozen HGz23 8; clear HGz23 hgz23; have p119 : 0 ≤ (x3_1 : Int) := of_decide_eq_true (by first | (with_reducible assumption) | assumption); have q119 : x3_1 < (s0_4.length : Int) := of_decide_eq_true (by first | (with_reducible assumption) | assumption); obtain ⟨ad119, A119_3, c119_3, e119, hx119_0, hx119_1, hx119_2, hx119_3, hl119_3, hi119_3⟩ := at_T55 HSz23_4 x3_1 p119 q119; cases e119; replace hx119_0 := pw_cell_below HB.out hx119_0; replace hx119_1 := pw_cell_below HB.out hx119_1; replace hx119_2 := pw_cell_below HB.out hx119_2; replace hx119_3 := pw_cell_below HB.out hx119_3; have HR119_3 := am (Kd.C_below hi119_3 HB.out); have HC119_3 := Aside0.mk hl119_3; clear hi119_3 hl119_3; replace p119 := eq_true p119; replace q119 := eq_true q119; have p120 : 0 ≤ (x3_1 : Int) := of_decide_eq_true (by first | (with_reducible assumption) | assumption); have q120 : x3_1 < (s0_4.length : Int) := of_decide_eq_true (by first | (with_reducible assumption) | assumption); obtain ⟨ad120, A120_3, c120_3, e120, hx120_0, hx120_1, hx120_2, hx120_3, hl120_3, hi120_3⟩ := at_T55 HSz23_4 x3_1 p120 q120; obtain rfl : ad119 = ad120 := (by injection e120); replace hx120_0 := pw_cell_below HB.out hx120_0; replace hx120_1 := pw_cell_below HB.out hx120_1; replace hx120_2 := pw_cell_below HB.out hx120_2; replace hx120_3 := pw_cell_below HB.out hx120_3; have HR120_3 := am (Kd.C_below hi120_3 HB.out); have HC120_3 := Aside0.mk hl120_3; clear hi120_3 hl120_3; replace p120 := eq_true p120; replace q120 := eq_true q120; have p121 : 0 ≤ ((ji14) : Int) := of_decide_eq_true (by first | (with_reducible assumption) | assumption); have q121 : (ji14) < (s0_4.length : Int) := of_decide_eq_true (by first | (with_reducible assumption) | assumption); obtain ⟨ad121, A121_3, c121_3, e121, hx121_0, hx121_1, hx121_2, hx121_3, hl121_3, hi121_3⟩ := at_T55 HSz23_4 (ji14) p121 q121; obtain rfl : ad119 = ad121 := (by injection e121); replace hx121_0 := pw_cell_below HB.out hx121_0; replace hx121_1 := pw_cell_below HB.out hx121_1; replace hx121_2 := pw_cell_below HB.out hx121_2; replace hx121_3 := pw_cell_below HB.out hx121_3; have HR121_3 := am (Kd.C_below hi121_3 HB.out); have HC121_3 := Aside0.mk hl121_3; clear hi121_3 hl121_3; replace p121 := eq_true p121; replace q121 := eq_true q121)))
         go_roundg k1
         case measure => have := HK1.out; omega
         case rel => exact ⟨(wrap64 (x3_1 + 1)), (by first | rfl | (simp; done) | (simp [*]; done)), H', ⟨by have := HK1.out; omega⟩, ⟨by repeat (first | (with_reducible first | exact HI0.out | apply IsS32.alloc | apply IsS32.drewN | apply IsS32.drew | apply IsS32.set_0 | apply IsS32.set_1 | apply IsS32.set_2 | apply IsS32.set_3 | apply IsS32.set_5 | apply IsS32.set_6 | apply IsS32.set_7 | apply IsS32.set_8) | exact HI0.out)⟩, ⟨by repeat (first | (with_reducible first | exact HK.out | apply KeepBut.set_ | apply keep_drewN | apply keep_drew | apply keep_alloc) | exact HK.out)⟩, ⟨by repeat (first | (with_reducible first | exact HB.out | apply below_alloc | apply pw_below_drewN | apply below_drew1 | refine below_set ?_ (IsS32.ge HI0.out)) | exact HB.out)⟩⟩
        rw [if_neg c16] at H
        exact absurd H (by simp)
       rw [if_neg c15] at H
       exact absurd H (by simp)
      rw [if_neg c13] at H
      have c13b0 : decide (0 < x3_1) = false := decide_eq_false c13
      clear c13
      have H' := Aside0.mk H
      clear H
      obtain ⟨ASz24_4, cSz24_4, HGz24, hgz24, HSz24_4, HLz24_4⟩ := HI0.out
      have hcz24_0 := cellS32_0 HGz24
      have hcz24_1 := cellS32_1 HGz24
      have hcz24_2 := cellS32_2 HGz24
      have hcz24_3 := cellS32_3 HGz24
      have hcz24_4 := cellS32_4 HGz24
      have hcz24_5 := cellS32_5 HGz24
      have hcz24_6 := cellS32_6 HGz24
      have hcz24_7 := cellS32_7 HGz24
      have hcz24_8 := cellS32_8 HGz24
      have hfz24_0 := blk_frozen HGz24 0
      have hfz24_1 := blk_frozen HGz24 1
      have hfz24_2 := blk_frozen HGz24 2
      have hfz24_3 := blk_frozen HGz24 3
      have hfz24_5 := blk_frozen HGz24 5
      have hfz24_6 := blk_frozen HGz24 6
      have hfz24_7 := blk_frozen HGz24 7
      have hfz24_8 := blk_frozen HGz24 8
      clear HGz24 hgz24
      have p117 : 0 ≤ (x3_1 : Int) := of_decide_eq_true (by first | (with_reducible assumption) | assumption)
      have q117 : x3_1 < (s0_4.length : Int) := of_decide_eq_true (by first | (with_reducible assumption) | assumption)
      obtain ⟨ad117, A117_3, c117_3, e117, hx117_0, hx117_1, hx117_2, hx117_3, hl117_3, hi117_3⟩ := at_T55 HSz24_4 x3_1 p117 q117
      cases e117
      replace hx117_0 := pw_cell_below HB.out hx117_0
      replace hx117_1 := pw_cell_below HB.out hx117_1
      replace hx117_2 := pw_cell_below HB.out hx117_2
      replace hx117_3 := pw_cell_below HB.out hx117_3
      have HR117_3 := am (Kd.C_below hi117_3 HB.out)
      have HC117_3 := Aside0.mk hl117_3
      clear hi117_3 hl117_3
      replace p117 := eq_true p117
      replace q117 := eq_true q117
      go_wp2_with (first | (go_at_call 129; (with_reducible refine (spec_EntryFault.calls k1 ((rd_T55 s0_4 x3_1).f0) ((rd_T55 s0_4 x3_1).f1.f0) ((rd_T55 s0_4 x3_1).f1.f1) _ _ ((rd_T55 s0_4 x3_1).f1.f2) t118 _ ?side1 ?side2 A7.out).mono ?_); (case side1 => exact by repeat (first | (with_reducible exact HR117_3.out) | (with_reducible refine Kd.C_alloc ?_ _) | (with_reducible refine Kd.C_drewN ?_ _) | (with_reducible refine Kd.C_drew ?_) | exact HR117_3.out)); (case side2 => exact HC117_3.out); rintro e w25 ⟨rfl, hb⟩; replace HR117_3 := am (Kd.C_below (by repeat (first | (with_reducible exact HR117_3.out) | (with_reducible refine Kd.C_alloc ?_ _) | (with_reducible refine Kd.C_drewN ?_ _) | (with_reducible refine Kd.C_drew ?_) | exact HR117_3.out)) hb); replace HK := am (KeepBut.trans (by repeat (first | (with_reducible first | exact HK.out | apply KeepBut.set_ | apply keep_drewN | apply keep_drew | apply keep_alloc) | exact HK.out)) (KeepBut.of_below hb g none) (.inl rfl)); replace HB := am (below_step (by repeat (first | (with_reducible first | exact HB.out | apply below_alloc | apply pw_below_drewN | apply below_drew1 | refine below_set ?_ (IsS32.ge HI0.out)) | exact HB.out)) hb); replace HI0 := am (IsS32.below (by repeat (first | (with_reducible first | exact HI0.out | apply IsS32.alloc | apply IsS32.drewN | apply IsS32.drew | apply IsS32.set_0 | apply IsS32.set_1 | apply IsS32.set_2 | apply IsS32.set_3 | apply IsS32.set_5 | apply IsS32.set_6 | apply IsS32.set_7 | apply IsS32.set_8) | exact HI0.out)) hb); (try clear hb); (try clear hb2); (try clear hk); (try clear hi); obtain ⟨ASz26_4, cSz26_4, HGz26, hgz26, HSz26_4, HLz26_4⟩ := HI0.out; have hcz26_0 := cellS32_0 HGz26; have hcz26_1 := cellS32_1 HGz26; have hcz26_2 := cellS32_2 HGz26; have hcz26_3 := cellS32_3 HGz26; have hcz26_4 := cellS32_4 HGz26; have hcz26_5 := cellS32_5 HGz26; have hcz26_6 := cellS32_6 HGz26; have hcz26_7 := cellS32_7 HGz26; have hcz26_8 := cellS32_8 HGz26; have hfz26_0 := blk_frozen HGz26 0; have hfz26_1 := blk_frozen HGz26 1; have hfz26_2 := blk_frozen HGz26 2; have hfz26_3 := blk_frozen HGz26 3; have hfz26_5 := blk_frozen HGz26 5; have hfz26_6 := blk_frozen HGz26 6; have hfz26_7 := blk_frozen HGz26 7; have hfz26_8 := blk_frozen HGz26 8; clear HGz26 hgz26; have p119 : 0 ≤ (x3_1 : Int) := of_decide_eq_true (by first | (with_reducible assumption) | assumption); have q119 : x3_1 < (s0_4.length : Int) := of_decide_eq_true (by first | (with_reducible assumption) | assumption); obtain ⟨ad119, A119_3, c119_3, e119, hx119_0, hx119_1, hx119_2, hx119_3, hl119_3, hi119_3⟩ := at_T55 HSz26_4 x3_1 p119 q119; cases e119; replace hx119_0 := pw_cell_below HB.out hx119_0; replace hx119_1 := pw_cell_below HB.out hx119_1; replace hx119_2 := pw_cell_below HB.out hx119_2; replace hx119_3 := pw_cell_below HB.out hx119_3; have HR119_3 := am (Kd.C_below hi119_3 HB.out); have HC119_3 := Aside0.mk hl119_3; clear hi119_3 hl119_3; replace p119 := eq_true p119; replace q119 := eq_true q119))
      repeat (go_quiet ((go_at_call 129; (with_reducible refine (spec_EntryFault.calls k1 ((rd_T55 s0_4 x3_1).f0) ((rd_T55 s0_4 x3_1).f1.f0) ((rd_T55 s0_4 x3_1).f1.f1) _ _ ((rd_T55 s0_4 x3_1).f1.f2) t118 _ ?side1 ?side2 A7.out).mono ?_); (case side1 => exact by repeat (first | (with_reducible exact HR117_3.out) | (with_reducible refine Kd.C_alloc ?_ _) | (with_reducible refine Kd.C_drewN ?_ _) | (with_reducible refine Kd.C_drew ?_) | exact HR117_3.out)); (case side2 => exact HC117_3.out); rintro e w25 ⟨rfl, hb⟩; replace HR117_3 := am (Kd.C_below (by repeat (first | (with_reducible exact HR117_3.out) | (with_reducible refine Kd.C_alloc ?_ _) | (with_reducible refine Kd.C_drewN ?_ _) | (with_reducible refine Kd.C_drew ?_) | exact HR117_3.out)) hb); replace HK := am (KeepBut.trans (by repeat (first | (with_reducible first | exact HK.out | apply KeepBut.set_ | apply keep_drewN | apply keep_drew | apply keep_alloc) | exact HK.out)) (KeepBut.of_below hb g none) (.inl rfl)); replace HB := am (below_step (by repeat (first | (with_reducible first | exact HB.out | apply below_alloc | apply pw_below_drewN | apply below_drew1 | refine below_set ?_ (IsS32.ge HI0.out)) | exact HB.out)) hb); replace HI0 := am (IsS32.below (by repeat (first | (with_reducible first | exact HI0.out | apply IsS32.alloc | apply IsS32.drewN | apply IsS32.drew | apply IsS32.set_0 | apply IsS32.set_1 | apply IsS32.set_2 | apply IsS32.set_3 | apply IsS32.set_5 | apply IsS32.set_6 | apply IsS32.set_7 | apply IsS32.set_8) | exact HI0.out)) hb); (try clear hb); (try clear hb2); (try clear hk); (try clear hi); obtain ⟨ASz26_4, cSz26_4, HGz26, hgz26, HSz26_4, HLz26_4⟩ := HI0.out; have hcz26_0 := cellS32_0 HGz26; have hcz26_1 := cellS32_1 HGz26; have hcz26_2 := cellS32_2 HGz26; have hcz26_3 := cellS32_3 HGz26; have hcz26_4 := cellS32_4 HGz26; have hcz26_5 := cellS32_5 HGz26; have hcz26_6 := cellS32_6 HGz26; have hcz26_7 := cellS32_7 HGz26; have hcz26_8 := cellS32_8 HGz26; have hfz26_0 := blk_frozen HGz26 0; have hfz26_1 := blk_frozen HGz26 1; have hfz26_2 := blk_frozen HGz26 2; have hfz26_3 := blk_frozen HGz26 3; have hfz26_5 := blk_frozen HGz26 5; have hfz26_6 := blk_frozen HGz26 6; have hfz26_7 := blk_frozen HGz26 7; have hfz26_8 := blk_frozen HGz26 8; clear HGz26 hgz26; have p119 : 0 ≤ (x3_1 : Int) := of_decide_eq_true (by first | (with_reducible assumption) | assumption); have q119 : x3_1 < (s0_4.length : Int) := of_decide_eq_true (by first | (with_reducible assumption) | assumption); obtain ⟨ad119, A119_3, c119_3, e119, hx119_0, hx119_1, hx119_2, hx119_3, hl119_3, hi119_3⟩ := at_T55 HSz26_4 x3_1 p119 q119; cases e119; replace hx119_0 := pw_cell_below HB.out hx119_0; replace hx119_1 := pw_cell_below HB.out hx119_1; replace hx119_2 := pw_cell_below HB.out hx119_2; replace hx119_3 := pw_cell_below HB.out hx119_3; have HR119_3 := am (Kd.C_below hi119_3 HB.out); have HC119_3 := Aside0.mk hl119_3; clear hi119_3 hl119_3; replace p119 := eq_true p119; replace q119 := eq_true q119)); try go_wp2_with (first | (go_at_call 129; (with_reducible refine (spec_EntryFault.calls k1 ((rd_T55 s0_4 x3_1).f0) ((rd_T55 s0_4 x3_1).f1.f0) ((rd_T55 s0_4 x3_1).f1.f1) _ _ ((rd_T55 s0_4 x3_1).f1.f2) t118 _ ?side1 ?side2 A7.out).mono ?_); (case side1 => exact by repeat (first | (with_reducible exact HR117_3.out) | (with_reducible refine Kd.C_alloc ?_ _) | (with_reducible refine Kd.C_drewN ?_ _) | (with_reducible refine Kd.C_drew ?_) | exact HR117_3.out)); (case side2 => exact HC117_3.out); rintro e w25 ⟨rfl, hb⟩; replace HR117_3 := am (Kd.C_below (by repeat (first | (with_reducible exact HR117_3.out) | (with_reducible refine Kd.C_alloc ?_ _) | (with_reducible refine Kd.C_drewN ?_ _) | (with_reducible refine Kd.C_drew ?_) | exact HR117_3.out)) hb); replace HK := am (KeepBut.trans (by repeat (first | (with_reducible first | exact HK.out | apply KeepBut.set_ | apply keep_drewN | apply keep_drew | apply keep_alloc) | exact HK.out)) (KeepBut.of_below hb g none) (.inl rfl)); replace HB := am (below_step (by repeat (first | (with_reducible first | exact HB.out | apply below_alloc | apply pw_below_drewN | apply below_drew1 | refine below_set ?_ (IsS32.ge HI0.out)) | exact HB.out)) hb); replace HI0 := am (IsS32.below (by repeat (first | (with_reducible first | exact HI0.out | apply IsS32.alloc | apply IsS32.drewN | apply IsS32.drew | apply IsS32.set_0 | apply IsS32.set_1 | apply IsS32.set_2 | apply IsS32.set_3 | apply IsS32.set_5 | apply IsS32.set_6 | apply IsS32.set_7 | apply IsS32.set_8) | exact HI0.out)) hb); (try clear hb); (try clear hb2); (try clear hk); (try clear hi); obtain ⟨ASz26_4, cSz26_4, HGz26, hgz26, HSz26_4, HLz26_4⟩ := HI0.out; have hcz26_0 := cellS32_0 HGz26; have hcz26_1 := cellS32_1 HGz26; have hcz26_2 := cellS32_2 HGz26; have hcz26_3 := cellS32_3 HGz26; have hcz26_4 := cellS32_4 HGz26; have hcz26_5 := cellS32_5 HGz26; have hcz26_6 := cellS32_6 HGz26; have hcz26_7 := cellS32_7 HGz26; have hcz26_8 := cellS32_8 HGz26; have hfz26_0 := blk_frozen HGz26 0; have hfz26_1 := blk_frozen HGz26 1; have hfz26_2 := blk_frozen HGz26 2; have hfz26_3 := blk_frozen HGz26 3; have hfz26_5 := blk_frozen HGz26 5; have hfz26_6 := blk_frozen HGz26 6; have hfz26_7 := blk_frozen HGz26 7; have hfz26_8 := blk_frozen HGz26 8; clear HGz26 hgz26; have p119 : 0 ≤ (x3_1 : Int) := of_decide_eq_true (by first | (with_reducible assumption) | assumption); have q119 : x3_1 < (s0_4.length : Int) := of_decide_eq_true (by first | (with_reducible assumption) | assumption); obtain ⟨ad119, A119_3, c119_3, e119, hx119_0, hx119_1, hx119_2, hx119_3, hl119_3, hi119_3⟩ := at_T55 HSz26_4 x3_1 p119 q119; cases e119; replace hx119_0 := pw_cell_below HB.out hx119_0; replace hx119_1 := pw_cell_below HB.out hx119_1; replace hx119_2 := pw_cell_below HB.out hx119_2; replace hx119_3 := pw_cell_below HB.out hx119_3; have HR119_3 := am (Kd.C_below hi119_3 HB.out); have HC119_3 := Aside0.mk hl119_3; clear hi119_3 hl119_3; replace p119 := eq_true p119; replace q119 := eq_true q119)))
      go_roundg k1
      case measure => have := HK1.out; omega
      case rel => exact ⟨(wrap64 (x3_1 + 1)), (by first | rfl | (simp; done) | (simp [*]; done)), H', ⟨by have := HK1.out; omega⟩, ⟨by repeat (first | (with_reducible first | exact HI0.out | apply IsS32.alloc | apply IsS32.drewN | apply IsS32.drew | apply IsS32.set_0 | apply IsS32.set_1 | apply IsS32.set_2 | apply IsS32.set_3 | apply IsS32.set_5 | apply IsS32.set_6 | apply IsS32.set_7 | apply IsS32.set_8) | exact HI0.out)⟩, ⟨by repeat (first | (with_reducible first | exact HK.out | apply KeepBut.set_ | apply keep_drewN | apply keep_drew | apply keep_alloc) | exact HK.out)⟩, ⟨by repeat (first | (with_reducible first | exact HB.out | apply below_alloc | apply pw_below_drewN | apply below_drew1 | refine below_set ?_ (IsS32.ge HI0.out)) | exact HB.out)⟩⟩
     rw [if_neg c8] at H
     have c8b0 : (t118 == 0) = false := beq_eq_false_iff_ne.mpr c8
     have c8b1 : (t118 != 0) = true := bne_iff_ne.mpr c8
     simp only [Option.some.injEq, Prod.mk.injEq] at H
     obtain ⟨rfl, rfl, rfl, rfl, rfl, rfl, rfl, rfl, rfl⟩ := H
     obtain ⟨ASz27_4, cSz27_4, HGz27, hgz27, HSz27_4, HLz27_4⟩ := HI0.out
     have hcz27_0 := cellS32_0 HGz27
     have hcz27_1 := cellS32_1 HGz27
     have hcz27_2 := cellS32_2 HGz27
     have hcz27_3 := cellS32_3 HGz27
     have hcz27_4 := cellS32_4 HGz27
     have hcz27_5 := cellS32_5 HGz27
     have hcz27_6 := cellS32_6 HGz27
     have hcz27_7 := cellS32_7 HGz27
     have hcz27_8 := cellS32_8 HGz27
     have hfz27_0 := blk_frozen HGz27 0
     have hfz27_1 := blk_frozen HGz27 1
     have hfz27_2 := blk_frozen HGz27 2
     have hfz27_3 := blk_frozen HGz27 3
     have hfz27_5 := blk_frozen HGz27 5
     have hfz27_6 := blk_frozen HGz27 6
     have hfz27_7 := blk_frozen HGz27 7
     have hfz27_8 := blk_frozen HGz27 8
     clear HGz27 hgz27
     have p117 : 0 ≤ (x3_1 : Int) := of_decide_eq_true (by first | (with_reducible assumption) | assumption)
     have q117 : x3_1 < (s0_4.length : Int) := of_decide_eq_true (by first | (with_reducible assumption) | assumption)
     obtain ⟨ad117, A117_3, c117_3, e117, hx117_0, hx117_1, hx117_2, hx117_3, hl117_3, hi117_3⟩ := at_T55 HSz27_4 x3_1 p117 q117
     cases e117
     replace hx117_0 := pw_cell_below HB.out hx117_0
     replace hx117_1 := pw_cell_below HB.out hx117_1
     replace hx117_2 := pw_cell_below HB.out hx117_2
     replace hx117_3 := pw_cell_below HB.out hx117_3
     have HR117_3 := am (Kd.C_below hi117_3 HB.out)
     have HC117_3 := Aside0.mk hl117_3
     clear hi117_3 hl117_3
     replace p117 := eq_true p117
     replace q117 := eq_true q117
     go_wp2_with (first | (go_at_call 129; (with_reducible refine (spec_EntryFault.calls k1 ((rd_T55 s0_4 x3_1).f0) ((rd_T55 s0_4 x3_1).f1.f0) ((rd_T55 s0_4 x3_1).f1.f1) _ _ ((rd_T55 s0_4 x3_1).f1.f2) t118 _ ?side1 ?side2 A7.out).mono ?_); (case side1 => exact by repeat (first | (with_reducible exact HR117_3.out) | (with_reducible refine Kd.C_alloc ?_ _) | (with_reducible refine Kd.C_drewN ?_ _) | (with_reducible refine Kd.C_drew ?_) | exact HR117_3.out)); (case side2 => exact HC117_3.out); rintro e w28 ⟨rfl, hb⟩; replace HR117_3 := am (Kd.C_below (by repeat (first | (with_reducible exact HR117_3.out) | (with_reducible refine Kd.C_alloc ?_ _) | (with_reducible refine Kd.C_drewN ?_ _) | (with_reducible refine Kd.C_drew ?_) | exact HR117_3.out)) hb); replace HK := am (KeepBut.trans (by repeat (first | (with_reducible first | exact HK.out | apply KeepBut.set_ | apply keep_drewN | apply keep_drew | apply keep_alloc) | exact HK.out)) (KeepBut.of_below hb g none) (.inl rfl)); replace HB := am (below_step (by repeat (first | (with_reducible first | exact HB.out | apply below_alloc | apply pw_below_drewN | apply below_drew1 | refine below_set ?_ (IsS32.ge HI0.out)) | exact HB.out)) hb); replace HI0 := am (IsS32.below (by repeat (first | (with_reducible first | exact HI0.out | apply IsS32.alloc | apply IsS32.drewN | apply IsS32.drew | apply IsS32.set_0 | apply IsS32.set_1 | apply IsS32.set_2 | apply IsS32.set_3 | apply IsS32.set_5 | apply IsS32.set_6 | apply IsS32.set_7 | apply IsS32.set_8) | exact HI0.out)) hb); (try clear hb); (try clear hb2); (try clear hk); (try clear hi)))
     repeat (go_quiet ((go_at_call 129; (with_reducible refine (spec_EntryFault.calls k1 ((rd_T55 s0_4 x3_1).f0) ((rd_T55 s0_4 x3_1).f1.f0) ((rd_T55 s0_4 x3_1).f1.f1) _ _ ((rd_T55 s0_4 x3_1).f1.f2) t118 _ ?side1 ?side2 A7.out).mono ?_); (case side1 => exact by repeat (first | (with_reducible exact HR117_3.out) | (with_reducible refine Kd.C_alloc ?_ _) | (with_reducible refine Kd.C_drewN ?_ _) | (with_reducible refine Kd.C_drew ?_) | exact HR117_3.out)); (case side2 => exact HC117_3.out); rintro e w28 ⟨rfl, hb⟩; replace HR117_3 := am (Kd.C_below (by repeat (first | (with_reducible exact HR117_3.out) | (with_reducible refine Kd.C_alloc ?_ _) | (with_reducible refine Kd.C_drewN ?_ _) | (with_reducible refine Kd.C_drew ?_) | exact HR117_3.out)) hb); replace HK := am (KeepBut.trans (by repeat (first | (with_reducible first | exact HK.out | apply KeepBut.set_ | apply keep_drewN | apply keep_drew | apply keep_alloc) | exact HK.out)) (KeepBut.of_below hb g none) (.inl rfl)); replace HB := am (below_step (by repeat (first | (with_reducible first | exact HB.out | apply below_alloc | apply pw_below_drewN | apply below_drew1 | refine below_set ?_ (IsS32.ge HI0.out)) | exact HB.out)) hb); replace HI0 := am (IsS32.below (by repeat (first | (with_reducible first | exact HI0.out | apply IsS32.alloc | apply IsS32.drewN | apply IsS32.drew | apply IsS32.set_0 | apply IsS32.set_1 | apply IsS32.set_2 | apply IsS32.set_3 | apply IsS32.set_5 | apply IsS32.set_6 | apply IsS32.set_7 | apply IsS32.set_8) | exact HI0.out)) hb); (try clear hb); (try clear hb2); (try clear hk); (try clear hi))); try go_wp2_with (first | (go_at_call 129; (with_reducible refine (spec_EntryFault.calls k1 ((rd_T55 s0_4 x3_1).f0) ((rd_T55 s0_4 x3_1).f1.f0) ((rd_T55 s0_4 x3_1).f1.f1) _ _ ((rd_T55 s0_4 x3_1).f1.f2) t118 _ ?side1 ?side2 A7.out).mono ?_); (case side1 => exact by repeat (first | (with_reducible exact HR117_3.out) | (with_reducible refine Kd.C_alloc ?_ _) | (with_reducible refine Kd.C_drewN ?_ _) | (with_reducible refine Kd.C_drew ?_) | exact HR117_3.out)); (case side2 => exact HC117_3.out); rintro e w28 ⟨rfl, hb⟩; replace HR117_3 := am (Kd.C_below (by repeat (first | (with_reducible exact HR117_3.out) | (with_reducible refine Kd.C_alloc ?_ _) | (with_reducible refine Kd.C_drewN ?_ _) | (with_reducible refine Kd.C_drew ?_) | exact HR117_3.out)) hb); replace HK := am (KeepBut.trans (by repeat (first | (with_reducible first | exact HK.out | apply KeepBut.set_ | apply keep_drewN | apply keep_drew | apply keep_alloc) | exact HK.out)) (KeepBut.of_below hb g none) (.inl rfl)); replace HB := am (below_step (by repeat (first | (with_reducible first | exact HB.out | apply below_alloc | apply pw_below_drewN | apply below_drew1 | refine below_set ?_ (IsS32.ge HI0.out)) | exact HB.out)) hb); replace HI0 := am (IsS32.below (by repeat (first | (with_reducible first | exact HI0.out | apply IsS32.alloc | apply IsS32.drewN | apply IsS32.drew | apply IsS32.set_0 | apply IsS32.set_1 | apply IsS32.set_2 | apply IsS32.set_3 | apply IsS32.set_5 | apply IsS32.set_6 | apply IsS32.set_7 | apply IsS32.set_8) | exact HI0.out)) hb); (try clear hb); (try clear hb2); (try clear hk); (try clear hi))))
     go_ret
     exact ⟨by first | rfl | (simp [errW_none, errW_some] <;> rfl) | (simp [*, errW_none, errW_some] <;> rfl), by repeat (first | (with_reducible first | exact HI0.out | apply IsS32.alloc | apply IsS32.drewN | apply IsS32.drew | apply IsS32.set_0 | apply IsS32.set_1 | apply IsS32.set_2 | apply IsS32.set_3 | apply IsS32.set_5 | apply IsS32.set_6 | apply IsS32.set_7 | apply IsS32.set_8) | exact HI0.out), by repeat (first | (with_reducible first | exact HB.out | apply below_alloc | apply pw_below_drewN | apply below_drew1 | refine below_set ?_ (IsS32.ge HI0.out)) | exact HB.out), by repeat (first | (with_reducible first | exact HK.out | apply KeepBut.set_ | apply keep_drewN | apply keep_drew | apply keep_alloc) | exact HK.out)⟩
    rw [if_neg c6] at H
    exact absurd H (by simp)
   rw [if_neg c5] at H
   have c5b0 : decide (x3_1 < (s0_4.length : Int)) = false := decide_eq_false c5
   clear c5
   simp only [Option.some.injEq, Prod.mk.injEq] at H
   obtain ⟨rfl, rfl, rfl, rfl, rfl, rfl, rfl, rfl, rfl⟩ := H
   obtain ⟨ASz29_4, cSz29_4, HGz29, hgz29, HSz29_4, HLz29_4⟩ := HI0.out
   have hcz29_0 := cellS32_0 HGz29
   have hcz29_1 := cellS32_1 HGz29
   have hcz29_2 := cellS32_2 HGz29
   have hcz29_3 := cellS32_3 HGz29
   have hcz29_4 := cellS32_4 HGz29
   have hcz29_5 := cellS32_5 HGz29
   have hcz29_6 := cellS32_6 HGz29
   have hcz29_7 := cellS32_7 HGz29
   have hcz29_8 := cellS32_8 HGz29
   have hfz29_0 := blk_frozen HGz29 0
   have hfz29_1 := blk_frozen HGz29 1
   have hfz29_2 := blk_frozen HGz29 2
   have hfz29_3 := blk_frozen HGz29 3
   have hfz29_5 := blk_frozen HGz29 5
   have hfz29_6 := blk_frozen HGz29 6
   have hfz29_7 := blk_frozen HGz29 7
   have hfz29_8 := blk_frozen HGz29 8
   clear HGz29 hgz29
   go_wp2
   repeat (go_quiet (fail); try go_wp2)
   go_ret
   exact ⟨by first | rfl | (simp [errW_none, errW_some] <;> rfl) | (simp [*, errW_none, errW_some] <;> rfl), by repeat (first | (with_reducible first | exact HI0.out | apply IsS32.alloc | apply IsS32.drewN | apply IsS32.drew | apply IsS32.set_0 | apply IsS32.set_1 | apply IsS32.set_2 | apply IsS32.set_3 | apply IsS32.set_5 | apply IsS32.set_6 | apply IsS32.set_7 | apply IsS32.set_8) | exact HI0.out), by repeat (first | (with_reducible first | exact HB.out | apply below_alloc | apply pw_below_drewN | apply below_drew1 | refine below_set ?_ (IsS32.ge HI0.out)) | exact HB.out), by repeat (first | (with_reducible first | exact HK.out | apply KeepBut.set_ | apply keep_drewN | apply keep_drew | apply keep_alloc) | exact HK.out)⟩

end Go.Proofs.Ytgfoifkkffffgab.PFnExactAddEvent
