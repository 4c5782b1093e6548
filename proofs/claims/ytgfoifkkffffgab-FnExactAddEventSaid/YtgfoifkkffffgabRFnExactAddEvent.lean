/- What an argument of a type reads as, kind by kind: from the form's reading to the printed words' kinds. -/
import Derived.Deep.Slices
import Derived.ChangeArms
import Derived.Test.YtgfoifkkffffgabVFnExactAddEvent
namespace Go.Proofs.Ytgfoifkkffffgab.Rdr
open Go.ChangeShapes Go.WideShapes Go.Deep Go.Proofs.YtgfoifkkffffgabW.PrintWords

/-- Whatever cells read at the type t are of the kind d, and what they hold is ok. -/
def Rd (P : Program) {α : Type} (d : Kd α) (t : TypeId) (ok : α → Prop) : Prop :=
  P.cellsOf t = d.sz ∧ ∀ (H : Type) (enc : TypeId × Value → H) (w : World) (base : Nat) (spare : Nat → Bool) (held : Bool) (fuel : Nat) (cs : List Value) (y : DataW H × List MemPlace),
    DataW.trod enc P w base spare held fuel t cs = some y → ∃ x, d.K w x cs ∧ ok x

theorem rd_int {P : Program} {k : IntKind} {t : TypeId} (ht : P.underlying t = some (.int k)) (hc : P.cellsOf t = 1) : Rd P (Kd.int k) t (fun x => (Lit.int k x).wf = true) :=
  ⟨hc, fun H enc w base spare held fuel cs y h => by
    obtain ⟨n, rfl, _, hw⟩ := DataW.trod_int ht h
    exact ⟨n, rfl, hw⟩⟩

theorem rd_bool {P : Program} {t : TypeId} (ht : P.underlying t = some .bool) (hc : P.cellsOf t = 1) : Rd P Kd.bool t (fun _ => True) :=
  ⟨hc, fun H enc w base spare held fuel cs y h => by
    obtain ⟨n, rfl, _⟩ := DataW.trod_bool ht h
    exact ⟨n, rfl, trivial⟩⟩

theorem rd_iso {P : Program} {α β : Type} {d : Kd α} {t : TypeId} {ok : α → Prop} (f : β → α) (g : α → β) (hfg : ∀ x, f (g x) = x) (h : Rd P d t ok) : Rd P (Kd.iso d f) t (fun y => ok (f y)) :=
  ⟨h.1, fun H enc w base spare held fuel cs y hy => by
    obtain ⟨x, hK, hok⟩ := h.2 H enc w base spare held fuel cs y hy
    exact ⟨g x, by show d.K w (f (g x)) cs; rw [hfg]; exact hK, by show ok (f (g x)); rw [hfg]; exact hok⟩⟩

theorem list_of_each {α : Type} {p : Nat → α → Prop} : ∀ n : Nat, (∀ i, i < n → ∃ x, p i x) → ∃ xs : List α, xs.length = n ∧ ∀ i x, xs[i]? = some x → p i x
  | 0, _ => ⟨[], rfl, by simp⟩
  | n + 1, h => by
    obtain ⟨xs, hl, hp⟩ := list_of_each n (fun i hi => h i (by omega))
    obtain ⟨x, hx⟩ := h n (by omega)
    refine ⟨xs ++ [x], by simp [hl], fun i z hz => ?_⟩
    by_cases hi : i < n
    · rw [List.getElem?_append_left (by omega)] at hz
      exact hp i z hz
    · rw [List.getElem?_append_right (by omega)] at hz
      have hi' : i = n := by
        have := (List.getElem?_eq_some_iff.1 hz).1
        simp at this
        omega
      subst hi'
      rw [hl] at hz
      simp at hz
      subst hz
      exact hx

theorem rd_slice {P : Program} {α : Type} {d : Kd α} {t e : TypeId} {ok : α → Prop} (ht : P.underlying t = some (.slice e)) (hc : P.cellsOf t = 1) (he : Rd P d e ok) :
    Rd P (Kd.slice e d) t (fun xs => xs.length ≤ 9223372036854775807 ∧ ∀ x ∈ xs, ok x) :=
  ⟨hc, fun H enc w base spare held fuel cs y h => by
    rcases open_slice ht h with ⟨rfl, _⟩ | ⟨a, len, cap, m, n, D, Pl, rfl, hb, hl, hm, hmm, rfl, hi⟩
    · exact ⟨[], ⟨none, 0, rfl, Nat.le_refl _, ⟨rfl, by simp, fun h => absurd h (Nat.lt_irrefl 0)⟩⟩, by simp, by simp⟩
    · have hlm : len ≤ m := by rw [hmm]; split <;> omega
      unfold maxLen at hm
      obtain ⟨xs, hx, hp⟩ := list_of_each (α := α) (p := fun i x => ok x ∧ ∃ c, c.length = d.sz ∧ d.K w x c ∧ ∀ j u, c[j]? = some u → w.cell? (a.add (i * d.sz + j)) = some u) len (fun i hil => by
        obtain ⟨cs', h1, h2⟩ := hi i (by omega)
        obtain ⟨x, hK, hok⟩ := he.2 _ _ _ _ _ _ _ _ _ h2
        obtain ⟨_, hcl, hat⟩ := World.cells?_some h1
        rw [he.1] at hcl hat
        refine ⟨x, hok, cs', hcl, hK, fun j u hu => ?_⟩
        have hj : j < d.sz := by
          have := (List.getElem?_eq_some_iff.1 hu).1
          omega
        rw [← Go.Deep.add_add, hat j hj, hu])
      refine ⟨xs, ⟨some a, cap, by rw [hx], by omega, rfl, by omega, fun _ => ⟨a, rfl, fun j p hj => ?_⟩⟩, by omega, fun x hxm => ?_⟩
      · obtain ⟨_, c, hcl, hK, hcell⟩ := hp j p hj
        exact ⟨c, hcl, hK, hcell⟩
      · obtain ⟨i, hi'⟩ := List.getElem?_of_mem hxm
        exact (hp i x hi').1⟩

/-- The fields of a struct from the cell off on. -/
def RdF (P : Program) {α : Type} (d : Kd α) (fs : List Field) (off : Nat) (ok : α → Prop) : Prop :=
  ∀ (H : Type) (enc : TypeId × Value → H) (w : World) (base : Nat) (spare : Nat → Bool) (held : Bool) (fuel : Nat) (cs : List Value), off + d.sz ≤ cs.length →
    (∀ f, f ∈ fs → ∃ y, DataW.trod enc P w base spare held fuel f.type ((cs.drop f.offset).take (P.cellsOf f.type)) = some y) → ∃ x, d.K w x ((cs.drop off).take d.sz) ∧ ok x

theorem rdf_one {P : Program} {α : Type} {d : Kd α} {f : Field} {off : Nat} {ok : α → Prop} (h : Rd P d f.type ok) (ho : f.offset = off) : RdF P d [f] off ok := by
  intro H enc w base spare held fuel cs _ hf
  obtain ⟨y, hy⟩ := hf f (by simp)
  rw [ho, h.1] at hy
  exact h.2 _ _ _ _ _ _ _ _ _ hy

theorem rdf_cons {P : Program} {α β : Type} {d0 : Kd α} {d : Kd β} {f : Field} {fs : List Field} {off : Nat} {ok0 : α → Prop} {ok : β → Prop} (h0 : Rd P d0 f.type ok0) (ho : f.offset = off) (h : RdF P d fs (off + d0.sz) ok) :
    RdF P (Kd.pair d0 d) (f :: fs) off (fun x => ok0 x.1 ∧ ok x.2) := by
  intro H enc w base spare held fuel cs hl hf
  obtain ⟨y, hy⟩ := hf f (by simp)
  rw [ho, h0.1] at hy
  obtain ⟨x, hx, hxo⟩ := h0.2 _ _ _ _ _ _ _ _ _ hy
  have hl' : off + (d0.sz + d.sz) ≤ cs.length := hl
  obtain ⟨z, hz, hzo⟩ := h H enc w base spare held fuel cs (by omega) (fun g hg => hf g (by simp [hg]))
  refine ⟨(x, z), ⟨_, _, ?_, hx, hz⟩, hxo, hzo⟩
  show (cs.drop off).take (d0.sz + d.sz) = _
  rw [List.take_add, List.drop_drop]

theorem rd_struct {P : Program} {α : Type} {d : Kd α} {t : TypeId} {fs : Array Field} {ok : α → Prop} (ht : P.underlying t = some (.struct fs)) (hc : P.cellsOf t = d.sz) (h : RdF P d fs.toList 0 ok) : Rd P d t ok :=
  ⟨hc, fun H enc w base spare held fuel cs y hy => by
    obtain ⟨xs, n, _, _, hl, hxl, hat⟩ := DataW.trod_struct ht hy
    obtain ⟨x, hK, hok⟩ := h H enc w base spare held n cs (by omega) (fun f hf => by
      obtain ⟨i, hi⟩ := List.getElem?_of_mem hf
      have hi' : fs[i]? = some f := by simpa using hi
      have hlt : i < fs.size := (Array.getElem?_eq_some_iff.1 hi').1
      refine ⟨xs[i]'(by omega), ?_⟩
      rw [hat i f hi', List.getElem?_eq_getElem (by omega)])
    refine ⟨x, ?_, hok⟩
    rw [List.drop_zero, List.take_of_length_le (by omega)] at hK
    exact hK⟩

/-- An argument: its value's cells. -/
theorem rd_arg {P : Program} {α : Type} {d : Kd α} {t : TypeId} {ok : α → Prop} (h : Rd P d t ok) {H : Type} {enc : TypeId × Value → H} {w : World} {base : Nat} {spare : Nat → Bool} {held : Bool} {v : Value} {y : DataW H} {p : List MemPlace}
    (hd : DataW.Trod enc P w base spare held t v y p) : ∃ x, d.K w x v.cells.toList ∧ ok x := by
  obtain ⟨fuel, hf⟩ := hd
  exact h.2 _ _ _ _ _ _ _ _ _ hf
end Go.Proofs.Ytgfoifkkffffgab.Rdr
