-- Laid by a turned copy of the printer (wip/tools/patch_print.py)
import Derived.Test.YtgfoifkkffffgabPFnExactAddEventx0
import Derived.Test.YtgfoifkkffffgabPFnExactAddEventx10
namespace Go.Proofs.Ytgfoifkkffffgab.PFnExactAddEvent
open Go.RowKit Go.Proofs.YtgfoifkkffffgabW.PrintWords Go.Proofs.YtgfoifkkffffgabW.PrintLast Go.Proofs.YtgfoifkkffffgabW.PrintMore
attribute [local go_sem] max2_int min2_int max_two min_two max_three min_three max_four min_four   -- for this text's walks alone
set_option linter.unusedVariables false
set_option linter.unusedSimpArgs false

/-! ### laws_markEntryS: function 67 -/
def laws_markEntryS.f (k : Nat) : List S55 → Int → Option (Int × List S55)
 | [], m => some (m, [])
 | x :: t, m => (laws_markByteS.f k x.f1.f2 (wrap64 (wrap64 (wrap64 (m + 1) + 1) + 1))).bind fun b => (laws_markEntryS.f k t b.1).bind fun q => some (q.1, (⟨m, (⟨wrap64 (m + 1), wrap64 (wrap64 (m + 1) + 1), b.2⟩ : S38)⟩ : S55) :: q.2)
theorem laws_markEntryS.mono : ∀ l m k, LeO (laws_markEntryS.f k l m) (laws_markEntryS.f (k + 1) l m)
 | [], m, k => LeO.refl _
 | x :: t, m, k => by
  unfold laws_markEntryS.f
  exact LeO.bind (laws_markByteS.mono _ _ _) (fun b => LeO.bind (laws_markEntryS.mono t b.1 k) (fun q => LeO.refl _))
theorem laws_markEntryS.room {w : World} {base e size n : Nat} {v : Value} {xs : List Value} (h : w.ownsRow base e size v n xs) : n ≤ 9223372036854775807 := by
 rcases h.2 with ⟨_, h0⟩ | ⟨_, cap, _, _, _, _, h1, h2, _⟩
 ·
  omega
 simp only [maxLen] at h2; omega
theorem laws_markEntryS.at_mid {α : Type} (d : List α) (x z : α) (t : List α) : (d ++ x :: t).getD d.length z = x := by simp
theorem laws_markEntryS.set_mid {α : Type} (d : List α) (x y : α) (t : List α) : (d ++ x :: t).set d.length y = (d ++ [y]) ++ t := by simp
set_option maxHeartbeats 8000000 in
set_option maxRecDepth 100000 in
theorem laws_markEntryS.calls0 (k : Nat) (P : Nat → Prop) (v : Value) (l0 : List S55) (a1 r1 : Int) (r2 : List S55) (w0 w : World) (hB : Below w0.heap.size w0 w) (ho : Kd.S k55 55 w w0.heap.size P v l0) (h : laws_markEntryS.f k l0 a1 = some (r1, r2)) :
  Calls Try.prog 67 #[v, .int .i64 a1] w fun e w' => e = .returned (.int .i64 r1) ∧ Kd.S k55 55 w' w0.heap.size P v r2 ∧ Below w0.heap.size w0 w' ∧ Kept w w' P := by
 have hu51 := Try.underlying55
 have hu49 := Try.underlying38
 obtain ⟨A0, c0, rfl⟩ := Kd.S_slice ho
 have hc0 : l0.length ≤ c0 := (Kd.S_reads' ho).2.1
 have hlen : l0.length ≤ 9223372036854775807 := by
  obtain ⟨inner, hown⟩ := Kd.S_own ho
  exact laws_markEntryS.room hown
 have HLB := Aside0.mk hlen
 have HO := Aside0.mk ho
 have HB := Aside0.mk hB
 have HH := Aside0.mk h
 clear ho hB h hc0 hlen
 go_enter Try.func67, Try.ntmps67
 go_wp2
 go_loopg [1, 5] l0.length (fun kq v1 v5 w' => ∃ (m : Int) (d t t' : List S55), v1 = .int .i64 m ∧ v5 = .int .i64 (d.length : Int) ∧ Aside0 (t.length = kq) ∧ Aside0 (d.length + t.length = l0.length) ∧ Aside0 (laws_markEntryS.f k t m = some (r1, t')) ∧ Aside0 (r2 = d ++ t') ∧ Aside0 (Kd.S k55 55 w' w0.heap.size P (.slice A0 l0.length c0) (d ++ t)) ∧ Aside0 (Below w0.heap.size w0 w') ∧ Aside0 (Kept w w' P))
 case atStart => exact ⟨a1, [], l0, r2, rfl, rfl, ⟨rfl⟩, ⟨by simp⟩, HH, ⟨rfl⟩, HO, HB, ⟨Kept.refl _ _⟩⟩
 case round =>
  obtain ⟨m, d, t, t', rfl, rfl, HT, HDT, HF, HR2, HS, HB2, HK⟩ := hrel
  clear HO HB HH
  cases t with
  | nil =>
   have c4b0 : (d.length < l0.length) = False := eq_false (by have := HDT.out; simp at this; omega)
   have HF2 : Aside0 (m = r1 ∧ [] = t') := ⟨by have := HF.out; unfold laws_markEntryS.f at this; simpa using this⟩
   obtain ⟨rfl, rfl⟩ := HF2.out
   clear HF HF2
   go_wp2
   go_ret
   exact ⟨rfl, by rw [HR2.out]; exact HS.out, HB2.out, HK.out⟩
  | cons x t2 =>
   have HF1 := HF.out
   unfold laws_markEntryS.f at HF1
   obtain ⟨b, hb1, HF1⟩ := Option.bind_eq_some_iff.mp HF1
   obtain ⟨q, hq1, HF1⟩ := Option.bind_eq_some_iff.mp HF1
   obtain ⟨e1, e2⟩ := Prod.mk.inj (Option.some.inj HF1)
   obtain ⟨b1, b2⟩ := b
   obtain ⟨q1, q2⟩ := q
   simp only at e1 e2 hb1 hq1
   subst e1
   have A1 := Aside0.mk hb1
   have A2 := Aside0.mk hq1
   have A3 := Aside0.mk e2
   clear hb1 hq1 e2 HF1 HF
   have hlt : (d.length : Int) < (l0.length : Int) := by have := HDT.out; simp at this; omega
   have c4b0 : (d.length < l0.length) = True := eq_true (by omega)
   have hform : ∃ g, A0 = some ⟨g, 0, none⟩ ∧ w0.heap.size ≤ g := by
    obtain ⟨g, cap, he, hg, _⟩ := Kd.S_form HS.out (by simp; omega)
    injection he with e1 _ _
    exact ⟨g, e1, hg⟩
   obtain ⟨g, rfl, hg⟩ := hform
   have GEg := Aside0.mk hg
   have HLT := Aside0.mk hlt
   clear hg hlt
   have p4 : (0 ≤ (d.length : Int)) = True := eq_true (by omega)
   have q4 : ((d.length : Int) < (l0.length : Int)) = True := eq_true HLT.out
   obtain ⟨oki, c, hcl, hM, hcc, hfr, hoki, hH⟩ := Kd.S_elem HS.out z55 (d.length : Int) (by omega) HLT.out
   simp only [Int.toNat_natCast] at hM hcc hfr hH
   rw [laws_markEntryS.at_mid] at hM
   obtain ⟨v3, rfl, g3⟩ := k55_openM hM
   obtain ⟨A3_, c3_, rfl⟩ := Kd.R_slice g3
   have hx0 : wr.cell? ⟨g, d.length * 4, none⟩ = some (.int .i64 x.f0) := hcc 0 _ rfl
   have hx1 : wr.cell? ⟨g, d.length * 4 + 1, none⟩ = some (.int .i64 x.f1.f0) := hcc 1 _ rfl
   have hx2 : wr.cell? ⟨g, d.length * 4 + 2, none⟩ = some (.int .i64 x.f1.f1) := hcc 2 _ rfl
   have hx3 : wr.cell? ⟨g, d.length * 4 + 3, none⟩ = some (.slice A3_ x.f1.f2.length c3_) := hcc 3 _ rfl
   have hf0 : wr.frozen? ⟨g, d.length * 4, none⟩ = false := hfr 0
   have hf1 : wr.frozen? ⟨g, d.length * 4 + 1, none⟩ = false := hfr 1
   have hf2 : wr.frozen? ⟨g, d.length * 4 + 2, none⟩ = false := hfr 2
   have HG3 := Aside0.mk g3
   have HHH := Aside0.mk hH
   have HOK := Aside0.mk hoki
   clear g3 hH hoki hM hcc hfr hcl
   have hPg : P g := (Kd.S_R HS.out).1 g rfl
   have HPG := Aside0.mk hPg
   clear hPg
   have hw : wrap64 ((d.length : Int) + 1) = (d.length : Int) + 1 := by have := HLB.out; have := HLT.out; unfold wrap64; omega
   have HW := Aside0.mk hw
   clear hw
   go_wp2_with (first | ((with_reducible refine gate_callee (f := 68) rfl ?_); refine goA (some 42) rfl rfl Try.func68 rfl #[.slice A3_ x.f1.f2.length c3_, .int .i64 (wrap64 (wrap64 (wrap64 (m + 1) + 1) + 1))] rfl ?_; (refine (laws_markByteS.calls k oki _ x.f1.f2 _ b1 b2 w0 _ ?side1 ?side2 A1.out).mono ?_); (case side1 => exact (by repeat (first | exact HB2.out | refine below_set ?_ GEg.out))); (case side2 => exact Kd.R_far (Kd.R_far (Kd.R_far HG3.out (fun k hk => (HOK.out k hk).2) _) (fun k hk => (HOK.out k hk).2) _) (fun k hk => (HOK.out k hk).2) _); rintro e w5 ⟨rfl, ho5, hb5, hk5⟩; refine ⟨_, rfl, ?_⟩; have HO5 := Aside0.mk ho5; have HB5 := Aside0.mk hb5; have HK5 := Aside0.mk hk5; clear ho5 hb5 hk5))
   have hS5 : Kd.S k55 55 w5 w0.heap.size P (.slice (some ⟨g, 0, none⟩) l0.length c0) ((d ++ [(⟨m, ⟨wrap64 (m + 1), wrap64 (wrap64 (m + 1) + 1), b2⟩⟩ : S55)]) ++ t2) := by
    have h3 := (Kd.H_seg HHH.out (by omega) HLT.out (seg := [.int .i64 m, .int .i64 (wrap64 (m + 1)), .int .i64 (wrap64 (wrap64 (m + 1) + 1))]) (j := 0) (show 0 + 3 ≤ 4 by decide) (fun q hq => by simp only [List.mem_cons, List.not_mem_nil, or_false] at hq; rcases hq with rfl | rfl | rfl <;> rfl)).1
    have h5 := Kd.H_kept h3 HK5.out (fun _ _ h _ => h (by assumption))
    have hR : Kd.R (Kd.int .u8) 5 w5 w0.heap.size oki (.slice A3_ x.f1.f2.length c3_) b2 := Kd.R_mono (Kd.R_tight rfl HO5.out) (fun k hk => HG3.out.1 k hk.symm)
    have h6 := Kd.H_back h5 (x' := (⟨m, ⟨wrap64 (m + 1), wrap64 (wrap64 (m + 1) + 1), b2⟩⟩ : S55)) (k55_mkM _ _ _ _ hR) (fun _ h => h)
    rw [← laws_markEntryS.set_mid d x]
    exact h6
   have HS5 := Aside0.mk hS5
   have HKP := am (Kept.then_ (Kept.setCell (Kept.setCell (Kept.setCell HK.out (p := ⟨g, d.length * 4, none⟩) (.inl HPG.out) (.int .i64 m)) (p := ⟨g, d.length * 4 + 1, none⟩) (.inl HPG.out) (.int .i64 (wrap64 (m + 1)))) (p := ⟨g, d.length * 4 + 1 + 1, none⟩) (.inl HPG.out) (.int .i64 (wrap64 (wrap64 (m + 1) + 1)))) HK5.out (fun k hk => .inl (HOK.out k hk).1))
   clear hS5
   go_roundg (gk - 1)
   case measure => have := HT.out; simp at this; omega
   case rel => exact ⟨b1, d ++ [(⟨m, ⟨wrap64 (m + 1), wrap64 (wrap64 (m + 1) + 1), b2⟩⟩ : S55)], t2, q2, rfl, by rw [HW.out]; simp, ⟨by have := HT.out; simp at this; omega⟩, ⟨by have := HDT.out; simp at this ⊢; omega⟩, A2, ⟨by rw [HR2.out, ← A3.out]; simp⟩, HS5, HB5, HKP⟩
theorem laws_markEntryS.calls (k : Nat) (P0_ : Nat → Prop) (u9000_ : Value) (l0 : List (S55)) (a1 : Int) (r1 : Int) (r2 : List (S55)) (w0 w : World) (hB : Below w0.heap.size w0 w) (ho0 : Kd.S k55 55 w w0.heap.size P0_ u9000_ l0) (h : laws_markEntryS.f k l0 a1 = some (r1, r2)) :
 Calls Try.prog 67 #[u9000_, .int .i64 a1] w fun e w' => e = .returned (.int .i64 r1) ∧ Kd.S k55 55 w' w0.heap.size (fun k_ => (P0_ k_ ∨ w.heap.size ≤ k_)) u9000_ r2 ∧ Below w0.heap.size w0 w' ∧ Kept w w' (fun k_ => P0_ k_) := by
 refine (laws_markEntryS.calls0 k P0_ u9000_ l0 a1 r1 r2 w0 w hB ho0 h).mono ?_
 rintro e w' ⟨h1, h2, h3, h4⟩
 exact ⟨h1, Kd.S_mono h2 (fun _ hk => .inl hk), h3, h4⟩

-- NOT PRINTED: function 18 (laws_markNode)

/-! ### laws_markEvent: function 19 -/
def laws_markEvent.f (k : Nat) (a0_0 : Int) (a0_1 : Int) (l0_2 : List Int) (a1 : Int) : Option (Int × List Int) := (laws_markByteS.f k l0_2 a1).bind fun bt390 => (some (bt390.1, bt390.2))
theorem laws_markEvent.mono : ∀ a0 a1 a2 a3 k, LeO (laws_markEvent.f k a0 a1 a2 a3) (laws_markEvent.f (k + 1) a0 a1 a2 a3) := by
 intro a0 a1 a2 a3 k
 unfold laws_markEvent.f
 repeat' first
   | (with_reducible exact laws_markByteS.mono _ _ _)
   | (with_reducible exact LeO.refl _)
   | (with_reducible exact LeO.none _)
   | (with_reducible refine LeO.ite ?_ ?_)
   | (with_reducible refine LeO.bind ?_ (fun _ => ?_))
   | exact laws_markByteS.mono _ _ _
   | exact LeO.none _
   | refine LeO.ite ?_ ?_
   | refine LeO.bind ?_ (fun _ => ?_)
set_option maxHeartbeats 8000000 in
set_option maxRecDepth 100000 in
theorem laws_markEvent.calls (k : Nat) (a0_0 : Int) (a0_1 : Int) (P0_2_ : Nat → Prop) (u9000_ : Value) (l0_2 : List Int) (a1 : Int) (r1 : Int) (r2 : List Int) (w0 w : World) (hB : Below w0.heap.size w0 w) (ho0_2 : Kd.R (Kd.int .u8) 5 w w0.heap.size P0_2_ u9000_ l0_2) (h : laws_markEvent.f k a0_0 a0_1 l0_2 a1 = some (r1, r2)) :
  Calls Try.prog 19 #[.agg #[.int .i64 a0_0, .int .i64 a0_1, u9000_], .int .i64 a1] w fun e w' => e = .returned (.int .i64 r1) ∧ Kd.R (Kd.int .u8) 5 w' w0.heap.size (fun k_ => (P0_2_ k_ ∨ w.heap.size ≤ k_)) u9000_ r2 ∧ Below w0.heap.size w0 w' ∧ Kept w w' (fun k_ => P0_2_ k_) := by
 have hu38 := Try.underlying38
 have HO0_2 := am (show Kd.R (Kd.int .u8) 5 w w0.heap.size (fun k_ => (P0_2_ k_ ∨ w.heap.size ≤ k_)) u9000_ l0_2 from Kd.R_mono ho0_2 (fun k_ hk => (.inl hk)))
 have HK := am (Kept.refl w (fun k_ => P0_2_ k_))
 have HW0 := Aside0.mk hB.size
 have HB := Aside0.mk hB
 clear hB
 have H : ((laws_markByteS.f k l0_2 a1).bind fun bt390 => (some (bt390.1, bt390.2))) = some (r1, r2) := h
 clear h
 replace H := Option.bind_eq_some_iff.mp H
 obtain ⟨⟨t390, t391⟩, A30, H⟩ := H
 replace H : (some (t390, t391)) = some (r1, r2) := H
 have A3 := Aside0.mk A30
 clear A30
 simp only [Option.some.injEq, Prod.mk.injEq] at H
 obtain ⟨rfl, rfl⟩ := H
 obtain ⟨Ao4, co4, eo4⟩ := Kd.R_slice HO0_2.out
 subst eo4
 go_enter Try.func19, Try.ntmps19
 go_wp2_with (first | ((with_reducible refine gate_dst (N := 2) rfl ?_); refine boxE #[.int .i64 a0_0, .int .i64 a0_1, .slice Ao4 l0_2.length co4] 38 (N := 2) rfl rfl ?_; intro gb389 hg w5 hbox hb; replace HO0_2 := am (Kd.R_below (mR HO0_2) hb); have BK389 := Aside0.mk hbox; have GW389 := am ((by rw [hg]; exact (by first | exact HK.out.1 | exact (show Kept w _ (fun k_ => P0_2_ k_) from by repeat (first | (with_reducible first | exact HK.out | apply Kept.alloc | apply Kept.drewN | apply Kept.drew) | exact HK.out)).1) : w.heap.size ≤ gb389)); replace HK := am (Kept.below (S := (fun k_ => P0_2_ k_)) (by repeat (first | (with_reducible first | exact HK.out | apply Kept.alloc | apply Kept.drewN | apply Kept.drew) | exact HK.out)) hb); have GE389 := gZ HB hg; replace HB := bS HB hb; clear hb hbox hg; have hz6 := cl3 BK389) | ((with_reducible refine gate_callee (f := 68) rfl ?_); refine goA (some 8) rfl rfl Try.func68 rfl #[.slice Ao4 l0_2.length co4, .int .i64 a1] rfl ?_; (with_reducible refine (laws_markByteS.calls k (fun k_ => some k_ = (.slice Ao4 l0_2.length co4 : Value).ownBlock) (.slice Ao4 l0_2.length co4) l0_2 a1 t390 t391 w0 _ ?side1 ?side2 A3.out).mono ?_); (case side1 => exact bel HB); (case side2 => exact Kd.R_tight rfl HO0_2.out); rintro e w7 ⟨rfl, hy0, hb, hkp⟩; refine ⟨_, rfl, ?_⟩; replace BK389 := am (blk_kept (mB BK389) hkp (fun hs_ => (fun e_ => (Kd.R_ne HO0_2.out BK389.out (by decide)) e_) hs_)); replace HK := am (Kept.then_ (S := (fun k_ => P0_2_ k_)) (by repeat (first | (with_reducible first | exact HK.out | apply Kept.alloc | apply Kept.drewN | apply Kept.drew | refine Kept.setCell ?_ (.inr GW389.out) _) | exact HK.out)) hkp (fun k_ hs_ => (fun e_ => (HO0_2.out.1 k_ e_.symm)) hs_)); replace HO0_2 := am (Kd.R_reok rfl hy0 (fun k_ e_ => HO0_2.out.1 k_ e_)); replace HB := Aside0.mk hb; (try clear hb); (try clear hkp); (try clear hy0)))
 go_ret
 exact ⟨by first | rfl | (simp [errW_none, errW_some] <;> rfl) | (simp [*, errW_none, errW_some] <;> rfl), by (with_reducible repeat (first | apply Kd.R_alloc | apply Kd.R_drewN | apply Kd.R_drew)); exact HO0_2.out, bel HB, by repeat (first | (with_reducible first | exact HK.out | apply Kept.alloc | apply Kept.drewN | apply Kept.drew | refine Kept.setCell ?_ (.inr GW389.out) _) | exact HK.out)⟩

/-! ### laws_markMailS: function 69 -/
def laws_markMailS.f (k : Nat) : List S57 → Int → Option (Int × List S57)
 | [], m => some (m, [])
 | _ :: _, _ => none
theorem laws_markMailS.mono : ∀ l m k, LeO (laws_markMailS.f k l m) (laws_markMailS.f (k + 1) l m)
 | [], m, k => LeO.refl _
 | x :: t, m, k => LeO.refl _
set_option maxHeartbeats 8000000 in
set_option maxRecDepth 100000 in
theorem laws_markMailS.calls (k : Nat) (P0_ : Nat → Prop) (u9000_ : Value) (l0 : List (S57)) (a1 : Int) (r1 : Int) (r2 : List (S57)) (w0 w : World) (hB : Below w0.heap.size w0 w) (ho0 : Kd.S k57 57 w w0.heap.size P0_ u9000_ l0) (h : laws_markMailS.f k l0 a1 = some (r1, r2)) :
 Calls Try.prog 69 #[u9000_, .int .i64 a1] w fun e w' => e = .returned (.int .i64 r1) ∧ Kd.S k57 57 w' w0.heap.size (fun k_ => (P0_ k_ ∨ w.heap.size ≤ k_)) u9000_ r2 ∧ Below w0.heap.size w0 w' ∧ Kept w w' (fun k_ => P0_ k_) := by
 have hl : l0 = [] ∧ a1 = r1 ∧ [] = r2 := by
  cases l0 with
  | nil => unfold laws_markMailS.f at h; injection h with h; injection h with h1 h2; exact ⟨rfl, h1, h2⟩
  | cons x t => cases h
 obtain ⟨rfl, rfl, rfl⟩ := hl
 obtain ⟨A0, c0, rfl⟩ := Kd.S_slice ho0
 have HO := Aside0.mk ho0
 have HB := Aside0.mk hB
 clear ho0 hB h
 go_enter Try.func69, Try.ntmps69
 go_wp2
 go_loopg [1, 5] 0 (fun kq v1 v5 w' => v1 = .int .i64 a1 ∧ v5 = .int .i64 0 ∧ w' = w)
 case atStart => exact ⟨rfl, rfl, rfl⟩
 case round =>
  obtain ⟨rfl, rfl, rfl⟩ := hrel
  go_wp2
  go_ret
  exact ⟨rfl, Kd.S_mono HO.out (fun _ hk => .inl hk), HB.out, Kept.refl _ _⟩

-- NOT PRINTED: function 20 (laws_markNodeResult)

/-! ### laws_heldByteS: function 117 -/
def laws_heldByteS.l0 : Nat → List Int → Int → Int → Option (Int)
 | 0, _, _, _ => none
 | k + 1, x0, x1, x5 => if x5 < (x0.length : Int) then (if 0 ≤ x5 then (if (rd x0 x5) = ((x1) % 256) then (laws_heldByteS.l0 k x0 (wrap64 (x1 + 1)) (wrap64 (x5 + 1))) else (some (-1))) else (none)) else (some x1)
def laws_heldByteS.f (k : Nat) (l0 : List Int) (a1 : Int) : Option (Int) := laws_heldByteS.l0 k l0 a1 0
theorem laws_heldByteS.mono_l : ∀ k, (∀ y0 y1 y2, LeO (laws_heldByteS.l0 k y0 y1 y2) (laws_heldByteS.l0 (k + 1) y0 y1 y2))
 | 0 => fun _ _ _ r h => by simp [laws_heldByteS.l0] at h
 | k + 1 => by
  have ih0 := laws_heldByteS.mono_l k
  intro y0 y1 y2
  unfold laws_heldByteS.l0
  repeat' first
  | (with_reducible exact ih0 _ _ _)
  | (with_reducible exact LeO.refl _)
  | (with_reducible exact LeO.none _)
  | (with_reducible refine LeO.ite ?_ ?_)
  | (with_reducible refine LeO.bind ?_ (fun _ => ?_))
  | exact ih0 _ _ _
  | exact LeO.none _
  | refine LeO.ite ?_ ?_
  | refine LeO.bind ?_ (fun _ => ?_)
theorem laws_heldByteS.mono : ∀ a0 a1 k, LeO (laws_heldByteS.f k a0 a1) (laws_heldByteS.f (k + 1) a0 a1) := by
 intro a0 a1 k
 have ih0 := laws_heldByteS.mono_l k
 unfold laws_heldByteS.f
 repeat' first
   | (with_reducible exact ih0 _ _ _)
   | (with_reducible exact LeO.refl _)
   | (with_reducible exact LeO.none _)
   | (with_reducible refine LeO.ite ?_ ?_)
   | (with_reducible refine LeO.bind ?_ (fun _ => ?_))
   | exact ih0 _ _ _
   | exact LeO.none _
   | refine LeO.ite ?_ ?_
   | refine LeO.bind ?_ (fun _ => ?_)
set_option maxHeartbeats 8000000 in
set_option maxRecDepth 100000 in
theorem laws_heldByteS.calls (k : Nat) (A0 : Option Addr) (c0 : Nat) (l0 : List Int) (a1 : Int) (r : Int) (w : World) (hr0 : Kd.C (Kd.int .u8) w A0 l0.length l0) (hc0 : l0.length ≤ c0) (h : laws_heldByteS.f k l0 a1 = some r) :
  Calls Try.prog 117 #[.slice A0 l0.length c0, .int .i64 a1] w fun e w' => e = .returned (.int .i64 r) ∧ Drawn0 w w' := by
 have HR0 := Aside0.mk hr0
 have HC0 := Aside0.mk hc0
 clear hr0 hc0
 have H : (laws_heldByteS.l0 k l0 a1 0) = some r := h
 clear h
 have H' := Aside0.mk H
 clear H
 go_enter Try.func117, Try.ntmps117
 go_wp2
 go_loopg [1, 5] k (fun kq v1 v5 w' => ∃ (x1_1 : Int) (x5_1 : Int), v1 = .int .i64 x1_1 ∧ v5 = .int .i64 x5_1 ∧ Aside0 (laws_heldByteS.l0 kq l0 x1_1 x5_1 = some r) ∧ Aside0 (kq ≤ k) ∧ Drawn0 w w')
 case atStart => exact ⟨(a1), (0), (by first | rfl | (simp; done) | (simp [*]; done)), (by first | rfl | (simp; done) | (simp [*]; done)), H', ⟨Nat.le_refl _⟩, drw⟩
 case round =>
  clear H'
  try clear c1
  try clear p2
  obtain ⟨x1_1, x5_1, rfl, rfl, HA, HK1, ⟨m1, rfl⟩⟩ := hrel
  cases gk with
  | zero => exact absurd HA.out (by simp [laws_heldByteS.l0])
  | succ k1 =>
   have H := HA.out
   clear HA
   simp only [laws_heldByteS.l0] at H
   by_cases c3 : x5_1 < (l0.length : Int)
   ·
    rw [if_pos c3] at H
    have c3b0 : decide (x5_1 < (l0.length : Int)) = true := decide_eq_true c3
    clear c3
    by_cases c4 : 0 ≤ x5_1
    ·
     rw [if_pos c4] at H
     have c4b0 : decide (0 ≤ x5_1) = true := decide_eq_true c4
     clear c4
     by_cases c5 : (rd l0 x5_1) = ((x1_1) % 256)
     ·
      rw [if_pos c5] at H
      have c5b0 : ((rd l0 x5_1) == ((x1_1) % 256)) = true := beq_iff_eq.mpr c5
      have c5b1 : ((rd l0 x5_1) != ((x1_1) % 256)) = false := bne_eq_false_iff_eq.mpr c5
      clear c5
      have H' := Aside0.mk H
      clear H
      have p393 : 0 ≤ (x5_1 : Int) := of_decide_eq_true (by first | (with_reducible assumption) | assumption)
      have q393 : x5_1 < (l0.length : Int) := of_decide_eq_true (by first | (with_reducible assumption) | assumption)
      obtain ⟨ad393, e393, hx393_0⟩ := Kd.at_int HR0.out x5_1 p393 q393
      cases e393
      replace p393 := eq_true p393
      replace q393 := eq_true q393
      go_wp2
      go_roundg k1
      case measure => have := HK1.out; omega
      case rel => exact ⟨(wrap64 (x1_1 + 1)), (wrap64 (x5_1 + 1)), (by first | rfl | (simp; done) | (simp [*]; done)), (by first | rfl | (simp; done) | (simp [*]; done)), H', ⟨by have := HK1.out; omega⟩, drw⟩
     rw [if_neg c5] at H
     have c5b0 : ((rd l0 x5_1) == ((x1_1) % 256)) = false := beq_eq_false_iff_ne.mpr c5
     have c5b1 : ((rd l0 x5_1) != ((x1_1) % 256)) = true := bne_iff_ne.mpr c5
     obtain rfl := Option.some.inj H
     have p393 : 0 ≤ (x5_1 : Int) := of_decide_eq_true (by first | (with_reducible assumption) | assumption)
     have q393 : x5_1 < (l0.length : Int) := of_decide_eq_true (by first | (with_reducible assumption) | assumption)
     obtain ⟨ad393, e393, hx393_0⟩ := Kd.at_int HR0.out x5_1 p393 q393
     cases e393
     replace p393 := eq_true p393
     replace q393 := eq_true q393
     go_wp2
     go_ret
     exact ⟨by first | rfl | (simp; done) | (simp [*]; done), drw⟩
    rw [if_neg c4] at H
    exact absurd H (by simp)
   rw [if_neg c3] at H
   have c3b0 : decide (x5_1 < (l0.length : Int)) = false := decide_eq_false c3
   clear c3
   obtain rfl := Option.some.inj H
   go_wp2
   go_ret
   exact ⟨by first | rfl | (simp; done) | (simp [*]; done), drw⟩

/-! ### laws_heldEntryS: function 116 -/
def laws_heldEntryS.l0 : Nat → List (S55) → Int → Int → Option (Int)
 | 0, _, _, _ => none
 | k + 1, x0, x1, x5 => if x5 < (x0.length : Int) then (if 0 ≤ x5 then (if ((rd_T55 x0 x5).f0) = x1 then (if ((rd_T55 x0 x5).f1.f0) = (wrap64 (x1 + 1)) then (if ((rd_T55 x0 x5).f1.f1) = (wrap64 ((wrap64 (x1 + 1)) + 1)) then ((laws_heldByteS.f k ((rd_T55 x0 x5).f1.f2) (wrap64 ((wrap64 ((wrap64 (x1 + 1)) + 1)) + 1))).bind fun t398 => (if t398 < 0 then (some (-1)) else (laws_heldEntryS.l0 k x0 t398 (wrap64 (x5 + 1))))) else (some (-1))) else (some (-1))) else (some (-1))) else (none)) else (some x1)
def laws_heldEntryS.f (k : Nat) (l0 : List (S55)) (a1 : Int) : Option (Int) := laws_heldEntryS.l0 k l0 a1 0
theorem laws_heldEntryS.mono_l : ∀ k, (∀ y0 y1 y2, LeO (laws_heldEntryS.l0 k y0 y1 y2) (laws_heldEntryS.l0 (k + 1) y0 y1 y2))
 | 0 => fun _ _ _ r h => by simp [laws_heldEntryS.l0] at h
 | k + 1 => by
  have ih0 := laws_heldEntryS.mono_l k
  intro y0 y1 y2
  unfold laws_heldEntryS.l0
  repeat' first
  | (with_reducible exact ih0 _ _ _)
  | (with_reducible exact laws_heldByteS.mono _ _ _)
  | (with_reducible exact LeO.refl _)
  | (with_reducible exact LeO.none _)
  | (with_reducible refine LeO.ite ?_ ?_)
  | (with_reducible refine LeO.bind ?_ (fun _ => ?_))
  | exact ih0 _ _ _
  | exact laws_heldByteS.mono _ _ _
  | exact LeO.none _
  | refine LeO.ite ?_ ?_
  | refine LeO.bind ?_ (fun _ => ?_)
theorem laws_heldEntryS.mono : ∀ a0 a1 k, LeO (laws_heldEntryS.f k a0 a1) (laws_heldEntryS.f (k + 1) a0 a1) := by
 intro a0 a1 k
 have ih0 := laws_heldEntryS.mono_l k
 unfold laws_heldEntryS.f
 repeat' first
   | (with_reducible exact ih0 _ _ _)
   | (with_reducible exact laws_heldByteS.mono _ _ _)
   | (with_reducible exact LeO.refl _)
   | (with_reducible exact LeO.none _)
   | (with_reducible refine LeO.ite ?_ ?_)
   | (with_reducible refine LeO.bind ?_ (fun _ => ?_))
   | exact ih0 _ _ _
   | exact laws_heldByteS.mono _ _ _
   | exact LeO.none _
   | refine LeO.ite ?_ ?_
   | refine LeO.bind ?_ (fun _ => ?_)
set_option maxHeartbeats 8000000 in
set_option maxRecDepth 100000 in
theorem laws_heldEntryS.calls (k : Nat) (A0 : Option Addr) (c0 : Nat) (l0 : List (S55)) (a1 : Int) (r : Int) (w : World) (hr0 : Kd.C k55 w A0 l0.length l0) (hc0 : l0.length ≤ c0) (h : laws_heldEntryS.f k l0 a1 = some r) :
  Calls Try.prog 116 #[.slice A0 l0.length c0, .int .i64 a1] w fun e w' => e = .returned (.int .i64 r) ∧ Drawn0 w w' := by
 have HR0 := Aside0.mk hr0
 have HC0 := Aside0.mk hc0
 clear hr0 hc0
 have H : (laws_heldEntryS.l0 k l0 a1 0) = some r := h
 clear h
 have H' := Aside0.mk H
 clear H
 go_enter Try.func116, Try.ntmps116
 go_wp2
 go_loopg [1, 5] k (fun kq v1 v5 w' => ∃ (x1_1 : Int) (x5_1 : Int), v1 = .int .i64 x1_1 ∧ v5 = .int .i64 x5_1 ∧ Aside0 (laws_heldEntryS.l0 kq l0 x1_1 x5_1 = some r) ∧ Aside0 (kq ≤ k) ∧ Drawn0 w w')
 case atStart => exact ⟨(a1), (0), (by first | rfl | (simp; done) | (simp [*]; done)), (by first | rfl | (simp; done) | (simp [*]; done)), H', ⟨Nat.le_refl _⟩, drw⟩
 case round =>
  clear H'
  try clear c1
  try clear p2
  obtain ⟨x1_1, x5_1, rfl, rfl, HA, HK1, ⟨m1, rfl⟩⟩ := hrel
  cases gk with
  | zero => exact absurd HA.out (by simp [laws_heldEntryS.l0])
  | succ k1 =>
   have H := HA.out
   clear HA
   simp only [laws_heldEntryS.l0] at H
   by_cases c3 : x5_1 < (l0.length : Int)
   ·
    rw [if_pos c3] at H
    have c3b0 : decide (x5_1 < (l0.length : Int)) = true := decide_eq_true c3
    clear c3
    by_cases c4 : 0 ≤ x5_1
    ·
     rw [if_pos c4] at H
     have c4b0 : decide (0 ≤ x5_1) = true := decide_eq_true c4
     clear c4
     by_cases c5 : ((rd_T55 l0 x5_1).f0) = x1_1
     ·
      rw [if_pos c5] at H
      have c5b0 : (((rd_T55 l0 x5_1).f0) == x1_1) = true := beq_iff_eq.mpr c5
      have c5b1 : (((rd_T55 l0 x5_1).f0) != x1_1) = false := bne_eq_false_iff_eq.mpr c5
      clear c5
      by_cases c6 : ((rd_T55 l0 x5_1).f1.f0) = (wrap64 (x1_1 + 1))
      ·
       rw [if_pos c6] at H
       have c6b0 : (((rd_T55 l0 x5_1).f1.f0) == (wrap64 (x1_1 + 1))) = true := beq_iff_eq.mpr c6
       have c6b1 : (((rd_T55 l0 x5_1).f1.f0) != (wrap64 (x1_1 + 1))) = false := bne_eq_false_iff_eq.mpr c6
       clear c6
       by_cases c7 : ((rd_T55 l0 x5_1).f1.f1) = (wrap64 ((wrap64 (x1_1 + 1)) + 1))
       ·
        rw [if_pos c7] at H
        have c7b0 : (((rd_T55 l0 x5_1).f1.f1) == (wrap64 ((wrap64 (x1_1 + 1)) + 1))) = true := beq_iff_eq.mpr c7
        have c7b1 : (((rd_T55 l0 x5_1).f1.f1) != (wrap64 ((wrap64 (x1_1 + 1)) + 1))) = false := bne_eq_false_iff_eq.mpr c7
        clear c7
        replace H := Option.bind_eq_some_iff.mp H
        obtain ⟨t398, A80, H⟩ := H
        replace H : (if t398 < 0 then (some (-1)) else (laws_heldEntryS.l0 k1 l0 t398 (wrap64 (x5_1 + 1)))) = some r := H
        have A8 := Aside0.mk A80
        clear A80
        by_cases c9 : t398 < 0
        ·
         rw [if_pos c9] at H
         have c9b0 : decide (t398 < 0) = true := decide_eq_true c9
         clear c9
         obtain rfl := Option.some.inj H
         have p394 : 0 ≤ (x5_1 : Int) := of_decide_eq_true (by first | (with_reducible assumption) | assumption)
         have q394 : x5_1 < (l0.length : Int) := of_decide_eq_true (by first | (with_reducible assumption) | assumption)
         obtain ⟨ad394, A394_3, c394_3, e394, hx394_0, hx394_1, hx394_2, hx394_3, hl394_3, hi394_3⟩ := at_T55 HR0.out x5_1 p394 q394
         cases e394
         have HR394_3 := Aside0.mk hi394_3
         have HC394_3 := Aside0.mk hl394_3
         clear hi394_3 hl394_3
         replace p394 := eq_true p394
         replace q394 := eq_true q394
         have p395 : 0 ≤ (x5_1 : Int) := of_decide_eq_true (by first | (with_reducible assumption) | assumption)
         have q395 : x5_1 < (l0.length : Int) := of_decide_eq_true (by first | (with_reducible assumption) | assumption)
         obtain ⟨ad395, A395_3, c395_3, e395, hx395_0, hx395_1, hx395_2, hx395_3, hl395_3, hi395_3⟩ := at_T55 HR0.out x5_1 p395 q395
         obtain rfl : ad394 = ad395 := (by injection e395)
         have HR395_3 := Aside0.mk hi395_3
         have HC395_3 := Aside0.mk hl395_3
         clear hi395_3 hl395_3
         replace p395 := eq_true p395
         replace q395 := eq_true q395
         have ea_ := Option.some.inj (hx394_3.symm.trans hx395_3)
         injection ea_ with ea_ en_ ec_
         subst ea_
         subst ec_
         clear en_
         have p396 : 0 ≤ (x5_1 : Int) := of_decide_eq_true (by first | (with_reducible assumption) | assumption)
         have q396 : x5_1 < (l0.length : Int) := of_decide_eq_true (by first | (with_reducible assumption) | assumption)
         obtain ⟨ad396, A396_3, c396_3, e396, hx396_0, hx396_1, hx396_2, hx396_3, hl396_3, hi396_3⟩ := at_T55 HR0.out x5_1 p396 q396
         obtain rfl : ad394 = ad396 := (by injection e396)
         have HR396_3 := Aside0.mk hi396_3
         have HC396_3 := Aside0.mk hl396_3
         clear hi396_3 hl396_3
         replace p396 := eq_true p396
         replace q396 := eq_true q396
         have ea_ := Option.some.inj (hx394_3.symm.trans hx396_3)
         injection ea_ with ea_ en_ ec_
         subst ea_
         subst ec_
         clear en_
         have p397 : 0 ≤ (x5_1 : Int) := of_decide_eq_true (by first | (with_reducible assumption) | assumption)
         have q397 : x5_1 < (l0.length : Int) := of_decide_eq_true (by first | (with_reducible assumption) | assumption)
         obtain ⟨ad397, A397_3, c397_3, e397, hx397_0, hx397_1, hx397_2, hx397_3, hl397_3, hi397_3⟩ := at_T55 HR0.out x5_1 p397 q397
         obtain rfl : ad394 = ad397 := (by injection e397)
         have HR397_3 := Aside0.mk hi397_3
         have HC397_3 := Aside0.mk hl397_3
         clear hi397_3 hl397_3
         replace p397 := eq_true p397
         replace q397 := eq_true q397
         have ea_ := Option.some.inj (hx394_3.symm.trans hx397_3)
         injection ea_ with ea_ en_ ec_
         subst ea_
         subst ec_
         clear en_
         go_wp2_with (first | ((with_reducible refine gate_callee (f := 117) rfl ?_); refine goA (some 48) rfl rfl Try.func117 rfl #[.slice A394_3 ((rd_T55 l0 x5_1).f1.f2).length c394_3, .int .i64 (wrap64 ((wrap64 ((wrap64 (x1_1 + 1)) + 1)) + 1))] rfl ?_; (with_reducible refine (laws_heldByteS.calls k1 _ _ ((rd_T55 l0 x5_1).f1.f2) (wrap64 ((wrap64 ((wrap64 (x1_1 + 1)) + 1)) + 1)) t398 _ ?side1 ?side2 A8.out).mono ?_); (case side1 => repeat (first | exact HR397_3.out | (with_reducible refine Kd.C_alloc ?_ _) | (with_reducible refine Kd.C_drewN ?_ _) | (with_reducible refine Kd.C_drew ?_))); (case side2 => exact HC397_3.out); rintro e w' ⟨rfl, ⟨nd, rfl⟩⟩; refine ⟨_, rfl, ?_⟩))
         go_ret
         exact ⟨by first | rfl | (simp; done) | (simp [*]; done), drw⟩
        rw [if_neg c9] at H
        have c9b0 : decide (t398 < 0) = false := decide_eq_false c9
        clear c9
        have H' := Aside0.mk H
        clear H
        have p394 : 0 ≤ (x5_1 : Int) := of_decide_eq_true (by first | (with_reducible assumption) | assumption)
        have q394 : x5_1 < (l0.length : Int) := of_decide_eq_true (by first | (with_reducible assumption) | assumption)
        obtain ⟨ad394, A394_3, c394_3, e394, hx394_0, hx394_1, hx394_2, hx394_3, hl394_3, hi394_3⟩ := at_T55 HR0.out x5_1 p394 q394
        cases e394
        have HR394_3 := Aside0.mk hi394_3
        have HC394_3 := Aside0.mk hl394_3
        clear hi394_3 hl394_3
        replace p394 := eq_true p394
        replace q394 := eq_true q394
        have p395 : 0 ≤ (x5_1 : Int) := of_decide_eq_true (by first | (with_reducible assumption) | assumption)
        have q395 : x5_1 < (l0.length : Int) := of_decide_eq_true (by first | (with_reducible assumption) | assumption)
        obtain ⟨ad395, A395_3, c395_3, e395, hx395_0, hx395_1, hx395_2, hx395_3, hl395_3, hi395_3⟩ := at_T55 HR0.out x5_1 p395 q395
        obtain rfl : ad394 = ad395 := (by injection e395)
        have HR395_3 := Aside0.mk hi395_3
        have HC395_3 := Aside0.mk hl395_3
        clear hi395_3 hl395_3
        replace p395 := eq_true p395
        replace q395 := eq_true q395
        have ea_ := Option.some.inj (hx394_3.symm.trans hx395_3)
        injection ea_ with ea_ en_ ec_
        subst ea_
        subst ec_
        clear en_
        have p396 : 0 ≤ (x5_1 : Int) := of_decide_eq_true (by first | (with_reducible assumption) | assumption)
        have q396 : x5_1 < (l0.length : Int) := of_decide_eq_true (by first | (with_reducible assumption) | assumption)
        obtain ⟨ad396, A396_3, c396_3, e396, hx396_0, hx396_1, hx396_2, hx396_3, hl396_3, hi396_3⟩ := at_T55 HR0.out x5_1 p396 q396
        obtain rfl : ad394 = ad396 := (by injection e396)
        have HR396_3 := Aside0.mk hi396_3
        have HC396_3 := Aside0.mk hl396_3
        clear hi396_3 hl396_3
        replace p396 := eq_true p396
        replace q396 := eq_true q396
        have ea_ := Option.some.inj (hx394_3.symm.trans hx396_3)
        injection ea_ with ea_ en_ ec_
        subst ea_
        subst ec_
        clear en_
        have p397 : 0 ≤ (x5_1 : Int) := of_decide_eq_true (by first | (with_reducible assumption) | assumption)
        have q397 : x5_1 < (l0.length : Int) := of_decide_eq_true (by first | (with_reducible assumption) | assumption)
        obtain ⟨ad397, A397_3, c397_3, e397, hx397_0, hx397_1, hx397_2, hx397_3, hl397_3, hi397_3⟩ := at_T55 HR0.out x5_1 p397 q397
        obtain rfl : ad394 = ad397 := (by injection e397)
        have HR397_3 := Aside0.mk hi397_3
        have HC397_3 := Aside0.mk hl397_3
        clear hi397_3 hl397_3
        replace p397 := eq_true p397
        replace q397 := eq_true q397
        have ea_ := Option.some.inj (hx394_3.symm.trans hx397_3)
        injection ea_ with ea_ en_ ec_
        subst ea_
        subst ec_
        clear en_
        go_wp2_with (first | ((with_reducible refine gate_callee (f := 117) rfl ?_); refine goA (some 48) rfl rfl Try.func117 rfl #[.slice A394_3 ((rd_T55 l0 x5_1).f1.f2).length c394_3, .int .i64 (wrap64 ((wrap64 ((wrap64 (x1_1 + 1)) + 1)) + 1))] rfl ?_; (with_reducible refine (laws_heldByteS.calls k1 _ _ ((rd_T55 l0 x5_1).f1.f2) (wrap64 ((wrap64 ((wrap64 (x1_1 + 1)) + 1)) + 1)) t398 _ ?side1 ?side2 A8.out).mono ?_); (case side1 => repeat (first | exact HR397_3.out | (with_reducible refine Kd.C_alloc ?_ _) | (with_reducible refine Kd.C_drewN ?_ _) | (with_reducible refine Kd.C_drew ?_))); (case side2 => exact HC397_3.out); rintro e w' ⟨rfl, ⟨nd, rfl⟩⟩; refine ⟨_, rfl, ?_⟩))
        go_roundg k1
        case measure => have := HK1.out; omega
        case rel => exact ⟨(t398), (wrap64 (x5_1 + 1)), (by first | rfl | (simp; done) | (simp [*]; done)), (by first | rfl | (simp; done) | (simp [*]; done)), H', ⟨by have := HK1.out; omega⟩, drw⟩
       rw [if_neg c7] at H
       have c7b0 : (((rd_T55 l0 x5_1).f1.f1) == (wrap64 ((wrap64 (x1_1 + 1)) + 1))) = false := beq_eq_false_iff_ne.mpr c7
       have c7b1 : (((rd_T55 l0 x5_1).f1.f1) != (wrap64 ((wrap64 (x1_1 + 1)) + 1))) = true := bne_iff_ne.mpr c7
       obtain rfl := Option.some.inj H
       have p394 : 0 ≤ (x5_1 : Int) := of_decide_eq_true (by first | (with_reducible assumption) | assumption)
       have q394 : x5_1 < (l0.length : Int) := of_decide_eq_true (by first | (with_reducible assumption) | assumption)
       obtain ⟨ad394, A394_3, c394_3, e394, hx394_0, hx394_1, hx394_2, hx394_3, hl394_3, hi394_3⟩ := at_T55 HR0.out x5_1 p394 q394
       cases e394
       have HR394_3 := Aside0.mk hi394_3
       have HC394_3 := Aside0.mk hl394_3
       clear hi394_3 hl394_3
       replace p394 := eq_true p394
       replace q394 := eq_true q394
       have p395 : 0 ≤ (x5_1 : Int) := of_decide_eq_true (by first | (with_reducible assumption) | assumption)
       have q395 : x5_1 < (l0.length : Int) := of_decide_eq_true (by first | (with_reducible assumption) | assumption)
       obtain ⟨ad395, A395_3, c395_3, e395, hx395_0, hx395_1, hx395_2, hx395_3, hl395_3, hi395_3⟩ := at_T55 HR0.out x5_1 p395 q395
       obtain rfl : ad394 = ad395 := (by injection e395)
       have HR395_3 := Aside0.mk hi395_3
       have HC395_3 := Aside0.mk hl395_3
       clear hi395_3 hl395_3
       replace p395 := eq_true p395
       replace q395 := eq_true q395
       have ea_ := Option.some.inj (hx394_3.symm.trans hx395_3)
       injection ea_ with ea_ en_ ec_
       subst ea_
       subst ec_
       clear en_
       have p396 : 0 ≤ (x5_1 : Int) := of_decide_eq_true (by first | (with_reducible assumption) | assumption)
       have q396 : x5_1 < (l0.length : Int) := of_decide_eq_true (by first | (with_reducible assumption) | assumption)
       obtain ⟨ad396, A396_3, c396_3, e396, hx396_0, hx396_1, hx396_2, hx396_3, hl396_3, hi396_3⟩ := at_T55 HR0.out x5_1 p396 q396
       obtain rfl : ad394 = ad396 := (by injection e396)
       have HR396_3 := Aside0.mk hi396_3
       have HC396_3 := Aside0.mk hl396_3
       clear hi396_3 hl396_3
       replace p396 := eq_true p396
       replace q396 := eq_true q396
       have ea_ := Option.some.inj (hx394_3.symm.trans hx396_3)
       injection ea_ with ea_ en_ ec_
       subst ea_
       subst ec_
       clear en_
       go_wp2
       go_ret
       exact ⟨by first | rfl | (simp; done) | (simp [*]; done), drw⟩
      rw [if_neg c6] at H
      have c6b0 : (((rd_T55 l0 x5_1).f1.f0) == (wrap64 (x1_1 + 1))) = false := beq_eq_false_iff_ne.mpr c6
      have c6b1 : (((rd_T55 l0 x5_1).f1.f0) != (wrap64 (x1_1 + 1))) = true := bne_iff_ne.mpr c6
      obtain rfl := Option.some.inj H
      have p394 : 0 ≤ (x5_1 : Int) := of_decide_eq_true (by first | (with_reducible assumption) | assumption)
      have q394 : x5_1 < (l0.length : Int) := of_decide_eq_true (by first | (with_reducible assumption) | assumption)
      obtain ⟨ad394, A394_3, c394_3, e394, hx394_0, hx394_1, hx394_2, hx394_3, hl394_3, hi394_3⟩ := at_T55 HR0.out x5_1 p394 q394
      cases e394
      have HR394_3 := Aside0.mk hi394_3
      have HC394_3 := Aside0.mk hl394_3
      clear hi394_3 hl394_3
      replace p394 := eq_true p394
      replace q394 := eq_true q394
      have p395 : 0 ≤ (x5_1 : Int) := of_decide_eq_true (by first | (with_reducible assumption) | assumption)
      have q395 : x5_1 < (l0.length : Int) := of_decide_eq_true (by first | (with_reducible assumption) | assumption)
      obtain ⟨ad395, A395_3, c395_3, e395, hx395_0, hx395_1, hx395_2, hx395_3, hl395_3, hi395_3⟩ := at_T55 HR0.out x5_1 p395 q395
      obtain rfl : ad394 = ad395 := (by injection e395)
      have HR395_3 := Aside0.mk hi395_3
      have HC395_3 := Aside0.mk hl395_3
      clear hi395_3 hl395_3
      replace p395 := eq_true p395
      replace q395 := eq_true q395
      have ea_ := Option.some.inj (hx394_3.symm.trans hx395_3)
      injection ea_ with ea_ en_ ec_
      subst ea_
      subst ec_
      clear en_
      go_wp2
      go_ret
      exact ⟨by first | rfl | (simp; done) | (simp [*]; done), drw⟩
     rw [if_neg c5] at H
     have c5b0 : (((rd_T55 l0 x5_1).f0) == x1_1) = false := beq_eq_false_iff_ne.mpr c5
     have c5b1 : (((rd_T55 l0 x5_1).f0) != x1_1) = true := bne_iff_ne.mpr c5
     obtain rfl := Option.some.inj H
     have p394 : 0 ≤ (x5_1 : Int) := of_decide_eq_true (by first | (with_reducible assumption) | assumption)
     have q394 : x5_1 < (l0.length : Int) := of_decide_eq_true (by first | (with_reducible assumption) | assumption)
     obtain ⟨ad394, A394_3, c394_3, e394, hx394_0, hx394_1, hx394_2, hx394_3, hl394_3, hi394_3⟩ := at_T55 HR0.out x5_1 p394 q394
     cases e394
     have HR394_3 := Aside0.mk hi394_3
     have HC394_3 := Aside0.mk hl394_3
     clear hi394_3 hl394_3
     replace p394 := eq_true p394
     replace q394 := eq_true q394
     go_wp2
     go_ret
     exact ⟨by first | rfl | (simp; done) | (simp [*]; done), drw⟩
    rw [if_neg c4] at H
    exact absurd H (by simp)
   rw [if_neg c3] at H
   have c3b0 : decide (x5_1 < (l0.length : Int)) = false := decide_eq_false c3
   clear c3
   obtain rfl := Option.some.inj H
   go_wp2
   go_ret
   exact ⟨by first | rfl | (simp; done) | (simp [*]; done), drw⟩

/-! ### laws_heldNode: function 70 -/
def laws_heldNode.f (k : Nat) (a0_0 : Int) (a0_1 : Bool) (a0_2 : Int) (a0_3 : Int) (l0_4 : List (S55)) (a0_5 : Int) (a0_6 : Int) (a0_7 : Int) (a0_8 : Int) (a1 : Int) : Option (Int) := (laws_heldEntryS.f k l0_4 a1).bind fun t400 => (if t400 < 0 then (some (-1)) else (some t400))
theorem laws_heldNode.mono : ∀ a0 a1 a2 a3 a4 a5 a6 a7 a8 a9 k, LeO (laws_heldNode.f k a0 a1 a2 a3 a4 a5 a6 a7 a8 a9) (laws_heldNode.f (k + 1) a0 a1 a2 a3 a4 a5 a6 a7 a8 a9) := by
 intro a0 a1 a2 a3 a4 a5 a6 a7 a8 a9 k
 unfold laws_heldNode.f
 repeat' first
   | (with_reducible exact laws_heldEntryS.mono _ _ _)
   | (with_reducible exact LeO.refl _)
   | (with_reducible exact LeO.none _)
   | (with_reducible refine LeO.ite ?_ ?_)
   | (with_reducible refine LeO.bind ?_ (fun _ => ?_))
   | exact laws_heldEntryS.mono _ _ _
   | exact LeO.none _
   | refine LeO.ite ?_ ?_
   | refine LeO.bind ?_ (fun _ => ?_)
set_option maxHeartbeats 8000000 in
set_option maxRecDepth 100000 in
theorem laws_heldNode.calls (k : Nat) (a0_0 : Int) (a0_1 : Bool) (a0_2 : Int) (a0_3 : Int) (A0_4 : Option Addr) (c0_4 : Nat) (l0_4 : List (S55)) (a0_5 : Int) (a0_6 : Int) (a0_7 : Int) (a0_8 : Int) (a1 : Int) (r : Int) (w : World) (hr0_4 : Kd.C k55 w A0_4 l0_4.length l0_4) (hc0_4 : l0_4.length ≤ c0_4) (h : laws_heldNode.f k a0_0 a0_1 a0_2 a0_3 l0_4 a0_5 a0_6 a0_7 a0_8 a1 = some r) :
  Calls Try.prog 70 #[.agg #[.int .i64 a0_0, .bool a0_1, .int .i64 a0_2, .int .i64 a0_3, .slice A0_4 l0_4.length c0_4, .int .i64 a0_5, .int .i64 a0_6, .int .i64 a0_7, .int .i64 a0_8], .int .i64 a1] w fun e w' => e = .returned (.int .i64 r) ∧ Below w.heap.size w w' := by
 have hu32 := Try.underlying32
 have HR0_4 := Aside0.mk hr0_4
 have HC0_4 := Aside0.mk hc0_4
 clear hr0_4 hc0_4
 have HB := am (Below.refl w.heap.size w)
 have H : ((laws_heldEntryS.f k l0_4 a1).bind fun t400 => (if t400 < 0 then (some (-1)) else (some t400))) = some r := h
 clear h
 replace H := Option.bind_eq_some_iff.mp H
 obtain ⟨t400, A30, H⟩ := H
 replace H : (if t400 < 0 then (some (-1)) else (some t400)) = some r := H
 have A3 := Aside0.mk A30
 clear A30
 by_cases c4 : t400 < 0
 ·
  rw [if_pos c4] at H
  have c4b0 : decide (t400 < 0) = true := decide_eq_true c4
  clear c4
  obtain rfl := Option.some.inj H
  go_enter Try.func70, Try.ntmps70
  go_wp2_with (first | ((with_reducible refine gate_dst (N := 2) rfl ?_); refine boxE #[.int .i64 a0_0, .bool a0_1, .int .i64 a0_2, .int .i64 a0_3, .slice A0_4 l0_4.length c0_4, .int .i64 a0_5, .int .i64 a0_6, .int .i64 a0_7, .int .i64 a0_8] 32 (N := 2) rfl rfl ?_; intro gb399 hg w5 hbox hb; have BK399 := Aside0.mk hbox; have GW399 := gZ HB hg; have GE399 := gZ HB hg; replace HB := bS HB hb; clear hb hbox hg; have hz6 := cl9 BK399) | ((with_reducible refine gate_callee (f := 116) rfl ?_); refine goA (some 8) rfl rfl Try.func116 rfl #[.slice A0_4 l0_4.length c0_4, .int .i64 a1] rfl ?_; (with_reducible refine (laws_heldEntryS.calls k _ _ l0_4 a1 t400 _ ?side1 ?side2 A3.out).mono ?_); (case side1 => exact mC HR0_4 HB); (case side2 => exact HC0_4.out); rintro e w' ⟨rfl, ⟨nd, rfl⟩⟩; refine ⟨_, rfl, ?_⟩))
  go_ret
  exact ⟨by first | rfl | (simp [errW_none, errW_some] <;> rfl) | (simp [*, errW_none, errW_some] <;> rfl), bel HB⟩
 rw [if_neg c4] at H
 have c4b0 : decide (t400 < 0) = false := decide_eq_false c4
 clear c4
 obtain rfl := Option.some.inj H
 go_enter Try.func70, Try.ntmps70
 go_wp2_with (first | ((with_reducible refine gate_dst (N := 2) rfl ?_); refine boxE #[.int .i64 a0_0, .bool a0_1, .int .i64 a0_2, .int .i64 a0_3, .slice A0_4 l0_4.length c0_4, .int .i64 a0_5, .int .i64 a0_6, .int .i64 a0_7, .int .i64 a0_8] 32 (N := 2) rfl rfl ?_; intro gb399 hg w7 hbox hb; have BK399 := Aside0.mk hbox; have GW399 := gZ HB hg; have GE399 := gZ HB hg; replace HB := bS HB hb; clear hb hbox hg; have hz8 := cl9 BK399) | ((with_reducible refine gate_callee (f := 116) rfl ?_); refine goA (some 8) rfl rfl Try.func116 rfl #[.slice A0_4 l0_4.length c0_4, .int .i64 a1] rfl ?_; (with_reducible refine (laws_heldEntryS.calls k _ _ l0_4 a1 t400 _ ?side1 ?side2 A3.out).mono ?_); (case side1 => exact mC HR0_4 HB); (case side2 => exact HC0_4.out); rintro e w' ⟨rfl, ⟨nd, rfl⟩⟩; refine ⟨_, rfl, ?_⟩))
 go_ret
 exact ⟨by first | rfl | (simp [errW_none, errW_some] <;> rfl) | (simp [*, errW_none, errW_some] <;> rfl), bel HB⟩

end Go.Proofs.Ytgfoifkkffffgab.PFnExactAddEvent
