-- Laid by a turned copy of the printer (wip/tools/patch_print.py)
import Derived.Test.YtgfoifkkffffgaaPFnExactNewNodex0
namespace Go.Proofs.Ytgfoifkkffffgaa.PFnExactNewNode
open Go.RowKit Go.Proofs.YtgfoifkkffffgaaW.PrintWords Go.Proofs.YtgfoifkkffffgaaW.PrintLast Go.Proofs.YtgfoifkkffffgaaW.PrintMore
attribute [local go_sem] max2_int min2_int max_two min_two max_three min_three max_four min_four   -- for this text's walks alone
set_option linter.unusedVariables false
set_option linter.unusedSimpArgs false

/-! ### laws_markByteS: function 59 -/
def laws_markByteS.l0 : Nat → List Int → Int → Int → Option (Int × List Int)
 | 0, _, _, _ => none
 | k + 1, x0, x1, x5 => if x5 < (x0.length : Int) then (if 0 ≤ x5 then (laws_markByteS.l0 k (x0.set (x5 : Int).toNat ((x1) % 256)) (wrap64 (x1 + 1)) (wrap64 (x5 + 1))) else (none)) else (some (x1, x0))
def laws_markByteS.f (k : Nat) (l0 : List Int) (a1 : Int) : Option (Int × List Int) := laws_markByteS.l0 k l0 a1 0
theorem laws_markByteS.mono_l : ∀ k, (∀ y0 y1 y2, LeO (laws_markByteS.l0 k y0 y1 y2) (laws_markByteS.l0 (k + 1) y0 y1 y2))
 | 0 => fun _ _ _ r h => by simp [laws_markByteS.l0] at h
 | k + 1 => by
  have ih0 := laws_markByteS.mono_l k
  ·
   intro y0 y1 y2
   unfold laws_markByteS.l0
   repeat' first
   | (with_reducible exact ih0 _ _ _)
   | (with_reducible exact LeO.refl _)
   | (with_reducible exact LeO.none _)
   | (with_reducible refine LeO.ite ?_ ?_)
   | (with_reducible refine LeO.bind ?_ (fun _ => ?_))
   | exact ih0 _ _ _
   | exact LeO.none _
   | refine LeO.ite ?_ ?_
   | refine LeO.bind ?_ (fun _ => ?_)
theorem laws_markByteS.mono : ∀ a0 a1 k, LeO (laws_markByteS.f k a0 a1) (laws_markByteS.f (k + 1) a0 a1) := by
 intro a0 a1 k
 have ih0 := laws_markByteS.mono_l k
 unfold laws_markByteS.f
 repeat' first
   | (with_reducible exact ih0 _ _ _)
   | (with_reducible exact LeO.refl _)
   | (with_reducible exact LeO.none _)
   | (with_reducible refine LeO.ite ?_ ?_)
   | (with_reducible refine LeO.bind ?_ (fun _ => ?_))
   | exact ih0 _ _ _
   | exact LeO.none _
   | refine LeO.ite ?_ ?_
   | refine LeO.bind ?_ (fun _ => ?_)
set_option maxHeartbeats 8000000 in
set_option maxRecDepth 100000 in
theorem laws_markByteS.calls (k : Nat) (P0_ : Nat → Prop) (u9000_ : Value) (l0 : List Int) (a1 : Int) (r1 : Int) (r2 : List Int) (w0 w : World) (hB : Below w0.heap.size w0 w) (ho0 : Kd.R (Kd.int .u8) 5 w w0.heap.size P0_ u9000_ l0) (h : laws_markByteS.f k l0 a1 = some (r1, r2)) :
  Calls Try.prog 59 #[u9000_, .int .i64 a1] w fun e w' => e = .returned (.int .i64 r1) ∧ Kd.R (Kd.int .u8) 5 w' w0.heap.size (fun k_ => (P0_ k_ ∨ w.heap.size ≤ k_)) u9000_ r2 ∧ Below w0.heap.size w0 w' ∧ Kept w w' (fun k_ => P0_ k_) := by
 have HO0 := Aside0.mk (show Kd.R (Kd.int .u8) 5 w w0.heap.size (fun k_ => (P0_ k_ ∨ w.heap.size ≤ k_)) u9000_ l0 from Kd.R_mono ho0 (fun k_ hk => (.inl hk)))
 have HK := Aside0.mk (Kept.refl w (fun k_ => P0_ k_))
 have HW0 := Aside0.mk hB.size
 have HB := Aside0.mk hB
 clear hB
 have H : (laws_markByteS.l0 k l0 a1 0) = some (r1, r2) := h
 clear h
 have H' := Aside0.mk H
 clear H
 go_enter Try.func59, Try.ntmps59
 go_wp2
 go_loopg [1, 5] k (fun kq v1 v5 w' => ∃ (x0_1 : List Int) (x1_1 : Int) (x5_1 : Int), v1 = .int .i64 x1_1 ∧ v5 = .int .i64 x5_1 ∧ Aside0 (laws_markByteS.l0 kq x0_1 x1_1 x5_1 = some (r1, r2)) ∧ Aside0 (kq ≤ k) ∧ Aside0 (Kd.R (Kd.int .u8) 5 w' w0.heap.size (fun k_ => (P0_ k_ ∨ w.heap.size ≤ k_)) u9000_ x0_1) ∧ Aside0 (Kept w w' (fun k_ => P0_ k_)) ∧ Aside0 (Below w0.heap.size w0 w'))
 case atStart => exact ⟨(l0), (a1), (0), (by first | rfl | (simp; done) | (simp [*]; done)), (by first | rfl | (simp; done) | (simp [*]; done)), H', ⟨Nat.le_refl _⟩, ⟨by (with_reducible repeat (first | apply Kd.R_alloc | apply Kd.R_drewN | apply Kd.R_drew)); exact HO0.out⟩, ⟨by repeat (first | (with_reducible first | exact HK.out | apply Kept.alloc | apply Kept.drewN | apply Kept.drew) | exact HK.out)⟩, ⟨bel HB⟩⟩
 case round =>
  clear H'
  try clear p2
  obtain ⟨x0_1, x1_1, x5_1, rfl, rfl, HA, HK1, HO_0, HK, HB⟩ := hrel
  cases gk with
  | zero => exact absurd HA.out (by simp [laws_markByteS.l0])
  | succ k1 =>
   have H := HA.out
   clear HA
   simp only [laws_markByteS.l0] at H
   by_cases c3 : x5_1 < (x0_1.length : Int)
   ·
    rw [if_pos c3] at H
    have c3b0 : decide (x5_1 < (x0_1.length : Int)) = true := decide_eq_true c3
    clear c3
    by_cases c4 : 0 ≤ x5_1
    ·
     rw [if_pos c4] at H
     have c4b0 : decide (0 ≤ x5_1) = true := decide_eq_true c4
     clear c4
     obtain ⟨y146, hy146⟩ : ∃ y_ : List Int, y_ = (x0_1.set (x5_1 : Int).toNat ((x1_1) % 256)) := ⟨_, rfl⟩
     replace H : (laws_markByteS.l0 k1 y146 (wrap64 (x1_1 + 1)) (wrap64 (x5_1 + 1))) = some (r1, r2) := by first | (rw [hy146]; with_reducible exact H) | (have H2_ := (Option.bind_some _ _).symm.trans H; rw [hy146]; with_reducible exact H2_) | (have H2_ := (Option.bind_some _ _).symm.trans H; with_reducible exact H2_) | with_reducible exact H | (rw [hy146]; exact H) | exact H
     have Ny146 := Aside0.mk hy146
     clear hy146
     have H' := Aside0.mk H
     clear H
     obtain ⟨Ao6, co6, eo6⟩ := Kd.R_slice HO_0.out
     subst eo6
     have p5 : 0 ≤ (x5_1 : Int) := of_decide_eq_true (by first | (with_reducible assumption) | assumption)
     have q5 : (x5_1 : Int) < ((x0_1.length : Int) : Int) := of_decide_eq_true (by first | (with_reducible assumption) | assumption)
     obtain ⟨go5, co5, eo5, gb5, gl5, cl5, HG5⟩ := Kd.R_form HO_0.out (by omega)
     (first | cases eo5 | (injection eo5 with ea_ en_ ec_; (first | subst ea_ | (injection ea_ with ea_; subst ea_)); subst ec_; clear en_))
     have GB5 := Aside0.mk gb5
     have GG5 := Aside0.mk HG5
     clear gb5 gl5 HG5
     have HMgo5 := Aside0.mk (show (P0_ go5 ∨ w.heap.size ≤ go5) from (HO_0.out.1 _ rfl))
     obtain ⟨hx5_0, hf5_0⟩ := Kd.R_celln 0 HO_0.out (x5_1 : Int) p5 q5
     replace p5 := eq_true p5
     replace q5 := eq_true q5
     have HP7 := Kd.R_putg HO_0.out (x5_1 : Int) ((x1_1) % 256)
     go_wp2_with (first | ((with_reducible refine gate_store (t := 5) (p := 16) rfl ?_); refine store_event (t := 5) (p := 16) (v := ?vo_w8) (w1 := (wr.setCell ⟨go5, (x5_1 : Int).toNat, none⟩ (.int .u8 ((x1_1) % 256)))) ?hg ?ho ?hn ?hr ?_; (case ho => rfl); (case hg => rfl); (case hn => rfl); (case hr => first | (go_simp; done) | (go_simp; rfl)); intro w8 hw; have hg : wr.grownBy w8 (some go5) := (by rw [hw]; exact HP7.2); have hp_ : Kd.R (Kd.int .u8) 5 w8 w0.heap.size (fun k_ => (P0_ k_ ∨ w.heap.size ≤ k_)) (.slice (some ⟨go5, 0, none⟩) x0_1.length co6) y146 := (by rw [hw, Ny146.out]; exact HP7.1); clear HP7; replace HB := Aside0.mk ((by rw [hw]; exact below_set (HB.out) GB5.out : Below w0.heap.size w0 w8)); replace HK := Aside0.mk (Kept.of_grown (S := (fun k_ => P0_ k_)) hg (by repeat (first | (with_reducible first | exact HK.out | apply Kept.alloc | apply Kept.drewN | apply Kept.drew) | exact HK.out)) (fun k_ e_ => (HO_0.out.1 k_ e_))); replace HO_0 := Aside0.mk hp_; clear hg hw hp_))
     go_roundg k1
     case measure => have := HK1.out; omega
     case rel => exact ⟨(y146), (wrap64 (x1_1 + 1)), (wrap64 (x5_1 + 1)), (by first | rfl | (simp; done) | (simp [*]; done)), (by first | rfl | (simp; done) | (simp [*]; done)), H', ⟨by have := HK1.out; omega⟩, ⟨by (with_reducible repeat (first | apply Kd.R_alloc | apply Kd.R_drewN | apply Kd.R_drew)); exact HO_0.out⟩, ⟨by repeat (first | (with_reducible first | exact HK.out | apply Kept.alloc | apply Kept.drewN | apply Kept.drew) | exact HK.out)⟩, ⟨bel HB⟩⟩
    ·
     rw [if_neg c4] at H
     exact absurd H (by simp)
   ·
    rw [if_neg c3] at H
    have c3b0 : decide (x5_1 < (x0_1.length : Int)) = false := decide_eq_false c3
    clear c3
    simp only [Option.some.injEq, Prod.mk.injEq] at H
    obtain ⟨rfl, rfl⟩ := H
    obtain ⟨Ao9, co9, eo9⟩ := Kd.R_slice HO_0.out
    subst eo9
    go_wp2
    go_ret
    exact ⟨by first | rfl | (simp [errW_none, errW_some] <;> rfl) | (simp [*, errW_none, errW_some] <;> rfl), by (with_reducible repeat (first | apply Kd.R_alloc | apply Kd.R_drewN | apply Kd.R_drew)); exact HO_0.out, bel HB, by repeat (first | (with_reducible first | exact HK.out | apply Kept.alloc | apply Kept.drewN | apply Kept.drew) | exact HK.out)⟩

/-! ### laws_markEntryS: function 53 -/
def laws_markEntryS.f (k : Nat) : List S51 → Int → Option (Int × List S51)
 | [], m => some (m, [])
 | x :: t, m => (laws_markByteS.f k x.f1.f2 (wrap64 (wrap64 (wrap64 (m + 1) + 1) + 1))).bind fun b => (laws_markEntryS.f k t b.1).bind fun q => some (q.1, (⟨m, (⟨wrap64 (m + 1), wrap64 (wrap64 (m + 1) + 1), b.2⟩ : S49)⟩ : S51) :: q.2)
theorem laws_markEntryS.mono : ∀ l m k, LeO (laws_markEntryS.f k l m) (laws_markEntryS.f (k + 1) l m)
 | [], m, k => LeO.refl _
 | x :: t, m, k => by
  unfold laws_markEntryS.f
  exact LeO.bind (laws_markByteS.mono _ _ _) (fun b => LeO.bind (laws_markEntryS.mono t b.1 k) (fun q => LeO.refl _))
theorem laws_markEntryS.room {w : World} {base e size n : Nat} {v : Value} {xs : List Value} (h : w.ownsRow base e size v n xs) : n ≤ 9223372036854775807 := by
 rcases h.2 with ⟨_, h0⟩ | ⟨_, cap, _, _, _, _, h1, h2, _⟩
 ·
  omega
 ·
  simp only [maxLen] at h2; omega
theorem laws_markEntryS.at_mid {α : Type} (d : List α) (x z : α) (t : List α) : (d ++ x :: t).getD d.length z = x := by simp
theorem laws_markEntryS.set_mid {α : Type} (d : List α) (x y : α) (t : List α) : (d ++ x :: t).set d.length y = (d ++ [y]) ++ t := by simp
set_option maxHeartbeats 8000000 in
set_option maxRecDepth 100000 in
theorem laws_markEntryS.calls0 (k : Nat) (P : Nat → Prop) (v : Value) (l0 : List S51) (a1 r1 : Int) (r2 : List S51) (w0 w : World) (hB : Below w0.heap.size w0 w) (ho : Kd.S k51 51 w w0.heap.size P v l0) (h : laws_markEntryS.f k l0 a1 = some (r1, r2)) :
  Calls Try.prog 53 #[v, .int .i64 a1] w fun e w' => e = .returned (.int .i64 r1) ∧ Kd.S k51 51 w' w0.heap.size P v r2 ∧ Below w0.heap.size w0 w' ∧ Kept w w' P := by
 have hu51 := Try.underlying51
 have hu49 := Try.underlying49
 obtain ⟨A0, c0, rfl⟩ := Kd.S_slice ho
 have hc0 : l0.length ≤ c0 := (Kd.S_reads' ho).2.1
 have hlen : l0.length ≤ 9223372036854775807 := by
  obtain ⟨inner, hown⟩ := Kd.S_own ho
  exact laws_markEntryS.room hown
 have HLB := Aside0.mk hlen
 have HO := Aside0.mk ho
 have HB := Aside0.mk hB
 have HH := Aside0.mk h
 clear ho hB h hc0 hlen
 go_enter Try.func53, Try.ntmps53
 go_wp2
 go_loopg [1, 5] l0.length (fun kq v1 v5 w' => ∃ (m : Int) (d t t' : List S51), v1 = .int .i64 m ∧ v5 = .int .i64 (d.length : Int) ∧ Aside0 (t.length = kq) ∧ Aside0 (d.length + t.length = l0.length) ∧ Aside0 (laws_markEntryS.f k t m = some (r1, t')) ∧ Aside0 (r2 = d ++ t') ∧ Aside0 (Kd.S k51 51 w' w0.heap.size P (.slice A0 l0.length c0) (d ++ t)) ∧ Aside0 (Below w0.heap.size w0 w') ∧ Aside0 (Kept w w' P))
 case atStart => exact ⟨a1, [], l0, r2, rfl, rfl, ⟨rfl⟩, ⟨by simp⟩, HH, ⟨rfl⟩, HO, HB, ⟨Kept.refl _ _⟩⟩
 case round =>
  obtain ⟨m, d, t, t', rfl, rfl, HT, HDT, HF, HR2, HS, HB2, HK⟩ := hrel
  clear HO HB HH
  cases t with
  | nil =>
   have c4b0 : (d.length < l0.length) = False := eq_false (by have := HDT.out; simp at this; omega)
   have HF2 : Aside0 (m = r1 ∧ [] = t') := ⟨by have := HF.out; unfold laws_markEntryS.f at this; simpa using this⟩
   obtain ⟨rfl, rfl⟩ := HF2.out
   clear HF HF2
   go_wp2
   go_ret
   exact ⟨rfl, by rw [HR2.out]; exact HS.out, HB2.out, HK.out⟩
  | cons x t2 =>
   have HF1 := HF.out
   unfold laws_markEntryS.f at HF1
   obtain ⟨b, hb1, HF1⟩ := Option.bind_eq_some_iff.mp HF1
   obtain ⟨q, hq1, HF1⟩ := Option.bind_eq_some_iff.mp HF1
   obtain ⟨e1, e2⟩ := Prod.mk.inj (Option.some.inj HF1)
   obtain ⟨b1, b2⟩ := b
   obtain ⟨q1, q2⟩ := q
   simp only at e1 e2 hb1 hq1
   subst e1
   have A1 := Aside0.mk hb1
   have A2 := Aside0.mk hq1
   have A3 := Aside0.mk e2
   clear hb1 hq1 e2 HF1 HF
   have hlt : (d.length : Int) < (l0.length : Int) := by have := HDT.out; simp at this; omega
   have c4b0 : (d.length < l0.length) = True := eq_true (by omega)
   have hform : ∃ g, A0 = some ⟨g, 0, none⟩ ∧ w0.heap.size ≤ g := by
    obtain ⟨g, cap, he, hg, _⟩ := Kd.S_form HS.out (by simp; omega)
    injection he with e1 _ _
    exact ⟨g, e1, hg⟩
   obtain ⟨g, rfl, hg⟩ := hform
   have GEg := Aside0.mk hg
   have HLT := Aside0.mk hlt
   clear hg hlt
   have p4 : (0 ≤ (d.length : Int)) = True := eq_true (by omega)
   have q4 : ((d.length : Int) < (l0.length : Int)) = True := eq_true HLT.out
   obtain ⟨oki, c, hcl, hM, hcc, hfr, hoki, hH⟩ := Kd.S_elem HS.out z51 (d.length : Int) (by omega) HLT.out
   simp only [Int.toNat_natCast] at hM hcc hfr hH
   rw [laws_markEntryS.at_mid] at hM
   obtain ⟨v3, rfl, g3⟩ := k51_openM hM
   obtain ⟨A3_, c3_, rfl⟩ := Kd.R_slice g3
   have hx0 : wr.cell? ⟨g, d.length * 4, none⟩ = some (.int .i64 x.f0) := hcc 0 _ rfl
   have hx1 : wr.cell? ⟨g, d.length * 4 + 1, none⟩ = some (.int .i64 x.f1.f0) := hcc 1 _ rfl
   have hx2 : wr.cell? ⟨g, d.length * 4 + 2, none⟩ = some (.int .i64 x.f1.f1) := hcc 2 _ rfl
   have hx3 : wr.cell? ⟨g, d.length * 4 + 3, none⟩ = some (.slice A3_ x.f1.f2.length c3_) := hcc 3 _ rfl
   have hf0 : wr.frozen? ⟨g, d.length * 4, none⟩ = false := hfr 0
   have hf1 : wr.frozen? ⟨g, d.length * 4 + 1, none⟩ = false := hfr 1
   have hf2 : wr.frozen? ⟨g, d.length * 4 + 2, none⟩ = false := hfr 2
   have HG3 := Aside0.mk g3
   have HHH := Aside0.mk hH
   have HOK := Aside0.mk hoki
   clear g3 hH hoki hM hcc hfr hcl
   have hPg : P g := (Kd.S_R HS.out).1 g rfl
   have HPG := Aside0.mk hPg
   clear hPg
   have hw : wrap64 ((d.length : Int) + 1) = (d.length : Int) + 1 := by have := HLB.out; have := HLT.out; unfold wrap64; omega
   have HW := Aside0.mk hw
   clear hw
   go_wp2_with (first | ((with_reducible refine gate_callee (f := 59) rfl ?_); refine goA (some 42) rfl rfl Try.func59 rfl #[.slice A3_ x.f1.f2.length c3_, .int .i64 (wrap64 (wrap64 (wrap64 (m + 1) + 1) + 1))] rfl ?_; (refine (laws_markByteS.calls k oki _ x.f1.f2 _ b1 b2 w0 _ ?side1 ?side2 A1.out).mono ?_); (case side1 => exact (by repeat (first | exact HB2.out | refine below_set ?_ GEg.out))); (case side2 => exact Kd.R_far (Kd.R_far (Kd.R_far HG3.out (fun k hk => (HOK.out k hk).2) _) (fun k hk => (HOK.out k hk).2) _) (fun k hk => (HOK.out k hk).2) _); rintro e w5 ⟨rfl, ho5, hb5, hk5⟩; refine ⟨_, rfl, ?_⟩; have HO5 := Aside0.mk ho5; have HB5 := Aside0.mk hb5; have HK5 := Aside0.mk hk5; clear ho5 hb5 hk5))
   have hS5 : Kd.S k51 51 w5 w0.heap.size P (.slice (some ⟨g, 0, none⟩) l0.length c0) ((d ++ [(⟨m, ⟨wrap64 (m + 1), wrap64 (wrap64 (m + 1) + 1), b2⟩⟩ : S51)]) ++ t2) := by
    have h3 := (Kd.H_seg HHH.out (by omega) HLT.out (seg := [.int .i64 m, .int .i64 (wrap64 (m + 1)), .int .i64 (wrap64 (wrap64 (m + 1) + 1))]) (j := 0) (show 0 + 3 ≤ 4 by decide) (fun q hq => by simp only [List.mem_cons, List.not_mem_nil, or_false] at hq; rcases hq with rfl | rfl | rfl <;> rfl)).1
    have h5 := Kd.H_kept h3 HK5.out (fun _ _ h _ => h (by assumption))
    have hR : Kd.R (Kd.int .u8) 5 w5 w0.heap.size oki (.slice A3_ x.f1.f2.length c3_) b2 := Kd.R_mono (Kd.R_tight rfl HO5.out) (fun k hk => HG3.out.1 k hk.symm)
    have h6 := Kd.H_back h5 (x' := (⟨m, ⟨wrap64 (m + 1), wrap64 (wrap64 (m + 1) + 1), b2⟩⟩ : S51)) (k51_mkM _ _ _ _ hR) (fun _ h => h)
    rw [← laws_markEntryS.set_mid d x]
    exact h6
   have HS5 := Aside0.mk hS5
   have HKP := Aside0.mk (Kept.then_ (Kept.setCell (Kept.setCell (Kept.setCell HK.out (p := ⟨g, d.length * 4, none⟩) (.inl HPG.out) (.int .i64 m)) (p := ⟨g, d.length * 4 + 1, none⟩) (.inl HPG.out) (.int .i64 (wrap64 (m + 1)))) (p := ⟨g, d.length * 4 + 1 + 1, none⟩) (.inl HPG.out) (.int .i64 (wrap64 (wrap64 (m + 1) + 1)))) HK5.out (fun k hk => .inl (HOK.out k hk).1))
   clear hS5
   go_roundg (gk - 1)
   case measure => have := HT.out; simp at this; omega
   case rel => exact ⟨b1, d ++ [(⟨m, ⟨wrap64 (m + 1), wrap64 (wrap64 (m + 1) + 1), b2⟩⟩ : S51)], t2, q2, rfl, by rw [HW.out]; simp, ⟨by have := HT.out; simp at this; omega⟩, ⟨by have := HDT.out; simp at this ⊢; omega⟩, A2, ⟨by rw [HR2.out, ← A3.out]; simp⟩, HS5, HB5, HKP⟩
theorem laws_markEntryS.calls (k : Nat) (P0_ : Nat → Prop) (u9000_ : Value) (l0 : List (S51)) (a1 : Int) (r1 : Int) (r2 : List (S51)) (w0 w : World) (hB : Below w0.heap.size w0 w) (ho0 : Kd.S k51 51 w w0.heap.size P0_ u9000_ l0) (h : laws_markEntryS.f k l0 a1 = some (r1, r2)) :
 Calls Try.prog 53 #[u9000_, .int .i64 a1] w fun e w' => e = .returned (.int .i64 r1) ∧ Kd.S k51 51 w' w0.heap.size (fun k_ => (P0_ k_ ∨ w.heap.size ≤ k_)) u9000_ r2 ∧ Below w0.heap.size w0 w' ∧ Kept w w' (fun k_ => P0_ k_) := by
 refine (laws_markEntryS.calls0 k P0_ u9000_ l0 a1 r1 r2 w0 w hB ho0 h).mono ?_
 rintro e w' ⟨h1, h2, h3, h4⟩
 exact ⟨h1, Kd.S_mono h2 (fun _ hk => .inl hk), h3, h4⟩

-- NOT PRINTED: function 26 (laws_markNode)

/-! ### laws_markMailS: function 42 -/
def laws_markMailS.f (k : Nat) : List S53 → Int → Option (Int × List S53)
 | [], m => some (m, [])
 | _ :: _, _ => none
theorem laws_markMailS.mono : ∀ l m k, LeO (laws_markMailS.f k l m) (laws_markMailS.f (k + 1) l m)
 | [], m, k => LeO.refl _
 | x :: t, m, k => LeO.refl _
set_option maxHeartbeats 8000000 in
set_option maxRecDepth 100000 in
theorem laws_markMailS.calls (k : Nat) (P0_ : Nat → Prop) (u9000_ : Value) (l0 : List (S53)) (a1 : Int) (r1 : Int) (r2 : List (S53)) (w0 w : World) (hB : Below w0.heap.size w0 w) (ho0 : Kd.S k53 53 w w0.heap.size P0_ u9000_ l0) (h : laws_markMailS.f k l0 a1 = some (r1, r2)) :
 Calls Try.prog 42 #[u9000_, .int .i64 a1] w fun e w' => e = .returned (.int .i64 r1) ∧ Kd.S k53 53 w' w0.heap.size (fun k_ => (P0_ k_ ∨ w.heap.size ≤ k_)) u9000_ r2 ∧ Below w0.heap.size w0 w' ∧ Kept w w' (fun k_ => P0_ k_) := by
 have hl : l0 = [] ∧ a1 = r1 ∧ [] = r2 := by
  cases l0 with
  | nil => unfold laws_markMailS.f at h; injection h with h; injection h with h1 h2; exact ⟨rfl, h1, h2⟩
  | cons x t => cases h
 obtain ⟨rfl, rfl, rfl⟩ := hl
 obtain ⟨A0, c0, rfl⟩ := Kd.S_slice ho0
 have HO := Aside0.mk ho0
 have HB := Aside0.mk hB
 clear ho0 hB h
 go_enter Try.func42, Try.ntmps42
 go_wp2
 go_loopg [1, 5] 0 (fun kq v1 v5 w' => v1 = .int .i64 a1 ∧ v5 = .int .i64 0 ∧ w' = w)
 case atStart => exact ⟨rfl, rfl, rfl⟩
 case round =>
  obtain ⟨rfl, rfl, rfl⟩ := hrel
  go_wp2
  go_ret
  exact ⟨rfl, Kd.S_mono HO.out (fun _ hk => .inl hk), HB.out, Kept.refl _ _⟩

-- NOT PRINTED: function 17 (laws_markNodeResult)

/-! ### laws_heldByteS: function 61 -/
def laws_heldByteS.l0 : Nat → List Int → Int → Int → Option (Int)
 | 0, _, _, _ => none
 | k + 1, x0, x1, x5 => if x5 < (x0.length : Int) then (if 0 ≤ x5 then (if (rd x0 x5) = ((x1) % 256) then (laws_heldByteS.l0 k x0 (wrap64 (x1 + 1)) (wrap64 (x5 + 1))) else (some (-1))) else (none)) else (some x1)
def laws_heldByteS.f (k : Nat) (l0 : List Int) (a1 : Int) : Option (Int) := laws_heldByteS.l0 k l0 a1 0
theorem laws_heldByteS.mono_l : ∀ k, (∀ y0 y1 y2, LeO (laws_heldByteS.l0 k y0 y1 y2) (laws_heldByteS.l0 (k + 1) y0 y1 y2))
 | 0 => fun _ _ _ r h => by simp [laws_heldByteS.l0] at h
 | k + 1 => by
  have ih0 := laws_heldByteS.mono_l k
  ·
   intro y0 y1 y2
   unfold laws_heldByteS.l0
   repeat' first
   | (with_reducible exact ih0 _ _ _)
   | (with_reducible exact LeO.refl _)
   | (with_reducible exact LeO.none _)
   | (with_reducible refine LeO.ite ?_ ?_)
   | (with_reducible refine LeO.bind ?_ (fun _ => ?_))
   | exact ih0 _ _ _
   | exact LeO.none _
   | refine LeO.ite ?_ ?_
   | refine LeO.bind ?_ (fun _ => ?_)
theorem laws_heldByteS.mono : ∀ a0 a1 k, LeO (laws_heldByteS.f k a0 a1) (laws_heldByteS.f (k + 1) a0 a1) := by
 intro a0 a1 k
 have ih0 := laws_heldByteS.mono_l k
 unfold laws_heldByteS.f
 repeat' first
   | (with_reducible exact ih0 _ _ _)
   | (with_reducible exact LeO.refl _)
   | (with_reducible exact LeO.none _)
   | (with_reducible refine LeO.ite ?_ ?_)
   | (with_reducible refine LeO.bind ?_ (fun _ => ?_))
   | exact ih0 _ _ _
   | exact LeO.none _
   | refine LeO.ite ?_ ?_
   | refine LeO.bind ?_ (fun _ => ?_)
set_option maxHeartbeats 8000000 in
set_option maxRecDepth 100000 in
theorem laws_heldByteS.calls (k : Nat) (A0 : Option Addr) (c0 : Nat) (l0 : List Int) (a1 : Int) (r : Int) (w : World) (hr0 : Kd.C (Kd.int .u8) w A0 l0.length l0) (hc0 : l0.length ≤ c0) (h : laws_heldByteS.f k l0 a1 = some r) :
  Calls Try.prog 61 #[.slice A0 l0.length c0, .int .i64 a1] w fun e w' => e = .returned (.int .i64 r) ∧ Drawn0 w w' := by
 have HR0 := Aside0.mk hr0
 have HC0 := Aside0.mk hc0
 clear hr0 hc0
 have H : (laws_heldByteS.l0 k l0 a1 0) = some r := h
 clear h
 have H' := Aside0.mk H
 clear H
 go_enter Try.func61, Try.ntmps61
 go_wp2
 go_loopg [1, 5] k (fun kq v1 v5 w' => ∃ (x1_1 : Int) (x5_1 : Int), v1 = .int .i64 x1_1 ∧ v5 = .int .i64 x5_1 ∧ Aside0 (laws_heldByteS.l0 kq l0 x1_1 x5_1 = some r) ∧ Aside0 (kq ≤ k) ∧ Drawn0 w w')
 case atStart => exact ⟨(a1), (0), (by first | rfl | (simp; done) | (simp [*]; done)), (by first | rfl | (simp; done) | (simp [*]; done)), H', ⟨Nat.le_refl _⟩, drw⟩
 case round =>
  clear H'
  try clear p2
  obtain ⟨x1_1, x5_1, rfl, rfl, HA, HK1, ⟨m1, rfl⟩⟩ := hrel
  cases gk with
  | zero => exact absurd HA.out (by simp [laws_heldByteS.l0])
  | succ k1 =>
   have H := HA.out
   clear HA
   simp only [laws_heldByteS.l0] at H
   by_cases c3 : x5_1 < (l0.length : Int)
   ·
    rw [if_pos c3] at H
    have c3b0 : decide (x5_1 < (l0.length : Int)) = true := decide_eq_true c3
    clear c3
    by_cases c4 : 0 ≤ x5_1
    ·
     rw [if_pos c4] at H
     have c4b0 : decide (0 ≤ x5_1) = true := decide_eq_true c4
     clear c4
     by_cases c5 : (rd l0 x5_1) = ((x1_1) % 256)
     ·
      rw [if_pos c5] at H
      have c5b0 : ((rd l0 x5_1) == ((x1_1) % 256)) = true := beq_iff_eq.mpr c5
      have c5b1 : ((rd l0 x5_1) != ((x1_1) % 256)) = false := bne_eq_false_iff_eq.mpr c5
      clear c5
      have H' := Aside0.mk H
      clear H
      have p151 : 0 ≤ (x5_1 : Int) := of_decide_eq_true (by first | (with_reducible assumption) | assumption)
      have q151 : x5_1 < (l0.length : Int) := of_decide_eq_true (by first | (with_reducible assumption) | assumption)
      obtain ⟨ad151, e151, hx151_0⟩ := Kd.at_int HR0.out x5_1 p151 q151
      cases e151
      replace p151 := eq_true p151
      replace q151 := eq_true q151
      go_wp2
      go_roundg k1
      case measure => have := HK1.out; omega
      case rel => exact ⟨(wrap64 (x1_1 + 1)), (wrap64 (x5_1 + 1)), (by first | rfl | (simp; done) | (simp [*]; done)), (by first | rfl | (simp; done) | (simp [*]; done)), H', ⟨by have := HK1.out; omega⟩, drw⟩
     ·
      rw [if_neg c5] at H
      have c5b0 : ((rd l0 x5_1) == ((x1_1) % 256)) = false := beq_eq_false_iff_ne.mpr c5
      have c5b1 : ((rd l0 x5_1) != ((x1_1) % 256)) = true := bne_iff_ne.mpr c5
      obtain rfl := Option.some.inj H
      have p151 : 0 ≤ (x5_1 : Int) := of_decide_eq_true (by first | (with_reducible assumption) | assumption)
      have q151 : x5_1 < (l0.length : Int) := of_decide_eq_true (by first | (with_reducible assumption) | assumption)
      obtain ⟨ad151, e151, hx151_0⟩ := Kd.at_int HR0.out x5_1 p151 q151
      cases e151
      replace p151 := eq_true p151
      replace q151 := eq_true q151
      go_wp2
      go_ret
      exact ⟨by first | rfl | (simp; done) | (simp [*]; done), drw⟩
    ·
     rw [if_neg c4] at H
     exact absurd H (by simp)
   ·
    rw [if_neg c3] at H
    have c3b0 : decide (x5_1 < (l0.length : Int)) = false := decide_eq_false c3
    clear c3
    obtain rfl := Option.some.inj H
    go_wp2
    go_ret
    exact ⟨by first | rfl | (simp; done) | (simp [*]; done), drw⟩

/-! ### laws_heldEntryS: function 60 -/
def laws_heldEntryS.l0 : Nat → List (S51) → Int → Int → Option (Int)
 | 0, _, _, _ => none
 | k + 1, x0, x1, x5 => if x5 < (x0.length : Int) then (if 0 ≤ x5 then (if ((rd_T51 x0 x5).f0) = x1 then (if ((rd_T51 x0 x5).f1.f0) = (wrap64 (x1 + 1)) then (if ((rd_T51 x0 x5).f1.f1) = (wrap64 ((wrap64 (x1 + 1)) + 1)) then ((laws_heldByteS.f k ((rd_T51 x0 x5).f1.f2) (wrap64 ((wrap64 ((wrap64 (x1 + 1)) + 1)) + 1))).bind fun t156 => (if t156 < 0 then (some (-1)) else (laws_heldEntryS.l0 k x0 t156 (wrap64 (x5 + 1))))) else (some (-1))) else (some (-1))) else (some (-1))) else (none)) else (some x1)
def laws_heldEntryS.f (k : Nat) (l0 : List (S51)) (a1 : Int) : Option (Int) := laws_heldEntryS.l0 k l0 a1 0
theorem laws_heldEntryS.mono_l : ∀ k, (∀ y0 y1 y2, LeO (laws_heldEntryS.l0 k y0 y1 y2) (laws_heldEntryS.l0 (k + 1) y0 y1 y2))
 | 0 => fun _ _ _ r h => by simp [laws_heldEntryS.l0] at h
 | k + 1 => by
  have ih0 := laws_heldEntryS.mono_l k
  ·
   intro y0 y1 y2
   unfold laws_heldEntryS.l0
   repeat' first
   | (with_reducible exact ih0 _ _ _)
   | (with_reducible exact laws_heldByteS.mono _ _ _)
   | (with_reducible exact LeO.refl _)
   | (with_reducible exact LeO.none _)
   | (with_reducible refine LeO.ite ?_ ?_)
   | (with_reducible refine LeO.bind ?_ (fun _ => ?_))
   | exact ih0 _ _ _
   | exact laws_heldByteS.mono _ _ _
   | exact LeO.none _
   | refine LeO.ite ?_ ?_
   | refine LeO.bind ?_ (fun _ => ?_)
theorem laws_heldEntryS.mono : ∀ a0 a1 k, LeO (laws_heldEntryS.f k a0 a1) (laws_heldEntryS.f (k + 1) a0 a1) := by
 intro a0 a1 k
 have ih0 := laws_heldEntryS.mono_l k
 unfold laws_heldEntryS.f
 repeat' first
   | (with_reducible exact ih0 _ _ _)
   | (with_reducible exact laws_heldByteS.mono _ _ _)
   | (with_reducible exact LeO.refl _)
   | (with_reducible exact LeO.none _)
   | (with_reducible refine LeO.ite ?_ ?_)
   | (with_reducible refine LeO.bind ?_ (fun _ => ?_))
   | exact ih0 _ _ _
   | exact laws_heldByteS.mono _ _ _
   | exact LeO.none _
   | refine LeO.ite ?_ ?_
   | refine LeO.bind ?_ (fun _ => ?_)
set_option maxHeartbeats 8000000 in
set_option maxRecDepth 100000 in
theorem laws_heldEntryS.calls (k : Nat) (A0 : Option Addr) (c0 : Nat) (l0 : List (S51)) (a1 : Int) (r : Int) (w : World) (hr0 : Kd.C k51 w A0 l0.length l0) (hc0 : l0.length ≤ c0) (h : laws_heldEntryS.f k l0 a1 = some r) :
  Calls Try.prog 60 #[.slice A0 l0.length c0, .int .i64 a1] w fun e w' => e = .returned (.int .i64 r) ∧ Drawn0 w w' := by
 have HR0 := Aside0.mk hr0
 have HC0 := Aside0.mk hc0
 clear hr0 hc0
 have H : (laws_heldEntryS.l0 k l0 a1 0) = some r := h
 clear h
 have H' := Aside0.mk H
 clear H
 go_enter Try.func60, Try.ntmps60
 go_wp2
 go_loopg [1, 5] k (fun kq v1 v5 w' => ∃ (x1_1 : Int) (x5_1 : Int), v1 = .int .i64 x1_1 ∧ v5 = .int .i64 x5_1 ∧ Aside0 (laws_heldEntryS.l0 kq l0 x1_1 x5_1 = some r) ∧ Aside0 (kq ≤ k) ∧ Drawn0 w w')
 case atStart => exact ⟨(a1), (0), (by first | rfl | (simp; done) | (simp [*]; done)), (by first | rfl | (simp; done) | (simp [*]; done)), H', ⟨Nat.le_refl _⟩, drw⟩
 case round =>
  clear H'
  try clear p2
  obtain ⟨x1_1, x5_1, rfl, rfl, HA, HK1, ⟨m1, rfl⟩⟩ := hrel
  cases gk with
  | zero => exact absurd HA.out (by simp [laws_heldEntryS.l0])
  | succ k1 =>
   have H := HA.out
   clear HA
   simp only [laws_heldEntryS.l0] at H
   by_cases c3 : x5_1 < (l0.length : Int)
   ·
    rw [if_pos c3] at H
    have c3b0 : decide (x5_1 < (l0.length : Int)) = true := decide_eq_true c3
    clear c3
    by_cases c4 : 0 ≤ x5_1
    ·
     rw [if_pos c4] at H
     have c4b0 : decide (0 ≤ x5_1) = true := decide_eq_true c4
     clear c4
     by_cases c5 : ((rd_T51 l0 x5_1).f0) = x1_1
     ·
      rw [if_pos c5] at H
      have c5b0 : (((rd_T51 l0 x5_1).f0) == x1_1) = true := beq_iff_eq.mpr c5
      have c5b1 : (((rd_T51 l0 x5_1).f0) != x1_1) = false := bne_eq_false_iff_eq.mpr c5
      clear c5
      by_cases c6 : ((rd_T51 l0 x5_1).f1.f0) = (wrap64 (x1_1 + 1))
      ·
       rw [if_pos c6] at H
       have c6b0 : (((rd_T51 l0 x5_1).f1.f0) == (wrap64 (x1_1 + 1))) = true := beq_iff_eq.mpr c6
       have c6b1 : (((rd_T51 l0 x5_1).f1.f0) != (wrap64 (x1_1 + 1))) = false := bne_eq_false_iff_eq.mpr c6
       clear c6
       by_cases c7 : ((rd_T51 l0 x5_1).f1.f1) = (wrap64 ((wrap64 (x1_1 + 1)) + 1))
       ·
        rw [if_pos c7] at H
        have c7b0 : (((rd_T51 l0 x5_1).f1.f1) == (wrap64 ((wrap64 (x1_1 + 1)) + 1))) = true := beq_iff_eq.mpr c7
        have c7b1 : (((rd_T51 l0 x5_1).f1.f1) != (wrap64 ((wrap64 (x1_1 + 1)) + 1))) = false := bne_eq_false_iff_eq.mpr c7
        clear c7
        replace H := Option.bind_eq_some_iff.mp H
        obtain ⟨t156, A80, H⟩ := H
        replace H : (if t156 < 0 then (some (-1)) else (laws_heldEntryS.l0 k1 l0 t156 (wrap64 (x5_1 + 1)))) = some r := H
        have A8 := Aside0.mk A80
        clear A80
        by_cases c9 : t156 < 0
        ·
         rw [if_pos c9] at H
         have c9b0 : decide (t156 < 0) = true := decide_eq_true c9
         clear c9
         obtain rfl := Option.some.inj H
         have p152 : 0 ≤ (x5_1 : Int) := of_decide_eq_true (by first | (with_reducible assumption) | assumption)
         have q152 : x5_1 < (l0.length : Int) := of_decide_eq_true (by first | (with_reducible assumption) | assumption)
         obtain ⟨ad152, A152_3, c152_3, e152, hx152_0, hx152_1, hx152_2, hx152_3, hl152_3, hi152_3⟩ := at_T51 HR0.out x5_1 p152 q152
         cases e152
         have HR152_3 := Aside0.mk hi152_3
         have HC152_3 := Aside0.mk hl152_3
         clear hi152_3 hl152_3
         replace p152 := eq_true p152
         replace q152 := eq_true q152
         have p153 : 0 ≤ (x5_1 : Int) := of_decide_eq_true (by first | (with_reducible assumption) | assumption)
         have q153 : x5_1 < (l0.length : Int) := of_decide_eq_true (by first | (with_reducible assumption) | assumption)
         obtain ⟨ad153, A153_3, c153_3, e153, hx153_0, hx153_1, hx153_2, hx153_3, hl153_3, hi153_3⟩ := at_T51 HR0.out x5_1 p153 q153
         obtain rfl : ad152 = ad153 := (by injection e153)
         have HR153_3 := Aside0.mk hi153_3
         have HC153_3 := Aside0.mk hl153_3
         clear hi153_3 hl153_3
         replace p153 := eq_true p153
         replace q153 := eq_true q153
         have ea_ := Option.some.inj (hx152_3.symm.trans hx153_3)
         injection ea_ with ea_ en_ ec_
         subst ea_
         subst ec_
         clear en_
         have p154 : 0 ≤ (x5_1 : Int) := of_decide_eq_true (by first | (with_reducible assumption) | assumption)
         have q154 : x5_1 < (l0.length : Int) := of_decide_eq_true (by first | (with_reducible assumption) | assumption)
         obtain ⟨ad154, A154_3, c154_3, e154, hx154_0, hx154_1, hx154_2, hx154_3, hl154_3, hi154_3⟩ := at_T51 HR0.out x5_1 p154 q154
         obtain rfl : ad152 = ad154 := (by injection e154)
         have HR154_3 := Aside0.mk hi154_3
         have HC154_3 := Aside0.mk hl154_3
         clear hi154_3 hl154_3
         replace p154 := eq_true p154
         replace q154 := eq_true q154
         have ea_ := Option.some.inj (hx152_3.symm.trans hx154_3)
         injection ea_ with ea_ en_ ec_
         subst ea_
         subst ec_
         clear en_
         have p155 : 0 ≤ (x5_1 : Int) := of_decide_eq_true (by first | (with_reducible assumption) | assumption)
         have q155 : x5_1 < (l0.length : Int) := of_decide_eq_true (by first | (with_reducible assumption) | assumption)
         obtain ⟨ad155, A155_3, c155_3, e155, hx155_0, hx155_1, hx155_2, hx155_3, hl155_3, hi155_3⟩ := at_T51 HR0.out x5_1 p155 q155
         obtain rfl : ad152 = ad155 := (by injection e155)
         have HR155_3 := Aside0.mk hi155_3
         have HC155_3 := Aside0.mk hl155_3
         clear hi155_3 hl155_3
         replace p155 := eq_true p155
         replace q155 := eq_true q155
         have ea_ := Option.some.inj (hx152_3.symm.trans hx155_3)
         injection ea_ with ea_ en_ ec_
         subst ea_
         subst ec_
         clear en_
         go_wp2_with (first | ((with_reducible refine gate_callee (f := 61) rfl ?_); refine goA (some 48) rfl rfl Try.func61 rfl #[.slice A152_3 ((rd_T51 l0 x5_1).f1.f2).length c152_3, .int .i64 (wrap64 ((wrap64 ((wrap64 (x1_1 + 1)) + 1)) + 1))] rfl ?_; (with_reducible refine (laws_heldByteS.calls k1 _ _ ((rd_T51 l0 x5_1).f1.f2) (wrap64 ((wrap64 ((wrap64 (x1_1 + 1)) + 1)) + 1)) t156 _ ?side1 ?side2 A8.out).mono ?_); (case side1 => repeat (first | exact HR155_3.out | (with_reducible refine Kd.C_alloc ?_ _) | (with_reducible refine Kd.C_drewN ?_ _) | (with_reducible refine Kd.C_drew ?_))); (case side2 => exact HC155_3.out); rintro e w' ⟨rfl, ⟨nd, rfl⟩⟩; refine ⟨_, rfl, ?_⟩))
         go_ret
         exact ⟨by first | rfl | (simp; done) | (simp [*]; done), drw⟩
        ·
         rw [if_neg c9] at H
         have c9b0 : decide (t156 < 0) = false := decide_eq_false c9
         clear c9
         have H' := Aside0.mk H
         clear H
         have p152 : 0 ≤ (x5_1 : Int) := of_decide_eq_true (by first | (with_reducible assumption) | assumption)
         have q152 : x5_1 < (l0.length : Int) := of_decide_eq_true (by first | (with_reducible assumption) | assumption)
         obtain ⟨ad152, A152_3, c152_3, e152, hx152_0, hx152_1, hx152_2, hx152_3, hl152_3, hi152_3⟩ := at_T51 HR0.out x5_1 p152 q152
         cases e152
         have HR152_3 := Aside0.mk hi152_3
         have HC152_3 := Aside0.mk hl152_3
         clear hi152_3 hl152_3
         replace p152 := eq_true p152
         replace q152 := eq_true q152
         have p153 : 0 ≤ (x5_1 : Int) := of_decide_eq_true (by first | (with_reducible assumption) | assumption)
         have q153 : x5_1 < (l0.length : Int) := of_decide_eq_true (by first | (with_reducible assumption) | assumption)
         obtain ⟨ad153, A153_3, c153_3, e153, hx153_0, hx153_1, hx153_2, hx153_3, hl153_3, hi153_3⟩ := at_T51 HR0.out x5_1 p153 q153
         obtain rfl : ad152 = ad153 := (by injection e153)
         have HR153_3 := Aside0.mk hi153_3
         have HC153_3 := Aside0.mk hl153_3
         clear hi153_3 hl153_3
         replace p153 := eq_true p153
         replace q153 := eq_true q153
         have ea_ := Option.some.inj (hx152_3.symm.trans hx153_3)
         injection ea_ with ea_ en_ ec_
         subst ea_
         subst ec_
         clear en_
         have p154 : 0 ≤ (x5_1 : Int) := of_decide_eq_true (by first | (with_reducible assumption) | assumption)
         have q154 : x5_1 < (l0.length : Int) := of_decide_eq_true (by first | (with_reducible assumption) | assumption)
         obtain ⟨ad154, A154_3, c154_3, e154, hx154_0, hx154_1, hx154_2, hx154_3, hl154_3, hi154_3⟩ := at_T51 HR0.out x5_1 p154 q154
         obtain rfl : ad152 = ad154 := (by injection e154)
         have HR154_3 := Aside0.mk hi154_3
         have HC154_3 := Aside0.mk hl154_3
         clear hi154_3 hl154_3
         replace p154 := eq_true p154
         replace q154 := eq_true q154
         have ea_ := Option.some.inj (hx152_3.symm.trans hx154_3)
         injection ea_ with ea_ en_ ec_
         subst ea_
         subst ec_
         clear en_
         have p155 : 0 ≤ (x5_1 : Int) := of_decide_eq_true (by first | (with_reducible assumption) | assumption)
         have q155 : x5_1 < (l0.length : Int) := of_decide_eq_true (by first | (with_reducible assumption) | assumption)
         obtain ⟨ad155, A155_3, c155_3, e155, hx155_0, hx155_1, hx155_2, hx155_3, hl155_3, hi155_3⟩ := at_T51 HR0.out x5_1 p155 q155
         obtain rfl : ad152 = ad155 := (by injection e155)
         have HR155_3 := Aside0.mk hi155_3
         have HC155_3 := Aside0.mk hl155_3
         clear hi155_3 hl155_3
         replace p155 := eq_true p155
         replace q155 := eq_true q155
         have ea_ := Option.some.inj (hx152_3.symm.trans hx155_3)
         injection ea_ with ea_ en_ ec_
         subst ea_
         subst ec_
         clear en_
         go_wp2_with (first | ((with_reducible refine gate_callee (f := 61) rfl ?_); refine goA (some 48) rfl rfl Try.func61 rfl #[.slice A152_3 ((rd_T51 l0 x5_1).f1.f2).length c152_3, .int .i64 (wrap64 ((wrap64 ((wrap64 (x1_1 + 1)) + 1)) + 1))] rfl ?_; (with_reducible refine (laws_heldByteS.calls k1 _ _ ((rd_T51 l0 x5_1).f1.f2) (wrap64 ((wrap64 ((wrap64 (x1_1 + 1)) + 1)) + 1)) t156 _ ?side1 ?side2 A8.out).mono ?_); (case side1 => repeat (first | exact HR155_3.out | (with_reducible refine Kd.C_alloc ?_ _) | (with_reducible refine Kd.C_drewN ?_ _) | (with_reducible refine Kd.C_drew ?_))); (case side2 => exact HC155_3.out); rintro e w' ⟨rfl, ⟨nd, rfl⟩⟩; refine ⟨_, rfl, ?_⟩))
         go_roundg k1
         case measure => have := HK1.out; omega
         case rel => exact ⟨(t156), (wrap64 (x5_1 + 1)), (by first | rfl | (simp; done) | (simp [*]; done)), (by first | rfl | (simp; done) | (simp [*]; done)), H', ⟨by have := HK1.out; omega⟩, drw⟩
       ·
        rw [if_neg c7] at H
        have c7b0 : (((rd_T51 l0 x5_1).f1.f1) == (wrap64 ((wrap64 (x1_1 + 1)) + 1))) = false := beq_eq_false_iff_ne.mpr c7
        have c7b1 : (((rd_T51 l0 x5_1).f1.f1) != (wrap64 ((wrap64 (x1_1 + 1)) + 1))) = true := bne_iff_ne.mpr c7
        obtain rfl := Option.some.inj H
        have p152 : 0 ≤ (x5_1 : Int) := of_decide_eq_true (by first | (with_reducible assumption) | assumption)
        have q152 : x5_1 < (l0.length : Int) := of_decide_eq_true (by first | (with_reducible assumption) | assumption)
        obtain ⟨ad152, A152_3, c152_3, e152, hx152_0, hx152_1, hx152_2, hx152_3, hl152_3, hi152_3⟩ := at_T51 HR0.out x5_1 p152 q152
        cases e152
        have HR152_3 := Aside0.mk hi152_3
        have HC152_3 := Aside0.mk hl152_3
        clear hi152_3 hl152_3
        replace p152 := eq_true p152
        replace q152 := eq_true q152
        have p153 : 0 ≤ (x5_1 : Int) := of_decide_eq_true (by first | (with_reducible assumption) | assumption)
        have q153 : x5_1 < (l0.length : Int) := of_decide_eq_true (by first | (with_reducible assumption) | assumption)
        obtain ⟨ad153, A153_3, c153_3, e153, hx153_0, hx153_1, hx153_2, hx153_3, hl153_3, hi153_3⟩ := at_T51 HR0.out x5_1 p153 q153
        obtain rfl : ad152 = ad153 := (by injection e153)
        have HR153_3 := Aside0.mk hi153_3
        have HC153_3 := Aside0.mk hl153_3
        clear hi153_3 hl153_3
        replace p153 := eq_true p153
        replace q153 := eq_true q153
        have ea_ := Option.some.inj (hx152_3.symm.trans hx153_3)
        injection ea_ with ea_ en_ ec_
        subst ea_
        subst ec_
        clear en_
        have p154 : 0 ≤ (x5_1 : Int) := of_decide_eq_true (by first | (with_reducible assumption) | assumption)
        have q154 : x5_1 < (l0.length : Int) := of_decide_eq_true (by first | (with_reducible assumption) | assumption)
        obtain ⟨ad154, A154_3, c154_3, e154, hx154_0, hx154_1, hx154_2, hx154_3, hl154_3, hi154_3⟩ := at_T51 HR0.out x5_1 p154 q154
        obtain rfl : ad152 = ad154 := (by injection e154)
        have HR154_3 := Aside0.mk hi154_3
        have HC154_3 := Aside0.mk hl154_3
        clear hi154_3 hl154_3
        replace p154 := eq_true p154
        replace q154 := eq_true q154
        have ea_ := Option.some.inj (hx152_3.symm.trans hx154_3)
        injection ea_ with ea_ en_ ec_
        subst ea_
        subst ec_
        clear en_
        go_wp2
        go_ret
        exact ⟨by first | rfl | (simp; done) | (simp [*]; done), drw⟩
      ·
       rw [if_neg c6] at H
       have c6b0 : (((rd_T51 l0 x5_1).f1.f0) == (wrap64 (x1_1 + 1))) = false := beq_eq_false_iff_ne.mpr c6
       have c6b1 : (((rd_T51 l0 x5_1).f1.f0) != (wrap64 (x1_1 + 1))) = true := bne_iff_ne.mpr c6
       obtain rfl := Option.some.inj H
       have p152 : 0 ≤ (x5_1 : Int) := of_decide_eq_true (by first | (with_reducible assumption) | assumption)
       have q152 : x5_1 < (l0.length : Int) := of_decide_eq_true (by first | (with_reducible assumption) | assumption)
       obtain ⟨ad152, A152_3, c152_3, e152, hx152_0, hx152_1, hx152_2, hx152_3, hl152_3, hi152_3⟩ := at_T51 HR0.out x5_1 p152 q152
       cases e152
       have HR152_3 := Aside0.mk hi152_3
       have HC152_3 := Aside0.mk hl152_3
       clear hi152_3 hl152_3
       replace p152 := eq_true p152
       replace q152 := eq_true q152
       have p153 : 0 ≤ (x5_1 : Int) := of_decide_eq_true (by first | (with_reducible assumption) | assumption)
       have q153 : x5_1 < (l0.length : Int) := of_decide_eq_true (by first | (with_reducible assumption) | assumption)
       obtain ⟨ad153, A153_3, c153_3, e153, hx153_0, hx153_1, hx153_2, hx153_3, hl153_3, hi153_3⟩ := at_T51 HR0.out x5_1 p153 q153
       obtain rfl : ad152 = ad153 := (by injection e153)
       have HR153_3 := Aside0.mk hi153_3
       have HC153_3 := Aside0.mk hl153_3
       clear hi153_3 hl153_3
       replace p153 := eq_true p153
       replace q153 := eq_true q153
       have ea_ := Option.some.inj (hx152_3.symm.trans hx153_3)
       injection ea_ with ea_ en_ ec_
       subst ea_
       subst ec_
       clear en_
       go_wp2
       go_ret
       exact ⟨by first | rfl | (simp; done) | (simp [*]; done), drw⟩
     ·
      rw [if_neg c5] at H
      have c5b0 : (((rd_T51 l0 x5_1).f0) == x1_1) = false := beq_eq_false_iff_ne.mpr c5
      have c5b1 : (((rd_T51 l0 x5_1).f0) != x1_1) = true := bne_iff_ne.mpr c5
      obtain rfl := Option.some.inj H
      have p152 : 0 ≤ (x5_1 : Int) := of_decide_eq_true (by first | (with_reducible assumption) | assumption)
      have q152 : x5_1 < (l0.length : Int) := of_decide_eq_true (by first | (with_reducible assumption) | assumption)
      obtain ⟨ad152, A152_3, c152_3, e152, hx152_0, hx152_1, hx152_2, hx152_3, hl152_3, hi152_3⟩ := at_T51 HR0.out x5_1 p152 q152
      cases e152
      have HR152_3 := Aside0.mk hi152_3
      have HC152_3 := Aside0.mk hl152_3
      clear hi152_3 hl152_3
      replace p152 := eq_true p152
      replace q152 := eq_true q152
      go_wp2
      go_ret
      exact ⟨by first | rfl | (simp; done) | (simp [*]; done), drw⟩
    ·
     rw [if_neg c4] at H
     exact absurd H (by simp)
   ·
    rw [if_neg c3] at H
    have c3b0 : decide (x5_1 < (l0.length : Int)) = false := decide_eq_false c3
    clear c3
    obtain rfl := Option.some.inj H
    go_wp2
    go_ret
    exact ⟨by first | rfl | (simp; done) | (simp [*]; done), drw⟩

/-! ### laws_heldNode: function 43 -/
def laws_heldNode.f (k : Nat) (a0_0 : Int) (a0_1 : Bool) (a0_2 : Int) (a0_3 : Int) (l0_4 : List (S51)) (a0_5 : Int) (a0_6 : Int) (a0_7 : Int) (a0_8 : Int) (a1 : Int) : Option (Int) := (laws_heldEntryS.f k l0_4 a1).bind fun t158 => (if t158 < 0 then (some (-1)) else (some t158))
theorem laws_heldNode.mono : ∀ a0 a1 a2 a3 a4 a5 a6 a7 a8 a9 k, LeO (laws_heldNode.f k a0 a1 a2 a3 a4 a5 a6 a7 a8 a9) (laws_heldNode.f (k + 1) a0 a1 a2 a3 a4 a5 a6 a7 a8 a9) := by
 intro a0 a1 a2 a3 a4 a5 a6 a7 a8 a9 k
 unfold laws_heldNode.f
 repeat' first
   | (with_reducible exact laws_heldEntryS.mono _ _ _)
   | (with_reducible exact LeO.refl _)
   | (with_reducible exact LeO.none _)
   | (with_reducible refine LeO.ite ?_ ?_)
   | (with_reducible refine LeO.bind ?_ (fun _ => ?_))
   | exact laws_heldEntryS.mono _ _ _
   | exact LeO.none _
   | refine LeO.ite ?_ ?_
   | refine LeO.bind ?_ (fun _ => ?_)
set_option maxHeartbeats 8000000 in
set_option maxRecDepth 100000 in
theorem laws_heldNode.calls (k : Nat) (a0_0 : Int) (a0_1 : Bool) (a0_2 : Int) (a0_3 : Int) (A0_4 : Option Addr) (c0_4 : Nat) (l0_4 : List (S51)) (a0_5 : Int) (a0_6 : Int) (a0_7 : Int) (a0_8 : Int) (a1 : Int) (r : Int) (w : World) (hr0_4 : Kd.C k51 w A0_4 l0_4.length l0_4) (hc0_4 : l0_4.length ≤ c0_4) (h : laws_heldNode.f k a0_0 a0_1 a0_2 a0_3 l0_4 a0_5 a0_6 a0_7 a0_8 a1 = some r) :
  Calls Try.prog 43 #[.agg #[.int .i64 a0_0, .bool a0_1, .int .i64 a0_2, .int .i64 a0_3, .slice A0_4 l0_4.length c0_4, .int .i64 a0_5, .int .i64 a0_6, .int .i64 a0_7, .int .i64 a0_8], .int .i64 a1] w fun e w' => e = .returned (.int .i64 r) ∧ Below w.heap.size w w' := by
 have hu29 := Try.underlying29
 have HR0_4 := Aside0.mk hr0_4
 have HC0_4 := Aside0.mk hc0_4
 clear hr0_4 hc0_4
 have HB := Aside0.mk (Below.refl w.heap.size w)
 have H : ((laws_heldEntryS.f k l0_4 a1).bind fun t158 => (if t158 < 0 then (some (-1)) else (some t158))) = some r := h
 clear h
 replace H := Option.bind_eq_some_iff.mp H
 obtain ⟨t158, A30, H⟩ := H
 replace H : (if t158 < 0 then (some (-1)) else (some t158)) = some r := H
 have A3 := Aside0.mk A30
 clear A30
 by_cases c4 : t158 < 0
 ·
  rw [if_pos c4] at H
  have c4b0 : decide (t158 < 0) = true := decide_eq_true c4
  clear c4
  obtain rfl := Option.some.inj H
  go_enter Try.func43, Try.ntmps43
  go_wp2_with (first | ((with_reducible refine gate_dst (N := 2) rfl ?_); refine boxE #[.int .i64 a0_0, .bool a0_1, .int .i64 a0_2, .int .i64 a0_3, .slice A0_4 l0_4.length c0_4, .int .i64 a0_5, .int .i64 a0_6, .int .i64 a0_7, .int .i64 a0_8] 29 (N := 2) rfl rfl ?_; intro gb157 hg w5 hbox hb; have BK157 := Aside0.mk hbox; have GW157 := gZ HB hg; have GE157 := gZ HB hg; replace HB := bS HB hb; clear hb hbox hg; have hz6 := cl9 BK157) | ((with_reducible refine gate_callee (f := 60) rfl ?_); refine goA (some 8) rfl rfl Try.func60 rfl #[.slice A0_4 l0_4.length c0_4, .int .i64 a1] rfl ?_; (with_reducible refine (laws_heldEntryS.calls k _ _ l0_4 a1 t158 _ ?side1 ?side2 A3.out).mono ?_); (case side1 => exact mC HR0_4 HB); (case side2 => exact HC0_4.out); rintro e w' ⟨rfl, ⟨nd, rfl⟩⟩; refine ⟨_, rfl, ?_⟩))
  go_ret
  exact ⟨by first | rfl | (simp [errW_none, errW_some] <;> rfl) | (simp [*, errW_none, errW_some] <;> rfl), bel HB⟩
 ·
  rw [if_neg c4] at H
  have c4b0 : decide (t158 < 0) = false := decide_eq_false c4
  clear c4
  obtain rfl := Option.some.inj H
  go_enter Try.func43, Try.ntmps43
  go_wp2_with (first | ((with_reducible refine gate_dst (N := 2) rfl ?_); refine boxE #[.int .i64 a0_0, .bool a0_1, .int .i64 a0_2, .int .i64 a0_3, .slice A0_4 l0_4.length c0_4, .int .i64 a0_5, .int .i64 a0_6, .int .i64 a0_7, .int .i64 a0_8] 29 (N := 2) rfl rfl ?_; intro gb157 hg w7 hbox hb; have BK157 := Aside0.mk hbox; have GW157 := gZ HB hg; have GE157 := gZ HB hg; replace HB := bS HB hb; clear hb hbox hg; have hz8 := cl9 BK157) | ((with_reducible refine gate_callee (f := 60) rfl ?_); refine goA (some 8) rfl rfl Try.func60 rfl #[.slice A0_4 l0_4.length c0_4, .int .i64 a1] rfl ?_; (with_reducible refine (laws_heldEntryS.calls k _ _ l0_4 a1 t158 _ ?side1 ?side2 A3.out).mono ?_); (case side1 => exact mC HR0_4 HB); (case side2 => exact HC0_4.out); rintro e w' ⟨rfl, ⟨nd, rfl⟩⟩; refine ⟨_, rfl, ?_⟩))
  go_ret
  exact ⟨by first | rfl | (simp [errW_none, errW_some] <;> rfl) | (simp [*, errW_none, errW_some] <;> rfl), bel HB⟩

end Go.Proofs.Ytgfoifkkffffgaa.PFnExactNewNode
