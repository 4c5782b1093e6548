-- Laid by a turned copy of the printer (wip/tools/patch_print.py)
import Derived.Test.YtgfoifkkffffgaaPFnExactRiseNodex0
import Derived.Test.YtgfoifkkffffgaaPFnExactRiseNodex10
namespace Go.Proofs.Ytgfoifkkffffgaa.PFnExactRiseNode
open Go.RowKit Go.Proofs.YtgfoifkkffffgaaW.PrintWords Go.Proofs.YtgfoifkkffffgaaW.PrintLast Go.Proofs.YtgfoifkkffffgaaW.PrintMore
attribute [local go_sem] max2_int min2_int max_two min_two max_three min_three max_four min_four   -- for this text's walks alone
set_option linter.unusedVariables false
set_option linter.unusedSimpArgs false

/-! ### impl_Entry_69: function 69 -/
def impl_Entry_69.f (l0 : List (S51)) : Option ((List (S51))) := (some (([] : List (S51)) : List (S51))).bind fun y324 => (if y324.length + l0.length < 2932031007402 then (some (y324 ++ l0)) else (none))
set_option maxHeartbeats 8000000 in
set_option maxRecDepth 100000 in
theorem impl_Entry_69.calls (P0_ : Nat → Prop) (A0 : Option Addr) (c0 : Nat) (l0 : List (S51)) (r : List (S51)) (w : World) (hs0 : Kd.V k51 51 w w.heap.size (fun k_ => P0_ k_) (.slice A0 l0.length c0) l0) (h : impl_Entry_69.f l0 = some r) :
  Calls Try.prog 69 #[.slice A0 l0.length c0] w fun e w' => ∃ v0_ : Value, e = .returned (v0_) ∧ Kd.N k51 51 w' w.heap.size (fun k_ => (P0_ k_ ∨ w.heap.size ≤ k_)) v0_ r ∧ Below w.heap.size w w' := by
 cases hnil_ : A0.isNone
 rotate_left
 ·
  have hA_ : A0 = none := by cases A0 <;> simp_all
  subst hA_
  have hl_ : l0 = [] := nilList (Kd.V_reads' hs0).2.2
  subst hl_
  have hr_ : r = [] := by simpa [impl_Entry_69.f] using h.symm
  subst hr_
  have hq_ := fun (w : World) (c : Nat) => Lib.run_eql_slice_nil (P := Try.prog) w 27 51 none 0 c 0 0 Try.underlying27
  go_enter Try.func69, Try.ntmps69
  go_wp2
  go_ret
  exact ⟨_, rfl, by first | exact Kd.R_nil _ _ _ _ _ | exact Kd.S_nil _ _ _ _ _ | exact Kd.N_nil _ _ _ _ _ | exact Kd.V_nil _ _ _ _ _, Below.refl _ _⟩
 have hq_ := fun (w : World) => (Lib.run_eql_slice_nil (P := Try.prog) w 27 51 A0 l0.length c0 0 0 Try.underlying27).trans (by rw [hnil_])
 clear hnil_
 have HO0 := Aside0.mk (show Kd.V k51 51 w w.heap.size (fun k_ => (P0_ k_ ∨ w.heap.size ≤ k_)) (.slice A0 l0.length c0) l0 from Kd.V_mono hs0 (fun k_ hk => .inl hk))
 have HB := Aside0.mk (Below.refl w.heap.size w)
 have H : ((some (([] : List (S51)) : List (S51))).bind fun y324 => (if y324.length + l0.length < 2932031007402 then (some (y324 ++ l0)) else (none))) = some r := h
 clear h
 obtain ⟨y324, hy324⟩ : ∃ y_ : List (S51), y_ = (([] : List (S51))) := ⟨_, rfl⟩
 replace H : (if y324.length + l0.length < 2932031007402 then (some (y324 ++ l0)) else (none)) = some r := by first | (rw [hy324]; with_reducible exact H) | (have H2_ := (Option.bind_some _ _).symm.trans H; rw [hy324]; with_reducible exact H2_) | (have H2_ := (Option.bind_some _ _).symm.trans H; with_reducible exact H2_) | with_reducible exact H | (rw [hy324]; exact H) | exact H
 have Ny324 := Aside0.mk hy324
 clear hy324
 by_cases c2 : y324.length + l0.length < 2932031007402
 ·
  rw [if_pos c2] at H
  have LMc2 := Aside0.mk c2
  clear c2
  obtain ⟨y327, hy327⟩ : ∃ y_ : List (S51), y_ = (y324 ++ l0) := ⟨_, rfl⟩
  replace H : (some y327) = some r := by first | (rw [hy327]; with_reducible exact H) | (have H2_ := (Option.bind_some _ _).symm.trans H; rw [hy327]; with_reducible exact H2_) | (have H2_ := (Option.bind_some _ _).symm.trans H; with_reducible exact H2_) | with_reducible exact H | (rw [hy327]; exact H) | exact H
  have Ny327 := Aside0.mk hy327
  clear hy327
  obtain rfl := Option.some.inj H
  go_enter Try.func69, Try.ntmps69
  go_wp2_with (first | ((with_reducible refine gate_dst (N := 5) rfl ?_); refine Kd.N_lit k51 _ 51 ?hg (N' := 5) ?hd (xs := ([] : List (S51))) (inner := []) (ok := (fun k_ => (P0_ k_ ∨ w.heap.size ≤ k_))) (okp := (fun k_ => (P0_ k_ ∨ w.heap.size ≤ k_))) ?hr ?hp (fun _ hk => hk) ((show ∀ k_, w.heap.size ≤ k_ → (fun k_ => (P0_ k_ ∨ w.heap.size ≤ k_)) k_ from fun k_ hk => (.inr (Nat.le_trans (below_size (bel HB)) hk))) _ (Nat.le_refl _)) (Below.refl _ _) (Nat.le_refl _) (by simp) ?_; (case hd => rfl); (case hg => rfl); (case hr => first | (go_simp; done) | (go_simp; rfl)); (case hp => exact (Reps.none _ _)); intro v325 w3 ho4 hb hg_ hnew_; clear hg_ hnew_; (first | rw [← Ny324.out] at ho4 | (simp only [Int.reduceToNat] at ho4; rw [← Ny324.out] at ho4)); replace HO0 := Aside0.mk (Kd.V_elder' (mV HO0) (Kd.N_base ho4) hb); have HO326 := Aside0.mk (Kd.N_lower ho4 (below_size (bel HB))); replace HB := bS HB hb; clear hb ho4) | ((with_reducible refine gate_builtin (b := .append) (xs := #[.tmp 5, .tmp 6]) rfl ?_); at_builtin; refine Kd.N_append_rows k51 (w0 := w) w.heap.size rfl (.tmp 5) (.tmp 6) 27 51 (.agg #[(.int .i64 0), (.int .i64 0), (.int .i64 0), (.slice none 0 0)]) 48 rfl Try.underlying27 info51 rfl (by decide) (by omega) v325 y324 l0 _ _ _ (fun k_ => (P0_ k_ ∨ w.heap.size ≤ k_)) (fun k_ => ((fun k_ => (P0_ k_ ∨ w.heap.size ≤ k_))) k_ ∧ some k_ ≠ (v325 : Value).ownBlock) rfl rfl ?aO ?aR (fun _ hk => hk) ?aF ?aB ?aS ?aL ?_; (case aR => exact (by skip; exact Kd.V_F (Kd.V_mono (ok' := (fun k_ => ((fun k_ => (P0_ k_ ∨ w.heap.size ≤ k_))) k_ ∧ some k_ ≠ (v325 : Value).ownBlock)) (HO0.out) (fun k_ hk => ⟨hk.1, hk.2⟩)))); (case aB => exact (bel HB)); (case aF => exact (fun k_ hk => (.inr (Nat.le_trans (below_size (bel HB)) hk)))); (case aO => exact (mN HO326)); (case aS => exact (below_size (bel HB))); (case aL => have := LMc2.out; omega); intro v328 w5 ho hb hg hat; rw [← Ny327.out] at ho; replace HO0 := Aside0.mk (Kd.V_afterv (ok := (fun k_ => (P0_ k_ ∨ w.heap.size ≤ k_))) (mV HO0) hg hat); replace HB := Aside0.mk hb; have HO329 := Aside0.mk ho; clear HO326; clear ho hb hg hat))
  go_ret
  exact ⟨_, by first | rfl | (simp [errW_none, errW_some] <;> rfl) | (simp [*, errW_none, errW_some] <;> rfl), by (with_reducible repeat (first | apply Kd.N_alloc | apply Kd.N_drewN | apply Kd.N_drew)); exact HO329.out, bel HB⟩
 ·
  rw [if_neg c2] at H
  exact absurd H (by simp)

/-! ### slices_Clone_byte_byte: function 70 -/
def slices_Clone_byte_byte.f (l0 : List Int) : Option (List Int) := (some (([] : List Int) : List Int)).bind fun y330 => (if y330.length + l0.length < 140737488355328 then (some (y330 ++ l0)) else (none))
set_option maxHeartbeats 8000000 in
set_option maxRecDepth 100000 in
theorem slices_Clone_byte_byte.calls (A0 : Option Addr) (c0 : Nat) (l0 : List Int) (r : List Int) (w : World) (hr0 : Kd.C (Kd.int .u8) w A0 l0.length l0) (hc0 : l0.length ≤ c0) (h : slices_Clone_byte_byte.f l0 = some r) :
  Calls Try.prog 70 #[.slice A0 l0.length c0] w fun e w' => ∃ v0_ : Value, e = .returned (v0_) ∧ Kd.R (Kd.int .u8) 5 w' w.heap.size (fun _ => True) v0_ r ∧ Below w.heap.size w w' := by
 cases hnil_ : A0.isNone
 rotate_left
 ·
  have hA_ : A0 = none := by cases A0 <;> simp_all
  subst hA_
  have hl_ : l0 = [] := nilList hr0
  subst hl_
  have hr_ : r = [] := by simpa [slices_Clone_byte_byte.f] using h.symm
  subst hr_
  have hq_ := fun (w : World) (c : Nat) => Lib.run_eql_slice_nil (P := Try.prog) w 40 5 none 0 c 0 0 Try.underlying40
  go_enter Try.func70, Try.ntmps70
  go_wp2
  go_ret
  exact ⟨_, rfl, by first | exact Kd.R_nil _ _ _ _ _ | exact Kd.S_nil _ _ _ _ _ | exact Kd.N_nil _ _ _ _ _ | exact Kd.V_nil _ _ _ _ _, Below.refl _ _⟩
 have hq_ := fun (w : World) => (Lib.run_eql_slice_nil (P := Try.prog) w 40 5 A0 l0.length c0 0 0 Try.underlying40).trans (by rw [hnil_])
 clear hnil_
 have HR0 := Aside0.mk hr0
 have HC0 := Aside0.mk hc0
 clear hr0 hc0
 have HB := Aside0.mk (Below.refl w.heap.size w)
 have H : ((some (([] : List Int) : List Int)).bind fun y330 => (if y330.length + l0.length < 140737488355328 then (some (y330 ++ l0)) else (none))) = some r := h
 clear h
 obtain ⟨y330, hy330⟩ : ∃ y_ : List Int, y_ = (([] : List Int)) := ⟨_, rfl⟩
 replace H : (if y330.length + l0.length < 140737488355328 then (some (y330 ++ l0)) else (none)) = some r := by first | (rw [hy330]; with_reducible exact H) | (have H2_ := (Option.bind_some _ _).symm.trans H; rw [hy330]; with_reducible exact H2_) | (have H2_ := (Option.bind_some _ _).symm.trans H; with_reducible exact H2_) | with_reducible exact H | (rw [hy330]; exact H) | exact H
 have Ny330 := Aside0.mk hy330
 clear hy330
 by_cases c2 : y330.length + l0.length < 140737488355328
 ·
  rw [if_pos c2] at H
  have LMc2 := Aside0.mk c2
  clear c2
  obtain ⟨y333, hy333⟩ : ∃ y_ : List Int, y_ = (y330 ++ l0) := ⟨_, rfl⟩
  replace H : (some y333) = some r := by first | (rw [hy333]; with_reducible exact H) | (have H2_ := (Option.bind_some _ _).symm.trans H; rw [hy333]; with_reducible exact H2_) | (have H2_ := (Option.bind_some _ _).symm.trans H; with_reducible exact H2_) | with_reducible exact H | (rw [hy333]; exact H) | exact H
  have Ny333 := Aside0.mk hy333
  clear hy333
  obtain rfl := Option.some.inj H
  go_enter Try.func70, Try.ntmps70
  go_wp2_with (first | ((with_reducible refine gate_dst (N := 5) rfl ?_); refine Kd.R_lit (Kd.int .u8) _ 5 ?hg (N := 5) ?hd (xs := ([] : List Int)) (inner := []) (ok := fun _ => True) (okp := fun _ => True) ?hr ?hp (fun _ hk => hk) trivial (Below.refl _ _) (Nat.le_refl _) (by simp) ?_; (case hd => rfl); (case hg => rfl); (case hr => first | (go_simp; done) | (go_simp; rfl)); (case hp => exact (Reps.none _ _)); intro v331 w3 ho4 hb hg_ hnew_; clear hg_ hnew_; (first | rw [← Ny330.out] at ho4 | (simp only [Int.reduceToNat] at ho4; rw [← Ny330.out] at ho4)); have HO332 := Aside0.mk (Kd.R_lower ho4 (below_size (bel HB))); replace HB := bS HB hb; clear hb ho4) | ((with_reducible refine gate_builtin (b := .append) (xs := #[.tmp 5, .tmp 6]) rfl ?_); at_builtin; refine Kd.R_append_rows (Kd.int .u8) (w0 := w) w.heap.size rfl (.tmp 5) (.tmp 6) 40 5 (.int .u8 0) 1 rfl Try.underlying40 info5 rfl (by decide) (by omega) v331 y330 l0 _ _ _ (fun _ => True) (fun _ => False) rfl rfl ?aO ?aR (fun _ _ h => h) (fun _ h => h.elim) ?aF ?aB ?aS ?aL ?_; (case aR => repeat (first | exact (Kd.C_below HR0.out HB.out) | (with_reducible refine Kd.C_alloc ?_ _) | (with_reducible refine Kd.C_drewN ?_ _) | (with_reducible refine Kd.C_drew ?_))); (case aB => exact (bel HB)); (case aF => exact (fun _ _ => trivial)); (case aO => exact (mR HO332)); (case aS => exact (below_size (bel HB))); (case aL => have := LMc2.out; omega); intro v334 w5 ho hb hg hat; rw [← Ny333.out] at ho; replace HB := Aside0.mk hb; have HO335 := Aside0.mk ho; clear HO332; clear ho hb hg hat))
  go_ret
  exact ⟨_, by first | rfl | (simp [errW_none, errW_some] <;> rfl) | (simp [*, errW_none, errW_some] <;> rfl), by (with_reducible repeat (first | apply Kd.R_alloc | apply Kd.R_drewN | apply Kd.R_drew)); exact HO335.out, bel HB⟩
 ·
  rw [if_neg c2] at H
  exact absurd H (by simp)

/-! ### impl_copiedEntries: function 56 -/
def impl_copiedEntries.f (l0 : List S51) : Option (List S51) := if l0.length < 2932031007402 ∧ (∀ x ∈ l0, x.f1.f2.length < 140737488355328) then some l0 else none
/-- What holds ahead of round i: the copies below i have bytes of their own (f tells whose a block is), the others lead to what came in. -/
def impl_copiedEntries.Inv (l0 : List S51) (base : Nat) (v : Value) (i : Nat) (W : World) : Prop :=
 ∃ (rows : List (List Value)) (f : Nat → Nat), rows.length = l0.length ∧ (Kd.raw 4).R 51 W base (fun _ => True) v rows ∧
  ∀ (j : Nat) (x : S51) (c : List Value), l0[j]? = some x → rows[j]? = some c → (j < i → k51.M W base (fun k => some k ≠ v.ownBlock ∧ f k = j) x c) ∧ (i ≤ j → Kd.FK k51 W (fun k => some k ≠ v.ownBlock) x c)
theorem impl_copiedEntries.inv_start {l0 : List S51} {w1 : World} {base : Nat} {ok : Nat → Prop} {v : Value} (h : Kd.N k51 51 w1 base ok v l0) : impl_copiedEntries.Inv l0 base v 0 w1 := by
 obtain ⟨_, rows, hl, hR, hf⟩ := h
 exact ⟨rows, fun _ => 0, hl, Kd.R_mono hR (fun _ _ => trivial), fun j x c hx hc => ⟨fun h => absurd h (Nat.not_lt_zero _), fun _ => Kd.FK_mono (hf j x c hx hc) (fun _ hk => hk.2)⟩⟩
theorem impl_copiedEntries.inv_end {l0 : List S51} {W : World} {base : Nat} {v : Value} {i : Nat} (h : impl_copiedEntries.Inv l0 base v i W) (hi : l0.length ≤ i) : Kd.S k51 51 W base (fun _ => True) v l0 := by
 obtain ⟨rows, f, hl, hR, hall⟩ := h
 obtain ⟨_, inner, ho, hr⟩ := hR
 refine ⟨f, fun _ _ => trivial, inner, by rw [List.length_zipIdx, ← hl]; exact ho, by have := hr.1; rw [hl] at this; rw [List.length_zipIdx]; exact this, fun j p hj => ?_⟩
 rw [List.getElem?_zipIdx, Nat.zero_add] at hj
 obtain ⟨x, hx, rfl⟩ := Option.map_eq_some_iff.1 hj
 have hjl : j < l0.length := (List.getElem?_eq_some_iff.1 hx).1
 have hc : rows[j]? = some (rows[j]'(by omega)) := List.getElem?_eq_getElem (by omega)
 have h1 := (hall j x _ hx hc).1 (by omega)
 have h2 : (inner.drop (j * 4)).take 4 = rows[j]'(by omega) := (hr.2 j _ hc).1
 show k51.M W base _ x ((inner.drop (j * 4)).take 4)
 rw [h2]
 exact k51.M_mono (fun k hk => ⟨⟨trivial, hk.1⟩, hk.2⟩) h1
/-- Element i's cells, and what they lead to. -/
theorem impl_copiedEntries.inv_at {l0 : List S51} {W : World} {base g n cap : Nat} {i : Int} (h : impl_copiedEntries.Inv l0 base (.slice (some ⟨g, 0, none⟩) n cap) i.toNat W) (h0 : 0 ≤ i) (h1 : i < (l0.length : Int)) (hn : n = l0.length) :
  ∃ A c, W.cell? ⟨g, i.toNat * 4, none⟩ = some (.int .i64 (rd_T51 l0 i).f0) ∧ W.cell? ⟨g, i.toNat * 4 + 1, none⟩ = some (.int .i64 (rd_T51 l0 i).f1.f0) ∧ W.cell? ⟨g, i.toNat * 4 + 2, none⟩ = some (.int .i64 (rd_T51 l0 i).f1.f1) ∧ W.cell? ⟨g, i.toNat * 4 + 3, none⟩ = some (.slice A (rd_T51 l0 i).f1.f2.length c) ∧
   W.frozen? ⟨g, i.toNat * 4 + 3, none⟩ = false ∧ (rd_T51 l0 i).f1.f2.length ≤ c ∧ (Kd.int .u8).C W A (rd_T51 l0 i).f1.f2.length (rd_T51 l0 i).f1.f2 := by
 obtain ⟨rows, f, hl, hR, hall⟩ := h
 obtain ⟨c, hcl, hM, hcc, hfr⟩ := Kd.R_elem hR [] i h0 (by omega)
 have hil : i.toNat < l0.length := by omega
 have hx : l0[i.toNat]? = some (rd_T51 l0 i) := by
  unfold rd_T51
  rw [List.getD_eq_getElem?_getD, List.getElem?_eq_getElem hil]; rfl
 have hc : rows[i.toNat]? = some c := by
  have h2 : c = rows.getD i.toNat [] := hM.1
  rw [h2, List.getD_eq_getElem?_getD, List.getElem?_eq_getElem (by omega)]; rfl
 obtain ⟨A, cc, hcs, hlen, hC⟩ := k51_open (Kd.FK_now ((hall _ _ _ hx hc).2 (Nat.le_refl _)))
 subst hcs
 exact ⟨A, cc, hcc 0 _ rfl, hcc 1 _ rfl, hcc 2 _ rfl, hcc 3 _ rfl, hfr 3, hlen, hC⟩
theorem impl_copiedEntries.inv_below {l0 : List S51} {W W2 : World} {base : Nat} {v : Value} {i : Nat} (h : impl_copiedEntries.Inv l0 base v i W) (hb : Below W.heap.size W W2) : impl_copiedEntries.Inv l0 base v i W2 := by
 obtain ⟨rows, f, hl, hR, hall⟩ := h
 exact ⟨rows, f, hl, Kd.R_below hR hb, fun j x c hx hc => ⟨fun hj => Kd.M_below ((hall j x c hx hc).1 hj) hb, fun hj => Kd.FK_step ((hall j x c hx hc).2 hj) (fun k _ hlt => hb.block k hlt)⟩⟩
/-- The round's store. -/
theorem impl_copiedEntries.inv_step {l0 : List S51} {W W2 : World} {base g n cap b2 : Nat} {i : Int} {v5 : Value} (h : impl_copiedEntries.Inv l0 base (.slice (some ⟨g, 0, none⟩) n cap) i.toNat W) (hb : Below W.heap.size W W2) (h0 : 0 ≤ i) (h1 : i < (l0.length : Int)) (hn : n = l0.length) (hbase : base ≤ W.heap.size) (hb2 : W.heap.size ≤ b2)
  (h5 : (Kd.int .u8).R 5 W2 b2 (fun _ => True) v5 (rd_T51 l0 i).f1.f2) : impl_copiedEntries.Inv l0 base (.slice (some ⟨g, 0, none⟩) n cap) (i + 1).toNat (W2.setCell ⟨g, i.toNat * 4 + 3, none⟩ v5) := by
 have hsave := h
 obtain ⟨rows, f, hl, hR, hall⟩ := h
 have hglt : g < W.heap.size := Kd.R_lt hR g (by simp [Value.ownBlock])
 have hR2 := Kd.R_below hR hb
 obtain ⟨c, hcl, hM, hcc, hfr⟩ := Kd.R_elem hR2 [] i h0 (by omega)
 have hil : i.toNat < l0.length := by omega
 have hx : l0[i.toNat]? = some (rd_T51 l0 i) := by
  unfold rd_T51
  rw [List.getD_eq_getElem?_getD, List.getElem?_eq_getElem hil]; rfl
 have hc : rows[i.toNat]? = some c := by
  have h2 : c = rows.getD i.toNat [] := hM.1
  rw [h2, List.getD_eq_getElem?_getD, List.getElem?_eq_getElem (by omega)]; rfl
 obtain ⟨A, cc, hcs, hlen, hC⟩ := k51_open (Kd.FK_now ((hall _ _ _ hx hc).2 (Nat.le_refl _)))
 have hone : v5.oneCell' = true := (Kd.R_val h5).2
 subst hcs
 obtain ⟨hR3, _⟩ := Kd.R_seg (d := Kd.raw 4) hR2 i h0 (by omega) (c := [.int .i64 (rd_T51 l0 i).f0, .int .i64 (rd_T51 l0 i).f1.f0, .int .i64 (rd_T51 l0 i).f1.f1, .slice A (rd_T51 l0 i).f1.f2.length cc]) (seg := [v5]) (j := 3) (okp := fun _ => False) (x' := [.int .i64 (rd_T51 l0 i).f0, .int .i64 (rd_T51 l0 i).f1.f0, .int .i64 (rd_T51 l0 i).f1.f1, v5]) hcl hcc (by show 3 + 1 ≤ 4; omega)
  ⟨rfl, rfl, fun u hu => by
   rcases List.mem_cons.1 hu with rfl | hu
   ·
    rfl
   rcases List.mem_cons.1 hu with rfl | hu
   ·
    rfl
   rcases List.mem_cons.1 hu with rfl | hu
   ·
    rfl
   rcases List.mem_cons.1 hu with rfl | hu
   ·
    exact hone
   cases hu⟩ (fun _ hk => hk.elim)
 have e1 : (i + 1).toNat = i.toNat + 1 := by omega
 refine ⟨rows.set i.toNat [.int .i64 (rd_T51 l0 i).f0, .int .i64 (rd_T51 l0 i).f1.f0, .int .i64 (rd_T51 l0 i).f1.f1, v5], fun k => if W.heap.size ≤ k then i.toNat else f k, by rw [List.length_set]; exact hl, hR3, fun j x cj hj hcj => ?_⟩
 rw [e1]
 have hset : ∀ k, k ≠ g → (W2.setCell ⟨g, i.toNat * 4 + 3, none⟩ v5).heap[k]? = W2.heap[k]? := fun k hk => Below.heap_setCell W2 ⟨g, i.toNat * 4 + 3, none⟩ v5 k hk
 by_cases hji : j = i.toNat
 ·
  subst hji
  rw [List.getElem?_set_self (by omega)] at hcj
  injection hcj with hcj
  rw [hx] at hj
  injection hj with hj
  subst hj
  subst hcj
  refine ⟨fun _ => ?_, fun h => by omega⟩
  refine k51_mkM _ _ _ _ (Kd.R_lower (Kd.R_mono (Kd.R_far (Kd.R_mono (ok' := fun k => W.heap.size ≤ k) (Kd.R_bound h5) (fun k hk => Nat.le_trans hb2 hk.2.1)) (p := ⟨g, i.toNat * 4 + 3, none⟩) (fun k hk => by show k ≠ g; omega) v5) (fun k hk => ⟨fun he => ?_, if_pos hk⟩)) (Nat.le_trans hbase hb2))
  simp [Value.ownBlock] at he
  omega
 ·
  rw [List.getElem?_set_ne (Ne.symm hji)] at hcj
  have h3 := hall j x cj hj hcj
  refine ⟨fun hlt => ?_, fun hle => Kd.FK_step (h3.2 (by omega)) (fun k hk hlt => ?_)⟩
  have h4 := k51.M_bound (h3.1 (by omega))
  refine k51.M_mono (fun k hk => ⟨hk.1.1, ?_⟩) (k51.M_move (fun k hk => ?_) h4)
  ·
   show (if W.heap.size ≤ k then i.toNat else f k) = j
   rw [if_neg (by have := hk.2.2.1; omega)]; exact hk.1.2
  ·
   have hkg : k ≠ g := fun he => hk.1.1 (by simp [Value.ownBlock, he])
   rw [hset k hkg]
   exact hb.block k hk.2.2.1
  ·
   rw [hset k (fun he => hk (by simp [Value.ownBlock, he]))]
   exact hb.block k hlt
set_option maxHeartbeats 8000000 in
set_option maxRecDepth 100000 in
theorem impl_copiedEntries.calls (A0 : Option Addr) (c0 : Nat) (l0 : List (S51)) (r : List (S51)) (w : World) (hr0 : Kd.C k51 w A0 l0.length l0) (hc0 : l0.length ≤ c0) (h : impl_copiedEntries.f l0 = some r) :
  Calls Try.prog 56 #[.slice A0 l0.length c0] w fun e w' => ∃ v0_ : Value, e = .returned (v0_) ∧ Kd.S k51 51 w' w.heap.size (fun _ => True) v0_ r ∧ Below w.heap.size w w' := by
 have hu51 := Try.underlying51
 have hu49 := Try.underlying49
 have hb : (l0.length < 2932031007402 ∧ (∀ x ∈ l0, x.f1.f2.length < 140737488355328)) ∧ l0 = r := by
  unfold impl_copiedEntries.f at h
  split at h
  ·
   rename_i hh; exact ⟨hh, Option.some.inj h⟩
  ·
   cases h
 obtain ⟨⟨hb1, hb2⟩, rfl⟩ := hb
 clear h
 have HB2 := Aside0.mk hb2
 clear hb2
 have hV : Kd.V k51 51 w w.heap.size (fun k_ => k_ < w.heap.size) (.slice A0 l0.length c0) l0 := Kd.V_mk hc0 (Kd.F_mono (Kd.C_F k51_heap hr0) (fun k hk => hk))
 have HV := Aside0.mk hV
 clear hV hr0 hc0
 have HF := Aside0.mk (show impl_Entry_69.f l0 = some l0 by unfold impl_Entry_69.f; simp only [Option.bind_some, List.length_nil, Nat.zero_add, List.nil_append]; rw [if_pos hb1])
 have HLB := Aside0.mk hb1
 clear hb1
 have HB := Aside0.mk (Below.refl w.heap.size w)
 go_enter Try.func56, Try.ntmps56
 go_wp2_with (first | ((with_reducible refine gate_callee (f := 69) rfl ?_); refine goA (some 7) rfl rfl Try.func69 rfl #[.slice A0 l0.length c0] rfl ?_; (refine (impl_Entry_69.calls (fun k_ => k_ < w.heap.size) _ _ l0 l0 _ ?side1 HF.out).mono ?_); (case side1 => exact HV.out); rintro e w1 ⟨v1, rfl, ho1, hb1⟩; refine ⟨_, rfl, ?_⟩; have HI := Aside0.mk (impl_copiedEntries.inv_start ho1); have HL := Aside0.mk (Kd.N_reads ho1); have HB1 := Aside0.mk hb1; have HN1 := Aside0.mk (Kd.N_base ho1); clear ho1 hb1; obtain ⟨A1, c1, rfl, hc1, _⟩ := HL.out; clear HL; have HC1 := Aside0.mk hc1; clear hc1))
 go_loopg [10] l0.length (fun kq v10 w' => ∃ (z : Int), v10 = .int .i64 z ∧ Aside0 (0 ≤ z) ∧ Aside0 (z + kq = l0.length) ∧ Aside0 (impl_copiedEntries.Inv l0 w.heap.size (.slice A1 l0.length c1) z.toNat w') ∧ Aside0 (Below w.heap.size w w'))
 case atStart => exact ⟨0, rfl, ⟨by omega⟩, ⟨by omega⟩, HI, HB1⟩
 case round =>
  obtain ⟨z, rfl, HZ, HM, HI2, HB3⟩ := hrel
  clear HI HB HB1
  by_cases c4 : z < (l0.length : Int)
  ·
   have c4b0 : decide (z < (l0.length : Int)) = true := decide_eq_true c4
   have HC4 := Aside0.mk c4
   clear c4
   have p4 : (0 ≤ z) = True := eq_true HZ.out
   have q4 : (z < (l0.length : Int)) = True := eq_true HC4.out
   have hform : ∃ g, A1 = some ⟨g, 0, none⟩ ∧ w.heap.size ≤ g := by
    obtain ⟨rows, f, hl, hR, _⟩ := HI2.out
    obtain ⟨g, cap, he, hg, _⟩ := Kd.R_form hR (by have := HC4.out; have := HZ.out; omega)
    injection he with e1 _ _
    exact ⟨g, e1, hg⟩
   obtain ⟨g, rfl, hg⟩ := hform
   have GEg := Aside0.mk hg
   clear hg
   obtain ⟨A3, c3, hx0, hx1, hx2, hx3, hf3, hl3, hC3⟩ := impl_copiedEntries.inv_at HI2.out HZ.out HC4.out rfl
   have HL3 := Aside0.mk hl3
   have HR3 := Aside0.mk hC3
   clear hl3 hC3
   have HFB := Aside0.mk (show slices_Clone_byte_byte.f (rd_T51 l0 z).f1.f2 = some (rd_T51 l0 z).f1.f2 by
    have hm : rd_T51 l0 z ∈ l0 := by
     have := HC4.out
     have := HZ.out
     unfold rd_T51
     rw [List.getD_eq_getElem?_getD, List.getElem?_eq_getElem (by omega)]
     exact List.getElem_mem _
    unfold slices_Clone_byte_byte.f; simp only [Option.bind_some, List.length_nil, Nat.zero_add, List.nil_append]; rw [if_pos (HB2.out _ hm)])
   have HBr := Aside0.mk (Below.refl wr.heap.size wr)
   have HB4 := HB3
   go_wp2_with (first | ((with_reducible refine gate_dst (N := 5) rfl ?_); refine boxE #[.int .i64 0, .int .i64 0, .int .i64 0, .slice none 0 0] 51 (N := 5) rfl rfl ?_; intro gb hg w3 hbox hb; have BKb := Aside0.mk hbox; have GEb := gZ HBr hg; have GEw := gZ HB3 hg; replace HBr := bS HBr hb; replace HB3 := bS HB3 hb; clear hbox hb hg; have hzb := cl4 BKb) | ((with_reducible refine gate_callee (f := 70) rfl ?_); refine goA (some 20) rfl rfl Try.func70 rfl #[.slice A3 (rd_T51 l0 z).f1.f2.length c3] rfl ?_; (with_reducible refine (slices_Clone_byte_byte.calls _ _ (rd_T51 l0 z).f1.f2 (rd_T51 l0 z).f1.f2 _ ?side1 ?side2 HFB.out).mono ?_); (case side1 => exact Kd.C_below HR3.out (bel HBr)); (case side2 => exact HL3.out); rintro e w5 ⟨v5, rfl, ho5, hb5⟩; refine ⟨_, rfl, ?_⟩; have HSZ := Aside0.mk (below_size (bel HBr) : wr.heap.size ≤ _); have HO5 := Aside0.mk ho5; replace HBr := bS HBr hb5; replace HB3 := bS HB3 hb5; clear ho5 hb5; obtain ⟨A5, c5, rfl⟩ := Kd.R_slice HO5.out; obtain ⟨A6, c6, hy0, hy1, hy2, hy3, hy4, _, _⟩ := impl_copiedEntries.inv_at (impl_copiedEntries.inv_below HI2.out HBr.out) HZ.out HC4.out rfl))
   have hw : wrap64 (z + 1) = z + 1 := by have := HZ.out; have := HC4.out; have := HLB.out; unfold wrap64; omega
   have HW := Aside0.mk hw
   clear hw
   go_roundg (gk - 1)
   case measure => have := HM.out; have := HC4.out; omega
   case rel => exact ⟨wrap64 (z + 1), rfl, ⟨by rw [HW.out]; have := HZ.out; omega⟩, ⟨by rw [HW.out]; have := HM.out; have := HC4.out; omega⟩, ⟨by rw [HW.out]; exact impl_copiedEntries.inv_step HI2.out HBr.out HZ.out HC4.out rfl (below_size HB4.out) (by simpa [World.setCell] using HSZ.out) HO5.out⟩, ⟨bel HB3⟩⟩
  ·
   have c4b0 : decide (z < (l0.length : Int)) = false := decide_eq_false c4
   have HC4 := Aside0.mk c4
   clear c4
   go_wp2
   go_ret
   exact ⟨_, rfl, impl_copiedEntries.inv_end HI2.out (by have := HC4.out; omega), HB3.out⟩

/-! ### impl_Node_copied: function 52 -/
def impl_Node_copied.f (a0_0 : Int) (a0_1 : Bool) (a0_2 : Int) (a0_3 : Int) (l0_4 : List (S51)) (a0_5 : Int) (a0_6 : Int) (a0_7 : Int) (a0_8 : Int) : Option (Int × Bool × Int × Int × (List (S51)) × Int × Int × Int × Int) := (impl_copiedEntries.f l0_4).bind fun t338 => (some (a0_0, a0_1, a0_2, a0_3, t338, a0_5, a0_6, a0_7, a0_8))
set_option maxHeartbeats 8000000 in
set_option maxRecDepth 100000 in
theorem impl_Node_copied.calls (a0_0 : Int) (a0_1 : Bool) (a0_2 : Int) (a0_3 : Int) (A0_4 : Option Addr) (c0_4 : Nat) (l0_4 : List (S51)) (a0_5 : Int) (a0_6 : Int) (a0_7 : Int) (a0_8 : Int) (r1 : Int) (r2 : Bool) (r3 : Int) (r4 : Int) (r5 : List (S51)) (r6 : Int) (r7 : Int) (r8 : Int) (r9 : Int) (w : World) (hr0_4 : Kd.C k51 w A0_4 l0_4.length l0_4) (hc0_4 : l0_4.length ≤ c0_4) (h : impl_Node_copied.f a0_0 a0_1 a0_2 a0_3 l0_4 a0_5 a0_6 a0_7 a0_8 = some (r1, r2, r3, r4, r5, r6, r7, r8, r9)) :
  Calls Try.prog 52 #[.agg #[.int .i64 a0_0, .bool a0_1, .int .i64 a0_2, .int .i64 a0_3, .slice A0_4 l0_4.length c0_4, .int .i64 a0_5, .int .i64 a0_6, .int .i64 a0_7, .int .i64 a0_8]] w fun e w' => ∃ v4_ : Value, e = .returned (.agg #[.int .i64 r1, .bool r2, .int .i64 r3, .int .i64 r4, v4_, .int .i64 r6, .int .i64 r7, .int .i64 r8, .int .i64 r9]) ∧ Kd.S k51 51 w' w.heap.size (fun _ => True) v4_ r5 ∧ Below w.heap.size w w' := by
 have hu29 := Try.underlying29
 have HR0_4 := Aside0.mk hr0_4
 have HC0_4 := Aside0.mk hc0_4
 clear hr0_4 hc0_4
 have HB := Aside0.mk (Below.refl w.heap.size w)
 have H : ((impl_copiedEntries.f l0_4).bind fun t338 => (some (a0_0, a0_1, a0_2, a0_3, t338, a0_5, a0_6, a0_7, a0_8))) = some (r1, r2, r3, r4, r5, r6, r7, r8, r9) := h
 clear h
 replace H := Option.bind_eq_some_iff.mp H
 obtain ⟨t338, A20, H⟩ := H
 replace H : (some (a0_0, a0_1, a0_2, a0_3, t338, a0_5, a0_6, a0_7, a0_8)) = some (r1, r2, r3, r4, r5, r6, r7, r8, r9) := H
 have A2 := Aside0.mk A20
 clear A20
 simp only [Option.some.injEq, Prod.mk.injEq] at H
 obtain ⟨rfl, rfl, rfl, rfl, rfl, rfl, rfl, rfl, rfl⟩ := H
 go_enter Try.func52, Try.ntmps52
 go_wp2_with (first | ((with_reducible refine gate_dst (N := 1) rfl ?_); refine boxE #[.int .i64 a0_0, .bool a0_1, .int .i64 a0_2, .int .i64 a0_3, .slice A0_4 l0_4.length c0_4, .int .i64 a0_5, .int .i64 a0_6, .int .i64 a0_7, .int .i64 a0_8] 29 (N := 1) rfl rfl ?_; intro gb336 hg w3 hbox hb; have BK336 := Aside0.mk hbox; have GW336 := gZ HB hg; have GE336 := gZ HB hg; replace HB := bS HB hb; clear hb hbox hg) | ((with_reducible refine gate_dst (N := 2) rfl ?_); refine boxE #[.int .i64 0, .bool false, .int .i64 0, .int .i64 0, .slice none 0 0, .int .i64 0, .int .i64 0, .int .i64 0, .int .i64 0] 29 (N := 2) rfl rfl ?_; intro gb337 hg w4 hbox hb; have BK337 := Aside0.mk hbox; have GW337 := gZ HB hg; have GE337 := gZ HB hg; replace HB := bS HB hb; have NB336_337 := nL BK336 hg; have NB337_336 := nG BK336 hg; replace BK336 := bK BK336 hb; clear hb hbox hg; have hnb5 := NB336_337.out; have hnc5 := NB337_336.out; have hz6 := cl9 BK336) | ((with_reducible refine gate_callee (f := 56) rfl ?_); refine goA (some 5) rfl rfl Try.func56 rfl #[.slice A0_4 l0_4.length c0_4] rfl ?_; (with_reducible refine (impl_copiedEntries.calls _ _ l0_4 t338 _ ?side1 ?side2 A2.out).mono ?_); (case side1 => exact mC HR0_4 HB); (case side2 => exact HC0_4.out); rintro e w7 ⟨v339, rfl, ho0, hb⟩; refine ⟨_, rfl, ?_⟩; have HO340 := Aside0.mk (Kd.S_lower ho0 (below_size (bel HB))); replace BK336 := bK BK336 hb; replace BK337 := bK BK337 hb; replace HB := bS HB hb; (try clear hb); (try clear hb2); (try clear hk); (try clear hi); (try clear ho0); obtain ⟨Ao8, co8, eo8⟩ := Kd.S_slice HO340.out; subst eo8; have hz9 := cl9 BK336; have hz10 := cl9 BK337))
 refine bodyPost_ret (results_cell_row rfl _ _ gb337 29 #[.int .i64 a0_0, .bool a0_1, .int .i64 a0_2, .int .i64 a0_3, .slice Ao8 t338.length co8, .int .i64 a0_5, .int .i64 a0_6, .int .i64 a0_7, .int .i64 a0_8] (0, 0) _ rfl (mP BK337) Try.underlying29 rfl (by kernel_rfl)) rfl ?_
 exact ⟨_, by first | rfl | (simp [errW_none, errW_some] <;> rfl) | (simp [*, errW_none, errW_some] <;> rfl), by (with_reducible repeat (first | apply Kd.S_alloc | apply Kd.S_drewN | apply Kd.S_drew)); exact Kd.S_mono (Kd.S_far (p := ⟨gb337, 8, none⟩) (Kd.S_far (p := ⟨gb337, 7, none⟩) (Kd.S_far (p := ⟨gb337, 6, none⟩) (Kd.S_far (p := ⟨gb337, 5, none⟩) (Kd.S_far (p := ⟨gb337, 4, none⟩) (Kd.S_far (p := ⟨gb337, 3, none⟩) (Kd.S_far (p := ⟨gb337, 2, none⟩) (Kd.S_far (p := ⟨gb337, 1, none⟩) (Kd.S_far (p := ⟨gb337, 0, none⟩) (Kd.S_far (p := ⟨gb336, 4, none⟩) (Kd.S_types (Kd.S_types HO340.out BK336.out (by decide)) BK337.out (by decide)) (fun _ hk => hk.1.2) (.slice Ao8 t338.length co8)) (fun _ hk => hk.2) (.int .i64 a0_0)) (fun _ hk => hk.2) (.bool a0_1)) (fun _ hk => hk.2) (.int .i64 a0_2)) (fun _ hk => hk.2) (.int .i64 a0_3)) (fun _ hk => hk.2) (.slice Ao8 t338.length co8)) (fun _ hk => hk.2) (.int .i64 a0_5)) (fun _ hk => hk.2) (.int .i64 a0_6)) (fun _ hk => hk.2) (.int .i64 a0_7)) (fun _ hk => hk.2) (.int .i64 a0_8)) (fun _ hk => trivial), bel HB⟩

/-! ### impl_RiseNode: function 25 -/
def impl_RiseNode.j0 : Nat → Int → Bool → Int → Bool → Int → Int → List (S51) → Int → Int → Int → Int → Option (Int × Int × Bool × Int × Int × (List (S51)) × Int × Int × Int × Int × (List (S53)))
 | 0, _, _, _, _, _, _, _, _, _, _, _ => none
 | k + 1, x3, x12, x342000, x342001, x342002, x342003, x342004, x342005, x342006, x342007, x342008 => if x12 = true then (some (10, 0, false, 0, 0, ([] : List (S51)), 0, 0, 0, 0, ([] : List (S53)))) else (if x3 = 0 then ((impl_Node_copied.f x342000 x342001 x342002 x342003 x342004 x342005 x342006 x342007 x342008).bind fun bt344 => (some (0, bt344.1, true, bt344.2.2.1, bt344.2.2.2.1, bt344.2.2.2.2.1, bt344.2.2.2.2.2.1, bt344.2.2.2.2.2.2.1, bt344.2.2.2.2.2.2.2.1, bt344.2.2.2.2.2.2.2.2, ([] : List (S53))))) else (some (x3, 0, false, 0, 0, ([] : List (S51)), 0, 0, 0, 0, ([] : List (S53)))))
def impl_RiseNode.f (k : Nat) (a0_0 : Int) (a0_1 : Bool) (a0_2 : Int) (a0_3 : Int) (l0_4 : List (S51)) (a0_5 : Int) (a0_6 : Int) (a0_7 : Int) (a0_8 : Int) : Option (Int × Int × Bool × Int × Int × (List (S51)) × Int × Int × Int × Int × (List (S53))) := (impl_NodeFault.f k a0_0 a0_1 a0_2 a0_3 l0_4 a0_5 a0_6 a0_7 a0_8).bind fun t343 => (if t343 = 0 then (impl_RiseNode.j0 k t343 a0_1 a0_0 a0_1 a0_2 a0_3 l0_4 a0_5 a0_6 a0_7 a0_8) else (impl_RiseNode.j0 k t343 false a0_0 a0_1 a0_2 a0_3 l0_4 a0_5 a0_6 a0_7 a0_8))
theorem impl_RiseNode.mono_l : ∀ k, (∀ y0 y1 y2 y3 y4 y5 y6 y7 y8 y9 y10, LeO (impl_RiseNode.j0 k y0 y1 y2 y3 y4 y5 y6 y7 y8 y9 y10) (impl_RiseNode.j0 (k + 1) y0 y1 y2 y3 y4 y5 y6 y7 y8 y9 y10))
 | 0 => fun _ _ _ _ _ _ _ _ _ _ _ r h => by simp [impl_RiseNode.j0] at h
 | k + 1 => by
  have ih0 := impl_RiseNode.mono_l k
  ·
   intro y0 y1 y2 y3 y4 y5 y6 y7 y8 y9 y10
   unfold impl_RiseNode.j0
   repeat' first
   | (with_reducible exact ih0 _ _ _ _ _ _ _ _ _ _ _)
   | (with_reducible exact impl_NodeFault.mono _ _ _ _ _ _ _ _ _ _)
   | (with_reducible exact LeO.refl _)
   | (with_reducible exact LeO.none _)
   | (with_reducible refine LeO.ite ?_ ?_)
   | (with_reducible refine LeO.bind ?_ (fun _ => ?_))
   | exact ih0 _ _ _ _ _ _ _ _ _ _ _
   | exact impl_NodeFault.mono _ _ _ _ _ _ _ _ _ _
   | exact LeO.none _
   | refine LeO.ite ?_ ?_
   | refine LeO.bind ?_ (fun _ => ?_)
theorem impl_RiseNode.mono : ∀ a0 a1 a2 a3 a4 a5 a6 a7 a8 k, LeO (impl_RiseNode.f k a0 a1 a2 a3 a4 a5 a6 a7 a8) (impl_RiseNode.f (k + 1) a0 a1 a2 a3 a4 a5 a6 a7 a8) := by
 intro a0 a1 a2 a3 a4 a5 a6 a7 a8 k
 have ih0 := impl_RiseNode.mono_l k
 unfold impl_RiseNode.f
 repeat' first
   | (with_reducible exact ih0 _ _ _ _ _ _ _ _ _ _ _)
   | (with_reducible exact impl_NodeFault.mono _ _ _ _ _ _ _ _ _ _)
   | (with_reducible exact LeO.refl _)
   | (with_reducible exact LeO.none _)
   | (with_reducible refine LeO.ite ?_ ?_)
   | (with_reducible refine LeO.bind ?_ (fun _ => ?_))
   | exact ih0 _ _ _ _ _ _ _ _ _ _ _
   | exact impl_NodeFault.mono _ _ _ _ _ _ _ _ _ _
   | exact LeO.none _
   | refine LeO.ite ?_ ?_
   | refine LeO.bind ?_ (fun _ => ?_)
set_option maxHeartbeats 8000000 in
set_option maxRecDepth 100000 in
theorem impl_RiseNode.calls (k : Nat) (a0_0 : Int) (a0_1 : Bool) (a0_2 : Int) (a0_3 : Int) (A0_4 : Option Addr) (c0_4 : Nat) (l0_4 : List (S51)) (a0_5 : Int) (a0_6 : Int) (a0_7 : Int) (a0_8 : Int) (r1 : Int) (r2 : Int) (r3 : Bool) (r4 : Int) (r5 : Int) (r6 : List (S51)) (r7 : Int) (r8 : Int) (r9 : Int) (r10 : Int) (r11 : List (S53)) (w : World) (hr0_4 : Kd.C k51 w A0_4 l0_4.length l0_4) (hc0_4 : l0_4.length ≤ c0_4) (h : impl_RiseNode.f k a0_0 a0_1 a0_2 a0_3 l0_4 a0_5 a0_6 a0_7 a0_8 = some (r1, r2, r3, r4, r5, r6, r7, r8, r9, r10, r11)) :
  Calls Try.prog 25 #[.agg #[.int .i64 a0_0, .bool a0_1, .int .i64 a0_2, .int .i64 a0_3, .slice A0_4 l0_4.length c0_4, .int .i64 a0_5, .int .i64 a0_6, .int .i64 a0_7, .int .i64 a0_8]] w fun e w' => ∃ v5_ v10_ : Value, e = .returned (.agg #[.int .i64 r1, .int .i64 r2, .bool r3, .int .i64 r4, .int .i64 r5, v5_, .int .i64 r7, .int .i64 r8, .int .i64 r9, .int .i64 r10, v10_]) ∧ Kd.S k51 51 w' w.heap.size (fun _ => True) v5_ r6 ∧ Kd.S k53 53 w' w.heap.size (fun _ => True) v10_ r11 ∧ Below w.heap.size w w' := by
 have hu29 := Try.underlying29
 have hu35 := Try.underlying35
 have HR0_4 := Aside0.mk hr0_4
 have HC0_4 := Aside0.mk hc0_4
 clear hr0_4 hc0_4
 have HB := Aside0.mk (Below.refl w.heap.size w)
 have H : ((impl_NodeFault.f k a0_0 a0_1 a0_2 a0_3 l0_4 a0_5 a0_6 a0_7 a0_8).bind fun t343 => (if t343 = 0 then (impl_RiseNode.j0 k t343 a0_1 a0_0 a0_1 a0_2 a0_3 l0_4 a0_5 a0_6 a0_7 a0_8) else (impl_RiseNode.j0 k t343 false a0_0 a0_1 a0_2 a0_3 l0_4 a0_5 a0_6 a0_7 a0_8))) = some (r1, r2, r3, r4, r5, r6, r7, r8, r9, r10, r11) := h
 clear h
 replace H := Option.bind_eq_some_iff.mp H
 obtain ⟨t343, A20, H⟩ := H
 replace H : (if t343 = 0 then (impl_RiseNode.j0 k t343 a0_1 a0_0 a0_1 a0_2 a0_3 l0_4 a0_5 a0_6 a0_7 a0_8) else (impl_RiseNode.j0 k t343 false a0_0 a0_1 a0_2 a0_3 l0_4 a0_5 a0_6 a0_7 a0_8)) = some (r1, r2, r3, r4, r5, r6, r7, r8, r9, r10, r11) := H
 have A2 := Aside0.mk A20
 clear A20
 have HC3 := Aside0.mk H
 clear H
 go_enter Try.func25, Try.ntmps25
 go_upto_region 2 with (first | ((with_reducible refine gate_dst (N := 1) rfl ?_); refine boxE #[.int .i64 a0_0, .bool a0_1, .int .i64 a0_2, .int .i64 a0_3, .slice A0_4 l0_4.length c0_4, .int .i64 a0_5, .int .i64 a0_6, .int .i64 a0_7, .int .i64 a0_8] 29 (N := 1) rfl rfl ?_; intro gb341 hg w4 hbox hb; have BK341 := Aside0.mk hbox; have GW341 := gZ HB hg; have GE341 := gZ HB hg; replace HB := bS HB hb; clear hb hbox hg) | ((with_reducible refine gate_dst (N := 2) rfl ?_); refine boxE #[.int .i64 0, .int .i64 0, .bool false, .int .i64 0, .int .i64 0, .slice none 0 0, .int .i64 0, .int .i64 0, .int .i64 0, .int .i64 0, .slice none 0 0] 35 (N := 2) rfl rfl ?_; intro gb342 hg w5 hbox hb; have BK342 := Aside0.mk hbox; have GW342 := gZ HB hg; have GE342 := gZ HB hg; replace HB := bS HB hb; have NB341_342 := nL BK341 hg; have NB342_341 := nG BK341 hg; replace BK341 := bK BK341 hb; clear hb hbox hg; have hnb6 := NB341_342.out; have hnc6 := NB342_341.out; have hz7 := cl9 BK341) | ((with_reducible refine gate_callee (f := 12) rfl ?_); refine goA (some 6) rfl rfl Try.func12 rfl #[.agg #[.int .i64 a0_0, .bool a0_1, .int .i64 a0_2, .int .i64 a0_3, .slice A0_4 l0_4.length c0_4, .int .i64 a0_5, .int .i64 a0_6, .int .i64 a0_7, .int .i64 a0_8]] rfl ?_; (with_reducible refine (impl_NodeFault.calls k a0_0 a0_1 a0_2 a0_3 _ _ l0_4 a0_5 a0_6 a0_7 a0_8 t343 _ ?side1 ?side2 A2.out).mono ?_); (case side1 => exact mC HR0_4 HB); (case side2 => exact HC0_4.out); rintro e w8 ⟨rfl, hb⟩; refine ⟨_, rfl, ?_⟩; replace BK341 := bK BK341 hb; replace BK342 := bK BK342 hb; replace HB := bS HB hb; (try clear hb); (try clear hb2); (try clear hk); (try clear hi)))
 (try simp only [Act.put, List.setIfInBounds_toArray, List.set_cons_zero, List.set_cons_succ])
 go_cut [12] (fun v12 wc => ∃ (kq : Nat) (x12_2 : Bool), v12 = .bool x12_2 ∧ Aside0 (impl_RiseNode.j0 kq t343 x12_2 a0_0 a0_1 a0_2 a0_3 l0_4 a0_5 a0_6 a0_7 a0_8 = some (r1, r2, r3, r4, r5, r6, r7, r8, r9, r10, r11)) ∧ Aside0 (kq ≤ k) ∧ Aside0 (wc.heap[gb341]? = some (.cells #[.int .i64 a0_0, .bool a0_1, .int .i64 a0_2, .int .i64 a0_3, (.slice A0_4 l0_4.length c0_4), .int .i64 a0_5, .int .i64 a0_6, .int .i64 a0_7, .int .i64 a0_8] 29 (0, 0))) ∧ Aside0 (wc.heap[gb342]? = some (.cells #[.int .i64 0, .int .i64 0, .bool false, .int .i64 0, .int .i64 0, (.slice none 0 0), .int .i64 0, .int .i64 0, .int .i64 0, .int .i64 0, (.slice none 0 0)] 35 (0, 0))) ∧ Aside0 (Below w.heap.size w wc))
 case first =>
  have H := HC3.out
  clear HC3
  by_cases c9 : t343 = 0
  ·
   rw [if_pos c9] at H
   have c9b0 : (t343 == 0) = true := beq_iff_eq.mpr c9
   have c9b1 : (t343 != 0) = false := bne_eq_false_iff_eq.mpr c9
   clear c9
   (first | rw [c9b0] | (simp only [i64_w, i32_w]; rw [c9b0]) | skip)
   have H' := Aside0.mk H
   clear H
   have hnb10 := NB341_342.out
   have hnc10 := NB342_341.out
   have hz11 := cl9 BK341
   go_wp2
   first | go_meet | (refine Met.intro ?_; go_step; (repeat apply Exists.intro); refine ⟨?rel, ?eqq⟩; (case eqq => (try simp only [c9b0]); rfl))
   case rel => exact ⟨_, (a0_1), (by first | rfl | (simp; done) | (simp [*]; done)), H', ⟨by first | omega | exact Nat.le_refl _⟩, ⟨by (with_reducible repeat (first | refine blk_drewN ?_ _ | refine blk_drew ?_ | refine blk_alloc ?_ _)); exact BK341.out⟩, ⟨by (with_reducible repeat (first | refine blk_drewN ?_ _ | refine blk_drew ?_ | refine blk_alloc ?_ _)); exact BK342.out⟩, ⟨bel HB⟩⟩
  ·
   rw [if_neg c9] at H
   have c9b0 : (t343 == 0) = false := beq_eq_false_iff_ne.mpr c9
   have c9b1 : (t343 != 0) = true := bne_iff_ne.mpr c9
   (first | rw [c9b0] | (simp only [i64_w, i32_w]; rw [c9b0]) | skip)
   have H' := Aside0.mk H
   clear H
   go_wp2
   first | go_meet | (refine Met.intro ?_; go_step; (repeat apply Exists.intro); refine ⟨?rel, ?eqq⟩; (case eqq => (try simp only [c9b0]); rfl))
   case rel => exact ⟨_, (false), (by first | rfl | (simp; done) | (simp [*]; done)), H', ⟨by first | omega | exact Nat.le_refl _⟩, ⟨by (with_reducible repeat (first | refine blk_drewN ?_ _ | refine blk_drew ?_ | refine blk_alloc ?_ _)); exact BK341.out⟩, ⟨by (with_reducible repeat (first | refine blk_drewN ?_ _ | refine blk_drew ?_ | refine blk_alloc ?_ _)); exact BK342.out⟩, ⟨bel HB⟩⟩
 case rest =>
  clear HC3
  try clear c1
  try clear c2
  try clear p2
  try clear c6
  try clear c9
  try clear c9b0
  try clear c9b1
  try clear c10
  try clear hz11
  try clear hz7
  obtain ⟨kq, x12_2, rfl, HA, HJ2, BK341, BK342, HB⟩ := hcut
  cases kq with
  | zero => exact absurd HA.out (by simp [impl_RiseNode.j0])
  | succ kj2 =>
   have H := HA.out
   clear HA
   simp only [impl_RiseNode.j0] at H
   by_cases c12 : x12_2 = true
   ·
    subst c12
    have H1 : (some (10, 0, false, 0, 0, ([] : List (S51)), 0, 0, 0, 0, ([] : List (S53)))) = some (r1, r2, r3, r4, r5, r6, r7, r8, r9, r10, r11) := by rw [if_pos rfl] at H; first | done | exact H
    clear H
    have H := H1
    clear H1
    simp only [Option.some.injEq, Prod.mk.injEq] at H
    obtain ⟨rfl, rfl, rfl, rfl, rfl, rfl, rfl, rfl, rfl, rfl, rfl⟩ := H
    have hnb13 := NB342_341.out
    have hnc13 := NB341_342.out
    have hz14 := cl11 BK342
    go_wp2
    refine bodyPost_ret (results_cell_row rfl _ _ gb342 35 #[.int .i64 10, .int .i64 0, .bool false, .int .i64 0, .int .i64 0, .slice none 0 0, .int .i64 0, .int .i64 0, .int .i64 0, .int .i64 0, .slice none 0 0] (0, 0) _ rfl (mP BK342) Try.underlying35 rfl (by kernel_rfl)) rfl ?_
    exact ⟨_, _, by first | rfl | (simp [errW_none, errW_some] <;> rfl) | (simp [*, errW_none, errW_some] <;> rfl), by first | exact Kd.S_nil _ _ _ _ _ | exact Kd.N_nil _ _ _ _ _ | exact Kd.V_nil _ _ _ _ _ | exact Kd.Q_nil _ _ _ _ _ | exact Kd.R_nil _ _ _ _ _, by first | exact Kd.S_nil _ _ _ _ _ | exact Kd.N_nil _ _ _ _ _ | exact Kd.V_nil _ _ _ _ _ | exact Kd.Q_nil _ _ _ _ _ | exact Kd.R_nil _ _ _ _ _, bel HB⟩
   ·
    replace c12 := Bool.eq_false_iff.mpr c12
    subst c12
    have H1 : (if t343 = 0 then ((impl_Node_copied.f a0_0 a0_1 a0_2 a0_3 l0_4 a0_5 a0_6 a0_7 a0_8).bind fun bt344 => (some (0, bt344.1, true, bt344.2.2.1, bt344.2.2.2.1, bt344.2.2.2.2.1, bt344.2.2.2.2.2.1, bt344.2.2.2.2.2.2.1, bt344.2.2.2.2.2.2.2.1, bt344.2.2.2.2.2.2.2.2, ([] : List (S53))))) else (some (t343, 0, false, 0, 0, ([] : List (S51)), 0, 0, 0, 0, ([] : List (S53))))) = some (r1, r2, r3, r4, r5, r6, r7, r8, r9, r10, r11) := by rw [if_neg (show ¬ (false = true) by decide)] at H; first | done | exact H
    clear H
    have H := H1
    clear H1
    by_cases c15 : t343 = 0
    ·
     rw [if_pos c15] at H
     have c15b0 : (t343 == 0) = true := beq_iff_eq.mpr c15
     have c15b1 : (t343 != 0) = false := bne_eq_false_iff_eq.mpr c15
     clear c15
     replace H := Option.bind_eq_some_iff.mp H
     obtain ⟨⟨t344, t345, t346, t347, t348, t351, t352, t353, t354⟩, A160, H⟩ := H
     replace H : (some (0, t344, true, t346, t347, t348, t351, t352, t353, t354, ([] : List (S53)))) = some (r1, r2, r3, r4, r5, r6, r7, r8, r9, r10, r11) := H
     have A16 := Aside0.mk A160
     clear A160
     simp only [Option.some.injEq, Prod.mk.injEq] at H
     obtain ⟨rfl, rfl, rfl, rfl, rfl, rfl, rfl, rfl, rfl, rfl, rfl⟩ := H
     have hnb17 := NB341_342.out
     have hnc17 := NB342_341.out
     have hz18 := cl9 BK341
     go_wp2_with (first | ((with_reducible refine gate_callee (f := 52) rfl ?_); refine goA (some 18) rfl rfl Try.func52 rfl #[.agg #[.int .i64 a0_0, .bool a0_1, .int .i64 a0_2, .int .i64 a0_3, .slice A0_4 l0_4.length c0_4, .int .i64 a0_5, .int .i64 a0_6, .int .i64 a0_7, .int .i64 a0_8]] rfl ?_; (with_reducible refine (impl_Node_copied.calls a0_0 a0_1 a0_2 a0_3 _ _ l0_4 a0_5 a0_6 a0_7 a0_8 t344 t345 t346 t347 t348 t351 t352 t353 t354 _ ?side1 ?side2 A16.out).mono ?_); (case side1 => exact mC HR0_4 HB); (case side2 => exact HC0_4.out); rintro e w19 ⟨v349, rfl, ho0, hb⟩; refine ⟨_, rfl, ?_⟩; have HO350 := Aside0.mk (Kd.S_lower ho0 (below_size (bel HB))); replace BK341 := bK BK341 hb; replace BK342 := bK BK342 hb; replace HB := bS HB hb; (try clear hb); (try clear hb2); (try clear hk); (try clear hi); (try clear ho0)) | ((with_reducible refine gate_dst (N := 4) rfl ?_); refine boxE #[.int .i64 0, .bool false, .int .i64 0, .int .i64 0, .slice none 0 0, .int .i64 0, .int .i64 0, .int .i64 0, .int .i64 0] 29 (N := 4) rfl rfl ?_; intro gb355 hg w20 hbox hb; replace HO350 := Aside0.mk (Kd.S_below (mS HO350) hb); have BK355 := Aside0.mk hbox; have GW355 := gZ HB hg; have GE355 := gZ HB hg; replace HB := bS HB hb; have NB341_355 := nL BK341 hg; have NB355_341 := nG BK341 hg; replace BK341 := bK BK341 hb; have NB342_355 := nL BK342 hg; have NB355_342 := nG BK342 hg; replace BK342 := bK BK342 hb; clear hb hbox hg; have hnb21 := NB355_341.out; have hnc21 := NB341_355.out; have hnb22 := NB355_342.out; have hnc22 := NB342_355.out; have hz23 := cl9 BK355; obtain ⟨Ao24, co24, eo24⟩ := Kd.S_slice HO350.out; subst eo24) | ((with_reducible refine gate_store (t := 29) (p := 4) rfl ?_); refine store_event (t := 29) (p := 4) (v := ?vo_w25) (w1 := (((((((((w20.setCell ⟨gb355, 0, none⟩ (.int .i64 t344)).setCell ⟨gb355, 1, none⟩ (.bool t345)).setCell ⟨gb355, 2, none⟩ (.int .i64 t346)).setCell ⟨gb355, 3, none⟩ (.int .i64 t347)).setCell ⟨gb355, 4, none⟩ (.slice Ao24 t348.length co24)).setCell ⟨gb355, 5, none⟩ (.int .i64 t351)).setCell ⟨gb355, 6, none⟩ (.int .i64 t352)).setCell ⟨gb355, 7, none⟩ (.int .i64 t353)).setCell ⟨gb355, 8, none⟩ (.int .i64 t354))) ?hg ?ho ?hn ?hr ?_; (case ho => rfl); (case hg => rfl); (case hn => rfl); (case hr => first | (go_simp; done) | (go_simp; rfl)); intro w25 hw; have n0_ : Aside0 (Kd.S k51 51 w25 w.heap.size (fun _ => True) (.slice Ao24 t348.length co24) t348) := ⟨(by rw [hw]; exact (by (with_reducible repeat (first | apply Kd.S_alloc | apply Kd.S_drewN | apply Kd.S_drew)); exact Kd.S_mono (Kd.S_far (p := ⟨gb355, 8, none⟩) (Kd.S_far (p := ⟨gb355, 7, none⟩) (Kd.S_far (p := ⟨gb355, 6, none⟩) (Kd.S_far (p := ⟨gb355, 5, none⟩) (Kd.S_far (p := ⟨gb355, 4, none⟩) (Kd.S_far (p := ⟨gb355, 3, none⟩) (Kd.S_far (p := ⟨gb355, 2, none⟩) (Kd.S_far (p := ⟨gb355, 1, none⟩) (Kd.S_far (p := ⟨gb355, 0, none⟩) (Kd.S_types HO350.out BK355.out (by decide)) (fun _ hk => hk.2) (.int .i64 t344)) (fun _ hk => hk.2) (.bool t345)) (fun _ hk => hk.2) (.int .i64 t346)) (fun _ hk => hk.2) (.int .i64 t347)) (fun _ hk => hk.2) (.slice Ao24 t348.length co24)) (fun _ hk => hk.2) (.int .i64 t351)) (fun _ hk => hk.2) (.int .i64 t352)) (fun _ hk => hk.2) (.int .i64 t353)) (fun _ hk => hk.2) (.int .i64 t354)) (fun _ hk => trivial)))⟩; have n1_ : Aside0 (w25.heap[gb341]? = some (.cells #[.int .i64 a0_0, .bool a0_1, .int .i64 a0_2, .int .i64 a0_3, .slice A0_4 l0_4.length c0_4, .int .i64 a0_5, .int .i64 a0_6, .int .i64 a0_7, .int .i64 a0_8] 29 (0, 0))) := ⟨(by rw [hw]; exact (mP BK341))⟩; have n2_ : Aside0 (w25.heap[gb342]? = some (.cells #[.int .i64 0, .int .i64 0, .bool false, .int .i64 0, .int .i64 0, .slice none 0 0, .int .i64 0, .int .i64 0, .int .i64 0, .int .i64 0, .slice none 0 0] 35 (0, 0))) := ⟨(by rw [hw]; exact (mP BK342))⟩; have n3_ : Aside0 (w25.heap[gb355]? = some (.cells #[.int .i64 t344, .bool t345, .int .i64 t346, .int .i64 t347, .slice Ao24 t348.length co24, .int .i64 t351, .int .i64 t352, .int .i64 t353, .int .i64 t354] 29 (0, 0))) := ⟨(by rw [hw]; exact (mP BK355))⟩; have n4_ : Aside0 (Below w.heap.size w w25) := ⟨(by rw [hw]; exact (bel HB))⟩; clear hw; clear HO350; clear BK341; clear BK342; clear BK355; clear HB; have HO350 := n0_; have BK341 := n1_; have BK342 := n2_; have BK355 := n3_; have HB := n4_; clear n0_ n1_ n2_ n3_ n4_; have hz26 := cl9 BK355; have hz27 := cl11 BK342))
     refine bodyPost_ret (results_cell_row rfl _ _ gb342 35 #[.int .i64 0, .int .i64 t344, .bool true, .int .i64 t346, .int .i64 t347, .slice Ao24 t348.length co24, .int .i64 t351, .int .i64 t352, .int .i64 t353, .int .i64 t354, .slice none 0 0] (0, 0) _ rfl (mP BK342) Try.underlying35 rfl (by kernel_rfl)) rfl ?_
     exact ⟨_, _, by first | rfl | (simp [errW_none, errW_some] <;> rfl) | (simp [*, errW_none, errW_some] <;> rfl), by (with_reducible repeat (first | apply Kd.S_alloc | apply Kd.S_drewN | apply Kd.S_drew)); exact Kd.S_mono (Kd.S_far (p := ⟨gb342, 10, none⟩) (Kd.S_far (p := ⟨gb342, 9, none⟩) (Kd.S_far (p := ⟨gb342, 8, none⟩) (Kd.S_far (p := ⟨gb342, 7, none⟩) (Kd.S_far (p := ⟨gb342, 6, none⟩) (Kd.S_far (p := ⟨gb342, 5, none⟩) (Kd.S_far (p := ⟨gb342, 4, none⟩) (Kd.S_far (p := ⟨gb342, 3, none⟩) (Kd.S_far (p := ⟨gb342, 2, none⟩) (Kd.S_far (p := ⟨gb342, 1, none⟩) (Kd.S_far (p := ⟨gb342, 0, none⟩) (Kd.S_far (p := ⟨gb355, 1, none⟩) (Kd.S_types (Kd.S_types HO350.out BK355.out (by decide)) BK342.out (by decide)) (fun _ hk => hk.1.2) (.bool true)) (fun _ hk => hk.2) (.int .i64 0)) (fun _ hk => hk.2) (.int .i64 t344)) (fun _ hk => hk.2) (.bool true)) (fun _ hk => hk.2) (.int .i64 t346)) (fun _ hk => hk.2) (.int .i64 t347)) (fun _ hk => hk.2) (.slice Ao24 t348.length co24)) (fun _ hk => hk.2) (.int .i64 t351)) (fun _ hk => hk.2) (.int .i64 t352)) (fun _ hk => hk.2) (.int .i64 t353)) (fun _ hk => hk.2) (.int .i64 t354)) (fun _ hk => hk.2) (.slice none 0 0)) (fun _ hk => trivial), by first | exact Kd.S_nil _ _ _ _ _ | exact Kd.N_nil _ _ _ _ _ | exact Kd.V_nil _ _ _ _ _ | exact Kd.Q_nil _ _ _ _ _ | exact Kd.R_nil _ _ _ _ _, bel HB⟩
    ·
     rw [if_neg c15] at H
     have c15b0 : (t343 == 0) = false := beq_eq_false_iff_ne.mpr c15
     have c15b1 : (t343 != 0) = true := bne_iff_ne.mpr c15
     simp only [Option.some.injEq, Prod.mk.injEq] at H
     obtain ⟨rfl, rfl, rfl, rfl, rfl, rfl, rfl, rfl, rfl, rfl, rfl⟩ := H
     have hnb28 := NB342_341.out
     have hnc28 := NB341_342.out
     have hz29 := cl11 BK342
     go_wp2
     refine bodyPost_ret (results_cell_row rfl _ _ gb342 35 #[.int .i64 t343, .int .i64 0, .bool false, .int .i64 0, .int .i64 0, .slice none 0 0, .int .i64 0, .int .i64 0, .int .i64 0, .int .i64 0, .slice none 0 0] (0, 0) _ rfl (mP BK342) Try.underlying35 rfl (by kernel_rfl)) rfl ?_
     exact ⟨_, _, by first | rfl | (simp [errW_none, errW_some] <;> rfl) | (simp [*, errW_none, errW_some] <;> rfl), by first | exact Kd.S_nil _ _ _ _ _ | exact Kd.N_nil _ _ _ _ _ | exact Kd.V_nil _ _ _ _ _ | exact Kd.Q_nil _ _ _ _ _ | exact Kd.R_nil _ _ _ _ _, by first | exact Kd.S_nil _ _ _ _ _ | exact Kd.N_nil _ _ _ _ _ | exact Kd.V_nil _ _ _ _ _ | exact Kd.Q_nil _ _ _ _ _ | exact Kd.R_nil _ _ _ _ _, bel HB⟩

-- NOT PRINTED: function 6 (laws_FnExactRiseNode)

end Go.Proofs.Ytgfoifkkffffgaa.PFnExactRiseNode
