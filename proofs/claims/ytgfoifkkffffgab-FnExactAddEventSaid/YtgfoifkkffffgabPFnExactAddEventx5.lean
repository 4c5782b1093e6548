-- Laid by a turned copy of the printer (wip/tools/patch_print.py)
import Derived.Test.YtgfoifkkffffgabPFnExactAddEventx0
import Derived.Test.YtgfoifkkffffgabPFnExactAddEventx4
namespace Go.Proofs.Ytgfoifkkffffgab.PFnExactAddEvent
open Go.RowKit Go.Proofs.YtgfoifkkffffgabW.PrintWords Go.Proofs.YtgfoifkkffffgabW.PrintLast Go.Proofs.YtgfoifkkffffgabW.PrintMore
attribute [local go_sem] max2_int min2_int max_two min_two max_three min_three max_four min_four   -- for this text's walks alone
set_option linter.unusedVariables false
set_option linter.unusedSimpArgs false

/-! ### laws_toEvent: function 13 -/
def laws_toEvent.f (k : Nat) (a0_0 : Int) (a0_1 : Int) (l0_2 : List Int) : Option (Int × Int × List Int) := (laws_toByteS.f k l0_2).bind fun t267 => (some (a0_0, a0_1, t267))
theorem laws_toEvent.mono : ∀ a0 a1 a2 k, LeO (laws_toEvent.f k a0 a1 a2) (laws_toEvent.f (k + 1) a0 a1 a2) := by
 intro a0 a1 a2 k
 unfold laws_toEvent.f
 repeat' first
   | (with_reducible exact laws_toByteS.mono _ _)
   | (with_reducible exact LeO.refl _)
   | (with_reducible exact LeO.none _)
   | (with_reducible refine LeO.ite ?_ ?_)
   | (with_reducible refine LeO.bind ?_ (fun _ => ?_))
   | exact laws_toByteS.mono _ _
   | exact LeO.none _
   | refine LeO.ite ?_ ?_
   | refine LeO.bind ?_ (fun _ => ?_)
set_option maxHeartbeats 8000000 in
set_option maxRecDepth 100000 in
theorem laws_toEvent.calls (k : Nat) (a0_0 : Int) (a0_1 : Int) (A0_2 : Option Addr) (c0_2 : Nat) (l0_2 : List Int) (r1 : Int) (r2 : Int) (r3 : List Int) (w : World) (hr0_2 : Kd.C (Kd.int .u8) w A0_2 l0_2.length l0_2) (hc0_2 : l0_2.length ≤ c0_2) (h : laws_toEvent.f k a0_0 a0_1 l0_2 = some (r1, r2, r3)) :
  Calls Try.prog 13 #[.agg #[.int .i64 a0_0, .int .i64 a0_1, .slice A0_2 l0_2.length c0_2]] w fun e w' => ∃ v2_ : Value, e = .returned (.agg #[.int .i64 r1, .int .i64 r2, v2_]) ∧ Kd.R (Kd.int .u8) 5 w' w.heap.size (fun _ => True) v2_ r3 ∧ Below w.heap.size w w' := by
 have hu27 := Try.underlying27
 have hu38 := Try.underlying38
 have HR0_2 := Aside0.mk hr0_2
 have HC0_2 := Aside0.mk hc0_2
 clear hr0_2 hc0_2
 have HB := am (Below.refl w.heap.size w)
 have H : ((laws_toByteS.f k l0_2).bind fun t267 => (some (a0_0, a0_1, t267))) = some (r1, r2, r3) := h
 clear h
 replace H := Option.bind_eq_some_iff.mp H
 obtain ⟨t267, A20, H⟩ := H
 replace H : (some (a0_0, a0_1, t267)) = some (r1, r2, r3) := H
 have A2 := Aside0.mk A20
 clear A20
 simp only [Option.some.injEq, Prod.mk.injEq] at H
 obtain ⟨rfl, rfl, rfl⟩ := H
 go_enter Try.func13, Try.ntmps13
 go_wp2_with (first | ((with_reducible refine gate_dst (N := 1) rfl ?_); refine boxE #[.int .i64 a0_0, .int .i64 a0_1, .slice A0_2 l0_2.length c0_2] 27 (N := 1) rfl rfl ?_; intro gb264 hg w3 hbox hb; have BK264 := Aside0.mk hbox; have GW264 := gZ HB hg; have GE264 := gZ HB hg; replace HB := bS HB hb; clear hb hbox hg) | ((with_reducible refine gate_dst (N := 2) rfl ?_); refine boxE #[.int .i64 0, .int .i64 0, .slice none 0 0] 38 (N := 2) rfl rfl ?_; intro gb265 hg w4 hbox hb; have BK265 := Aside0.mk hbox; have GW265 := gZ HB hg; have GE265 := gZ HB hg; replace HB := bS HB hb; have NB264_265 := nL BK264 hg; have NB265_264 := nG BK264 hg; replace BK264 := bK BK264 hb; clear hb hbox hg) | ((with_reducible refine gate_dst (N := 3) rfl ?_); refine boxE #[.int .i64 0, .int .i64 0, .slice none 0 0] 38 (N := 3) rfl rfl ?_; intro gb266 hg w5 hbox hb; have BK266 := Aside0.mk hbox; have GW266 := gZ HB hg; have GE266 := gZ HB hg; replace HB := bS HB hb; have NB264_266 := nL BK264 hg; have NB266_264 := nG BK264 hg; replace BK264 := bK BK264 hb; have NB265_266 := nL BK265 hg; have NB266_265 := nG BK265 hg; replace BK265 := bK BK265 hb; clear hb hbox hg; have hnb6 := NB264_265.out; have hnc6 := NB265_264.out; have hnb7 := NB264_266.out; have hnc7 := NB266_264.out; have hz8 := cl3 BK264; have hnb9 := NB266_265.out; have hnc9 := NB265_266.out; have hz10 := cl3 BK266) | ((with_reducible refine gate_callee (f := 59) rfl ?_); refine goA (some 12) rfl rfl Try.func59 rfl #[.slice A0_2 l0_2.length c0_2] rfl ?_; (with_reducible refine (laws_toByteS.calls k _ _ l0_2 t267 _ ?side1 ?side2 A2.out).mono ?_); (case side1 => exact Kd.C_below HR0_2.out (bel HB)); (case side2 => exact HC0_2.out); rintro e w11 ⟨v268, rfl, ho0, hb⟩; refine ⟨_, rfl, ?_⟩; have HO269 := am (Kd.R_lower ho0 (below_size (bel HB))); replace BK264 := am (blk_below (g := gb264) (o := .cells #[.int .i64 a0_0, .int .i64 a0_1, .slice A0_2 l0_2.length c0_2] 27 (0, 0)) (mP BK264) hb); replace BK265 := am (blk_below (g := gb265) (o := .cells #[.int .i64 0, .int .i64 0, .slice none 0 0] 38 (0, 0)) (mP BK265) hb); replace BK266 := am (blk_below (g := gb266) (o := .cells #[.int .i64 a0_0, .int .i64 a0_1, .slice none 0 0] 38 (0, 0)) (mP BK266) hb); replace HB := bS HB hb; (try clear hb); (try clear hb2); (try clear hk); (try clear hi); (try clear ho0); obtain ⟨Ao12, co12, eo12⟩ := Kd.R_slice HO269.out; subst eo12; have hz13 := cl3 BK266; have hz14 := cl3 BK265))
 refine bodyPost_ret (results_cell_row rfl _ _ gb265 38 #[.int .i64 a0_0, .int .i64 a0_1, .slice Ao12 t267.length co12] (0, 0) _ rfl (mP BK265) Try.underlying38 rfl (by kernel_rfl)) rfl ?_
 exact ⟨_, by first | rfl | (simp [errW_none, errW_some] <;> rfl) | (simp [*, errW_none, errW_some] <;> rfl), by (with_reducible repeat (first | apply Kd.R_alloc | apply Kd.R_drewN | apply Kd.R_drew)); exact Kd.R_mono (RF (RF (RF (Kd.R_far (p := ⟨gb266, 2, none⟩) (Kd.R_types (Kd.R_types HO269.out BK266.out (by decide)) BK265.out (by decide)) (fun _ hk => hk.1.2) (.slice Ao12 t267.length co12))))) (fun _ hk => trivial), bel HB⟩

/-! ### laws_toEntry: function 112 -/
def laws_toEntry.f (k : Nat) (a0_0 : Int) (a0_1 : Int) (a0_2 : Int) (l0_3 : List Int) : Option (Int × Int × Int × List Int) := (laws_toEvent.f k a0_1 a0_2 l0_3).bind fun bt273 => (some (a0_0, bt273.1, bt273.2.1, bt273.2.2))
theorem laws_toEntry.mono : ∀ a0 a1 a2 a3 k, LeO (laws_toEntry.f k a0 a1 a2 a3) (laws_toEntry.f (k + 1) a0 a1 a2 a3) := by
 intro a0 a1 a2 a3 k
 unfold laws_toEntry.f
 repeat' first
   | (with_reducible exact laws_toEvent.mono _ _ _ _)
   | (with_reducible exact LeO.refl _)
   | (with_reducible exact LeO.none _)
   | (with_reducible refine LeO.ite ?_ ?_)
   | (with_reducible refine LeO.bind ?_ (fun _ => ?_))
   | exact laws_toEvent.mono _ _ _ _
   | exact LeO.none _
   | refine LeO.ite ?_ ?_
   | refine LeO.bind ?_ (fun _ => ?_)
set_option maxHeartbeats 8000000 in
set_option maxRecDepth 100000 in
theorem laws_toEntry.calls (k : Nat) (a0_0 : Int) (a0_1 : Int) (a0_2 : Int) (A0_3 : Option Addr) (c0_3 : Nat) (l0_3 : List Int) (r1 : Int) (r2 : Int) (r3 : Int) (r4 : List Int) (w : World) (hr0_3 : Kd.C (Kd.int .u8) w A0_3 l0_3.length l0_3) (hc0_3 : l0_3.length ≤ c0_3) (h : laws_toEntry.f k a0_0 a0_1 a0_2 l0_3 = some (r1, r2, r3, r4)) :
  Calls Try.prog 112 #[.agg #[.int .i64 a0_0, .int .i64 a0_1, .int .i64 a0_2, .slice A0_3 l0_3.length c0_3]] w fun e w' => ∃ v3_ : Value, e = .returned (.agg #[.int .i64 r1, .int .i64 r2, .int .i64 r3, v3_]) ∧ Kd.R (Kd.int .u8) 5 w' w.heap.size (fun _ => True) v3_ r4 ∧ Below w.heap.size w w' := by
 have hu131 := Try.underlying131
 have hu55 := Try.underlying55
 have hu27 := Try.underlying27
 have hu38 := Try.underlying38
 have HR0_3 := Aside0.mk hr0_3
 have HC0_3 := Aside0.mk hc0_3
 clear hr0_3 hc0_3
 have HB := am (Below.refl w.heap.size w)
 have H : ((laws_toEvent.f k a0_1 a0_2 l0_3).bind fun bt273 => (some (a0_0, bt273.1, bt273.2.1, bt273.2.2))) = some (r1, r2, r3, r4) := h
 clear h
 replace H := Option.bind_eq_some_iff.mp H
 obtain ⟨⟨t273, t274, t275⟩, A20, H⟩ := H
 replace H : (some (a0_0, t273, t274, t275)) = some (r1, r2, r3, r4) := H
 have A2 := Aside0.mk A20
 clear A20
 simp only [Option.some.injEq, Prod.mk.injEq] at H
 obtain ⟨rfl, rfl, rfl, rfl⟩ := H
 go_enter Try.func112, Try.ntmps112
 go_wp2_with (first | ((with_reducible refine gate_dst (N := 1) rfl ?_); refine boxE #[.int .i64 a0_0, .int .i64 a0_1, .int .i64 a0_2, .slice A0_3 l0_3.length c0_3] 131 (N := 1) rfl rfl ?_; intro gb270 hg w3 hbox hb; have BK270 := Aside0.mk hbox; have GW270 := gZ HB hg; have GE270 := gZ HB hg; replace HB := bS HB hb; clear hb hbox hg) | ((with_reducible refine gate_dst (N := 2) rfl ?_); refine boxE #[.int .i64 0, .int .i64 0, .int .i64 0, .slice none 0 0] 55 (N := 2) rfl rfl ?_; intro gb271 hg w4 hbox hb; have BK271 := Aside0.mk hbox; have GW271 := gZ HB hg; have GE271 := gZ HB hg; replace HB := bS HB hb; have NB270_271 := nL BK270 hg; have NB271_270 := nG BK270 hg; replace BK270 := bK BK270 hb; clear hb hbox hg) | ((with_reducible refine gate_dst (N := 3) rfl ?_); refine boxE #[.int .i64 0, .int .i64 0, .int .i64 0, .slice none 0 0] 55 (N := 3) rfl rfl ?_; intro gb272 hg w5 hbox hb; have BK272 := Aside0.mk hbox; have GW272 := gZ HB hg; have GE272 := gZ HB hg; replace HB := bS HB hb; have NB270_272 := nL BK270 hg; have NB272_270 := nG BK270 hg; replace BK270 := bK BK270 hb; have NB271_272 := nL BK271 hg; have NB272_271 := nG BK271 hg; replace BK271 := bK BK271 hb; clear hb hbox hg; have hnb6 := NB270_271.out; have hnc6 := NB271_270.out; have hnb7 := NB270_272.out; have hnc7 := NB272_270.out; have hz8 := cl4 BK270; have hnb9 := NB272_271.out; have hnc9 := NB271_272.out; have hz10 := cl4 BK272) | ((with_reducible refine gate_callee (f := 13) rfl ?_); refine goA (some 9) rfl rfl Try.func13 rfl #[.agg #[.int .i64 a0_1, .int .i64 a0_2, .slice A0_3 l0_3.length c0_3]] rfl ?_; (with_reducible refine (laws_toEvent.calls k a0_1 a0_2 _ _ l0_3 t273 t274 t275 _ ?side1 ?side2 A2.out).mono ?_); (case side1 => exact Kd.C_below HR0_3.out (bel HB)); (case side2 => exact HC0_3.out); rintro e w11 ⟨v276, rfl, ho0, hb⟩; refine ⟨_, rfl, ?_⟩; have HO277 := am (Kd.R_lower ho0 (below_size (bel HB))); replace BK270 := am (blk_below (g := gb270) (o := .cells #[.int .i64 a0_0, .int .i64 a0_1, .int .i64 a0_2, .slice A0_3 l0_3.length c0_3] 131 (0, 0)) (mP BK270) hb); replace BK271 := am (blk_below (g := gb271) (o := .cells #[.int .i64 0, .int .i64 0, .int .i64 0, .slice none 0 0] 55 (0, 0)) (mP BK271) hb); replace BK272 := am (blk_below (g := gb272) (o := .cells #[.int .i64 a0_0, .int .i64 0, .int .i64 0, .slice none 0 0] 55 (0, 0)) (mP BK272) hb); replace HB := bS HB hb; (try clear hb); (try clear hb2); (try clear hk); (try clear hi); (try clear ho0); have hz12 := cl4 BK272; obtain ⟨Ao13, co13, eo13⟩ := Kd.R_slice HO277.out; subst eo13; have hz14 := cl4 BK271))
 refine bodyPost_ret (results_cell_row rfl _ _ gb271 55 #[.int .i64 a0_0, .int .i64 t273, .int .i64 t274, .slice Ao13 t275.length co13] (0, 0) _ rfl (mP BK271) Try.underlying55 rfl (by kernel_rfl)) rfl ?_
 exact ⟨_, by first | rfl | (simp [errW_none, errW_some] <;> rfl) | (simp [*, errW_none, errW_some] <;> rfl), by (with_reducible repeat (first | apply Kd.R_alloc | apply Kd.R_drewN | apply Kd.R_drew)); exact Kd.R_mono (RF (RF (RF (RF (Kd.R_far (p := ⟨gb272, 3, none⟩) (Kd.R_far (p := ⟨gb272, 2, none⟩) (Kd.R_far (p := ⟨gb272, 1, none⟩) (Kd.R_types (Kd.R_types HO277.out BK272.out (by decide)) BK271.out (by decide)) (fun _ hk => hk.1.2) (.int .i64 t273)) (fun _ hk => hk.1.2) (.int .i64 t274)) (fun _ hk => hk.1.2) (.slice Ao13 t275.length co13)))))) (fun _ hk => trivial), bel HB⟩

/-! ### laws_toEntryS: function 58 -/
def laws_toEntryS.l0 : Nat → List (S131) → List (S55) → Int → Option ((List (S55)))
 | 0, _, _, _ => none
 | k + 1, x0, x3, x4 => if x4 < (x0.length : Int) then (if 0 ≤ x4 then ((laws_toEntry.f k ((rd_T131 x0 x4).f0) ((rd_T131 x0 x4).f1.f0) ((rd_T131 x0 x4).f1.f1) ((rd_T131 x0 x4).f1.f2)).bind fun bt282 => (if x4 < (x3.length : Int) then (laws_toEntryS.l0 k x0 (x3.set (x4 : Int).toNat (⟨bt282.1, (⟨bt282.2.1, bt282.2.2.1, bt282.2.2.2⟩ : S38)⟩ : S55)) (wrap64 (x4 + 1))) else (none))) else (none)) else (some x3)
def laws_toEntryS.f (k : Nat) (l0 : List (S131)) : Option ((List (S55))) := if 0 ≤ (l0.length : Int) then (if ((l0.length : Int) : Int).toNat ≤ 5864062014805 then (laws_toEntryS.l0 k l0 (List.replicate ((l0.length : Int) : Int).toNat z55) 0) else (none)) else (none)
theorem laws_toEntryS.mono_l : ∀ k, (∀ y0 y1 y2, LeO (laws_toEntryS.l0 k y0 y1 y2) (laws_toEntryS.l0 (k + 1) y0 y1 y2))
 | 0 => fun _ _ _ r h => by simp [laws_toEntryS.l0] at h
 | k + 1 => by
  have ih0 := laws_toEntryS.mono_l k
  intro y0 y1 y2
  unfold laws_toEntryS.l0
  repeat' first
  | (with_reducible exact ih0 _ _ _)
  | (with_reducible exact laws_toEntry.mono _ _ _ _ _)
  | (with_reducible exact LeO.refl _)
  | (with_reducible exact LeO.none _)
  | (with_reducible refine LeO.ite ?_ ?_)
  | (with_reducible refine LeO.bind ?_ (fun _ => ?_))
  | exact ih0 _ _ _
  | exact laws_toEntry.mono _ _ _ _ _
  | exact LeO.none _
  | refine LeO.ite ?_ ?_
  | refine LeO.bind ?_ (fun _ => ?_)
theorem laws_toEntryS.mono : ∀ a0 k, LeO (laws_toEntryS.f k a0) (laws_toEntryS.f (k + 1) a0) := by
 intro a0 k
 have ih0 := laws_toEntryS.mono_l k
 unfold laws_toEntryS.f
 repeat' first
   | (with_reducible exact ih0 _ _ _)
   | (with_reducible exact laws_toEntry.mono _ _ _ _ _)
   | (with_reducible exact LeO.refl _)
   | (with_reducible exact LeO.none _)
   | (with_reducible refine LeO.ite ?_ ?_)
   | (with_reducible refine LeO.bind ?_ (fun _ => ?_))
   | exact ih0 _ _ _
   | exact laws_toEntry.mono _ _ _ _ _
   | exact LeO.none _
   | refine LeO.ite ?_ ?_
   | refine LeO.bind ?_ (fun _ => ?_)
set_option maxHeartbeats 8000000 in
set_option maxRecDepth 100000 in
theorem laws_toEntryS.calls (k : Nat) (A0 : Option Addr) (c0 : Nat) (l0 : List (S131)) (r : List (S55)) (w : World) (hr0 : Kd.C k131 w A0 l0.length l0) (hc0 : l0.length ≤ c0) (h : laws_toEntryS.f k l0 = some r) :
  Calls Try.prog 58 #[.slice A0 l0.length c0] w fun e w' => ∃ v0_ : Value, e = .returned (v0_) ∧ Kd.S k55 55 w' w.heap.size (fun _ => True) v0_ r ∧ Below w.heap.size w w' := by
 have hu131 := Try.underlying131
 have hu55 := Try.underlying55
 have hu27 := Try.underlying27
 have hu38 := Try.underlying38
 have HR0 := Aside0.mk hr0
 have HC0 := Aside0.mk hc0
 clear hr0 hc0
 have HB := am (Below.refl w.heap.size w)
 have H : (if 0 ≤ (l0.length : Int) then (if ((l0.length : Int) : Int).toNat ≤ 5864062014805 then (laws_toEntryS.l0 k l0 (List.replicate ((l0.length : Int) : Int).toNat z55) 0) else (none)) else (none)) = some r := h
 clear h
 by_cases c2 : 0 ≤ (l0.length : Int)
 ·
  rw [if_pos c2] at H
  have c2b0 := eq_true c2
  have c2b1 : decide (0 ≤ (l0.length : Int)) = true := decide_eq_true c2
  clear c2
  by_cases c3 : ((l0.length : Int) : Int).toNat ≤ 5864062014805
  ·
   rw [if_pos c3] at H
   have c3b0 := eq_true c3
   have c3b1 : decide (((l0.length : Int) : Int).toNat ≤ 5864062014805) = true := decide_eq_true c3
   clear c3
   obtain ⟨y278, hy278⟩ : ∃ y_ : List (S55), y_ = (List.replicate ((l0.length : Int) : Int).toNat z55) := ⟨_, rfl⟩
   replace H : (laws_toEntryS.l0 k l0 y278 0) = some r := by first | (rw [hy278]; with_reducible exact H) | (have H2_ := (Option.bind_some _ _).symm.trans H; rw [hy278]; with_reducible exact H2_) | (have H2_ := (Option.bind_some _ _).symm.trans H; with_reducible exact H2_) | with_reducible exact H | (rw [hy278]; exact H) | exact H
   have Ny278 := Aside0.mk hy278
   clear hy278
   have H' := Aside0.mk H
   clear H
   go_enter Try.func58, Try.ntmps58
   go_wp2_with (first | ((with_reducible refine gate_dst (N := 7) rfl ?_); refine Kd.S_make k55 _ 55 rfl (N := 7) rfl 30 _ _ rfl (l0.length : Int) rfl rfl Try.underlying30 (.agg #[(.int .i64 0), (.int .i64 0), (.int .i64 0), (.slice none 0 0)]) 48 info55 rfl (by decide) (by omega) z55 (ok := fun _ => True) (okp := fun _ => True) (k55_mkM _ _ _ z55 (Kd.R_nil _ _ _ _ _)) (fun _ hk => hk) trivial (of_decide_eq_true (by first | (with_reducible assumption) | assumption)) (Nat.le_trans (Nat.mul_le_mul_right _ (of_decide_eq_true (by first | (with_reducible assumption) | assumption) : (l0.length : Int).toNat ≤ 5864062014805)) (by omega)) (Below.refl _ _) (Nat.le_refl _) ?_; intro v279 w4 ho5 hb hg_ hnew_; clear hg_ hnew_; (first | rw [← Ny278.out] at ho5 | (simp only [Int.reduceToNat] at ho5; rw [← Ny278.out] at ho5)); have HO280 := am (Kd.S_lower ho5 (below_size (bel HB))); replace HB := bS HB hb; clear hb ho5))
   go_loopg [4] k (fun kq v4 w' => ∃ (x3_1 : List (S55)) (x4_1 : Int), v4 = .int .i64 x4_1 ∧ Aside0 (laws_toEntryS.l0 kq l0 x3_1 x4_1 = some r) ∧ Aside0 (kq ≤ k) ∧ Aside0 (Kd.S k55 55 w' w.heap.size (fun _ => True) v279 x3_1) ∧ Aside0 (Below w.heap.size w w'))
   case atStart => exact ⟨(y278), (0), (by first | rfl | (simp; done) | (simp [*]; done)), H', ⟨Nat.le_refl _⟩, ⟨by (with_reducible repeat (first | apply Kd.S_alloc | apply Kd.S_drewN | apply Kd.S_drew)); exact HO280.out⟩, ⟨bel HB⟩⟩
   case round =>
    clear H'
    try clear c2
    try clear c2b0
    try clear c2b1
    try clear p2
    try clear c3
    try clear c3b0
    try clear c3b1
    try clear c5
    obtain ⟨x3_1, x4_1, rfl, HA, HK1, HO_3, HB⟩ := hrel
    cases gk with
    | zero => exact absurd HA.out (by simp [laws_toEntryS.l0])
    | succ k1 =>
     have H := HA.out
     clear HA
     simp only [laws_toEntryS.l0] at H
     by_cases c6 : x4_1 < (l0.length : Int)
     ·
      rw [if_pos c6] at H
      have c6b0 : decide (x4_1 < (l0.length : Int)) = true := decide_eq_true c6
      clear c6
      by_cases c7 : 0 ≤ x4_1
      ·
       rw [if_pos c7] at H
       have c7b0 : decide (0 ≤ x4_1) = true := decide_eq_true c7
       clear c7
       replace H := Option.bind_eq_some_iff.mp H
       obtain ⟨⟨t282, t283, t284, t285⟩, A80, H⟩ := H
       replace H : (if x4_1 < (x3_1.length : Int) then (laws_toEntryS.l0 k1 l0 (x3_1.set (x4_1 : Int).toNat (⟨t282, (⟨t283, t284, t285⟩ : S38)⟩ : S55)) (wrap64 (x4_1 + 1))) else (none)) = some r := H
       have A8 := Aside0.mk A80
       clear A80
       by_cases c9 : x4_1 < (x3_1.length : Int)
       ·
        rw [if_pos c9] at H
        have c9b0 : decide (x4_1 < (x3_1.length : Int)) = true := decide_eq_true c9
        clear c9
        obtain ⟨y288, hy288⟩ : ∃ y_ : List (S55), y_ = (x3_1.set (x4_1 : Int).toNat (⟨t282, (⟨t283, t284, t285⟩ : S38)⟩ : S55)) := ⟨_, rfl⟩
        replace H : (laws_toEntryS.l0 k1 l0 y288 (wrap64 (x4_1 + 1))) = some r := by first | (rw [hy288]; with_reducible exact H) | (have H2_ := (Option.bind_some _ _).symm.trans H; rw [hy288]; with_reducible exact H2_) | (have H2_ := (Option.bind_some _ _).symm.trans H; with_reducible exact H2_) | with_reducible exact H | (rw [hy288]; exact H) | exact H
        have Ny288 := Aside0.mk hy288
        clear hy288
        have H' := Aside0.mk H
        clear H
        have p281 : 0 ≤ (x4_1 : Int) := of_decide_eq_true (by first | (with_reducible assumption) | assumption)
        have q281 : x4_1 < (l0.length : Int) := of_decide_eq_true (by first | (with_reducible assumption) | assumption)
        obtain ⟨ad281, A281_3, c281_3, e281, hx281_0, hx281_1, hx281_2, hx281_3, hl281_3, hi281_3⟩ := at_T131 HR0.out x4_1 p281 q281
        cases e281
        replace hx281_0 := (HB.out.cell (World.block_lt_of_cell? w _ hx281_0)).trans hx281_0
        replace hx281_1 := (HB.out.cell (World.block_lt_of_cell? w _ hx281_1)).trans hx281_1
        replace hx281_2 := (HB.out.cell (World.block_lt_of_cell? w _ hx281_2)).trans hx281_2
        replace hx281_3 := (HB.out.cell (World.block_lt_of_cell? w _ hx281_3)).trans hx281_3
        have HR281_3 := Aside0.mk hi281_3
        have HC281_3 := Aside0.mk hl281_3
        clear hi281_3 hl281_3
        replace p281 := eq_true p281
        replace q281 := eq_true q281
        go_wp2_with (first | ((with_reducible refine gate_callee (f := 112) rfl ?_); refine goA (some 20) rfl rfl Try.func112 rfl #[.agg #[.int .i64 ((rd_T131 l0 x4_1).f0), .int .i64 ((rd_T131 l0 x4_1).f1.f0), .int .i64 ((rd_T131 l0 x4_1).f1.f1), .slice A281_3 ((rd_T131 l0 x4_1).f1.f2).length c281_3]] rfl ?_; (with_reducible refine (laws_toEntry.calls k1 ((rd_T131 l0 x4_1).f0) ((rd_T131 l0 x4_1).f1.f0) ((rd_T131 l0 x4_1).f1.f1) _ _ ((rd_T131 l0 x4_1).f1.f2) t282 t283 t284 t285 _ ?side1 ?side2 A8.out).mono ?_); (case side1 => exact mC HR281_3 HB); (case side2 => exact HC281_3.out); rintro e w11 ⟨v286, rfl, ho0, hb⟩; refine ⟨_, rfl, ?_⟩; replace HO_3 := am (Kd.S_elder' (mS HO_3) (Kd.R_base ho0) hb); have HO287 := am (Kd.R_lower ho0 (below_size (bel HB))); replace HB := bS HB hb; (try clear hb); (try clear hb2); (try clear hk); (try clear hi); (try clear ho0); have p10 : 0 ≤ (x4_1 : Int) := of_decide_eq_true (by first | (with_reducible assumption) | assumption); have q10 : (x4_1 : Int) < ((x3_1.length : Int) : Int) := of_decide_eq_true (by first | (with_reducible assumption) | assumption); obtain ⟨go10, co10, eo10, gb10, gl10, cl10, HG10⟩ := Kd.S_form HO_3.out (by omega); (first | cases eo10 | (injection eo10 with ea_ en_ ec_; (first | subst ea_ | (injection ea_ with ea_; subst ea_)); subst ec_; clear en_)); have GB10 := Aside0.mk gb10; have GG10 := Aside0.mk HG10; clear gb10 gl10 HG10; obtain ⟨_, ce10, hcl10, hM10, hcc10, hfr10, _, _⟩ := Kd.S_elem HO_3.out z55 (x4_1 : Int) p10 q10; obtain ⟨ve10_3, rfl, ge10_3⟩ := k55_openM hM10; have hx10_0 : w11.cell? ⟨go10, (x4_1 : Int).toNat * 4, none⟩ = some (.int .i64 ((rd_T55 x3_1 x4_1).f0)) := hcc10 0 _ rfl; have hx10_1 : w11.cell? ⟨go10, (x4_1 : Int).toNat * 4 + 1, none⟩ = some (.int .i64 ((rd_T55 x3_1 x4_1).f1.f0)) := hcc10 1 _ rfl; have hx10_2 : w11.cell? ⟨go10, (x4_1 : Int).toNat * 4 + 2, none⟩ = some (.int .i64 ((rd_T55 x3_1 x4_1).f1.f1)) := hcc10 2 _ rfl; have hx10_3 : w11.cell? ⟨go10, (x4_1 : Int).toNat * 4 + 3, none⟩ = some (ve10_3) := hcc10 3 _ rfl; have hf10_0 : w11.frozen? ⟨go10, (x4_1 : Int).toNat * 4, none⟩ = false := hfr10 0; have hf10_1 : w11.frozen? ⟨go10, (x4_1 : Int).toNat * 4 + 1, none⟩ = false := hfr10 1; have hf10_2 : w11.frozen? ⟨go10, (x4_1 : Int).toNat * 4 + 2, none⟩ = false := hfr10 2; have hf10_3 : w11.frozen? ⟨go10, (x4_1 : Int).toNat * 4 + 3, none⟩ = false := hfr10 3; clear hcl10 hcc10 hfr10 hM10; replace p10 := eq_true p10; replace q10 := eq_true q10; have n_ := am (Kd.S_mono (ok' := (fun k_ => some k_ ≠ (v286 : Value).ownBlock)) HO_3.out (fun k_ hk => hk.2)); clear HO_3; have HO_3 := n_; clear n_; have HX12 := am (show Kd.S k55 55 w11 w.heap.size (fun k_ => ((fun _ => True)) k_ ∧ ¬ ((fun k_ => some k_ = (v286 : Value).ownBlock)) k_) (.slice (some ⟨go10, 0, none⟩) x3_1.length co10) x3_1 from (by (with_reducible repeat (first | apply Kd.S_alloc | apply Kd.S_drewN | apply Kd.S_drew)); exact Kd.S_mono HO_3.out (fun k_ hk => ⟨trivial, fun e_ => hk e_⟩))); obtain ⟨oki12, ce12, hcl12, hM12, hcc12, hfr12, hoki12, hH12⟩ := Kd.S_elem HX12.out z55 (x4_1 : Int) (of_decide_eq_true (by first | (with_reducible assumption) | assumption)) (by have h_ : (x4_1 : Int) < ((x3_1.length : Int) : Int) := of_decide_eq_true (by first | (with_reducible assumption) | assumption); first | exact h_ | (have e_ := (Kd.S_reads' HO_3.out).1; omega) | simpa using h_); obtain ⟨ve12_3, rfl, ge12_3⟩ := k55_openM hM12; have HP12 := Kd.S_seg hH12 (of_decide_eq_true (by first | (with_reducible assumption) | assumption)) (by have h_ : (x4_1 : Int) < ((x3_1.length : Int) : Int) := of_decide_eq_true (by first | (with_reducible assumption) | assumption); first | exact h_ | (have e_ := (Kd.S_reads' HO_3.out).1; omega) | simpa using h_) (seg := [.int .i64 t282, .int .i64 t283, .int .i64 t284, v286]) (j := 0) (show 4 ≤ 4 from by decide) (x' := (⟨t282, (⟨t283, t284, t285⟩ : S38)⟩ : S55)) (k55_mkM _ _ _ (⟨t282, (⟨t283, t284, t285⟩ : S38)⟩ : S55) (Kd.R_mono (Kd.R_tight rfl (Kd.R_mono (ok' := fun k_ => ((fun _ => True)) k_ ∧ k_ ≠ go10) (Kd.R_apart' (HO287.out) (Kd.S_typed HO_3.out) (by decide)) (fun k_ hk => ⟨trivial, fun e_ => (hk.2) (by rw [e_]; rfl)⟩))) (fun _ h_ => Or.inr (h_)))) (fun _ hk => hk) (fun k_ hk_ => ((Kd.R_mono (ok' := fun k_ => ((fun _ => True)) k_ ∧ k_ ≠ go10) (Kd.R_apart' (HO287.out) (Kd.S_typed HO_3.out) (by decide)) (fun k_ hk => ⟨trivial, fun e_ => (hk.2) (by rw [e_]; rfl)⟩))).1 k_ hk_.symm); have hx12_0 := hcc12 0 _ rfl; (try simp only [show (k55).sz = 4 from rfl, Nat.mul_one, Nat.add_zero] at hx12_0); have hf12_0 := hfr12 0; (try simp only [show (k55).sz = 4 from rfl, Nat.mul_one, Nat.add_zero] at hf12_0); have hx12_1 := hcc12 1 _ rfl; (try simp only [show (k55).sz = 4 from rfl, Nat.mul_one, Nat.add_zero] at hx12_1); have hf12_1 := hfr12 1; (try simp only [show (k55).sz = 4 from rfl, Nat.mul_one, Nat.add_zero] at hf12_1); have hx12_2 := hcc12 2 _ rfl; (try simp only [show (k55).sz = 4 from rfl, Nat.mul_one, Nat.add_zero] at hx12_2); have hf12_2 := hfr12 2; (try simp only [show (k55).sz = 4 from rfl, Nat.mul_one, Nat.add_zero] at hf12_2); have hx12_3 := hcc12 3 _ rfl; (try simp only [show (k55).sz = 4 from rfl, Nat.mul_one, Nat.add_zero] at hx12_3); have hf12_3 := hfr12 3; (try simp only [show (k55).sz = 4 from rfl, Nat.mul_one, Nat.add_zero] at hf12_3); clear hcl12 hcc12 hfr12 hM12 hoki12 hH12) | ((with_reducible refine gate_store (t := 55) (p := 21) rfl ?_); refine store_event (t := 55) (p := 21) (v := ?vo_w13) (w1 := ((((w11.setCell ⟨go10, (x4_1 : Int).toNat * 4, none⟩ (.int .i64 t282)).setCell ⟨go10, (x4_1 : Int).toNat * 4 + 1, none⟩ (.int .i64 t283)).setCell ⟨go10, (x4_1 : Int).toNat * 4 + 2, none⟩ (.int .i64 t284)).setCell ⟨go10, (x4_1 : Int).toNat * 4 + 3, none⟩ (v286))) ?hg ?ho ?hn ?hr ?_; (case ho => rfl); (case hg => rfl); (case hn => rfl); (case hr => obtain ⟨A_, c_, e_⟩ := Kd.R_slice HO287.out; subst e_; first | (go_simp; done) | (go_simp; rfl)); intro w13 hw; have hg : w11.grownBy w13 (some go10) := (by rw [hw]; exact HP12.2); have hp_ : Kd.S k55 55 w13 w.heap.size (fun _ => True) (.slice (some ⟨go10, 0, none⟩) x3_1.length co10) y288 := (by rw [hw, Ny288.out]; exact HP12.1); clear HP12; replace HO_3 := Aside0.mk hp_; replace HB := am ((by rw [hw]; exact below_set (below_set (below_set (below_set (HB.out) GB10.out) GB10.out) GB10.out) GB10.out : Below w.heap.size w w13)); clear HO287; clear hg hw hp_))
        go_roundg k1
        case measure => have := HK1.out; omega
        case rel => exact ⟨(y288), (wrap64 (x4_1 + 1)), (by first | rfl | (simp; done) | (simp [*]; done)), H', ⟨by have := HK1.out; omega⟩, ⟨by (with_reducible repeat (first | apply Kd.S_alloc | apply Kd.S_drewN | apply Kd.S_drew)); exact HO_3.out⟩, ⟨bel HB⟩⟩
       rw [if_neg c9] at H
       exact absurd H (by simp)
      rw [if_neg c7] at H
      exact absurd H (by simp)
     rw [if_neg c6] at H
     have c6b0 : decide (x4_1 < (l0.length : Int)) = false := decide_eq_false c6
     clear c6
     obtain rfl := Option.some.inj H
     go_wp2
     go_ret
     exact ⟨_, by first | rfl | (simp [errW_none, errW_some] <;> rfl) | (simp [*, errW_none, errW_some] <;> rfl), by (with_reducible repeat (first | apply Kd.S_alloc | apply Kd.S_drewN | apply Kd.S_drew)); exact HO_3.out, bel HB⟩
  rw [if_neg c3] at H
  exact absurd H (by simp)
 rw [if_neg c2] at H
 exact absurd H (by simp)

/-! ### laws_toNode: function 12 -/
def laws_toNode.f (k : Nat) (a0_0 : Int) (a0_1 : Bool) (a0_2 : Int) (a0_3 : Int) (l0_4 : List (S131)) (a0_5 : Int) (a0_6 : Int) (a0_7 : Int) (a0_8 : Int) : Option (Int × Bool × Int × Int × (List (S55)) × Int × Int × Int × Int) := (laws_toEntryS.f k l0_4).bind fun t292 => (some (a0_0, a0_1, a0_2, a0_3, t292, a0_5, a0_6, a0_7, a0_8))
theorem laws_toNode.mono : ∀ a0 a1 a2 a3 a4 a5 a6 a7 a8 k, LeO (laws_toNode.f k a0 a1 a2 a3 a4 a5 a6 a7 a8) (laws_toNode.f (k + 1) a0 a1 a2 a3 a4 a5 a6 a7 a8) := by
 intro a0 a1 a2 a3 a4 a5 a6 a7 a8 k
 unfold laws_toNode.f
 repeat' first
   | (with_reducible exact laws_toEntryS.mono _ _)
   | (with_reducible exact LeO.refl _)
   | (with_reducible exact LeO.none _)
   | (with_reducible refine LeO.ite ?_ ?_)
   | (with_reducible refine LeO.bind ?_ (fun _ => ?_))
   | exact laws_toEntryS.mono _ _
   | exact LeO.none _
   | refine LeO.ite ?_ ?_
   | refine LeO.bind ?_ (fun _ => ?_)
set_option maxHeartbeats 8000000 in
set_option maxRecDepth 100000 in
theorem laws_toNode.calls (k : Nat) (a0_0 : Int) (a0_1 : Bool) (a0_2 : Int) (a0_3 : Int) (A0_4 : Option Addr) (c0_4 : Nat) (l0_4 : List (S131)) (a0_5 : Int) (a0_6 : Int) (a0_7 : Int) (a0_8 : Int) (r1 : Int) (r2 : Bool) (r3 : Int) (r4 : Int) (r5 : List (S55)) (r6 : Int) (r7 : Int) (r8 : Int) (r9 : Int) (w : World) (hr0_4 : Kd.C k131 w A0_4 l0_4.length l0_4) (hc0_4 : l0_4.length ≤ c0_4) (h : laws_toNode.f k a0_0 a0_1 a0_2 a0_3 l0_4 a0_5 a0_6 a0_7 a0_8 = some (r1, r2, r3, r4, r5, r6, r7, r8, r9)) :
  Calls Try.prog 12 #[.agg #[.int .i64 a0_0, .bool a0_1, .int .i64 a0_2, .int .i64 a0_3, .slice A0_4 l0_4.length c0_4, .int .i64 a0_5, .int .i64 a0_6, .int .i64 a0_7, .int .i64 a0_8]] w fun e w' => ∃ v4_ : Value, e = .returned (.agg #[.int .i64 r1, .bool r2, .int .i64 r3, .int .i64 r4, v4_, .int .i64 r6, .int .i64 r7, .int .i64 r8, .int .i64 r9]) ∧ Kd.S k55 55 w' w.heap.size (fun _ => True) v4_ r5 ∧ Below w.heap.size w w' := by
 have hu24 := Try.underlying24
 have hu32 := Try.underlying32
 have HR0_4 := Aside0.mk hr0_4
 have HC0_4 := Aside0.mk hc0_4
 clear hr0_4 hc0_4
 have HB := am (Below.refl w.heap.size w)
 have H : ((laws_toEntryS.f k l0_4).bind fun t292 => (some (a0_0, a0_1, a0_2, a0_3, t292, a0_5, a0_6, a0_7, a0_8))) = some (r1, r2, r3, r4, r5, r6, r7, r8, r9) := h
 clear h
 replace H := Option.bind_eq_some_iff.mp H
 obtain ⟨t292, A20, H⟩ := H
 replace H : (some (a0_0, a0_1, a0_2, a0_3, t292, a0_5, a0_6, a0_7, a0_8)) = some (r1, r2, r3, r4, r5, r6, r7, r8, r9) := H
 have A2 := Aside0.mk A20
 clear A20
 simp only [Option.some.injEq, Prod.mk.injEq] at H
 obtain ⟨rfl, rfl, rfl, rfl, rfl, rfl, rfl, rfl, rfl⟩ := H
 go_enter Try.func12, Try.ntmps12
 go_wp2_with (first | ((with_reducible refine gate_dst (N := 1) rfl ?_); refine boxE #[.int .i64 a0_0, .bool a0_1, .int .i64 a0_2, .int .i64 a0_3, .slice A0_4 l0_4.length c0_4, .int .i64 a0_5, .int .i64 a0_6, .int .i64 a0_7, .int .i64 a0_8] 24 (N := 1) rfl rfl ?_; intro gb289 hg w3 hbox hb; have BK289 := Aside0.mk hbox; have GW289 := gZ HB hg; have GE289 := gZ HB hg; replace HB := bS HB hb; clear hb hbox hg) | ((with_reducible refine gate_dst (N := 2) rfl ?_); refine boxE #[.int .i64 0, .bool false, .int .i64 0, .int .i64 0, .slice none 0 0, .int .i64 0, .int .i64 0, .int .i64 0, .int .i64 0] 32 (N := 2) rfl rfl ?_; intro gb290 hg w4 hbox hb; have BK290 := Aside0.mk hbox; have GW290 := gZ HB hg; have GE290 := gZ HB hg; replace HB := bS HB hb; have NB289_290 := nL BK289 hg; have NB290_289 := nG BK289 hg; replace BK289 := bK BK289 hb; clear hb hbox hg) | ((with_reducible refine gate_dst (N := 3) rfl ?_); refine boxE #[.int .i64 0, .bool false, .int .i64 0, .int .i64 0, .slice none 0 0, .int .i64 0, .int .i64 0, .int .i64 0, .int .i64 0] 32 (N := 3) rfl rfl ?_; intro gb291 hg w5 hbox hb; have BK291 := Aside0.mk hbox; have GW291 := gZ HB hg; have GE291 := gZ HB hg; replace HB := bS HB hb; have NB289_291 := nL BK289 hg; have NB291_289 := nG BK289 hg; replace BK289 := bK BK289 hb; have NB290_291 := nL BK290 hg; have NB291_290 := nG BK290 hg; replace BK290 := bK BK290 hb; clear hb hbox hg; have hnb6 := NB289_290.out; have hnc6 := NB290_289.out; have hnb7 := NB289_291.out; have hnc7 := NB291_289.out; have hz8 := cl9 BK289; have hnb9 := NB291_290.out; have hnc9 := NB290_291.out; have hz10 := cl9 BK291) | ((with_reducible refine gate_callee (f := 58) rfl ?_); refine goA (some 18) rfl rfl Try.func58 rfl #[.slice A0_4 l0_4.length c0_4] rfl ?_; (with_reducible refine (laws_toEntryS.calls k _ _ l0_4 t292 _ ?side1 ?side2 A2.out).mono ?_); (case side1 => exact Kd.C_below HR0_4.out (bel HB)); (case side2 => exact HC0_4.out); rintro e w11 ⟨v293, rfl, ho0, hb⟩; refine ⟨_, rfl, ?_⟩; have HO294 := am (Kd.S_lower ho0 (below_size (bel HB))); replace BK289 := am (blk_below (g := gb289) (o := .cells #[.int .i64 a0_0, .bool a0_1, .int .i64 a0_2, .int .i64 a0_3, .slice A0_4 l0_4.length c0_4, .int .i64 a0_5, .int .i64 a0_6, .int .i64 a0_7, .int .i64 a0_8] 24 (0, 0)) (mP BK289) hb); replace BK290 := am (blk_below (g := gb290) (o := .cells #[.int .i64 0, .bool false, .int .i64 0, .int .i64 0, .slice none 0 0, .int .i64 0, .int .i64 0, .int .i64 0, .int .i64 0] 32 (0, 0)) (mP BK290) hb); replace BK291 := am (blk_below (g := gb291) (o := .cells #[.int .i64 a0_0, .bool a0_1, .int .i64 a0_2, .int .i64 a0_3, .slice none 0 0, .int .i64 0, .int .i64 0, .int .i64 0, .int .i64 0] 32 (0, 0)) (mP BK291) hb); replace HB := bS HB hb; (try clear hb); (try clear hb2); (try clear hk); (try clear hi); (try clear ho0); obtain ⟨Ao12, co12, eo12⟩ := Kd.S_slice HO294.out; subst eo12; have hz13 := cl9 BK291; have hz14 := cl9 BK289) | ((with_reducible refine gate_store (t := 2) (p := 31) rfl ?_); refine store_event (t := 2) (p := 31) (v := ?vo_w15) (w1 := (((((w11.setCell ⟨gb291, 4, none⟩ (.slice Ao12 t292.length co12)).setCell ⟨gb291, 5, none⟩ (.int .i64 a0_5)).setCell ⟨gb291, 6, none⟩ (.int .i64 a0_6)).setCell ⟨gb291, 7, none⟩ (.int .i64 a0_7)).setCell ⟨gb291, 8, none⟩ (.int .i64 a0_8))) ?hg ?ho ?hn ?hr ?_; (case ho => rfl); (case hg => rfl); (case hn => rfl); (case hr => first | (go_simp; done) | (go_simp; rfl)); intro w15 hw; have n0_ : Aside0 (Kd.S k55 55 w15 w.heap.size (fun _ => True) (.slice Ao12 t292.length co12) t292) := ⟨(by rw [hw]; exact (by (with_reducible repeat (first | apply Kd.S_alloc | apply Kd.S_drewN | apply Kd.S_drew)); exact Kd.S_mono (Kd.S_far (p := ⟨gb291, 8, none⟩) (Kd.S_far (p := ⟨gb291, 7, none⟩) (Kd.S_far (p := ⟨gb291, 6, none⟩) (Kd.S_far (p := ⟨gb291, 5, none⟩) (Kd.S_far (p := ⟨gb291, 4, none⟩) (Kd.S_types HO294.out BK291.out (by decide)) (fun _ hk => hk.2) (.slice Ao12 t292.length co12)) (fun _ hk => hk.2) (.int .i64 a0_5)) (fun _ hk => hk.2) (.int .i64 a0_6)) (fun _ hk => hk.2) (.int .i64 a0_7)) (fun _ hk => hk.2) (.int .i64 a0_8)) (fun _ hk => trivial)))⟩; have n1_ : Aside0 (w15.heap[gb289]? = some (.cells #[.int .i64 a0_0, .bool a0_1, .int .i64 a0_2, .int .i64 a0_3, .slice A0_4 l0_4.length c0_4, .int .i64 a0_5, .int .i64 a0_6, .int .i64 a0_7, .int .i64 a0_8] 24 (0, 0))) := ⟨(by rw [hw]; exact (mP BK289))⟩; have n2_ : Aside0 (w15.heap[gb290]? = some (.cells #[.int .i64 0, .bool false, .int .i64 0, .int .i64 0, .slice none 0 0, .int .i64 0, .int .i64 0, .int .i64 0, .int .i64 0] 32 (0, 0))) := ⟨(by rw [hw]; exact (mP BK290))⟩; have n3_ : Aside0 (w15.heap[gb291]? = some (.cells #[.int .i64 a0_0, .bool a0_1, .int .i64 a0_2, .int .i64 a0_3, .slice Ao12 t292.length co12, .int .i64 a0_5, .int .i64 a0_6, .int .i64 a0_7, .int .i64 a0_8] 32 (0, 0))) := ⟨(by rw [hw]; exact (mP BK291))⟩; have n4_ : Aside0 (Below w.heap.size w w15) := ⟨(by rw [hw]; exact (bel HB))⟩; clear hw; clear HO294; clear BK289; clear BK290; clear BK291; clear HB; have HO294 := n0_; have BK289 := n1_; have BK290 := n2_; have BK291 := n3_; have HB := n4_; clear n0_ n1_ n2_ n3_ n4_; have hz16 := cl9 BK291; have hz17 := cl9 BK290))
 refine bodyPost_ret (results_cell_row rfl _ _ gb290 32 #[.int .i64 a0_0, .bool a0_1, .int .i64 a0_2, .int .i64 a0_3, .slice Ao12 t292.length co12, .int .i64 a0_5, .int .i64 a0_6, .int .i64 a0_7, .int .i64 a0_8] (0, 0) _ rfl (mP BK290) Try.underlying32 rfl (by kernel_rfl)) rfl ?_
 exact ⟨_, by first | rfl | (simp [errW_none, errW_some] <;> rfl) | (simp [*, errW_none, errW_some] <;> rfl), by (with_reducible repeat (first | apply Kd.S_alloc | apply Kd.S_drewN | apply Kd.S_drew)); exact Kd.S_mono (Kd.S_far (p := ⟨gb290, 8, none⟩) (Kd.S_far (p := ⟨gb290, 7, none⟩) (Kd.S_far (p := ⟨gb290, 6, none⟩) (Kd.S_far (p := ⟨gb290, 5, none⟩) (Kd.S_far (p := ⟨gb290, 4, none⟩) (Kd.S_far (p := ⟨gb290, 3, none⟩) (Kd.S_far (p := ⟨gb290, 2, none⟩) (Kd.S_far (p := ⟨gb290, 1, none⟩) (Kd.S_far (p := ⟨gb290, 0, none⟩) (Kd.S_types HO294.out BK290.out (by decide)) (fun _ hk => hk.2) (.int .i64 a0_0)) (fun _ hk => hk.2) (.bool a0_1)) (fun _ hk => hk.2) (.int .i64 a0_2)) (fun _ hk => hk.2) (.int .i64 a0_3)) (fun _ hk => hk.2) (.slice Ao12 t292.length co12)) (fun _ hk => hk.2) (.int .i64 a0_5)) (fun _ hk => hk.2) (.int .i64 a0_6)) (fun _ hk => hk.2) (.int .i64 a0_7)) (fun _ hk => hk.2) (.int .i64 a0_8)) (fun _ hk => trivial), bel HB⟩

/-! ### impl_Entry_74: function 74 -/
def impl_Entry_74.f (l0 : List (S55)) : Option (Int) := some (l0.length : Int)
set_option maxHeartbeats 8000000 in
set_option maxRecDepth 100000 in
theorem impl_Entry_74.calls (A0 : Option Addr) (c0 : Nat) (l0 : List (S55)) (r : Int) (w : World) (hr0 : Kd.C k55 w A0 l0.length l0) (hc0 : l0.length ≤ c0) (h : impl_Entry_74.f l0 = some r) :
  Calls Try.prog 74 #[.slice A0 l0.length c0] w fun e w' => e = .returned (.int .i64 r) ∧ Drawn0 w w' := by
 have HR0 := Aside0.mk hr0
 have HC0 := Aside0.mk hc0
 clear hr0 hc0
 have H : (some (l0.length : Int)) = some r := h
 clear h
 obtain rfl := Option.some.inj H
 go_enter Try.func74, Try.ntmps74
 go_wp2
 go_ret
 exact ⟨by first | rfl | (simp; done) | (simp [*]; done), drw⟩

/-! ### impl_in: function 87 -/
def impl_in.f (a0 : Int) (a1 : Int) (a2 : Int) : Option (Bool) := if a0 ≥ a1 then (some (decide (a0 ≤ a2))) else (some false)
set_option maxHeartbeats 8000000 in
set_option maxRecDepth 100000 in
theorem impl_in.calls (a0 : Int) (a1 : Int) (a2 : Int) (r : Bool) (w : World) (h : impl_in.f a0 a1 a2 = some r) :
  Calls Try.prog 87 #[.int .i64 a0, .int .i64 a1, .int .i64 a2] w fun e w' => e = .returned (.bool r) ∧ Drawn0 w w' := by
 have H : (if a0 ≥ a1 then (some (decide (a0 ≤ a2))) else (some false)) = some r := h
 clear h
 by_cases c4 : a0 ≥ a1
 ·
  rw [if_pos c4] at H
  have c4b0 : decide (a1 ≤ a0) = true := decide_eq_true c4
  clear c4
  obtain rfl := Option.some.inj H
  go_enter Try.func87, Try.ntmps87
  go_wp2
  go_ret
  exact ⟨by first | rfl | (simp; done) | (simp [*]; done), drw⟩
 rw [if_neg c4] at H
 have c4b0 : decide (a1 ≤ a0) = false := decide_eq_false c4
 clear c4
 obtain rfl := Option.some.inj H
 go_enter Try.func87, Try.ntmps87
 go_wp2
 go_ret
 exact ⟨by first | rfl | (simp; done) | (simp [*]; done), drw⟩

/-! ### impl_isNode: function 89 -/
def impl_isNode.f (a0 : Int) : Option (Bool) := (impl_in.f a0 0 1).bind fun t295 => (some t295)
set_option maxHeartbeats 8000000 in
set_option maxRecDepth 100000 in
theorem impl_isNode.calls (a0 : Int) (r : Bool) (w : World) (h : impl_isNode.f a0 = some r) :
  Calls Try.prog 89 #[.int .i64 a0] w fun e w' => e = .returned (.bool r) ∧ Drawn0 w w' := by
 have H : ((impl_in.f a0 0 1).bind fun t295 => (some t295)) = some r := h
 clear h
 replace H := Option.bind_eq_some_iff.mp H
 obtain ⟨t295, A20, H⟩ := H
 replace H : (some t295) = some r := H
 have A2 := Aside0.mk A20
 clear A20
 obtain rfl := Option.some.inj H
 go_enter Try.func89, Try.ntmps89
 go_wp2_with (first | ((with_reducible refine gate_callee (f := 87) rfl ?_); refine goA (some 4) rfl rfl Try.func87 rfl #[.int .i64 a0, .int .i64 0, .int .i64 1] rfl ?_; (with_reducible refine (impl_in.calls a0 0 1 t295 _ A2.out).mono ?_); rintro e w' ⟨rfl, ⟨nd, rfl⟩⟩; refine ⟨_, rfl, ?_⟩))
 go_ret
 exact ⟨by first | rfl | (simp; done) | (simp [*]; done), drw⟩

/-! ### impl_isPeer: function 113 -/
def impl_isPeer.f (a0 : Int) : Option (Bool) := (impl_in.f a0 0 2).bind fun t296 => (some t296)
set_option maxHeartbeats 8000000 in
set_option maxRecDepth 100000 in
theorem impl_isPeer.calls (a0 : Int) (r : Bool) (w : World) (h : impl_isPeer.f a0 = some r) :
  Calls Try.prog 113 #[.int .i64 a0] w fun e w' => e = .returned (.bool r) ∧ Drawn0 w w' := by
 have H : ((impl_in.f a0 0 2).bind fun t296 => (some t296)) = some r := h
 clear h
 replace H := Option.bind_eq_some_iff.mp H
 obtain ⟨t296, A20, H⟩ := H
 replace H : (some t296) = some r := H
 have A2 := Aside0.mk A20
 clear A20
 obtain rfl := Option.some.inj H
 go_enter Try.func113, Try.ntmps113
 go_wp2_with (first | ((with_reducible refine gate_callee (f := 87) rfl ?_); refine goA (some 4) rfl rfl Try.func87 rfl #[.int .i64 a0, .int .i64 0, .int .i64 2] rfl ?_; (with_reducible refine (impl_in.calls a0 0 2 t296 _ A2.out).mono ?_); rintro e w' ⟨rfl, ⟨nd, rfl⟩⟩; refine ⟨_, rfl, ?_⟩))
 go_ret
 exact ⟨by first | rfl | (simp; done) | (simp [*]; done), drw⟩

/-! ### impl_EventFault: function 61 -/
def impl_EventFault.j0 : Nat → Bool → Int → Int → List Int → Option (Int)
 | 0, _, _, _, _ => none
 | k + 1, x8, x298000, x298001, x298002 => if x8 = true then (some 3) else (if ((x298000 == 2) != (decide ((x298002.length : Int) > 0))) = true then (some 1) else (if (x298002.length : Int) > 60 then (some 2) else (some 0)))
def impl_EventFault.f (k : Nat) (a0_0 : Int) (a0_1 : Int) (l0_2 : List Int) : Option (Int) := (impl_in.f a0_0 1 4).bind fun t298 => (if t298 = true then ((impl_isPeer.f a0_1).bind fun t299 => (if t299 = true then (if a0_0 = 3 then (impl_EventFault.j0 k (a0_1 != 0) a0_0 a0_1 l0_2) else (impl_EventFault.j0 k false a0_0 a0_1 l0_2)) else (impl_EventFault.j0 k true a0_0 a0_1 l0_2))) else (some 1))
theorem impl_EventFault.mono_l : ∀ k, (∀ y0 y1 y2 y3, LeO (impl_EventFault.j0 k y0 y1 y2 y3) (impl_EventFault.j0 (k + 1) y0 y1 y2 y3))
 | 0 => fun _ _ _ _ r h => by simp [impl_EventFault.j0] at h
 | k + 1 => by
  have ih0 := impl_EventFault.mono_l k
  intro y0 y1 y2 y3
  unfold impl_EventFault.j0
  repeat' first
  | (with_reducible exact ih0 _ _ _ _)
  | (with_reducible exact LeO.refl _)
  | (with_reducible exact LeO.none _)
  | (with_reducible refine LeO.ite ?_ ?_)
  | (with_reducible refine LeO.bind ?_ (fun _ => ?_))
  | exact ih0 _ _ _ _
  | exact LeO.none _
  | refine LeO.ite ?_ ?_
  | refine LeO.bind ?_ (fun _ => ?_)
theorem impl_EventFault.mono : ∀ a0 a1 a2 k, LeO (impl_EventFault.f k a0 a1 a2) (impl_EventFault.f (k + 1) a0 a1 a2) := by
 intro a0 a1 a2 k
 have ih0 := impl_EventFault.mono_l k
 unfold impl_EventFault.f
 repeat' first
   | (with_reducible exact ih0 _ _ _ _)
   | (with_reducible exact LeO.refl _)
   | (with_reducible exact LeO.none _)
   | (with_reducible refine LeO.ite ?_ ?_)
   | (with_reducible refine LeO.bind ?_ (fun _ => ?_))
   | exact ih0 _ _ _ _
   | exact LeO.none _
   | refine LeO.ite ?_ ?_
   | refine LeO.bind ?_ (fun _ => ?_)
set_option maxHeartbeats 8000000 in
set_option maxRecDepth 100000 in
theorem impl_EventFault.calls (k : Nat) (a0_0 : Int) (a0_1 : Int) (A0_2 : Option Addr) (c0_2 : Nat) (l0_2 : List Int) (r : Int) (w : World) (hr0_2 : Kd.C (Kd.int .u8) w A0_2 l0_2.length l0_2) (hc0_2 : l0_2.length ≤ c0_2) (h : impl_EventFault.f k a0_0 a0_1 l0_2 = some r) :
  Calls Try.prog 61 #[.agg #[.int .i64 a0_0, .int .i64 a0_1, .slice A0_2 l0_2.length c0_2]] w fun e w' => e = .returned (.int .i64 r) ∧ Below w.heap.size w w' := by
 have hu38 := Try.underlying38
 have HR0_2 := Aside0.mk hr0_2
 have HC0_2 := Aside0.mk hc0_2
 clear hr0_2 hc0_2
 have HB := am (Below.refl w.heap.size w)
 have H : ((impl_in.f a0_0 1 4).bind fun t298 => (if t298 = true then ((impl_isPeer.f a0_1).bind fun t299 => (if t299 = true then (if a0_0 = 3 then (impl_EventFault.j0 k (a0_1 != 0) a0_0 a0_1 l0_2) else (impl_EventFault.j0 k false a0_0 a0_1 l0_2)) else (impl_EventFault.j0 k true a0_0 a0_1 l0_2))) else (some 1))) = some r := h
 clear h
 replace H := Option.bind_eq_some_iff.mp H
 obtain ⟨t298, A20, H⟩ := H
 replace H : (if t298 = true then ((impl_isPeer.f a0_1).bind fun t299 => (if t299 = true then (if a0_0 = 3 then (impl_EventFault.j0 k (a0_1 != 0) a0_0 a0_1 l0_2) else (impl_EventFault.j0 k false a0_0 a0_1 l0_2)) else (impl_EventFault.j0 k true a0_0 a0_1 l0_2))) else (some 1)) = some r := H
 have A2 := Aside0.mk A20
 clear A20
 by_cases c3 : t298 = true
 ·
  subst c3
  have H1 : ((impl_isPeer.f a0_1).bind fun t299 => (if t299 = true then (if a0_0 = 3 then (impl_EventFault.j0 k (a0_1 != 0) a0_0 a0_1 l0_2) else (impl_EventFault.j0 k false a0_0 a0_1 l0_2)) else (impl_EventFault.j0 k true a0_0 a0_1 l0_2))) = some r := by rw [if_pos rfl] at H; first | done | exact H
  clear H
  have H := H1
  clear H1
  have HC4 := Aside0.mk H
  clear H
  go_enter Try.func61, Try.ntmps61
  go_upto_region 3 with (first | ((with_reducible refine gate_dst (N := 1) rfl ?_); refine boxE #[.int .i64 a0_0, .int .i64 a0_1, .slice A0_2 l0_2.length c0_2] 38 (N := 1) rfl rfl ?_; intro gb297 hg w5 hbox hb; have BK297 := Aside0.mk hbox; have GW297 := gZ HB hg; have GE297 := gZ HB hg; replace HB := bS HB hb; clear hb hbox hg; have hz6 := cl3 BK297) | ((with_reducible refine gate_callee (f := 87) rfl ?_); refine goA (some 6) rfl rfl Try.func87 rfl #[.int .i64 a0_0, .int .i64 1, .int .i64 4] rfl ?_; (with_reducible refine (impl_in.calls a0_0 1 4 true _ A2.out).mono ?_); rintro e w' ⟨rfl, ⟨nd, rfl⟩⟩; refine ⟨_, rfl, ?_⟩))
  (try simp only [Act.put, List.setIfInBounds_toArray, List.set_cons_zero, List.set_cons_succ])
  go_cut [8] (fun v8 wc => ∃ (kq : Nat) (x8_3 : Bool), v8 = .bool x8_3 ∧ Aside0 (impl_EventFault.j0 kq x8_3 a0_0 a0_1 l0_2 = some r) ∧ Aside0 (kq ≤ k) ∧ Aside0 (wc.heap[gb297]? = some (.cells #[.int .i64 a0_0, .int .i64 a0_1, (.slice A0_2 l0_2.length c0_2)] 38 (0, 0))) ∧ Aside0 (Below w.heap.size w wc))
  case first =>
   have H := HC4.out
   clear HC4
   replace H := Option.bind_eq_some_iff.mp H
   obtain ⟨t299, A70, H⟩ := H
   replace H : (if t299 = true then (if a0_0 = 3 then (impl_EventFault.j0 k (a0_1 != 0) a0_0 a0_1 l0_2) else (impl_EventFault.j0 k false a0_0 a0_1 l0_2)) else (impl_EventFault.j0 k true a0_0 a0_1 l0_2)) = some r := H
   have A7 := Aside0.mk A70
   clear A70
   by_cases c8 : t299 = true
   ·
    subst c8
    have H1 : (if a0_0 = 3 then (impl_EventFault.j0 k (a0_1 != 0) a0_0 a0_1 l0_2) else (impl_EventFault.j0 k false a0_0 a0_1 l0_2)) = some r := by rw [if_pos rfl] at H; first | done | exact H
    clear H
    have H := H1
    clear H1
    by_cases c9 : a0_0 = 3
    ·
     rw [if_pos c9] at H
     have c9b0 : (a0_0 == 3) = true := beq_iff_eq.mpr c9
     have c9b1 : (a0_0 != 3) = false := bne_eq_false_iff_eq.mpr c9
     clear c9
     (first | rw [c9b0] | (simp only [i64_w, i32_w]; rw [c9b0]) | skip)
     have H' := Aside0.mk H
     clear H
     have hz10 := cl3 BK297
     go_wp2_with (first | ((with_reducible refine gate_callee (f := 113) rfl ?_); refine goA (some 11) rfl rfl Try.func113 rfl #[.int .i64 a0_1] rfl ?_; (with_reducible refine (impl_isPeer.calls a0_1 true _ A7.out).mono ?_); rintro e w' ⟨rfl, ⟨nd, rfl⟩⟩; refine ⟨_, rfl, ?_⟩))
     first | go_meet | (refine Met.intro ?_; go_step; (repeat apply Exists.intro); refine ⟨?rel, ?eqq⟩; (case eqq => (try simp only [c9b0]); rfl))
     case rel => exact ⟨_, ((a0_1 != 0)), (by first | rfl | (simp; done) | (simp [*]; done)), H', ⟨by first | omega | exact Nat.le_refl _⟩, ⟨by (with_reducible repeat (first | refine blk_drewN ?_ _ | refine blk_drew ?_ | refine blk_alloc ?_ _)); exact BK297.out⟩, ⟨bel HB⟩⟩
    rw [if_neg c9] at H
    have c9b0 : (a0_0 == 3) = false := beq_eq_false_iff_ne.mpr c9
    have c9b1 : (a0_0 != 3) = true := bne_iff_ne.mpr c9
    (first | rw [c9b0] | (simp only [i64_w, i32_w]; rw [c9b0]) | skip)
    have H' := Aside0.mk H
    clear H
    have hz11 := cl3 BK297
    go_wp2_with (first | ((with_reducible refine gate_callee (f := 113) rfl ?_); refine goA (some 11) rfl rfl Try.func113 rfl #[.int .i64 a0_1] rfl ?_; (with_reducible refine (impl_isPeer.calls a0_1 true _ A7.out).mono ?_); rintro e w' ⟨rfl, ⟨nd, rfl⟩⟩; refine ⟨_, rfl, ?_⟩))
    first | go_meet | (refine Met.intro ?_; go_step; (repeat apply Exists.intro); refine ⟨?rel, ?eqq⟩; (case eqq => (try simp only [c9b0]); rfl))
    case rel => exact ⟨_, (false), (by first | rfl | (simp; done) | (simp [*]; done)), H', ⟨by first | omega | exact Nat.le_refl _⟩, ⟨by (with_reducible repeat (first | refine blk_drewN ?_ _ | refine blk_drew ?_ | refine blk_alloc ?_ _)); exact BK297.out⟩, ⟨bel HB⟩⟩
   replace c8 := Bool.eq_false_iff.mpr c8
   subst c8
   have H1 : (impl_EventFault.j0 k true a0_0 a0_1 l0_2) = some r := by rw [if_neg (show ¬ (false = true) by decide)] at H; first | done | exact H
   clear H
   have H := H1
   clear H1
   have H' := Aside0.mk H
   clear H
   have hz12 := cl3 BK297
   go_wp2_with (first | ((with_reducible refine gate_callee (f := 113) rfl ?_); refine goA (some 11) rfl rfl Try.func113 rfl #[.int .i64 a0_1] rfl ?_; (with_reducible refine (impl_isPeer.calls a0_1 false _ A7.out).mono ?_); rintro e w' ⟨rfl, ⟨nd, rfl⟩⟩; refine ⟨_, rfl, ?_⟩))
   go_meet
   case rel => exact ⟨_, (true), (by first | rfl | (simp; done) | (simp [*]; done)), H', ⟨by first | omega | exact Nat.le_refl _⟩, ⟨by (with_reducible repeat (first | refine blk_drewN ?_ _ | refine blk_drew ?_ | refine blk_alloc ?_ _)); exact BK297.out⟩, ⟨bel HB⟩⟩
  case rest =>
   clear HC4
   try clear c1
   try clear p2
   try clear c3
   try clear c6
   try clear c8
   try clear c9
   try clear c9b0
   try clear c9b1
   try clear c11
   try clear hz10
   try clear hz11
   try clear hz12
   try clear hz6
   obtain ⟨kq, x8_3, rfl, HA, HJ3, BK297, HB⟩ := hcut
   cases kq with
   | zero => exact absurd HA.out (by simp [impl_EventFault.j0])
   | succ kj3 =>
    have H := HA.out
    clear HA
    simp only [impl_EventFault.j0] at H
    by_cases c13 : x8_3 = true
    ·
     subst c13
     have H1 : (some 3) = some r := by rw [if_pos rfl] at H; first | done | exact H
     clear H
     have H := H1
     clear H1
     obtain rfl := Option.some.inj H
     go_wp2
     go_ret
     exact ⟨by first | rfl | (simp [errW_none, errW_some] <;> rfl) | (simp [*, errW_none, errW_some] <;> rfl), bel HB⟩
    replace c13 := Bool.eq_false_iff.mpr c13
    subst c13
    have H1 : (if ((a0_0 == 2) != (decide ((l0_2.length : Int) > 0))) = true then (some 1) else (if (l0_2.length : Int) > 60 then (some 2) else (some 0))) = some r := by rw [if_neg (show ¬ (false = true) by decide)] at H; first | done | exact H
    clear H
    have H := H1
    clear H1
    by_cases c14 : ((a0_0 == 2) != (decide ((l0_2.length : Int) > 0))) = true
    ·
     rw [if_pos c14] at H
     have c14b0 : ((a0_0 == 2) != (decide ((l0_2.length : Int) > 0))) = true := c14
     (try (have c14b1 : (!((a0_0 == 2) == (decide (0 < l0_2.length)))) = true := by simpa using c14))
     (try (have c14b2 : ((a0_0 == 2) == (decide (0 < l0_2.length))) = false := by simpa using c14))
     (try (have c14b3 : decide ((a0_0 == 2) = (decide ((l0_2.length : Int) > 0))) = false := by simpa using c14))
     (try (have c14b4 : ((a0_0 == 2) == (decide ((l0_2.length : Int) > 0))) = false := by simpa using c14))
     (try (have c14b5 : ¬ ((a0_0 == 2) = (decide ((l0_2.length : Int) > 0))) := by simpa using c14))
     clear c14
     obtain rfl := Option.some.inj H
     have hz15 := cl3 BK297
     go_wp2
     go_ret
     exact ⟨by first | rfl | (simp [errW_none, errW_some] <;> rfl) | (simp [*, errW_none, errW_some] <;> rfl), bel HB⟩
    rw [if_neg c14] at H
    have c14b0 : ((a0_0 == 2) != (decide ((l0_2.length : Int) > 0))) = false := by simpa using c14
    (try (have c14b1 : (!((a0_0 == 2) == (decide (0 < l0_2.length)))) = false := by simpa using c14))
    (try (have c14b2 : ((a0_0 == 2) == (decide (0 < l0_2.length))) = true := by simpa using c14))
    (try (have c14b3 : decide ((a0_0 == 2) = (decide ((l0_2.length : Int) > 0))) = true := by simpa using c14))
    (try (have c14b4 : ((a0_0 == 2) == (decide ((l0_2.length : Int) > 0))) = true := by simpa using c14))
    clear c14
    by_cases c16 : (l0_2.length : Int) > 60
    ·
     rw [if_pos c16] at H
     have c16b0 : decide (60 < (l0_2.length : Int)) = true := decide_eq_true c16
     have c16b1 : decide (60 < l0_2.length) = true := decide_eq_true (by omega)
     clear c16
     obtain rfl := Option.some.inj H
     have hz17 := cl3 BK297
     go_wp2
     go_ret
     exact ⟨by first | rfl | (simp [errW_none, errW_some] <;> rfl) | (simp [*, errW_none, errW_some] <;> rfl), bel HB⟩
    rw [if_neg c16] at H
    have c16b0 : decide (60 < (l0_2.length : Int)) = false := decide_eq_false c16
    have c16b1 : decide (60 < l0_2.length) = false := decide_eq_false (by omega)
    clear c16
    obtain rfl := Option.some.inj H
    have hz18 := cl3 BK297
    go_wp2
    go_ret
    exact ⟨by first | rfl | (simp [errW_none, errW_some] <;> rfl) | (simp [*, errW_none, errW_some] <;> rfl), bel HB⟩
 replace c3 := Bool.eq_false_iff.mpr c3
 subst c3
 have H1 : (some 1) = some r := by rw [if_neg (show ¬ (false = true) by decide)] at H; first | done | exact H
 clear H
 have H := H1
 clear H1
 obtain rfl := Option.some.inj H
 go_enter Try.func61, Try.ntmps61
 go_wp2_with (first | ((with_reducible refine gate_dst (N := 1) rfl ?_); refine boxE #[.int .i64 a0_0, .int .i64 a0_1, .slice A0_2 l0_2.length c0_2] 38 (N := 1) rfl rfl ?_; intro gb297 hg w19 hbox hb; have BK297 := Aside0.mk hbox; have GW297 := gZ HB hg; have GE297 := gZ HB hg; replace HB := bS HB hb; clear hb hbox hg; have hz20 := cl3 BK297) | ((with_reducible refine gate_callee (f := 87) rfl ?_); refine goA (some 6) rfl rfl Try.func87 rfl #[.int .i64 a0_0, .int .i64 1, .int .i64 4] rfl ?_; (with_reducible refine (impl_in.calls a0_0 1 4 false _ A2.out).mono ?_); rintro e w' ⟨rfl, ⟨nd, rfl⟩⟩; refine ⟨_, rfl, ?_⟩))
 go_ret
 exact ⟨by first | rfl | (simp [errW_none, errW_some] <;> rfl) | (simp [*, errW_none, errW_some] <;> rfl), bel HB⟩

/-! ### impl_isEpoch: function 105 -/
def impl_isEpoch.f (a0 : Int) : Option (Bool) := (impl_in.f a0 1 1000).bind fun t300 => (some t300)
set_option maxHeartbeats 8000000 in
set_option maxRecDepth 100000 in
theorem impl_isEpoch.calls (a0 : Int) (r : Bool) (w : World) (h : impl_isEpoch.f a0 = some r) :
  Calls Try.prog 105 #[.int .i64 a0] w fun e w' => e = .returned (.bool r) ∧ Drawn0 w w' := by
 have H : ((impl_in.f a0 1 1000).bind fun t300 => (some t300)) = some r := h
 clear h
 replace H := Option.bind_eq_some_iff.mp H
 obtain ⟨t300, A20, H⟩ := H
 replace H : (some t300) = some r := H
 have A2 := Aside0.mk A20
 clear A20
 obtain rfl := Option.some.inj H
 go_enter Try.func105, Try.ntmps105
 go_wp2_with (first | ((with_reducible refine gate_callee (f := 87) rfl ?_); refine goA (some 4) rfl rfl Try.func87 rfl #[.int .i64 a0, .int .i64 1, .int .i64 1000] rfl ?_; (with_reducible refine (impl_in.calls a0 1 1000 t300 _ A2.out).mono ?_); rintro e w' ⟨rfl, ⟨nd, rfl⟩⟩; refine ⟨_, rfl, ?_⟩))
 go_ret
 exact ⟨by first | rfl | (simp; done) | (simp [*]; done), drw⟩

/-! ### impl_EntryFault: function 90 -/
def impl_EntryFault.f (k : Nat) (a0_0 : Int) (a0_1 : Int) (a0_2 : Int) (l0_3 : List Int) : Option (Int) := (impl_isEpoch.f a0_0).bind fun t302 => (if t302 = true then ((impl_EventFault.f k a0_1 a0_2 l0_3).bind fun t303 => (some t303)) else (some 3))
theorem impl_EntryFault.mono : ∀ a0 a1 a2 a3 k, LeO (impl_EntryFault.f k a0 a1 a2 a3) (impl_EntryFault.f (k + 1) a0 a1 a2 a3) := by
 intro a0 a1 a2 a3 k
 unfold impl_EntryFault.f
 repeat' first
   | (with_reducible exact impl_EventFault.mono _ _ _ _)
   | (with_reducible exact LeO.refl _)
   | (with_reducible exact LeO.none _)
   | (with_reducible refine LeO.ite ?_ ?_)
   | (with_reducible refine LeO.bind ?_ (fun _ => ?_))
   | exact impl_EventFault.mono _ _ _ _
   | exact LeO.none _
   | refine LeO.ite ?_ ?_
   | refine LeO.bind ?_ (fun _ => ?_)
set_option maxHeartbeats 8000000 in
set_option maxRecDepth 100000 in
theorem impl_EntryFault.calls (k : Nat) (a0_0 : Int) (a0_1 : Int) (a0_2 : Int) (A0_3 : Option Addr) (c0_3 : Nat) (l0_3 : List Int) (r : Int) (w : World) (hr0_3 : Kd.C (Kd.int .u8) w A0_3 l0_3.length l0_3) (hc0_3 : l0_3.length ≤ c0_3) (h : impl_EntryFault.f k a0_0 a0_1 a0_2 l0_3 = some r) :
  Calls Try.prog 90 #[.agg #[.int .i64 a0_0, .int .i64 a0_1, .int .i64 a0_2, .slice A0_3 l0_3.length c0_3]] w fun e w' => e = .returned (.int .i64 r) ∧ Below w.heap.size w w' := by
 have hu55 := Try.underlying55
 have hu38 := Try.underlying38
 have HR0_3 := Aside0.mk hr0_3
 have HC0_3 := Aside0.mk hc0_3
 clear hr0_3 hc0_3
 have HB := am (Below.refl w.heap.size w)
 have H : ((impl_isEpoch.f a0_0).bind fun t302 => (if t302 = true then ((impl_EventFault.f k a0_1 a0_2 l0_3).bind fun t303 => (some t303)) else (some 3))) = some r := h
 clear h
 replace H := Option.bind_eq_some_iff.mp H
 obtain ⟨t302, A20, H⟩ := H
 replace H : (if t302 = true then ((impl_EventFault.f k a0_1 a0_2 l0_3).bind fun t303 => (some t303)) else (some 3)) = some r := H
 have A2 := Aside0.mk A20
 clear A20
 by_cases c3 : t302 = true
 ·
  subst c3
  have H1 : ((impl_EventFault.f k a0_1 a0_2 l0_3).bind fun t303 => (some t303)) = some r := by rw [if_pos rfl] at H; first | done | exact H
  clear H
  have H := H1
  clear H1
  replace H := Option.bind_eq_some_iff.mp H
  obtain ⟨t303, A40, H⟩ := H
  replace H : (some t303) = some r := H
  have A4 := Aside0.mk A40
  clear A40
  obtain rfl := Option.some.inj H
  go_enter Try.func90, Try.ntmps90
  go_wp2_with (first | ((with_reducible refine gate_dst (N := 1) rfl ?_); refine boxE #[.int .i64 a0_0, .int .i64 a0_1, .int .i64 a0_2, .slice A0_3 l0_3.length c0_3] 55 (N := 1) rfl rfl ?_; intro gb301 hg w5 hbox hb; have BK301 := Aside0.mk hbox; have GW301 := gZ HB hg; have GE301 := gZ HB hg; replace HB := bS HB hb; clear hb hbox hg; have hz6 := cl4 BK301) | ((with_reducible refine gate_callee (f := 105) rfl ?_); refine goA (some 5) rfl rfl Try.func105 rfl #[.int .i64 a0_0] rfl ?_; (with_reducible refine (impl_isEpoch.calls a0_0 true _ A2.out).mono ?_); rintro e w' ⟨rfl, ⟨nd, rfl⟩⟩; refine ⟨_, rfl, ?_⟩) | ((with_reducible refine gate_callee (f := 61) rfl ?_); refine goA (some 9) rfl rfl Try.func61 rfl #[.agg #[.int .i64 a0_1, .int .i64 a0_2, .slice A0_3 l0_3.length c0_3]] rfl ?_; (with_reducible refine (impl_EventFault.calls k a0_1 a0_2 _ _ l0_3 t303 _ ?side1 ?side2 A4.out).mono ?_); (case side1 => repeat (first | exact (Kd.C_below HR0_3.out (bel HB)) | (with_reducible refine Kd.C_alloc ?_ _) | (with_reducible refine Kd.C_drewN ?_ _) | (with_reducible refine Kd.C_drew ?_))); (case side2 => exact HC0_3.out); rintro e w7 ⟨rfl, hb⟩; refine ⟨_, rfl, ?_⟩; replace BK301 := bK BK301 hb; replace HB := bS HB hb; (try clear hb); (try clear hb2); (try clear hk); (try clear hi)))
  go_ret
  exact ⟨by first | rfl | (simp [errW_none, errW_some] <;> rfl) | (simp [*, errW_none, errW_some] <;> rfl), bel HB⟩
 replace c3 := Bool.eq_false_iff.mpr c3
 subst c3
 have H1 : (some 3) = some r := by rw [if_neg (show ¬ (false = true) by decide)] at H; first | done | exact H
 clear H
 have H := H1
 clear H1
 obtain rfl := Option.some.inj H
 go_enter Try.func90, Try.ntmps90
 go_wp2_with (first | ((with_reducible refine gate_dst (N := 1) rfl ?_); refine boxE #[.int .i64 a0_0, .int .i64 a0_1, .int .i64 a0_2, .slice A0_3 l0_3.length c0_3] 55 (N := 1) rfl rfl ?_; intro gb301 hg w8 hbox hb; have BK301 := Aside0.mk hbox; have GW301 := gZ HB hg; have GE301 := gZ HB hg; replace HB := bS HB hb; clear hb hbox hg; have hz9 := cl4 BK301) | ((with_reducible refine gate_callee (f := 105) rfl ?_); refine goA (some 5) rfl rfl Try.func105 rfl #[.int .i64 a0_0] rfl ?_; (with_reducible refine (impl_isEpoch.calls a0_0 false _ A2.out).mono ?_); rintro e w' ⟨rfl, ⟨nd, rfl⟩⟩; refine ⟨_, rfl, ?_⟩))
 go_ret
 exact ⟨by first | rfl | (simp [errW_none, errW_some] <;> rfl) | (simp [*, errW_none, errW_some] <;> rfl), bel HB⟩

end Go.Proofs.Ytgfoifkkffffgab.PFnExactAddEvent
