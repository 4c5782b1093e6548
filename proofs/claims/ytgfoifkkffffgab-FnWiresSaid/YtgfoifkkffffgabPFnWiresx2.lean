-- Laid by a turned copy of the printer (wip/tools/patch_print.py)
import Derived.Test.YtgfoifkkffffgabPFnWiresx0
import Derived.Test.YtgfoifkkffffgabPFnWiresx1
namespace Go.Proofs.Ytgfoifkkffffgab.PFnWires
open Go.RowKit Go.Proofs.YtgfoifkkffffgabW.PrintWords Go.Proofs.YtgfoifkkffffgabW.PrintLast Go.Proofs.YtgfoifkkffffgabW.PrintMore
attribute [local go_sem] max2_int min2_int max_two min_two max_three min_three max_four min_four   -- for this text's walks alone
set_option linter.unusedVariables false
set_option linter.unusedSimpArgs false

/-! ### spec_DrawDeliverOut: function 33 -/
def spec_DrawDeliverOut.j0 : Nat → Int → Int → List Int → Bool → List Int → Int → Int → List Int → Int → List Int → Option (Int × List Int × Int × List Int × Int × Int × List Int)
 | 0, _, _, _, _, _, _, _, _, _, _ => none
 | k + 1, x8, x9, x10, x39, x169000, x169001, x179000, x179001, x179002, x179003 => if x39 = true then ((some (([] : List Int) : List Int)).bind fun y195 => ((spec_l1Min.f x8 (wrap64 (x9 + 5))).bind fun t198 => (if 0 ≤ x9 then (if x9 ≤ t198 then (if t198 ≤ (x179003.length : Int) then ((some ((x179003.take (t198 : Int).toNat).drop (x9 : Int).toNat : List Int)).bind fun y199 => (if y195.length + y199.length < 140737488355328 then ((some (y195 ++ y199 : List Int)).bind fun y203 => (if y203.length + x10.length < 140737488355328 then ((spec_l11Epoch.f x169000 x169001 x179000 x179001 x179002 x179003).bind fun bt209 => (some (x179000, x179001, x179002, x179003, bt209.1, x9, (y203 ++ x10)))) else (none))) else (none))) else (none)) else (none)) else (none)))) else ((spec_l11Epoch.f x169000 x169001 x179000 x179001 x179002 x179003).bind fun bt211 => (some (x179000, x179001, x179002, x179003, bt211.1, x9, x10)))
def spec_DrawDeliverOut.f (k : Nat) (l0 : List Int) : Option (Int × List Int × Int × List Int × Int × Int × List Int) := (spec_l1Source.f l0).bind fun bt166 => ((spec_l11Wire.f k bt166.1 bt166.2).bind fun bt169 => ((spec_l1Next.f bt166.1 bt169.2.2.2.2 (wrap64 ((bt169.2.2.2.1.length : Int) + 1))).bind fun bt179 => ((spec_l1Pick.f bt166.1 bt179.2 (([(bt169.2.2.2.1.length : Int), bt179.1, (bt169.2.2.2.1.length : Int), wrap64 ((bt169.2.2.2.1.length : Int) + 1), (-1)] : List Int))).bind fun bt184 => ((spec_l1Next.f bt166.1 bt184.2 9).bind fun bt186 => ((spec_l1Some.f k bt166.1 bt186.2 bt186.1).bind fun bt188 => ((spec_l1In.f bt184.1 0 (bt169.2.2.2.1.length : Int)).bind fun t192 => (if t192 = true then ((spec_l1Chance.f bt166.1 bt188.2 2).bind fun bt193 => (spec_DrawDeliverOut.j0 k (bt169.2.2.2.1.length : Int) bt184.1 bt188.1 bt193.1 bt166.1 bt193.2 bt169.1 bt169.2.1 bt169.2.2.1 bt169.2.2.2.1)) else (spec_DrawDeliverOut.j0 k (bt169.2.2.2.1.length : Int) bt184.1 bt188.1 false bt166.1 bt188.2 bt169.1 bt169.2.1 bt169.2.2.1 bt169.2.2.2.1))))))))
theorem spec_DrawDeliverOut.mono_l : ∀ k, (∀ y0 y1 y2 y3 y4 y5 y6 y7 y8 y9, LeO (spec_DrawDeliverOut.j0 k y0 y1 y2 y3 y4 y5 y6 y7 y8 y9) (spec_DrawDeliverOut.j0 (k + 1) y0 y1 y2 y3 y4 y5 y6 y7 y8 y9))
 | 0 => fun _ _ _ _ _ _ _ _ _ _ r h => by simp [spec_DrawDeliverOut.j0] at h
 | k + 1 => by
  have ih0 := spec_DrawDeliverOut.mono_l k
  ·
   intro y0 y1 y2 y3 y4 y5 y6 y7 y8 y9
   unfold spec_DrawDeliverOut.j0
   repeat' first
   | (with_reducible exact ih0 _ _ _ _ _ _ _ _ _ _)
   | (with_reducible exact spec_l11Wire.mono _ _ _)
   | (with_reducible exact spec_l1Some.mono _ _ _ _)
   | (with_reducible exact LeO.refl _)
   | (with_reducible exact LeO.none _)
   | (with_reducible refine LeO.ite ?_ ?_)
   | (with_reducible refine LeO.bind ?_ (fun _ => ?_))
   | exact ih0 _ _ _ _ _ _ _ _ _ _
   | exact spec_l11Wire.mono _ _ _
   | exact spec_l1Some.mono _ _ _ _
   | exact LeO.none _
   | refine LeO.ite ?_ ?_
   | refine LeO.bind ?_ (fun _ => ?_)
theorem spec_DrawDeliverOut.mono : ∀ a0 k, LeO (spec_DrawDeliverOut.f k a0) (spec_DrawDeliverOut.f (k + 1) a0) := by
 intro a0 k
 have ih0 := spec_DrawDeliverOut.mono_l k
 unfold spec_DrawDeliverOut.f
 repeat' first
   | (with_reducible exact ih0 _ _ _ _ _ _ _ _ _ _)
   | (with_reducible exact spec_l11Wire.mono _ _ _)
   | (with_reducible exact spec_l1Some.mono _ _ _ _)
   | (with_reducible exact LeO.refl _)
   | (with_reducible exact LeO.none _)
   | (with_reducible refine LeO.ite ?_ ?_)
   | (with_reducible refine LeO.bind ?_ (fun _ => ?_))
   | exact ih0 _ _ _ _ _ _ _ _ _ _
   | exact spec_l11Wire.mono _ _ _
   | exact spec_l1Some.mono _ _ _ _
   | exact LeO.none _
   | refine LeO.ite ?_ ?_
   | refine LeO.bind ?_ (fun _ => ?_)
def spec_DrawDeliverOut.T7 : Bool × List (List Nat × List Nat) := (true, [([], []), ([], []), ([1], [1]), ([], []), ([], []), ([], []), ([5], [5]), ([4, 6], [4, 6]), ([2, 3, 7], [2, 3, 7]), ([0, 8, 7], [0, 8]), ([], []), ([9, 10, 9], [9, 10]), ([11, 11, 0, 1, 2, 3, 4, 5, 6, 7, 8, 9, 10, 11], [10, 11])])
def spec_DrawDeliverOut.B7 : List Nat := [0, 0, 2, 0, 0, 0, 32, 112, 254, 511, 0, 2047, 4095]
theorem spec_DrawDeliverOut.tab7 : rtab .any (opsOf Try.f33 7) = spec_DrawDeliverOut.T7 := by kernel_rfl
theorem spec_DrawDeliverOut.bits7 : waitsOk spec_DrawDeliverOut.T7.2 spec_DrawDeliverOut.B7 = true := by kernel_rfl
def spec_DrawDeliverOut.T8 : Bool × List (List Nat × List Nat) := (true, [([], []), ([], []), ([], []), ([1, 2], [1, 2]), ([], []), ([], []), ([0, 3, 0], [0]), ([3, 6, 0, 1, 2, 3, 6], [3]), ([4, 7, 0, 1, 2, 3, 4, 6, 7], [4]), ([5, 8, 0, 1, 2, 3, 4, 5, 6, 7, 8], [5])])
def spec_DrawDeliverOut.B8 : List Nat := [0, 0, 0, 6, 0, 0, 15, 79, 223, 511]
theorem spec_DrawDeliverOut.tab8 : rtab .any (opsOf Try.f33 8) = spec_DrawDeliverOut.T8 := by kernel_rfl
theorem spec_DrawDeliverOut.bits8 : waitsOk spec_DrawDeliverOut.T8.2 spec_DrawDeliverOut.B8 = true := by kernel_rfl
set_option maxHeartbeats 8000000 in
set_option maxRecDepth 100000 in
theorem spec_DrawDeliverOut.calls (k : Nat) (A0 : Option Addr) (c0 : Nat) (l0 : List Int) (r1 : Int) (r2 : List Int) (r3 : Int) (r4 : List Int) (r5 : Int) (r6 : Int) (r7 : List Int) (w : World) (hr0 : Kd.C (Kd.int .u8) w A0 l0.length l0) (hc0 : l0.length ≤ c0) (h : spec_DrawDeliverOut.f k l0 = some (r1, r2, r3, r4, r5, r6, r7)) :
  Calls Try.prog 33 #[.slice A0 l0.length c0] w fun e w' => ∃ v1_ v3_ v6_ : Value, e = .returned (.tuple #[.agg #[.int .i64 r1, v1_, .int .i64 r3, v3_], .int .i64 r5, .int .i64 r6, v6_]) ∧ Kd.R (Kd.int .u8) 5 w' w.heap.size (fun k_ => some k_ ≠ (v3_ : Value).ownBlock ∧ some k_ ≠ (v6_ : Value).ownBlock) v1_ r2 ∧ Kd.R (Kd.int .u8) 5 w' w.heap.size (fun k_ => some k_ ≠ (v1_ : Value).ownBlock ∧ some k_ ≠ (v6_ : Value).ownBlock) v3_ r4 ∧ Kd.R (Kd.int .u8) 5 w' w.heap.size (fun k_ => some k_ ≠ (v1_ : Value).ownBlock ∧ some k_ ≠ (v3_ : Value).ownBlock) v6_ r7 ∧ Below w.heap.size w w' := by
 have hu59 := Try.underlying59
 have HR0 := Aside0.mk hr0
 have HC0 := Aside0.mk hc0
 clear hr0 hc0
 have HB := Aside0.mk (Below.refl w.heap.size w)
 have H : ((spec_l1Source.f l0).bind fun bt166 => ((spec_l11Wire.f k bt166.1 bt166.2).bind fun bt169 => ((spec_l1Next.f bt166.1 bt169.2.2.2.2 (wrap64 ((bt169.2.2.2.1.length : Int) + 1))).bind fun bt179 => ((spec_l1Pick.f bt166.1 bt179.2 (([(bt169.2.2.2.1.length : Int), bt179.1, (bt169.2.2.2.1.length : Int), wrap64 ((bt169.2.2.2.1.length : Int) + 1), (-1)] : List Int))).bind fun bt184 => ((spec_l1Next.f bt166.1 bt184.2 9).bind fun bt186 => ((spec_l1Some.f k bt166.1 bt186.2 bt186.1).bind fun bt188 => ((spec_l1In.f bt184.1 0 (bt169.2.2.2.1.length : Int)).bind fun t192 => (if t192 = true then ((spec_l1Chance.f bt166.1 bt188.2 2).bind fun bt193 => (spec_DrawDeliverOut.j0 k (bt169.2.2.2.1.length : Int) bt184.1 bt188.1 bt193.1 bt166.1 bt193.2 bt169.1 bt169.2.1 bt169.2.2.1 bt169.2.2.2.1)) else (spec_DrawDeliverOut.j0 k (bt169.2.2.2.1.length : Int) bt184.1 bt188.1 false bt166.1 bt188.2 bt169.1 bt169.2.1 bt169.2.2.1 bt169.2.2.2.1))))))))) = some (r1, r2, r3, r4, r5, r6, r7) := h
 clear h
 replace H := Option.bind_eq_some_iff.mp H
 obtain ⟨⟨t166, t167⟩, A20, H⟩ := H
 replace H : ((spec_l11Wire.f k t166 t167).bind fun bt169 => ((spec_l1Next.f t166 bt169.2.2.2.2 (wrap64 ((bt169.2.2.2.1.length : Int) + 1))).bind fun bt179 => ((spec_l1Pick.f t166 bt179.2 (([(bt169.2.2.2.1.length : Int), bt179.1, (bt169.2.2.2.1.length : Int), wrap64 ((bt169.2.2.2.1.length : Int) + 1), (-1)] : List Int))).bind fun bt184 => ((spec_l1Next.f t166 bt184.2 9).bind fun bt186 => ((spec_l1Some.f k t166 bt186.2 bt186.1).bind fun bt188 => ((spec_l1In.f bt184.1 0 (bt169.2.2.2.1.length : Int)).bind fun t192 => (if t192 = true then ((spec_l1Chance.f t166 bt188.2 2).bind fun bt193 => (spec_DrawDeliverOut.j0 k (bt169.2.2.2.1.length : Int) bt184.1 bt188.1 bt193.1 t166 bt193.2 bt169.1 bt169.2.1 bt169.2.2.1 bt169.2.2.2.1)) else (spec_DrawDeliverOut.j0 k (bt169.2.2.2.1.length : Int) bt184.1 bt188.1 false t166 bt188.2 bt169.1 bt169.2.1 bt169.2.2.1 bt169.2.2.2.1)))))))) = some (r1, r2, r3, r4, r5, r6, r7) := H
 have A2 := Aside0.mk A20
 clear A20
 replace H := Option.bind_eq_some_iff.mp H
 obtain ⟨⟨t169, t170, t173, t174, t177⟩, A30, H⟩ := H
 replace H : ((spec_l1Next.f t166 t177 (wrap64 ((t174.length : Int) + 1))).bind fun bt179 => ((spec_l1Pick.f t166 bt179.2 (([(t174.length : Int), bt179.1, (t174.length : Int), wrap64 ((t174.length : Int) + 1), (-1)] : List Int))).bind fun bt184 => ((spec_l1Next.f t166 bt184.2 9).bind fun bt186 => ((spec_l1Some.f k t166 bt186.2 bt186.1).bind fun bt188 => ((spec_l1In.f bt184.1 0 (t174.length : Int)).bind fun t192 => (if t192 = true then ((spec_l1Chance.f t166 bt188.2 2).bind fun bt193 => (spec_DrawDeliverOut.j0 k (t174.length : Int) bt184.1 bt188.1 bt193.1 t166 bt193.2 t169 t170 t173 t174)) else (spec_DrawDeliverOut.j0 k (t174.length : Int) bt184.1 bt188.1 false t166 bt188.2 t169 t170 t173 t174))))))) = some (r1, r2, r3, r4, r5, r6, r7) := H
 have A3 := Aside0.mk A30
 clear A30
 replace H := Option.bind_eq_some_iff.mp H
 obtain ⟨⟨t179, t180⟩, A40, H⟩ := H
 replace H : ((spec_l1Pick.f t166 t180 (([(t174.length : Int), t179, (t174.length : Int), wrap64 ((t174.length : Int) + 1), (-1)] : List Int))).bind fun bt184 => ((spec_l1Next.f t166 bt184.2 9).bind fun bt186 => ((spec_l1Some.f k t166 bt186.2 bt186.1).bind fun bt188 => ((spec_l1In.f bt184.1 0 (t174.length : Int)).bind fun t192 => (if t192 = true then ((spec_l1Chance.f t166 bt188.2 2).bind fun bt193 => (spec_DrawDeliverOut.j0 k (t174.length : Int) bt184.1 bt188.1 bt193.1 t166 bt193.2 t169 t170 t173 t174)) else (spec_DrawDeliverOut.j0 k (t174.length : Int) bt184.1 bt188.1 false t166 bt188.2 t169 t170 t173 t174)))))) = some (r1, r2, r3, r4, r5, r6, r7) := H
 have A4 := Aside0.mk A40
 clear A40
 obtain ⟨y181, hy181⟩ : ∃ y_ : List Int, y_ = (([(t174.length : Int), t179, (t174.length : Int), wrap64 ((t174.length : Int) + 1), (-1)] : List Int)) := ⟨_, rfl⟩
 replace H : ((spec_l1Pick.f t166 t180 y181).bind fun bt184 => ((spec_l1Next.f t166 bt184.2 9).bind fun bt186 => ((spec_l1Some.f k t166 bt186.2 bt186.1).bind fun bt188 => ((spec_l1In.f bt184.1 0 (t174.length : Int)).bind fun t192 => (if t192 = true then ((spec_l1Chance.f t166 bt188.2 2).bind fun bt193 => (spec_DrawDeliverOut.j0 k (t174.length : Int) bt184.1 bt188.1 bt193.1 t166 bt193.2 t169 t170 t173 t174)) else (spec_DrawDeliverOut.j0 k (t174.length : Int) bt184.1 bt188.1 false t166 bt188.2 t169 t170 t173 t174)))))) = some (r1, r2, r3, r4, r5, r6, r7) := by first | (rw [hy181]; with_reducible exact H) | (have H2_ := (Option.bind_some _ _).symm.trans H; rw [hy181]; with_reducible exact H2_) | (have H2_ := (Option.bind_some _ _).symm.trans H; with_reducible exact H2_) | with_reducible exact H | (rw [hy181]; exact H) | exact H
 have Ny181 := Aside0.mk hy181
 clear hy181
 replace H := Option.bind_eq_some_iff.mp H
 obtain ⟨⟨t184, t185⟩, A50, H⟩ := H
 replace H : ((spec_l1Next.f t166 t185 9).bind fun bt186 => ((spec_l1Some.f k t166 bt186.2 bt186.1).bind fun bt188 => ((spec_l1In.f t184 0 (t174.length : Int)).bind fun t192 => (if t192 = true then ((spec_l1Chance.f t166 bt188.2 2).bind fun bt193 => (spec_DrawDeliverOut.j0 k (t174.length : Int) t184 bt188.1 bt193.1 t166 bt193.2 t169 t170 t173 t174)) else (spec_DrawDeliverOut.j0 k (t174.length : Int) t184 bt188.1 false t166 bt188.2 t169 t170 t173 t174))))) = some (r1, r2, r3, r4, r5, r6, r7) := H
 have A5 := Aside0.mk A50
 clear A50
 replace H := Option.bind_eq_some_iff.mp H
 obtain ⟨⟨t186, t187⟩, A60, H⟩ := H
 replace H : ((spec_l1Some.f k t166 t187 t186).bind fun bt188 => ((spec_l1In.f t184 0 (t174.length : Int)).bind fun t192 => (if t192 = true then ((spec_l1Chance.f t166 bt188.2 2).bind fun bt193 => (spec_DrawDeliverOut.j0 k (t174.length : Int) t184 bt188.1 bt193.1 t166 bt193.2 t169 t170 t173 t174)) else (spec_DrawDeliverOut.j0 k (t174.length : Int) t184 bt188.1 false t166 bt188.2 t169 t170 t173 t174)))) = some (r1, r2, r3, r4, r5, r6, r7) := H
 have A6 := Aside0.mk A60
 clear A60
 replace H := Option.bind_eq_some_iff.mp H
 obtain ⟨⟨t188, t191⟩, A70, H⟩ := H
 replace H : ((spec_l1In.f t184 0 (t174.length : Int)).bind fun t192 => (if t192 = true then ((spec_l1Chance.f t166 t191 2).bind fun bt193 => (spec_DrawDeliverOut.j0 k (t174.length : Int) t184 t188 bt193.1 t166 bt193.2 t169 t170 t173 t174)) else (spec_DrawDeliverOut.j0 k (t174.length : Int) t184 t188 false t166 t191 t169 t170 t173 t174))) = some (r1, r2, r3, r4, r5, r6, r7) := H
 have A7 := Aside0.mk A70
 clear A70
 have HC8 := Aside0.mk H
 clear H
 go_enter Try.func33, Try.ntmps33
 go_upto_region 6 with (first | ((with_reducible refine gate_dst (N := 2) rfl ?_); refine boxE #[.int .i64 0, .slice none 0 0, .int .i64 0, .slice none 0 0] 59 (N := 2) rfl rfl ?_; intro gb165 hg w9 hbox hb; have BK165 := Aside0.mk hbox; have GW165 := gZ HB hg; have GE165 := gZ HB hg; replace HB := bS HB hb; clear hb hbox hg) | ((with_reducible refine gate_callee (f := 82) rfl ?_); refine goA (some 12) rfl rfl Try.func82 rfl #[.slice A0 l0.length c0] rfl ?_; (with_reducible refine (spec_l1Source.calls _ _ l0 t166 t167 w _ ?side1 ?side2 ?side3 A2.out).mono ?_); (case side1 => exact bel HB); (case side2 => exact HR0.out); (case side3 => exact HC0.out); rintro e w10 ⟨g168, rfl, hi, hb, hb2⟩; refine ⟨_, rfl, ?_⟩; replace HB := Aside0.mk hb; have HI168 := Aside0.mk hi; have NB168_165 := Aside0.mk (IsS136.ne_blk hi (blk_below (g := gb165) (o := .cells #[.int .i64 0, .slice none 0 0, .int .i64 0, .slice none 0 0] 59 (0, 0)) (mB BK165) hb2) (by decide)); have NB165_168 := Aside0.mk (Ne.symm (IsS136.ne_blk hi (blk_below (g := gb165) (o := .cells #[.int .i64 0, .slice none 0 0, .int .i64 0, .slice none 0 0] 59 (0, 0)) (mB BK165) hb2) (by decide))); replace BK165 := Aside0.mk (blk_below (g := gb165) (o := .cells #[.int .i64 0, .slice none 0 0, .int .i64 0, .slice none 0 0] 59 (0, 0)) (mB BK165) hb2); (try clear hb); (try clear hb2); (try clear hk); (try clear hi)) | ((with_reducible refine gate_callee (f := 91) rfl ?_); refine goA (some 14) rfl rfl Try.func91 rfl #[.pointer (some ⟨g168, 0, none⟩)] rfl ?_; (with_reducible refine (spec_l11Wire.calls k g168 t166 t167 t169 t170 t173 t174 t177 w _ ?side1 ?side2 A3.out).mono ?_); (case side1 => repeat (first | (with_reducible first | exact HI168.out | apply IsS136.alloc | apply IsS136.drewN | apply IsS136.drew | apply IsS136.set_1 | refine IsS136.far ?_ NB168_165.out _) | exact HI168.out)); (case side2 => repeat (first | (with_reducible first | exact HB.out | apply below_alloc | apply pw_below_drewN | apply below_drew1 | refine below_set ?_ (IsS136.ge HI168.out) | refine below_set ?_ GE165.out) | exact HB.out)); rintro e w11 ⟨v171, v175, rfl, ho0, ho1, hi, hb, hk⟩; refine ⟨_, rfl, ?_⟩; replace BK165 := Aside0.mk (KeepBut.blk hk (g' := gb165) (o := .cells #[.int .i64 0, .slice none 0 0, .int .i64 0, .slice none 0 0] 59 (0, 0)) (mB BK165) NB165_168.out (by simp)); have HO172 := Aside0.mk (Kd.R_lower ho0 (below_size (by repeat (first | (with_reducible first | exact HB.out | apply below_alloc | apply pw_below_drewN | apply below_drew1 | refine below_set ?_ (IsS136.ge HI168.out) | refine below_set ?_ GE165.out) | exact HB.out)))); have HO176 := Aside0.mk (Kd.R_lower ho1 (below_size (by repeat (first | (with_reducible first | exact HB.out | apply below_alloc | apply pw_below_drewN | apply below_drew1 | refine below_set ?_ (IsS136.ge HI168.out) | refine below_set ?_ GE165.out) | exact HB.out)))); replace HB := Aside0.mk hb; replace HI168 := Aside0.mk hi; (try clear hb); (try clear hb2); (try clear hk); (try clear hi); (try clear ho0); (try clear ho1)) | ((with_reducible refine gate_dst (N := 7) rfl ?_); refine boxE #[.int .i64 0, .slice none 0 0, .int .i64 0, .slice none 0 0] 59 (N := 7) rfl rfl ?_; intro gb178 hg w12 hbox hb; replace HO172 := Aside0.mk (Kd.R_below (mR HO172) hb); replace HO176 := Aside0.mk (Kd.R_below (mR HO176) hb); have BK178 := Aside0.mk hbox; have GW178 := Aside0.mk ((by rw [hg]; exact (below_size (by repeat (first | (with_reducible first | exact HB.out | apply below_alloc | apply pw_below_drewN | apply below_drew1 | refine below_set ?_ (IsS136.ge HI168.out) | refine below_set ?_ GE165.out) | exact HB.out))) : w.heap.size ≤ gb178)); have GE178 := Aside0.mk ((by rw [hg]; exact (below_size (by repeat (first | (with_reducible first | exact HB.out | apply below_alloc | apply pw_below_drewN | apply below_drew1 | refine below_set ?_ (IsS136.ge HI168.out) | refine below_set ?_ GE165.out) | exact HB.out))) : w.heap.size ≤ gb178)); replace HB := Aside0.mk (below_step (by repeat (first | (with_reducible first | exact HB.out | apply below_alloc | apply pw_below_drewN | apply below_drew1 | refine below_set ?_ (IsS136.ge HI168.out) | refine below_set ?_ GE165.out) | exact HB.out)) hb); have NB165_178 := nL BK165 hg; have NB178_165 := nG BK165 hg; replace BK165 := bK BK165 hb; have NB168_178 := Aside0.mk ((by rw [hg]; exact Nat.ne_of_lt (IsS136.lt (show IsS136 w _ g168 t166 t177 from by repeat (first | (with_reducible first | exact HI168.out | apply IsS136.alloc | apply IsS136.drewN | apply IsS136.drew | apply IsS136.set_1 | refine IsS136.far ?_ NB168_165.out _) | exact HI168.out))) : g168 ≠ gb178)); have NB178_168 := Aside0.mk ((by rw [hg]; exact Nat.ne_of_gt (IsS136.lt (show IsS136 w _ g168 t166 t177 from by repeat (first | (with_reducible first | exact HI168.out | apply IsS136.alloc | apply IsS136.drewN | apply IsS136.drew | apply IsS136.set_1 | refine IsS136.far ?_ NB168_165.out _) | exact HI168.out))) : gb178 ≠ g168)); replace HI168 := Aside0.mk (IsS136.below (by repeat (first | (with_reducible first | exact HI168.out | apply IsS136.alloc | apply IsS136.drewN | apply IsS136.drew | apply IsS136.set_1 | refine IsS136.far ?_ NB168_165.out _) | exact HI168.out)) hb); clear hb hbox hg; have hnb13 := NB178_165.out; have hnc13 := NB165_178.out; have hnb14 := NB178_168.out; have hnc14 := NB168_178.out; have hz15 := cl4 BK178; obtain ⟨Ao16, co16, eo16⟩ := Kd.R_slice HO172.out; subst eo16; obtain ⟨Ao17, co17, eo17⟩ := Kd.R_slice HO176.out; subst eo17) | ((with_reducible refine gate_callee (f := 85) rfl ?_); refine goA (some 23) rfl rfl Try.func85 rfl #[.pointer (some ⟨g168, 0, none⟩), .int .i64 (wrap64 ((t174.length : Int) + 1))] rfl ?_; (with_reducible refine (spec_l1Next.calls g168 t166 t177 (wrap64 ((t174.length : Int) + 1)) t179 t180 w _ ?side1 ?side2 A4.out).mono ?_); (case side1 => repeat (first | (with_reducible first | exact HI168.out | apply IsS136.alloc | apply IsS136.drewN | apply IsS136.drew | apply IsS136.set_1 | refine IsS136.far ?_ NB168_165.out _ | refine IsS136.far ?_ NB168_178.out _) | exact HI168.out)); (case side2 => repeat (first | (with_reducible first | exact HB.out | apply below_alloc | apply pw_below_drewN | apply below_drew1 | refine below_set ?_ (IsS136.ge HI168.out) | refine below_set ?_ GE165.out | refine below_set ?_ GE178.out) | exact HB.out)); rintro e w18 ⟨rfl, hi, hb, hk⟩; refine ⟨_, rfl, ?_⟩; replace BK165 := Aside0.mk (KeepBut.blk hk (g' := gb165) (o := .cells #[.int .i64 0, .slice none 0 0, .int .i64 0, .slice none 0 0] 59 (0, 0)) (mP BK165) NB165_168.out (by simp)); replace HO172 := Aside0.mk (Kd.R_mono (Kd.R_keep (IsS136.apart (show IsS136 w _ g168 t166 t177 from by repeat (first | (with_reducible first | exact HI168.out | apply IsS136.alloc | apply IsS136.drewN | apply IsS136.drew | apply IsS136.set_1 | refine IsS136.far ?_ NB168_165.out _ | refine IsS136.far ?_ NB168_178.out _) | exact HI168.out)) (by (with_reducible repeat (first | apply Kd.R_alloc | apply Kd.R_drewN | apply Kd.R_drew)); exact (Kd.R_mono (RF (RF (RF (RF (Kd.R_types HO172.out BK178.out (by decide)))))) (fun _ h_ => h_.1))) (by decide)) hk (fun _ h => h.2)) (fun _ h => h.1)); replace HO176 := Aside0.mk (Kd.R_mono (Kd.R_keep (IsS136.apart (show IsS136 w _ g168 t166 t177 from by repeat (first | (with_reducible first | exact HI168.out | apply IsS136.alloc | apply IsS136.drewN | apply IsS136.drew | apply IsS136.set_1 | refine IsS136.far ?_ NB168_165.out _ | refine IsS136.far ?_ NB168_178.out _) | exact HI168.out)) (by (with_reducible repeat (first | apply Kd.R_alloc | apply Kd.R_drewN | apply Kd.R_drew)); exact (Kd.R_mono (RF (RF (RF (RF (Kd.R_types HO176.out BK178.out (by decide)))))) (fun _ h_ => h_.1))) (by decide)) hk (fun _ h => h.2)) (fun _ h => h.1)); replace BK178 := Aside0.mk (KeepBut.blk hk (g' := gb178) (o := .cells #[.int .i64 t169, .slice Ao16 t170.length co16, .int .i64 t173, .slice Ao17 t174.length co17] 59 (0, 0)) (mP BK178) NB178_168.out (by simp)); replace HB := Aside0.mk hb; replace HI168 := Aside0.mk hi; (try clear hb); (try clear hb2); (try clear hk); (try clear hi)) | ((with_reducible refine gate_dst (N := 27) rfl ?_); refine Kd.R_lit (Kd.int .i64) _ 2 ?hg (N := 27) ?hd (xs := ([(t174.length : Int), t179, (t174.length : Int), wrap64 ((t174.length : Int) + 1), (-1)] : List Int)) (inner := [.int .i64 (t174.length : Int), .int .i64 t179, .int .i64 (t174.length : Int), .int .i64 (wrap64 ((t174.length : Int) + 1)), .int .i64 (-1)]) (ok := fun _ => True) (okp := fun _ => True) ?hr ?hp (fun _ hk => hk) trivial (Below.refl _ _) (Nat.le_refl _) (by simp) ?_; (case hd => rfl); (case hg => rfl); (case hr => first | (go_simp; done) | (go_simp; rfl)); (case hp => exact (Reps.one (show Kd.M (Kd.int .i64) _ _ _ (t174.length : Int) [.int .i64 (t174.length : Int)] from rfl) (Reps.one (show Kd.M (Kd.int .i64) _ _ _ t179 [.int .i64 t179] from rfl) (Reps.one (show Kd.M (Kd.int .i64) _ _ _ (t174.length : Int) [.int .i64 (t174.length : Int)] from rfl) (Reps.one (show Kd.M (Kd.int .i64) _ _ _ (wrap64 ((t174.length : Int) + 1)) [.int .i64 (wrap64 ((t174.length : Int) + 1))] from rfl) (Reps.one (show Kd.M (Kd.int .i64) _ _ _ (-1) [.int .i64 (-1)] from rfl) (Reps.none _ _))))))); intro v182 w19 ho20 hb hg_ hnew_; clear hg_ hnew_; (first | rw [← Ny181.out] at ho20 | (simp only [Int.reduceToNat] at ho20; rw [← Ny181.out] at ho20)); replace HO172 := Aside0.mk (Kd.R_below (mR HO172) hb); replace HO176 := Aside0.mk (Kd.R_below (mR HO176) hb); have HO183 := Aside0.mk (Kd.R_lower ho20 (below_size (by repeat (first | (with_reducible first | exact HB.out | apply below_alloc | apply pw_below_drewN | apply below_drew1 | refine below_set ?_ (IsS136.ge HI168.out) | refine below_set ?_ GE165.out | refine below_set ?_ GE178.out) | exact HB.out)))); replace BK165 := bK BK165 hb; replace BK178 := bK BK178 hb; replace HB := Aside0.mk (below_step (by repeat (first | (with_reducible first | exact HB.out | apply below_alloc | apply pw_below_drewN | apply below_drew1 | refine below_set ?_ (IsS136.ge HI168.out) | refine below_set ?_ GE165.out | refine below_set ?_ GE178.out) | exact HB.out)) hb); replace HI168 := Aside0.mk (IsS136.below (by repeat (first | (with_reducible first | exact HI168.out | apply IsS136.alloc | apply IsS136.drewN | apply IsS136.drew | apply IsS136.set_1 | refine IsS136.far ?_ NB168_165.out _ | refine IsS136.far ?_ NB168_178.out _) | exact HI168.out)) hb); clear hb ho20; obtain ⟨Ao21, co21, eo21⟩ := Kd.R_slice HO183.out; subst eo21) | ((with_reducible refine gate_callee (f := 84) rfl ?_); refine goA (some 28) rfl rfl Try.func84 rfl #[.pointer (some ⟨g168, 0, none⟩), .slice Ao21 y181.length co21] rfl ?_; (with_reducible refine (spec_l1Pick.calls g168 t166 t180 _ _ y181 t184 t185 w _ ?side1 ?side2 ?side3 ?side4 ?side5 A5.out).mono ?_); (case side1 => repeat (first | (with_reducible first | exact HI168.out | apply IsS136.alloc | apply IsS136.drewN | apply IsS136.drew | apply IsS136.set_1 | refine IsS136.far ?_ NB168_165.out _ | refine IsS136.far ?_ NB168_178.out _) | exact HI168.out)); (case side2 => repeat (first | (with_reducible first | exact HB.out | apply below_alloc | apply pw_below_drewN | apply below_drew1 | refine below_set ?_ (IsS136.ge HI168.out) | refine below_set ?_ GE165.out | refine below_set ?_ GE178.out) | exact HB.out)); (case side3 => repeat (first | exact (Kd.R_reads' HO183.out).2.2 | (with_reducible refine Kd.C_alloc ?_ _) | (with_reducible refine Kd.C_drewN ?_ _) | (with_reducible refine Kd.C_drew ?_))); (case side4 => exact (Kd.R_reads' HO183.out).2.1); (case side5 => exact far_slice (IsS136.own_ne HI168.out HO183.out (by decide))); rintro e w22 ⟨rfl, hi, hb, hk⟩; refine ⟨_, rfl, ?_⟩; replace BK165 := Aside0.mk (KeepBut.blk hk (g' := gb165) (o := .cells #[.int .i64 0, .slice none 0 0, .int .i64 0, .slice none 0 0] 59 (0, 0)) (mB BK165) NB165_168.out (by simp)); replace HO172 := Aside0.mk (Kd.R_mono (Kd.R_keep (IsS136.apart (show IsS136 w _ g168 t166 t180 from by repeat (first | (with_reducible first | exact HI168.out | apply IsS136.alloc | apply IsS136.drewN | apply IsS136.drew | apply IsS136.set_1 | refine IsS136.far ?_ NB168_165.out _ | refine IsS136.far ?_ NB168_178.out _) | exact HI168.out)) (mR HO172) (by decide)) hk (fun _ h => h.2)) (fun _ h => h.1)); replace HO176 := Aside0.mk (Kd.R_mono (Kd.R_keep (IsS136.apart (show IsS136 w _ g168 t166 t180 from by repeat (first | (with_reducible first | exact HI168.out | apply IsS136.alloc | apply IsS136.drewN | apply IsS136.drew | apply IsS136.set_1 | refine IsS136.far ?_ NB168_165.out _ | refine IsS136.far ?_ NB168_178.out _) | exact HI168.out)) (mR HO176) (by decide)) hk (fun _ h => h.2)) (fun _ h => h.1)); replace BK178 := Aside0.mk (KeepBut.blk hk (g' := gb178) (o := .cells #[.int .i64 t169, .slice Ao16 t170.length co16, .int .i64 t173, .slice Ao17 t174.length co17] 59 (0, 0)) (mB BK178) NB178_168.out (by simp)); replace HO183 := Aside0.mk (Kd.R_mono (Kd.R_keep (IsS136.apart (show IsS136 w _ g168 t166 t180 from by repeat (first | (with_reducible first | exact HI168.out | apply IsS136.alloc | apply IsS136.drewN | apply IsS136.drew | apply IsS136.set_1 | refine IsS136.far ?_ NB168_165.out _ | refine IsS136.far ?_ NB168_178.out _) | exact HI168.out)) (mR HO183) (by decide)) hk (fun _ h => h.2)) (fun _ h => h.1)); replace HB := Aside0.mk hb; replace HI168 := Aside0.mk hi; (try clear hb); (try clear hb2); (try clear hk); (try clear hi)) | ((with_reducible refine gate_callee (f := 85) rfl ?_); refine goA (some 31) rfl rfl Try.func85 rfl #[.pointer (some ⟨g168, 0, none⟩), .int .i64 9] rfl ?_; (with_reducible refine (spec_l1Next.calls g168 t166 t185 9 t186 t187 w _ ?side1 ?side2 A6.out).mono ?_); (case side1 => repeat (first | (with_reducible first | exact HI168.out | apply IsS136.alloc | apply IsS136.drewN | apply IsS136.drew | apply IsS136.set_1 | refine IsS136.far ?_ NB168_165.out _ | refine IsS136.far ?_ NB168_178.out _) | exact HI168.out)); (case side2 => repeat (first | (with_reducible first | exact HB.out | apply below_alloc | apply pw_below_drewN | apply below_drew1 | refine below_set ?_ (IsS136.ge HI168.out) | refine below_set ?_ GE165.out | refine below_set ?_ GE178.out) | exact HB.out)); rintro e w23 ⟨rfl, hi, hb, hk⟩; refine ⟨_, rfl, ?_⟩; replace BK165 := Aside0.mk (KeepBut.blk hk (g' := gb165) (o := .cells #[.int .i64 0, .slice none 0 0, .int .i64 0, .slice none 0 0] 59 (0, 0)) (mB BK165) NB165_168.out (by simp)); replace HO172 := Aside0.mk (Kd.R_mono (Kd.R_keep (IsS136.apart (show IsS136 w _ g168 t166 t185 from by repeat (first | (with_reducible first | exact HI168.out | apply IsS136.alloc | apply IsS136.drewN | apply IsS136.drew | apply IsS136.set_1 | refine IsS136.far ?_ NB168_165.out _ | refine IsS136.far ?_ NB168_178.out _) | exact HI168.out)) (mR HO172) (by decide)) hk (fun _ h => h.2)) (fun _ h => h.1)); replace HO176 := Aside0.mk (Kd.R_mono (Kd.R_keep (IsS136.apart (show IsS136 w _ g168 t166 t185 from by repeat (first | (with_reducible first | exact HI168.out | apply IsS136.alloc | apply IsS136.drewN | apply IsS136.drew | apply IsS136.set_1 | refine IsS136.far ?_ NB168_165.out _ | refine IsS136.far ?_ NB168_178.out _) | exact HI168.out)) (mR HO176) (by decide)) hk (fun _ h => h.2)) (fun _ h => h.1)); replace BK178 := Aside0.mk (KeepBut.blk hk (g' := gb178) (o := .cells #[.int .i64 t169, .slice Ao16 t170.length co16, .int .i64 t173, .slice Ao17 t174.length co17] 59 (0, 0)) (mB BK178) NB178_168.out (by simp)); replace HO183 := Aside0.mk (Kd.R_mono (Kd.R_keep (IsS136.apart (show IsS136 w _ g168 t166 t185 from by repeat (first | (with_reducible first | exact HI168.out | apply IsS136.alloc | apply IsS136.drewN | apply IsS136.drew | apply IsS136.set_1 | refine IsS136.far ?_ NB168_165.out _ | refine IsS136.far ?_ NB168_178.out _) | exact HI168.out)) (mR HO183) (by decide)) hk (fun _ h => h.2)) (fun _ h => h.1)); replace HB := Aside0.mk hb; replace HI168 := Aside0.mk hi; (try clear hb); (try clear hb2); (try clear hk); (try clear hi)) | ((with_reducible refine gate_callee (f := 92) rfl ?_); refine goA (some 32) rfl rfl Try.func92 rfl #[.pointer (some ⟨g168, 0, none⟩), .int .i64 t186] rfl ?_; (with_reducible refine (spec_l1Some.calls k g168 t166 t187 t186 t188 t191 w _ ?side1 ?side2 A7.out).mono ?_); (case side1 => repeat (first | (with_reducible first | exact HI168.out | apply IsS136.alloc | apply IsS136.drewN | apply IsS136.drew | apply IsS136.set_1 | refine IsS136.far ?_ NB168_165.out _ | refine IsS136.far ?_ NB168_178.out _) | exact HI168.out)); (case side2 => repeat (first | (with_reducible first | exact HB.out | apply below_alloc | apply pw_below_drewN | apply below_drew1 | refine below_set ?_ (IsS136.ge HI168.out) | refine below_set ?_ GE165.out | refine below_set ?_ GE178.out) | exact HB.out)); rintro e w24 ⟨v189, rfl, ho0, hi, hb, hk⟩; refine ⟨_, rfl, ?_⟩; replace BK165 := Aside0.mk (KeepBut.blk hk (g' := gb165) (o := .cells #[.int .i64 0, .slice none 0 0, .int .i64 0, .slice none 0 0] 59 (0, 0)) (mB BK165) NB165_168.out (by simp)); replace BK178 := Aside0.mk (KeepBut.blk hk (g' := gb178) (o := .cells #[.int .i64 t169, .slice Ao16 t170.length co16, .int .i64 t173, .slice Ao17 t174.length co17] 59 (0, 0)) (mB BK178) NB178_168.out (by simp)); replace HO183 := Aside0.mk (Kd.R_mono (Kd.R_keep (IsS136.apart (show IsS136 w _ g168 t166 t187 from by repeat (first | (with_reducible first | exact HI168.out | apply IsS136.alloc | apply IsS136.drewN | apply IsS136.drew | apply IsS136.set_1 | refine IsS136.far ?_ NB168_165.out _ | refine IsS136.far ?_ NB168_178.out _) | exact HI168.out)) (mR HO183) (by decide)) hk (fun _ h => h.2)) (fun _ h => h.1)); have HO190 := Aside0.mk (Kd.R_lower (Kd.R_new' (Kd.R_new' ho0 (Kd.R_lt (mR HO172))) (Kd.R_lt (mR HO176))) (below_size (by repeat (first | (with_reducible first | exact HB.out | apply below_alloc | apply pw_below_drewN | apply below_drew1 | refine below_set ?_ (IsS136.ge HI168.out) | refine below_set ?_ GE165.out | refine below_set ?_ GE178.out) | exact HB.out)))); replace HO172 := Aside0.mk (Kd.R_mono (Kd.R_told (Kd.R_oldK (IsS136.apart (show IsS136 w _ g168 t166 t187 from by repeat (first | (with_reducible first | exact HI168.out | apply IsS136.alloc | apply IsS136.drewN | apply IsS136.drew | apply IsS136.set_1 | refine IsS136.far ?_ NB168_165.out _ | refine IsS136.far ?_ NB168_178.out _) | exact HI168.out)) (mR HO172) (by decide)) hk) (Kd.R_base ho0)) (fun _ h_ => h_.1)); replace HO176 := Aside0.mk (Kd.R_mono (Kd.R_told (Kd.R_oldK (IsS136.apart (show IsS136 w _ g168 t166 t187 from by repeat (first | (with_reducible first | exact HI168.out | apply IsS136.alloc | apply IsS136.drewN | apply IsS136.drew | apply IsS136.set_1 | refine IsS136.far ?_ NB168_165.out _ | refine IsS136.far ?_ NB168_178.out _) | exact HI168.out)) (mR HO176) (by decide)) hk) (Kd.R_base ho0)) (fun _ h_ => h_.1)); replace HB := Aside0.mk hb; replace HI168 := Aside0.mk hi; (try clear hb); (try clear hb2); (try clear hk); (try clear hi); (try clear ho0)))
 (try simp only [Act.put, List.setIfInBounds_toArray, List.set_cons_zero, List.set_cons_succ])
 go_cut [39] (fun v39 wc => ∃ (kq : Nat) (x39_7 : Bool) (x169001_7 : Int), v39 = .bool x39_7 ∧ Aside0 (spec_DrawDeliverOut.j0 kq (t174.length : Int) t184 t188 x39_7 t166 x169001_7 t169 t170 t173 t174 = some (r1, r2, r3, r4, r5, r6, r7)) ∧ Aside0 (kq ≤ k) ∧ Aside0 (Kd.R (Kd.int .u8) 5 wc w.heap.size (fun k_ => some k_ ≠ ((.slice Ao16 t170.length co16) : Value).ownBlock ∧ some k_ ≠ ((.slice Ao17 t174.length co17) : Value).ownBlock) v189 t188) ∧ Aside0 (Kd.R (Kd.int .u8) 5 wc w.heap.size (fun k_ => some k_ ≠ (v189 : Value).ownBlock ∧ some k_ ≠ ((.slice Ao17 t174.length co17) : Value).ownBlock) (.slice Ao16 t170.length co16) t170) ∧ Aside0 (Kd.R (Kd.int .u8) 5 wc w.heap.size (fun k_ => some k_ ≠ (v189 : Value).ownBlock ∧ some k_ ≠ ((.slice Ao16 t170.length co16) : Value).ownBlock) (.slice Ao17 t174.length co17) t174) ∧ Aside0 (wc.heap[gb165]? = some (.cells #[.int .i64 0, (.slice none 0 0), .int .i64 0, (.slice none 0 0)] 59 (0, 0))) ∧ Aside0 (wc.heap[gb178]? = some (.cells #[.int .i64 t169, (.slice Ao16 t170.length co16), .int .i64 t173, (.slice Ao17 t174.length co17)] 59 (0, 0))) ∧ Aside0 (IsS136 w wc g168 t166 x169001_7) ∧ Aside0 (Below w.heap.size w wc))
 case first =>
  have H := HC8.out
  clear HC8
  replace H := Option.bind_eq_some_iff.mp H
  obtain ⟨t192, A250, H⟩ := H
  replace H : (if t192 = true then ((spec_l1Chance.f t166 t191 2).bind fun bt193 => (spec_DrawDeliverOut.j0 k (t174.length : Int) t184 t188 bt193.1 t166 bt193.2 t169 t170 t173 t174)) else (spec_DrawDeliverOut.j0 k (t174.length : Int) t184 t188 false t166 t191 t169 t170 t173 t174)) = some (r1, r2, r3, r4, r5, r6, r7) := H
  have A25 := Aside0.mk A250
  clear A250
  by_cases c26 : t192 = true
  ·
   subst c26
   have H1 : ((spec_l1Chance.f t166 t191 2).bind fun bt193 => (spec_DrawDeliverOut.j0 k (t174.length : Int) t184 t188 bt193.1 t166 bt193.2 t169 t170 t173 t174)) = some (r1, r2, r3, r4, r5, r6, r7) := by rw [if_pos rfl] at H; first | done | exact H
   clear H
   have H := H1
   clear H1
   replace H := Option.bind_eq_some_iff.mp H
   obtain ⟨⟨t193, t194⟩, A270, H⟩ := H
   replace H : (spec_DrawDeliverOut.j0 k (t174.length : Int) t184 t188 t193 t166 t194 t169 t170 t173 t174) = some (r1, r2, r3, r4, r5, r6, r7) := H
   have A27 := Aside0.mk A270
   clear A270
   have H' := Aside0.mk H
   clear H
   go_wp2_with (first | ((with_reducible refine gate_callee (f := 88) rfl ?_); refine goA (some 35) rfl rfl Try.func88 rfl #[.int .i64 t184, .int .i64 0, .int .i64 (t174.length : Int)] rfl ?_; (with_reducible refine (spec_l1In.calls t184 0 (t174.length : Int) true _ A25.out).mono ?_); rintro e w' ⟨rfl, ⟨nd, rfl⟩⟩; refine ⟨_, rfl, ?_⟩) | (go_at_call 93; (with_reducible refine (spec_l1Chance.calls g168 t166 t191 2 t193 t194 w _ ?side1 ?side2 A27.out).mono ?_); (case side1 => repeat (first | (with_reducible first | exact HI168.out | apply IsS136.alloc | apply IsS136.drewN | apply IsS136.drew | apply IsS136.set_1 | refine IsS136.far ?_ NB168_165.out _ | refine IsS136.far ?_ NB168_178.out _) | exact HI168.out)); (case side2 => repeat (first | (with_reducible first | exact HB.out | apply below_alloc | apply pw_below_drewN | apply below_drew1 | refine below_set ?_ (IsS136.ge HI168.out) | refine below_set ?_ GE165.out | refine below_set ?_ GE178.out) | exact HB.out)); rintro e w28 ⟨rfl, hi, hb, hk⟩; replace BK165 := Aside0.mk (KeepBut.blk hk (g' := gb165) (o := .cells #[.int .i64 0, .slice none 0 0, .int .i64 0, .slice none 0 0] 59 (0, 0)) (mB BK165) NB165_168.out (by simp)); replace HO172 := Aside0.mk (Kd.R_mono (Kd.R_keep (IsS136.apart (show IsS136 w _ g168 t166 t191 from by repeat (first | (with_reducible first | exact HI168.out | apply IsS136.alloc | apply IsS136.drewN | apply IsS136.drew | apply IsS136.set_1 | refine IsS136.far ?_ NB168_165.out _ | refine IsS136.far ?_ NB168_178.out _) | exact HI168.out)) (mR HO172) (by decide)) hk (fun _ h => h.2)) (fun _ h => h.1)); replace HO176 := Aside0.mk (Kd.R_mono (Kd.R_keep (IsS136.apart (show IsS136 w _ g168 t166 t191 from by repeat (first | (with_reducible first | exact HI168.out | apply IsS136.alloc | apply IsS136.drewN | apply IsS136.drew | apply IsS136.set_1 | refine IsS136.far ?_ NB168_165.out _ | refine IsS136.far ?_ NB168_178.out _) | exact HI168.out)) (mR HO176) (by decide)) hk (fun _ h => h.2)) (fun _ h => h.1)); replace BK178 := Aside0.mk (KeepBut.blk hk (g' := gb178) (o := .cells #[.int .i64 t169, .slice Ao16 t170.length co16, .int .i64 t173, .slice Ao17 t174.length co17] 59 (0, 0)) (mB BK178) NB178_168.out (by simp)); replace HO183 := Aside0.mk (Kd.R_mono (Kd.R_keep (IsS136.apart (show IsS136 w _ g168 t166 t191 from by repeat (first | (with_reducible first | exact HI168.out | apply IsS136.alloc | apply IsS136.drewN | apply IsS136.drew | apply IsS136.set_1 | refine IsS136.far ?_ NB168_165.out _ | refine IsS136.far ?_ NB168_178.out _) | exact HI168.out)) (mR HO183) (by decide)) hk (fun _ h => h.2)) (fun _ h => h.1)); replace HO190 := Aside0.mk (Kd.R_mono (Kd.R_keep (IsS136.apart (show IsS136 w _ g168 t166 t191 from by repeat (first | (with_reducible first | exact HI168.out | apply IsS136.alloc | apply IsS136.drewN | apply IsS136.drew | apply IsS136.set_1 | refine IsS136.far ?_ NB168_165.out _ | refine IsS136.far ?_ NB168_178.out _) | exact HI168.out)) (mR HO190) (by decide)) hk (fun _ h => h.2)) (fun _ h => h.1)); replace HB := Aside0.mk hb; replace HI168 := Aside0.mk hi; (try clear hb); (try clear hb2); (try clear hk); (try clear hi)))
   go_meet
   case rel => exact ⟨_, (t193), (t194), (by first | rfl | (simp; done) | (simp [*]; done)), H', ⟨by first | omega | exact Nat.le_refl _⟩, ⟨by (with_reducible repeat (first | apply Kd.R_alloc | apply Kd.R_drewN | apply Kd.R_drew)); exact Kd.R_mono HO190.out (fun _ hk => ⟨hk.1.2, hk.2⟩)⟩, ⟨by (with_reducible repeat (first | apply Kd.R_alloc | apply Kd.R_drewN | apply Kd.R_drew)); exact Kd.R_mono HO172.out (fun _ hk => ⟨hk.2, hk.1⟩)⟩, ⟨by (with_reducible repeat (first | apply Kd.R_alloc | apply Kd.R_drewN | apply Kd.R_drew)); exact Kd.R_mono HO176.out (fun _ hk => ⟨hk.2, hk.1⟩)⟩, ⟨by (with_reducible repeat (first | refine blk_drewN ?_ _ | refine blk_drew ?_ | refine blk_alloc ?_ _)); exact BK165.out⟩, ⟨by (with_reducible repeat (first | refine blk_drewN ?_ _ | refine blk_drew ?_ | refine blk_alloc ?_ _)); exact BK178.out⟩, ⟨by repeat (first | (with_reducible first | exact HI168.out | apply IsS136.alloc | apply IsS136.drewN | apply IsS136.drew | apply IsS136.set_1 | refine IsS136.far ?_ NB168_165.out _ | refine IsS136.far ?_ NB168_178.out _) | exact HI168.out)⟩, ⟨by repeat (first | (with_reducible first | exact HB.out | apply below_alloc | apply pw_below_drewN | apply below_drew1 | refine below_set ?_ (IsS136.ge HI168.out) | refine below_set ?_ GE165.out | refine below_set ?_ GE178.out) | exact HB.out)⟩⟩
  ·
   replace c26 := Bool.eq_false_iff.mpr c26
   subst c26
   have H1 : (spec_DrawDeliverOut.j0 k (t174.length : Int) t184 t188 false t166 t191 t169 t170 t173 t174) = some (r1, r2, r3, r4, r5, r6, r7) := by rw [if_neg (show ¬ (false = true) by decide)] at H; first | done | exact H
   clear H
   have H := H1
   clear H1
   have H' := Aside0.mk H
   clear H
   go_wp2_with (first | ((with_reducible refine gate_callee (f := 88) rfl ?_); refine goA (some 35) rfl rfl Try.func88 rfl #[.int .i64 t184, .int .i64 0, .int .i64 (t174.length : Int)] rfl ?_; (with_reducible refine (spec_l1In.calls t184 0 (t174.length : Int) false _ A25.out).mono ?_); rintro e w' ⟨rfl, ⟨nd, rfl⟩⟩; refine ⟨_, rfl, ?_⟩))
   go_meet
   case rel => exact ⟨_, (false), (t191), (by first | rfl | (simp; done) | (simp [*]; done)), H', ⟨by first | omega | exact Nat.le_refl _⟩, ⟨by (with_reducible repeat (first | apply Kd.R_alloc | apply Kd.R_drewN | apply Kd.R_drew)); exact Kd.R_mono HO190.out (fun _ hk => ⟨hk.1.2, hk.2⟩)⟩, ⟨by (with_reducible repeat (first | apply Kd.R_alloc | apply Kd.R_drewN | apply Kd.R_drew)); exact Kd.R_mono HO172.out (fun _ hk => ⟨hk.2, hk.1⟩)⟩, ⟨by (with_reducible repeat (first | apply Kd.R_alloc | apply Kd.R_drewN | apply Kd.R_drew)); exact Kd.R_mono HO176.out (fun _ hk => ⟨hk.2, hk.1⟩)⟩, ⟨by (with_reducible repeat (first | refine blk_drewN ?_ _ | refine blk_drew ?_ | refine blk_alloc ?_ _)); exact BK165.out⟩, ⟨by (with_reducible repeat (first | refine blk_drewN ?_ _ | refine blk_drew ?_ | refine blk_alloc ?_ _)); exact BK178.out⟩, ⟨by repeat (first | (with_reducible first | exact HI168.out | apply IsS136.alloc | apply IsS136.drewN | apply IsS136.drew | apply IsS136.set_1 | refine IsS136.far ?_ NB168_165.out _ | refine IsS136.far ?_ NB168_178.out _) | exact HI168.out)⟩, ⟨by repeat (first | (with_reducible first | exact HB.out | apply below_alloc | apply pw_below_drewN | apply below_drew1 | refine below_set ?_ (IsS136.ge HI168.out) | refine below_set ?_ GE165.out | refine below_set ?_ GE178.out) | exact HB.out)⟩⟩
 case rest =>
  clear HC8
  try clear c1
  try clear c2
  try clear p2
  try clear c3
  try clear p6
  try clear c8
  try clear c9
  try clear c13
  try clear c14
  try clear c26
  try clear hz15
  obtain ⟨kq, x39_7, x169001_7, rfl, HA, HJ7, HO_10, HO_179001, HO_179003, BK165, BK178, HI168, HB⟩ := hcut
  cases kq with
  | zero => exact absurd HA.out (by simp [spec_DrawDeliverOut.j0])
  | succ kj7 =>
   have H := HA.out
   clear HA
   simp only [spec_DrawDeliverOut.j0] at H
   by_cases c29 : x39_7 = true
   ·
    subst c29
    have H1 : ((some (([] : List Int) : List Int)).bind fun y195 => ((spec_l1Min.f (t174.length : Int) (wrap64 (t184 + 5))).bind fun t198 => (if 0 ≤ t184 then (if t184 ≤ t198 then (if t198 ≤ (t174.length : Int) then ((some ((t174.take (t198 : Int).toNat).drop (t184 : Int).toNat : List Int)).bind fun y199 => (if y195.length + y199.length < 140737488355328 then ((some (y195 ++ y199 : List Int)).bind fun y203 => (if y203.length + t188.length < 140737488355328 then ((spec_l11Epoch.f t166 x169001_7 t169 t170 t173 t174).bind fun bt209 => (some (t169, t170, t173, t174, bt209.1, t184, (y203 ++ t188)))) else (none))) else (none))) else (none)) else (none)) else (none)))) = some (r1, r2, r3, r4, r5, r6, r7) := by rw [if_pos rfl] at H; first | done | exact H
    clear H
    have H := H1
    clear H1
    obtain ⟨y195, hy195⟩ : ∃ y_ : List Int, y_ = (([] : List Int)) := ⟨_, rfl⟩
    replace H : ((spec_l1Min.f (t174.length : Int) (wrap64 (t184 + 5))).bind fun t198 => (if 0 ≤ t184 then (if t184 ≤ t198 then (if t198 ≤ (t174.length : Int) then ((some ((t174.take (t198 : Int).toNat).drop (t184 : Int).toNat : List Int)).bind fun y199 => (if y195.length + y199.length < 140737488355328 then ((some (y195 ++ y199 : List Int)).bind fun y203 => (if y203.length + t188.length < 140737488355328 then ((spec_l11Epoch.f t166 x169001_7 t169 t170 t173 t174).bind fun bt209 => (some (t169, t170, t173, t174, bt209.1, t184, (y203 ++ t188)))) else (none))) else (none))) else (none)) else (none)) else (none))) = some (r1, r2, r3, r4, r5, r6, r7) := by first | (rw [hy195]; with_reducible exact H) | (have H2_ := (Option.bind_some _ _).symm.trans H; rw [hy195]; with_reducible exact H2_) | (have H2_ := (Option.bind_some _ _).symm.trans H; with_reducible exact H2_) | with_reducible exact H | (rw [hy195]; exact H) | exact H
    have Ny195 := Aside0.mk hy195
    clear hy195
    replace H := Option.bind_eq_some_iff.mp H
    obtain ⟨t198, A300, H⟩ := H
    replace H : (if 0 ≤ t184 then (if t184 ≤ t198 then (if t198 ≤ (t174.length : Int) then ((some ((t174.take (t198 : Int).toNat).drop (t184 : Int).toNat : List Int)).bind fun y199 => (if y195.length + y199.length < 140737488355328 then ((some (y195 ++ y199 : List Int)).bind fun y203 => (if y203.length + t188.length < 140737488355328 then ((spec_l11Epoch.f t166 x169001_7 t169 t170 t173 t174).bind fun bt209 => (some (t169, t170, t173, t174, bt209.1, t184, (y203 ++ t188)))) else (none))) else (none))) else (none)) else (none)) else (none)) = some (r1, r2, r3, r4, r5, r6, r7) := H
    have A30 := Aside0.mk A300
    clear A300
    by_cases c31 : 0 ≤ t184
    ·
     rw [if_pos c31] at H
     have c31b0 := eq_true c31
     have c31b1 : decide (0 ≤ t184) = true := decide_eq_true c31
     clear c31
     by_cases c32 : t184 ≤ t198
     ·
      rw [if_pos c32] at H
      have c32b0 := eq_true c32
      have c32b1 : decide (t184 ≤ t198) = true := decide_eq_true c32
      clear c32
      by_cases c33 : t198 ≤ (t174.length : Int)
      ·
       rw [if_pos c33] at H
       have c33b0 := eq_true c33
       have c33b1 : decide (t198 ≤ (t174.length : Int)) = true := decide_eq_true c33
       clear c33
       obtain ⟨y199, hy199⟩ : ∃ y_ : List Int, y_ = ((t174.take (t198 : Int).toNat).drop (t184 : Int).toNat) := ⟨_, rfl⟩
       replace H : (if y195.length + y199.length < 140737488355328 then ((some (y195 ++ y199 : List Int)).bind fun y203 => (if y203.length + t188.length < 140737488355328 then ((spec_l11Epoch.f t166 x169001_7 t169 t170 t173 t174).bind fun bt209 => (some (t169, t170, t173, t174, bt209.1, t184, (y203 ++ t188)))) else (none))) else (none)) = some (r1, r2, r3, r4, r5, r6, r7) := by first | (rw [hy199]; with_reducible exact H) | (have H2_ := (Option.bind_some _ _).symm.trans H; rw [hy199]; with_reducible exact H2_) | (have H2_ := (Option.bind_some _ _).symm.trans H; with_reducible exact H2_) | with_reducible exact H | (rw [hy199]; exact H) | exact H
       have Ny199 := Aside0.mk hy199
       clear hy199
       by_cases c34 : y195.length + y199.length < 140737488355328
       ·
        rw [if_pos c34] at H
        have LMc34 := Aside0.mk c34
        clear c34
        obtain ⟨y203, hy203⟩ : ∃ y_ : List Int, y_ = (y195 ++ y199) := ⟨_, rfl⟩
        replace H : (if y203.length + t188.length < 140737488355328 then ((spec_l11Epoch.f t166 x169001_7 t169 t170 t173 t174).bind fun bt209 => (some (t169, t170, t173, t174, bt209.1, t184, (y203 ++ t188)))) else (none)) = some (r1, r2, r3, r4, r5, r6, r7) := by first | (rw [hy203]; with_reducible exact H) | (have H2_ := (Option.bind_some _ _).symm.trans H; rw [hy203]; with_reducible exact H2_) | (have H2_ := (Option.bind_some _ _).symm.trans H; with_reducible exact H2_) | with_reducible exact H | (rw [hy203]; exact H) | exact H
        have Ny203 := Aside0.mk hy203
        clear hy203
        by_cases c35 : y203.length + t188.length < 140737488355328
        ·
         rw [if_pos c35] at H
         have LMc35 := Aside0.mk c35
         clear c35
         obtain ⟨y206, hy206⟩ : ∃ y_ : List Int, y_ = (y203 ++ t188) := ⟨_, rfl⟩
         replace H : ((spec_l11Epoch.f t166 x169001_7 t169 t170 t173 t174).bind fun bt209 => (some (t169, t170, t173, t174, bt209.1, t184, y206))) = some (r1, r2, r3, r4, r5, r6, r7) := by first | (rw [hy206]; with_reducible exact H) | (have H2_ := (Option.bind_some _ _).symm.trans H; rw [hy206]; with_reducible exact H2_) | (have H2_ := (Option.bind_some _ _).symm.trans H; with_reducible exact H2_) | with_reducible exact H | (rw [hy206]; exact H) | exact H
         have Ny206 := Aside0.mk hy206
         clear hy206
         replace H := Option.bind_eq_some_iff.mp H
         obtain ⟨⟨t209, t210⟩, A360, H⟩ := H
         replace H : (some (t169, t170, t173, t174, t209, t184, y206)) = some (r1, r2, r3, r4, r5, r6, r7) := H
         have A36 := Aside0.mk A360
         clear A360
         simp only [Option.some.injEq, Prod.mk.injEq] at H
         obtain ⟨rfl, rfl, rfl, rfl, rfl, rfl, rfl⟩ := H
         have q37 : (t198 : Int) ≤ ((t174.length : Int) : Int) := of_decide_eq_true (by first | (with_reducible assumption) | assumption)
         obtain ⟨i037, hi037, _, hsz37, _⟩ := info_parts info5
         have hroom37 : t174.length ≤ co17 := (Kd.R_reads' HO_179003.out).2.1
         have hC37 : Kd.C (Kd.int .u8) _ Ao17 t174.length t174 := (Kd.R_reads' HO_179003.out).2.2
         have ql37 : (t184 : Int) ≤ (t198 : Int) := of_decide_eq_true (by first | (with_reducible assumption) | assumption)
         have q037 : (0 : Int) ≤ (t184 : Int) := of_decide_eq_true (by first | (with_reducible assumption) | assumption)
         have hcut37 := cut_mid (P := Try.prog) 25 5 .i64 .i64 Try.underlying25 hi037 1 hsz37 Ao17 t174.length co17 t184 t198 q037 ql37 q37 hroom37
         have hr37 := Kd.C_mid (lo := (t184 : Int).toNat) (hi := (t198 : Int).toNat) (c := co17) hC37 (by omega) (by omega) hroom37
         obtain ⟨A37, hA37⟩ : ∃ A1, A1 = (if co17 = (t184 : Int).toNat then Ao17 else (Ao17 : Option Addr).map (·.add ((t184 : Int).toNat * 1))) := ⟨_, rfl⟩
         obtain ⟨c37, hc37⟩ : ∃ c1, c1 = co17 - (t184 : Int).toNat := ⟨_, rfl⟩
         have hy37 : y199.length = (t198 : Int).toNat - (t184 : Int).toNat := (by rw [Ny199.out, List.length_drop, List.length_take] <;> omega)
         rw [show ((t174).take (t198 : Int).toNat).drop (t184 : Int).toNat = y199 from Ny199.out.symm] at hr37
         replace hr37 : Kd.C (Kd.int .u8) _ A37 y199.length y199 := (by rw [hA37]; exact hr37)
         rw [← hy37, ← hA37, ← hc37] at hcut37
         have HR202 := Aside0.mk hr37
         have HC202 := Aside0.mk (show y199.length ≤ c37 from by rw [hy37, hc37]; exact Nat.sub_le_sub_right (Nat.le_trans (by omega) hroom37) _)
         clear hr37 hC37 hroom37 hi037 hsz37 hc37
         have KY37 := Aside0.mk hy37
         have KA37 := Aside0.mk hA37
         clear hy37 hA37
         have KL37 := Aside0.mk (show (t198 : Int).toNat ≤ t174.length from by omega)
         have KM37 := Aside0.mk (show (t184 : Int).toNat ≤ (t198 : Int).toNat from by omega)
         replace q37 := eq_true q37
         obtain ⟨Ao38, co38, eo38⟩ := Kd.R_slice HO_10.out
         subst eo38
         try go_wp2
         have n0_ := Aside0.mk (Kd.R_drew HO_10.out)
         have n1_ := Aside0.mk (Kd.R_drew HO_179001.out)
         have n2_ := Aside0.mk (Kd.R_drew HO_179003.out)
         have n3_ := Aside0.mk (blk_drew BK165.out)
         have n4_ := Aside0.mk (blk_drew BK178.out)
         have n5_ := Aside0.mk (Kd.C_drew HR202.out)
         have n6_ := Aside0.mk (IsS136.drew HI168.out)
         have n7_ := Aside0.mk (below_drew1 HB.out)
         clear HO_10
         clear HO_179001
         clear HO_179003
         clear BK165
         clear BK178
         clear HR202
         clear HI168
         clear HB
         have HO_10 := n0_
         have HO_179001 := n1_
         have HO_179003 := n2_
         have BK165 := n3_
         have BK178 := n4_
         have HR202 := n5_
         have HI168 := n6_
         have HB := n7_
         clear n0_ n1_ n2_ n3_ n4_ n5_ n6_ n7_
         refine start_ (n := 13) (S := fun w' => w'.cell? ⟨gb178, 0, none⟩ = some (.int .i64 t169) ∧ w'.cell? ⟨gb178, 1, none⟩ = some (.slice Ao16 t170.length co16) ∧ w'.cell? ⟨gb178, 2, none⟩ = some (.int .i64 t173) ∧ w'.cell? ⟨gb178, 3, none⟩ = some (.slice Ao17 t174.length co17)) (ds := []) #[false, false, false, false, false, false, false, false, false, false, false, false, false] (by kernel_rfl) rfl rfl ⟨(blk_cell BK178.out 0).trans rfl, (blk_cell BK178.out 1).trans rfl, (blk_cell BK178.out 2).trans rfl, (blk_cell BK178.out 3).trans rfl⟩ (fun hHeld => ?_); refine with_tabW spec_DrawDeliverOut.tab7 spec_DrawDeliverOut.bits7 (fun HT_ HW_ => ?_)
         generalize wc.drew = w39 at HO_10 HO_179001 HO_179003 BK165 BK178 HR202 HI168 HB hHeld ⊢
         refine pA 1 41 [0, 1, 1, 11] ?_
         refine pA 3 43 [0, 1, 1, 1, 1, 9] ?_
         refine pA 4 44 [0, 1, 1, 1, 2, 8] ?_
         refine pA 5 45 [0, 1, 1, 1, 3, 7] ?_
         refine pA 6 46 [0, 1, 1, 1, 4, 6] ?_
         refine pA 10 50 [0, 1, 1, 1, 4, 3, 1, 2] ?_
         refine take_ (i := 2) (N := some 42) (v := ?_) (a' := ?_) #[false, true, true, true, true, true, true, false, false, false, true, false, false] rfl rfl (take_ofW HT_.out HW_.out (by kernel_rfl)) (fun _ _ _ h => h) (Or.inl ⟨by rfl, ?_⟩) hHeld ?_ ?_
         rotate_left
         ·
          rintro w' ⟨s0, s1, s2, s3⟩
          go_simp
          with_reducible rfl
         rotate_left
         ·
          simp only [Act.put, List.setIfInBounds_toArray, List.set_cons_zero, List.set_cons_succ, i64_w, i32_w]
          rfl
         refine join_ (σ := Value) 3 #[true, true, true, true, true, true, true, true, true, false, true, false, false] (fun s_ => [(40, s_), (47, .int .i64 t198), (48, .slice A37 y199.length c37)]) (fun s_ w' => (w'.cell? ⟨gb178, 0, none⟩ = some (.int .i64 t169) ∧ w'.cell? ⟨gb178, 1, none⟩ = some (.slice Ao16 t170.length co16) ∧ w'.cell? ⟨gb178, 2, none⟩ = some (.int .i64 t173) ∧ w'.cell? ⟨gb178, 3, none⟩ = some (.slice Ao17 t174.length co17)) ∧ (Kd.R (Kd.int .u8) 5 w' w.heap.size (fun k_ => some k_ ≠ (.slice Ao38 t188.length co38 : Value).ownBlock ∧ some k_ ≠ (.slice Ao16 t170.length co16 : Value).ownBlock ∧ some k_ ≠ (.slice Ao17 t174.length co17 : Value).ownBlock) s_ y195) ∧ (Kd.R (Kd.int .u8) 5 w' w.heap.size (fun k_ => some k_ ≠ (s_ : Value).ownBlock ∧ some k_ ≠ (.slice Ao16 t170.length co16 : Value).ownBlock ∧ some k_ ≠ (.slice Ao17 t174.length co17 : Value).ownBlock) (.slice Ao38 t188.length co38) t188) ∧ (Kd.R (Kd.int .u8) 5 w' w.heap.size (fun k_ => some k_ ≠ (s_ : Value).ownBlock ∧ some k_ ≠ (.slice Ao38 t188.length co38 : Value).ownBlock ∧ some k_ ≠ (.slice Ao17 t174.length co17 : Value).ownBlock) (.slice Ao16 t170.length co16) t170) ∧ (Kd.R (Kd.int .u8) 5 w' w.heap.size (fun k_ => some k_ ≠ (s_ : Value).ownBlock ∧ some k_ ≠ (.slice Ao38 t188.length co38 : Value).ownBlock ∧ some k_ ≠ (.slice Ao16 t170.length co16 : Value).ownBlock) (.slice Ao17 t174.length co17) t174) ∧ (w'.heap[gb165]? = some (.cells #[.int .i64 0, .slice none 0 0, .int .i64 0, .slice none 0 0] 59 (0, 0))) ∧ (w'.heap[gb178]? = some (.cells #[.int .i64 t169, .slice Ao16 t170.length co16, .int .i64 t173, .slice Ao17 t174.length co17] 59 (0, 0))) ∧ (IsS136 w w' g168 t166 x169001_7) ∧ (Below w.heap.size w w')) ?_ ?_
         rotate_left
         ·
          intro hCont
          refine two_ (i := 0) (j := 7) (Ni := some 40) (Nj := some 47) #[true, true, true, true, true, true, true, false, false, false, true, false, false] #[false, true, true, true, true, true, true, true, false, false, true, false, false] rfl rfl rfl rfl (two_of HT_.out (by kernel_rfl)) (by decide) (by decide) (fun K hK => ?_) (fun K hK => ?_)
          ·
           skip
           refine Kd.R_lit_step (Kd.int .u8) _ 5 ?hg (N := 40) ?hd (xs := ([] : List Int)) (inner := []) (ok := fun _ => True) (okp := fun _ => True) ?hr ?hp (fun _ hk => hk) trivial (Below.refl _ _) (Nat.le_refl _) (by simp) ?_; (case hd => rfl); (case hg => rfl); (case hr => first | (go_simp; done) | (go_simp; rfl)); (case hp => exact (Reps.none _ _))
           intro v196 w40 ho41 hb hg_ hnew_
           clear hg_ hnew_
           (first | rw [← Ny195.out] at ho41 | (simp only [Int.reduceToNat] at ho41; rw [← Ny195.out] at ho41))
           have n0_ := Aside0.mk (Kd.R_elder' (mR HO_10) (Kd.R_base ho41) hb)
           have n1_ := Aside0.mk (Kd.R_elder' (mR HO_179001) (Kd.R_base ho41) hb)
           have n2_ := Aside0.mk (Kd.R_elder' (mR HO_179003) (Kd.R_base ho41) hb)
           have n3_ := Aside0.mk (Kd.R_lower (Kd.R_new' (Kd.R_new' (Kd.R_new' ho41 (Kd.R_lt (mR HO_10))) (Kd.R_lt (mR HO_179001))) (Kd.R_lt (mR HO_179003))) (below_size (by repeat (first | (with_reducible first | exact HB.out | apply below_alloc | apply pw_below_drewN | apply below_drew1 | refine below_set ?_ (IsS136.ge HI168.out) | refine below_set ?_ GE165.out | refine below_set ?_ GE178.out) | exact HB.out))))
           have n4_ := bK BK165 hb
           have n5_ := bK BK178 hb
           have n6_ := Aside0.mk (IsS136.below (by repeat (first | (with_reducible first | exact HI168.out | apply IsS136.alloc | apply IsS136.drewN | apply IsS136.drew | apply IsS136.set_1 | refine IsS136.far ?_ NB168_165.out _ | refine IsS136.far ?_ NB168_178.out _) | exact HI168.out)) hb)
           have n7_ := Aside0.mk (Kd.C_below (by repeat (first | (with_reducible exact HR202.out) | (with_reducible refine Kd.C_alloc ?_ _) | (with_reducible refine Kd.C_drewN ?_ _) | (with_reducible refine Kd.C_drew ?_) | exact HR202.out)) hb)
           have n8_ := Aside0.mk (below_step (by repeat (first | (with_reducible first | exact HB.out | apply below_alloc | apply pw_below_drewN | apply below_drew1 | refine below_set ?_ (IsS136.ge HI168.out) | refine below_set ?_ GE165.out | refine below_set ?_ GE178.out) | exact HB.out)) hb)
           clear HO_10
           clear HO_179001
           clear HO_179003
           clear BK165
           clear BK178
           clear HI168
           clear HR202
           clear HB
           have HO_10 := n0_
           have HO_179001 := n1_
           have HO_179003 := n2_
           have HO197 := n3_
           have BK165 := n4_
           have BK178 := n5_
           have HI168 := n6_
           have HR202 := n7_
           have HB := n8_
           clear n0_ n1_ n2_ n3_ n4_ n5_ n6_ n7_ n8_
           clear hb ho41
           refine hK.out _ _ (ce4 BK178) (fun hHeld => ?_)
           clear hK K
           refine norm_ (a' := ?_) ?_ ?_
           rotate_left
           ·
            show Act.put _ (some 40) _ = _
            simp only [Act.put, List.setIfInBounds_toArray, List.set_cons_zero, List.set_cons_succ, i64_w, i32_w]
            rfl
           refine one_ (i := 7) (N := some 47) #[true, true, true, true, true, true, true, true, false, false, true, false, false] rfl rfl (one_of HT_.out (by kernel_rfl)) (by decide) (fun K hK => ?_)
           refine goes_ Try.func94 (by kernel_rfl) rfl #[.int .i64 (t174.length : Int), .int .i64 (wrap64 (t184 + 5))] (by rfl) rfl rfl (by (try simp only [List.map_toArray, List.map_cons, List.map_nil]); first | done | rfl | (simp only [List.length_drop, List.length_take]; rfl)) ?_
           with_reducible refine (spec_l1Min.calls (t174.length : Int) (wrap64 (t184 + 5)) t198 _ A30.out).mono ?_
           rintro e w' ⟨rfl, ⟨nd, rfl⟩⟩
           refine ⟨_, rfl, ?_⟩
           refine hK.out _ _ (ce4 BK178) (fun hHeld => ?_)
           clear hK K
           refine norm_ (a' := ?_) ?_ ?_
           rotate_left
           ·
            show Act.put _ (some 47) _ = _
            simp only [Act.put, List.setIfInBounds_toArray, List.set_cons_zero, List.set_cons_succ, i64_w, i32_w]
            rfl
           refine pA 8 48 [9, 1, 1, 2] ?_
           exact norm_ (by simp only [putAll, Act.put, List.setIfInBounds_toArray, List.set_cons_zero, List.set_cons_succ]) (hCont (v196) _ ⟨hHeld, (by (with_reducible repeat (first | apply Kd.R_alloc | apply Kd.R_drewN | apply Kd.R_drew)); exact Kd.R_mono HO197.out (fun _ hk => ⟨hk.1.1.2, ⟨hk.1.2, hk.2⟩⟩)), (by (with_reducible repeat (first | apply Kd.R_alloc | apply Kd.R_drewN | apply Kd.R_drew)); exact Kd.R_mono HO_10.out (fun _ hk => ⟨hk.2, ⟨hk.1.1, hk.1.2⟩⟩)), (by (with_reducible repeat (first | apply Kd.R_alloc | apply Kd.R_drewN | apply Kd.R_drew)); exact Kd.R_mono HO_179001.out (fun _ hk => ⟨hk.2, ⟨hk.1.1, hk.1.2⟩⟩)), (by (with_reducible repeat (first | apply Kd.R_alloc | apply Kd.R_drewN | apply Kd.R_drew)); exact Kd.R_mono HO_179003.out (fun _ hk => ⟨hk.2, ⟨hk.1.1, hk.1.2⟩⟩)), (mB BK165), (mB BK178), (by repeat (first | (with_reducible first | exact HI168.out | apply IsS136.alloc | apply IsS136.drewN | apply IsS136.drew | apply IsS136.set_1 | refine IsS136.far ?_ NB168_165.out _ | refine IsS136.far ?_ NB168_178.out _) | exact HI168.out)), (by repeat (first | (with_reducible first | exact HB.out | apply below_alloc | apply pw_below_drewN | apply below_drew1 | refine below_set ?_ (IsS136.ge HI168.out) | refine below_set ?_ GE165.out | refine below_set ?_ GE178.out) | exact HB.out))⟩)
          ·
           skip
           refine goes_ Try.func94 (by kernel_rfl) rfl #[.int .i64 (t174.length : Int), .int .i64 (wrap64 (t184 + 5))] (by rfl) rfl rfl (by (try simp only [List.map_toArray, List.map_cons, List.map_nil]); first | done | rfl | (simp only [List.length_drop, List.length_take]; rfl)) ?_
           with_reducible refine (spec_l1Min.calls (t174.length : Int) (wrap64 (t184 + 5)) t198 _ A30.out).mono ?_
           rintro e w' ⟨rfl, ⟨nd, rfl⟩⟩
           refine ⟨_, rfl, ?_⟩
           refine hK.out _ _ (ce4 BK178) (fun hHeld => ?_)
           clear hK K
           refine norm_ (a' := ?_) ?_ ?_
           rotate_left
           ·
            show Act.put _ (some 47) _ = _
            simp only [Act.put, List.setIfInBounds_toArray, List.set_cons_zero, List.set_cons_succ, i64_w, i32_w]
            rfl
           refine pA 8 48 [0, 1, 8, 1, 1, 2] ?_
           refine one_ (i := 0) (N := some 40) #[true, true, true, true, true, true, true, true, true, false, true, false, false] rfl rfl (one_of HT_.out (by kernel_rfl)) (by decide) (fun K hK => ?_)
           refine Kd.R_lit_step (Kd.int .u8) _ 5 ?hg (N := 40) ?hd (xs := ([] : List Int)) (inner := []) (ok := fun _ => True) (okp := fun _ => True) ?hr ?hp (fun _ hk => hk) trivial (Below.refl _ _) (Nat.le_refl _) (by simp) ?_; (case hd => rfl); (case hg => rfl); (case hr => first | (go_simp; done) | (go_simp; rfl)); (case hp => exact (Reps.none _ _))
           intro v196 w40 ho41 hb hg_ hnew_
           clear hg_ hnew_
           (first | rw [← Ny195.out] at ho41 | (simp only [Int.reduceToNat] at ho41; rw [← Ny195.out] at ho41))
           have n0_ := Aside0.mk (Kd.R_elder' (mR HO_10) (Kd.R_base ho41) hb)
           have n1_ := Aside0.mk (Kd.R_elder' (mR HO_179001) (Kd.R_base ho41) hb)
           have n2_ := Aside0.mk (Kd.R_elder' (mR HO_179003) (Kd.R_base ho41) hb)
           have n3_ := Aside0.mk (Kd.R_lower (Kd.R_new' (Kd.R_new' (Kd.R_new' ho41 (Kd.R_lt (mR HO_10))) (Kd.R_lt (mR HO_179001))) (Kd.R_lt (mR HO_179003))) (below_size (by repeat (first | (with_reducible first | exact HB.out | apply below_alloc | apply pw_below_drewN | apply below_drew1 | refine below_set ?_ (IsS136.ge HI168.out) | refine below_set ?_ GE165.out | refine below_set ?_ GE178.out) | exact HB.out))))
           have n4_ := bK BK165 hb
           have n5_ := bK BK178 hb
           have n6_ := Aside0.mk (IsS136.below (by repeat (first | (with_reducible first | exact HI168.out | apply IsS136.alloc | apply IsS136.drewN | apply IsS136.drew | apply IsS136.set_1 | refine IsS136.far ?_ NB168_165.out _ | refine IsS136.far ?_ NB168_178.out _) | exact HI168.out)) hb)
           have n7_ := Aside0.mk (Kd.C_below (by repeat (first | (with_reducible exact HR202.out) | (with_reducible refine Kd.C_alloc ?_ _) | (with_reducible refine Kd.C_drewN ?_ _) | (with_reducible refine Kd.C_drew ?_) | exact HR202.out)) hb)
           have n8_ := Aside0.mk (below_step (by repeat (first | (with_reducible first | exact HB.out | apply below_alloc | apply pw_below_drewN | apply below_drew1 | refine below_set ?_ (IsS136.ge HI168.out) | refine below_set ?_ GE165.out | refine below_set ?_ GE178.out) | exact HB.out)) hb)
           clear HO_10
           clear HO_179001
           clear HO_179003
           clear BK165
           clear BK178
           clear HI168
           clear HR202
           clear HB
           have HO_10 := n0_
           have HO_179001 := n1_
           have HO_179003 := n2_
           have HO197 := n3_
           have BK165 := n4_
           have BK178 := n5_
           have HI168 := n6_
           have HR202 := n7_
           have HB := n8_
           clear n0_ n1_ n2_ n3_ n4_ n5_ n6_ n7_ n8_
           clear hb ho41
           refine hK.out _ _ (ce4 BK178) (fun hHeld => ?_)
           clear hK K
           refine norm_ (a' := ?_) ?_ ?_
           rotate_left
           ·
            show Act.put _ (some 40) _ = _
            simp only [Act.put, List.setIfInBounds_toArray, List.set_cons_zero, List.set_cons_succ, i64_w, i32_w]
            rfl
           exact norm_ (by simp only [putAll, Act.put, List.setIfInBounds_toArray, List.set_cons_zero, List.set_cons_succ]) (hCont (v196) _ ⟨hHeld, (by (with_reducible repeat (first | apply Kd.R_alloc | apply Kd.R_drewN | apply Kd.R_drew)); exact Kd.R_mono HO197.out (fun _ hk => ⟨hk.1.1.2, ⟨hk.1.2, hk.2⟩⟩)), (by (with_reducible repeat (first | apply Kd.R_alloc | apply Kd.R_drewN | apply Kd.R_drew)); exact Kd.R_mono HO_10.out (fun _ hk => ⟨hk.2, ⟨hk.1.1, hk.1.2⟩⟩)), (by (with_reducible repeat (first | apply Kd.R_alloc | apply Kd.R_drewN | apply Kd.R_drew)); exact Kd.R_mono HO_179001.out (fun _ hk => ⟨hk.2, ⟨hk.1.1, hk.1.2⟩⟩)), (by (with_reducible repeat (first | apply Kd.R_alloc | apply Kd.R_drewN | apply Kd.R_drew)); exact Kd.R_mono HO_179003.out (fun _ hk => ⟨hk.2, ⟨hk.1.1, hk.1.2⟩⟩)), (mB BK165), (mB BK178), (by repeat (first | (with_reducible first | exact HI168.out | apply IsS136.alloc | apply IsS136.drewN | apply IsS136.drew | apply IsS136.set_1 | refine IsS136.far ?_ NB168_165.out _ | refine IsS136.far ?_ NB168_178.out _) | exact HI168.out)), (by repeat (first | (with_reducible first | exact HB.out | apply below_alloc | apply pw_below_drewN | apply below_drew1 | refine below_set ?_ (IsS136.ge HI168.out) | refine below_set ?_ GE165.out | refine below_set ?_ GE178.out) | exact HB.out))⟩)
         rintro v196 w42 ⟨hS_, h0_, h1_, h2_, h3_, h4_, h5_, h6_, h7_⟩
         have n0_ : Aside0 (Kd.R (Kd.int .u8) 5 w42 w.heap.size (fun k_ => some k_ ≠ (.slice Ao38 t188.length co38 : Value).ownBlock ∧ some k_ ≠ (.slice Ao16 t170.length co16 : Value).ownBlock ∧ some k_ ≠ (.slice Ao17 t174.length co17 : Value).ownBlock) v196 y195) := ⟨h0_⟩
         have n1_ : Aside0 (Kd.R (Kd.int .u8) 5 w42 w.heap.size (fun k_ => some k_ ≠ (v196 : Value).ownBlock ∧ some k_ ≠ (.slice Ao16 t170.length co16 : Value).ownBlock ∧ some k_ ≠ (.slice Ao17 t174.length co17 : Value).ownBlock) (.slice Ao38 t188.length co38) t188) := ⟨h1_⟩
         have n2_ : Aside0 (Kd.R (Kd.int .u8) 5 w42 w.heap.size (fun k_ => some k_ ≠ (v196 : Value).ownBlock ∧ some k_ ≠ (.slice Ao38 t188.length co38 : Value).ownBlock ∧ some k_ ≠ (.slice Ao17 t174.length co17 : Value).ownBlock) (.slice Ao16 t170.length co16) t170) := ⟨h2_⟩
         have n3_ : Aside0 (Kd.R (Kd.int .u8) 5 w42 w.heap.size (fun k_ => some k_ ≠ (v196 : Value).ownBlock ∧ some k_ ≠ (.slice Ao38 t188.length co38 : Value).ownBlock ∧ some k_ ≠ (.slice Ao16 t170.length co16 : Value).ownBlock) (.slice Ao17 t174.length co17) t174) := ⟨h3_⟩
         have n4_ : Aside0 (w42.heap[gb165]? = some (.cells #[.int .i64 0, .slice none 0 0, .int .i64 0, .slice none 0 0] 59 (0, 0))) := ⟨h4_⟩
         have n5_ : Aside0 (w42.heap[gb178]? = some (.cells #[.int .i64 t169, .slice Ao16 t170.length co16, .int .i64 t173, .slice Ao17 t174.length co17] 59 (0, 0))) := ⟨h5_⟩
         have n6_ : Aside0 (IsS136 w w42 g168 t166 x169001_7) := ⟨h6_⟩
         have n7_ : Aside0 (Below w.heap.size w w42) := ⟨h7_⟩
         clear HO_10
         clear HO_179001
         clear HO_179003
         clear BK165
         clear BK178
         clear HR202
         clear HI168
         clear HB
         clear h0_ h1_ h2_ h3_ h4_ h5_ h6_ h7_
         have HO197 := n0_
         have HO_10 := n1_
         have HO_179001 := n2_
         have HO_179003 := n3_
         have BK165 := n4_
         have BK178 := n5_
         have HI168 := n6_
         have HB := n7_
         clear n0_ n1_ n2_ n3_ n4_ n5_ n6_ n7_
         have hHeld : w42.cell? ⟨gb178, 0, none⟩ = some (.int .i64 t169) ∧ w42.cell? ⟨gb178, 1, none⟩ = some (.slice Ao16 t170.length co16) ∧ w42.cell? ⟨gb178, 2, none⟩ = some (.int .i64 t173) ∧ w42.cell? ⟨gb178, 3, none⟩ = some (.slice Ao17 t174.length co17) := hS_
         (try clear HR202)
         have HR202 := Aside0.mk (show Kd.C (Kd.int .u8) w42 A37 y199.length y199 from by rw [Ny199.out, KA37.out]; exact Kd.C_mid (lo := (t184 : Int).toNat) (hi := (t198 : Int).toNat) (c := co17) ((Kd.R_reads' (HO_179003.out)).2.2) KM37.out KL37.out ((Kd.R_reads' (HO_179003.out)).2.1))
         refine norm_ (a' := ?_) ?_ ?_
         rotate_left
         ·
          simp only [putAll, Act.put, List.setIfInBounds_toArray, List.set_cons_zero, List.set_cons_succ]
          rfl
         refine one_ (i := 9) (N := some 49) #[true, true, true, true, true, true, true, true, true, true, true, false, false] rfl rfl (one_of HT_.out (by kernel_rfl)) (by decide) (fun K hK => ?_)
         refine Kd.R_append_rows_step (Kd.int .u8) (w0 := w) w.heap.size (by rfl) (.tmp 40) (.tmp 48) 25 5 (.int .u8 0) 1 rfl Try.underlying25 info5 rfl (by decide) (by omega) v196 y195 y199 _ _ _ (fun k_ => some k_ ≠ (.slice Ao38 t188.length co38 : Value).ownBlock ∧ some k_ ≠ (.slice Ao16 t170.length co16 : Value).ownBlock ∧ some k_ ≠ (.slice Ao17 t174.length co17 : Value).ownBlock) (fun _ => False) rfl rfl ?aO ?aR (fun _ _ h => h) (fun _ h => h.elim) ?aF ?aB ?aS ?aL ?_
         (case aR => repeat (first | exact (by repeat (first | (with_reducible exact HR202.out) | (with_reducible refine Kd.C_alloc ?_ _) | (with_reducible refine Kd.C_drewN ?_ _) | (with_reducible refine Kd.C_drew ?_) | exact HR202.out)) | (with_reducible refine Kd.C_alloc ?_ _) | (with_reducible refine Kd.C_drewN ?_ _) | (with_reducible refine Kd.C_drew ?_)))
         (case aB => exact (by repeat (first | (with_reducible first | exact HB.out | apply below_alloc | apply pw_below_drewN | apply below_drew1 | refine below_set ?_ (IsS136.ge HI168.out) | refine below_set ?_ GE165.out | refine below_set ?_ GE178.out) | exact HB.out)))
         (case aF => exact (fun k_ hk => ⟨Kd.fresh' (Kd.R_lt (mR HO_10)) k_ hk, Kd.fresh' (Kd.R_lt (mR HO_179001)) k_ hk, Kd.fresh' (Kd.R_lt (mR HO_179003)) k_ hk⟩))
         (case aO => exact (mR HO197))
         (case aS => exact (below_size (by repeat (first | (with_reducible first | exact HB.out | apply below_alloc | apply pw_below_drewN | apply below_drew1 | refine below_set ?_ (IsS136.ge HI168.out) | refine below_set ?_ GE165.out | refine below_set ?_ GE178.out) | exact HB.out))))
         (case aL => have := LMc34.out; omega)
         intro v204 w43 ho hb hg hat
         rw [← Ny203.out] at ho
         have n0_ := Aside0.mk (Kd.R_after (ok := (fun k_ => some k_ ≠ (.slice Ao16 t170.length co16 : Value).ownBlock ∧ some k_ ≠ (.slice Ao17 t174.length co17 : Value).ownBlock)) (by (with_reducible repeat (first | apply Kd.R_alloc | apply Kd.R_drewN | apply Kd.R_drew)); exact Kd.R_mono HO_10.out (fun _ hk => ⟨⟨hk.2.1, hk.2.2⟩, hk.1⟩)) hg hat)
         have n1_ := Aside0.mk (Kd.R_after (ok := (fun k_ => some k_ ≠ (.slice Ao38 t188.length co38 : Value).ownBlock ∧ some k_ ≠ (.slice Ao17 t174.length co17 : Value).ownBlock)) (by (with_reducible repeat (first | apply Kd.R_alloc | apply Kd.R_drewN | apply Kd.R_drew)); exact Kd.R_mono HO_179001.out (fun _ hk => ⟨⟨hk.2.1, hk.2.2⟩, hk.1⟩)) hg hat)
         have n2_ := Aside0.mk (Kd.R_after (ok := (fun k_ => some k_ ≠ (.slice Ao38 t188.length co38 : Value).ownBlock ∧ some k_ ≠ (.slice Ao16 t170.length co16 : Value).ownBlock)) (by (with_reducible repeat (first | apply Kd.R_alloc | apply Kd.R_drewN | apply Kd.R_drew)); exact Kd.R_mono HO_179003.out (fun _ hk => ⟨⟨hk.2.1, hk.2.2⟩, hk.1⟩)) hg hat)
         have n3_ := Aside0.mk (blk_grown (g := gb165) (o := .cells #[.int .i64 0, .slice none 0 0, .int .i64 0, .slice none 0 0] 59 (0, 0)) (mB BK165) hg (Kd.R_ne HO197.out BK165.out (by decide)))
         have n4_ := Aside0.mk (blk_grown (g := gb178) (o := .cells #[.int .i64 t169, .slice Ao16 t170.length co16, .int .i64 t173, .slice Ao17 t174.length co17] 59 (0, 0)) (mB BK178) hg (Kd.R_ne HO197.out BK178.out (by decide)))
         have n5_ := Aside0.mk (IsS136.grown (by repeat (first | (with_reducible first | exact HI168.out | apply IsS136.alloc | apply IsS136.drewN | apply IsS136.drew | apply IsS136.set_1 | refine IsS136.far ?_ NB168_165.out _ | refine IsS136.far ?_ NB168_178.out _) | exact HI168.out)) hg (IsS136.own_ne HI168.out HO197.out (by decide)))
         have n6_ := Aside0.mk (hb)
         have n7_ := Aside0.mk ((show Kd.C (Kd.int .u8) w43 A37 y199.length y199 from by rw [Ny199.out, KA37.out]; exact Kd.C_mid (lo := (t184 : Int).toNat) (hi := (t198 : Int).toNat) (c := co17) ((Kd.R_reads' (Kd.R_after (ok := (fun k_ => some k_ ≠ (.slice Ao38 t188.length co38 : Value).ownBlock ∧ some k_ ≠ (.slice Ao16 t170.length co16 : Value).ownBlock)) (by (with_reducible repeat (first | apply Kd.R_alloc | apply Kd.R_drewN | apply Kd.R_drew)); exact Kd.R_mono HO_179003.out (fun _ hk => ⟨⟨hk.2.1, hk.2.2⟩, hk.1⟩)) hg hat)).2.2) KM37.out KL37.out ((Kd.R_reads' (Kd.R_after (ok := (fun k_ => some k_ ≠ (.slice Ao38 t188.length co38 : Value).ownBlock ∧ some k_ ≠ (.slice Ao16 t170.length co16 : Value).ownBlock)) (by (with_reducible repeat (first | apply Kd.R_alloc | apply Kd.R_drewN | apply Kd.R_drew)); exact Kd.R_mono HO_179003.out (fun _ hk => ⟨⟨hk.2.1, hk.2.2⟩, hk.1⟩)) hg hat)).2.1)))
         have n8_ := Aside0.mk (ho)
         clear HO_10
         clear HO_179001
         clear HO_179003
         clear BK165
         clear BK178
         clear HI168
         clear HB
         clear HR202
         clear HO197
         have HO_10 := n0_
         have HO_179001 := n1_
         have HO_179003 := n2_
         have BK165 := n3_
         have BK178 := n4_
         have HI168 := n5_
         have HB := n6_
         have HR202 := n7_
         have HO205 := n8_
         clear n0_ n1_ n2_ n3_ n4_ n5_ n6_ n7_ n8_
         clear ho hb hg hat
         refine hK.out _ _ (ce4 BK178) (fun hHeld => ?_)
         clear hK K
         refine norm_ (a' := ?_) ?_ ?_
         rotate_left
         ·
          show Act.put _ (some 49) _ = _
          simp only [Act.put, List.setIfInBounds_toArray, List.set_cons_zero, List.set_cons_succ, i64_w, i32_w]
          rfl
         refine one_ (i := 11) (N := some 51) #[true, true, true, true, true, true, true, true, true, true, true, true, false] rfl rfl (one_of HT_.out (by kernel_rfl)) (by decide) (fun K hK => ?_)
         refine Kd.R_append_rows_step (Kd.int .u8) (w0 := w) w.heap.size (by rfl) (.tmp 49) (.tmp 50) 25 5 (.int .u8 0) 1 rfl Try.underlying25 info5 rfl (by decide) (by omega) v204 y203 t188 _ _ _ (fun k_ => some k_ ≠ (.slice Ao38 t188.length co38 : Value).ownBlock ∧ some k_ ≠ (.slice Ao16 t170.length co16 : Value).ownBlock ∧ some k_ ≠ (.slice Ao17 t174.length co17 : Value).ownBlock) (fun _ => False) rfl rfl ?aO ?aR (fun _ _ h => h) (fun _ h => h.elim) ?aF ?aB ?aS ?aL ?_
         (case aR => repeat (first | exact (Kd.R_reads' HO_10.out).2.2 | (with_reducible refine Kd.C_alloc ?_ _) | (with_reducible refine Kd.C_drewN ?_ _) | (with_reducible refine Kd.C_drew ?_)))
         (case aB => exact (by repeat (first | (with_reducible first | exact HB.out | apply below_alloc | apply pw_below_drewN | apply below_drew1 | refine below_set ?_ (IsS136.ge HI168.out) | refine below_set ?_ GE165.out | refine below_set ?_ GE178.out) | exact HB.out)))
         (case aF => exact (fun k_ hk => ⟨Kd.fresh' (Kd.R_lt (mR HO_10)) k_ hk, Kd.fresh' (Kd.R_lt (mR HO_179001)) k_ hk, Kd.fresh' (Kd.R_lt (mR HO_179003)) k_ hk⟩))
         (case aO => exact (mR HO205))
         (case aS => exact (below_size (by repeat (first | (with_reducible first | exact HB.out | apply below_alloc | apply pw_below_drewN | apply below_drew1 | refine below_set ?_ (IsS136.ge HI168.out) | refine below_set ?_ GE165.out | refine below_set ?_ GE178.out) | exact HB.out))))
         (case aL => have := LMc35.out; omega)
         intro v207 w44 ho hb hg hat
         rw [← Ny206.out] at ho
         have n0_ := Aside0.mk (Kd.R_after (ok := (fun k_ => some k_ ≠ (.slice Ao16 t170.length co16 : Value).ownBlock ∧ some k_ ≠ (.slice Ao17 t174.length co17 : Value).ownBlock)) (mR HO_10) hg hat)
         have n1_ := Aside0.mk (Kd.R_after (ok := (fun k_ => some k_ ≠ (.slice Ao38 t188.length co38 : Value).ownBlock ∧ some k_ ≠ (.slice Ao17 t174.length co17 : Value).ownBlock)) (mR HO_179001) hg hat)
         have n2_ := Aside0.mk (Kd.R_after (ok := (fun k_ => some k_ ≠ (.slice Ao38 t188.length co38 : Value).ownBlock ∧ some k_ ≠ (.slice Ao16 t170.length co16 : Value).ownBlock)) (mR HO_179003) hg hat)
         have n3_ := Aside0.mk (blk_grown (g := gb165) (o := .cells #[.int .i64 0, .slice none 0 0, .int .i64 0, .slice none 0 0] 59 (0, 0)) (mB BK165) hg (Kd.R_ne HO205.out BK165.out (by decide)))
         have n4_ := Aside0.mk (blk_grown (g := gb178) (o := .cells #[.int .i64 t169, .slice Ao16 t170.length co16, .int .i64 t173, .slice Ao17 t174.length co17] 59 (0, 0)) (mB BK178) hg (Kd.R_ne HO205.out BK178.out (by decide)))
         have n5_ := Aside0.mk (IsS136.grown (by repeat (first | (with_reducible first | exact HI168.out | apply IsS136.alloc | apply IsS136.drewN | apply IsS136.drew | apply IsS136.set_1 | refine IsS136.far ?_ NB168_165.out _ | refine IsS136.far ?_ NB168_178.out _) | exact HI168.out)) hg (IsS136.own_ne HI168.out HO205.out (by decide)))
         have n6_ := Aside0.mk (hb)
         have n7_ := Aside0.mk ((show Kd.C (Kd.int .u8) w44 A37 y199.length y199 from by rw [Ny199.out, KA37.out]; exact Kd.C_mid (lo := (t184 : Int).toNat) (hi := (t198 : Int).toNat) (c := co17) ((Kd.R_reads' (Kd.R_after (ok := (fun k_ => some k_ ≠ (.slice Ao38 t188.length co38 : Value).ownBlock ∧ some k_ ≠ (.slice Ao16 t170.length co16 : Value).ownBlock)) (mR HO_179003) hg hat)).2.2) KM37.out KL37.out ((Kd.R_reads' (Kd.R_after (ok := (fun k_ => some k_ ≠ (.slice Ao38 t188.length co38 : Value).ownBlock ∧ some k_ ≠ (.slice Ao16 t170.length co16 : Value).ownBlock)) (mR HO_179003) hg hat)).2.1)))
         have n8_ := Aside0.mk (ho)
         clear HO_10
         clear HO_179001
         clear HO_179003
         clear BK165
         clear BK178
         clear HI168
         clear HB
         clear HR202
         clear HO205
         have HO_10 := n0_
         have HO_179001 := n1_
         have HO_179003 := n2_
         have BK165 := n3_
         have BK178 := n4_
         have HI168 := n5_
         have HB := n6_
         have HR202 := n7_
         have HO208 := n8_
         clear n0_ n1_ n2_ n3_ n4_ n5_ n6_ n7_ n8_
         clear ho hb hg hat
         refine hK.out _ _ (ce4 BK178) (fun hHeld => ?_)
         clear hK K
         refine norm_ (a' := ?_) ?_ ?_
         rotate_left
         ·
          show Act.put _ (some 51) _ = _
          simp only [Act.put, List.setIfInBounds_toArray, List.set_cons_zero, List.set_cons_succ, i64_w, i32_w]
          rfl
         refine pA 12 10 [13] ?_
         refine done_ (done_of HT_.out (by kernel_rfl)) ?_
         try go_wp2
         have n0_ := Aside0.mk (Kd.R_drew HO_10.out)
         have n1_ := Aside0.mk (Kd.R_drew HO_179001.out)
         have n2_ := Aside0.mk (Kd.R_drew HO_179003.out)
         have n3_ := Aside0.mk (Kd.R_drew HO208.out)
         have n4_ := Aside0.mk (blk_drew BK165.out)
         have n5_ := Aside0.mk (blk_drew BK178.out)
         have n6_ := Aside0.mk (Kd.C_drew HR202.out)
         have n7_ := Aside0.mk (IsS136.drew HI168.out)
         have n8_ := Aside0.mk (below_drew1 HB.out)
         clear HO_10
         clear HO_179001
         clear HO_179003
         clear HO208
         clear BK165
         clear BK178
         clear HR202
         clear HI168
         clear HB
         have HO_10 := n0_
         have HO_179001 := n1_
         have HO_179003 := n2_
         have HO208 := n3_
         have BK165 := n4_
         have BK178 := n5_
         have HR202 := n6_
         have HI168 := n7_
         have HB := n8_
         clear n0_ n1_ n2_ n3_ n4_ n5_ n6_ n7_ n8_
         refine start_ (n := 10) (S := fun w' => w'.cell? ⟨gb178, 0, none⟩ = some (.int .i64 t169) ∧ w'.cell? ⟨gb178, 1, none⟩ = some (.slice Ao16 t170.length co16) ∧ w'.cell? ⟨gb178, 2, none⟩ = some (.int .i64 t173) ∧ w'.cell? ⟨gb178, 3, none⟩ = some (.slice Ao17 t174.length co17)) (ds := []) #[false, false, false, false, false, false, false, false, false, false] (by kernel_rfl) rfl rfl ⟨(blk_cell BK178.out 0).trans rfl, (blk_cell BK178.out 1).trans rfl, (blk_cell BK178.out 2).trans rfl, (blk_cell BK178.out 3).trans rfl⟩ (fun hHeld => ?_); refine with_tabW spec_DrawDeliverOut.tab8 spec_DrawDeliverOut.bits8 (fun HT_ HW_ => ?_)
         generalize w44.drew = w45 at HO_10 HO_179001 HO_179003 HO208 BK165 BK178 HR202 HI168 HB hHeld ⊢
         refine pA 1 53 [0, 1, 1, 8] ?_
         refine pA 4 56 [0, 1, 1, 2, 1, 5] ?_
         refine pA 5 57 [0, 1, 1, 2, 2, 4] ?_
         refine take_ (i := 0) (N := some 52) (v := ?_) (a' := ?_) #[true, true, false, false, true, true, false, false, false, false] rfl rfl (take_ofW HT_.out HW_.out (by kernel_rfl)) (fun _ _ _ h => h) (Or.inl ⟨by rfl, ?_⟩) hHeld ?_ ?_
         rotate_left
         ·
          rintro w' ⟨s0, s1, s2, s3⟩
          go_simp
          with_reducible rfl
         rotate_left
         ·
          simp only [Act.put, List.setIfInBounds_toArray, List.set_cons_zero, List.set_cons_succ, i64_w, i32_w]
          rfl
         refine take_ (i := 2) (N := some 54) (v := ?_) (a' := ?_) #[true, true, true, false, true, true, false, false, false, false] rfl rfl (take_ofW HT_.out HW_.out (by kernel_rfl)) (fun _ _ _ h => h) (Or.inl ⟨by rfl, ?_⟩) hHeld ?_ ?_
         rotate_left
         ·
          rintro w' ⟨s0, s1, s2, s3⟩
          go_simp
          with_reducible rfl
         rotate_left
         ·
          simp only [Act.put, List.setIfInBounds_toArray, List.set_cons_zero, List.set_cons_succ, i64_w, i32_w]
          rfl
         refine one_ (i := 3) (N := some 55) #[true, true, true, true, true, true, false, false, false, false] rfl rfl (one_of HT_.out (by kernel_rfl)) (by decide) (fun K hK => ?_)
         refine goes_ Try.func95 (by kernel_rfl) rfl #[.pointer (some ⟨g168, 0, none⟩), .agg #[.int .i64 t169, .slice Ao16 t170.length co16, .int .i64 t173, .slice Ao17 t174.length co17]] (by rfl) rfl rfl (by (try simp only [List.map_toArray, List.map_cons, List.map_nil]); first | done | rfl | (simp only [List.length_drop, List.length_take]; rfl)) ?_
         with_reducible refine (spec_l11Epoch.calls g168 t166 x169001_7 t169 _ _ t170 t173 _ _ t174 t209 t210 w _ ?side1 ?side2 ?side3 ?side4 ?side5 ?side6 ?side7 ?side8 A36.out).mono ?_
         (case side1 => repeat (first | (with_reducible first | exact HI168.out | apply IsS136.alloc | apply IsS136.drewN | apply IsS136.drew | apply IsS136.set_1 | refine IsS136.far ?_ NB168_165.out _ | refine IsS136.far ?_ NB168_178.out _) | exact HI168.out))
         (case side2 => repeat (first | (with_reducible first | exact HB.out | apply below_alloc | apply pw_below_drewN | apply below_drew1 | refine below_set ?_ (IsS136.ge HI168.out) | refine below_set ?_ GE165.out | refine below_set ?_ GE178.out) | exact HB.out))
         (case side3 => repeat (first | exact (Kd.R_reads' HO_179001.out).2.2 | (with_reducible refine Kd.C_alloc ?_ _) | (with_reducible refine Kd.C_drewN ?_ _) | (with_reducible refine Kd.C_drew ?_)))
         (case side4 => exact (Kd.R_reads' HO_179001.out).2.1)
         (case side5 => exact far_slice (IsS136.own_ne HI168.out HO_179001.out (by decide)))
         (case side6 => repeat (first | exact (Kd.R_reads' HO_179003.out).2.2 | (with_reducible refine Kd.C_alloc ?_ _) | (with_reducible refine Kd.C_drewN ?_ _) | (with_reducible refine Kd.C_drew ?_)))
         (case side7 => exact (Kd.R_reads' HO_179003.out).2.1)
         (case side8 => exact far_slice (IsS136.own_ne HI168.out HO_179003.out (by decide)))
         rintro e w46 ⟨rfl, hi, hb, hk⟩
         refine ⟨_, rfl, ?_⟩
         have n0_ := Aside0.mk (Kd.R_mono (Kd.R_keep (IsS136.apart (show IsS136 w _ g168 t166 x169001_7 from by repeat (first | (with_reducible first | exact HI168.out | apply IsS136.alloc | apply IsS136.drewN | apply IsS136.drew | apply IsS136.set_1 | refine IsS136.far ?_ NB168_165.out _ | refine IsS136.far ?_ NB168_178.out _) | exact HI168.out)) (mR HO_10) (by decide)) hk (fun _ h => h.2)) (fun _ h => h.1))
         have n1_ := Aside0.mk (Kd.R_mono (Kd.R_keep (IsS136.apart (show IsS136 w _ g168 t166 x169001_7 from by repeat (first | (with_reducible first | exact HI168.out | apply IsS136.alloc | apply IsS136.drewN | apply IsS136.drew | apply IsS136.set_1 | refine IsS136.far ?_ NB168_165.out _ | refine IsS136.far ?_ NB168_178.out _) | exact HI168.out)) (mR HO_179001) (by decide)) hk (fun _ h => h.2)) (fun _ h => h.1))
         have n2_ := Aside0.mk (Kd.R_mono (Kd.R_keep (IsS136.apart (show IsS136 w _ g168 t166 x169001_7 from by repeat (first | (with_reducible first | exact HI168.out | apply IsS136.alloc | apply IsS136.drewN | apply IsS136.drew | apply IsS136.set_1 | refine IsS136.far ?_ NB168_165.out _ | refine IsS136.far ?_ NB168_178.out _) | exact HI168.out)) (mR HO_179003) (by decide)) hk (fun _ h => h.2)) (fun _ h => h.1))
         have n3_ := Aside0.mk (KeepBut.blk hk (g' := gb165) (o := .cells #[.int .i64 0, .slice none 0 0, .int .i64 0, .slice none 0 0] 59 (0, 0)) (mB BK165) NB165_168.out (by simp))
         have n4_ := Aside0.mk (KeepBut.blk hk (g' := gb178) (o := .cells #[.int .i64 t169, .slice Ao16 t170.length co16, .int .i64 t173, .slice Ao17 t174.length co17] 59 (0, 0)) (mB BK178) NB178_168.out (by simp))
         have n5_ := Aside0.mk (Kd.R_mono (Kd.R_keep (IsS136.apart (show IsS136 w _ g168 t166 x169001_7 from by repeat (first | (with_reducible first | exact HI168.out | apply IsS136.alloc | apply IsS136.drewN | apply IsS136.drew | apply IsS136.set_1 | refine IsS136.far ?_ NB168_165.out _ | refine IsS136.far ?_ NB168_178.out _) | exact HI168.out)) (mR HO208) (by decide)) hk (fun _ h => h.2)) (fun _ h => h.1))
         have n6_ := Aside0.mk (hb)
         have n7_ := Aside0.mk (hi)
         clear HO_10
         clear HO_179001
         clear HO_179003
         clear BK165
         clear BK178
         clear HO208
         clear HB
         clear HI168
         have HO_10 := n0_
         have HO_179001 := n1_
         have HO_179003 := n2_
         have BK165 := n3_
         have BK178 := n4_
         have HO208 := n5_
         have HB := n6_
         have HI168 := n7_
         clear n0_ n1_ n2_ n3_ n4_ n5_ n6_ n7_
         (try clear hb)
         (try clear hb2)
         (try clear hk)
         (try clear hi)
         refine hK.out _ _ (ce4 BK178) (fun hHeld => ?_)
         clear hK K
         refine norm_ (a' := ?_) ?_ ?_
         rotate_left
         ·
          show Act.put _ (some 55) _ = _
          simp only [Act.put, List.setIfInBounds_toArray, List.set_cons_zero, List.set_cons_succ, i64_w, i32_w]
          rfl
         refine one_ (i := 6) (N := none) #[true, true, true, true, true, true, true, false, false, false] rfl rfl (one_of HT_.out (by kernel_rfl)) (by decide) (fun K hK => ?_)
         have hs47 : w46.cell? ⟨gb165, 0, none⟩ = some (.int .i64 0) := (blk_cell BK165.out 0).trans rfl
         have hfs47 := blk_frozen BK165.out 0
         have hns47_1 := NB178_165.out
         have hms47_1 := NB165_178.out
         have hs48 : w46.cell? ⟨gb165, 1, none⟩ = some (.slice none 0 0) := (blk_cell BK165.out 1).trans rfl
         have hfs48 := blk_frozen BK165.out 1
         have hns48_1 := NB178_165.out
         have hms48_1 := NB165_178.out
         have hs49 : w46.cell? ⟨gb165, 2, none⟩ = some (.int .i64 0) := (blk_cell BK165.out 2).trans rfl
         have hfs49 := blk_frozen BK165.out 2
         have hns49_1 := NB178_165.out
         have hms49_1 := NB165_178.out
         have hs50 : w46.cell? ⟨gb165, 3, none⟩ = some (.slice none 0 0) := (blk_cell BK165.out 3).trans rfl
         have hfs50 := blk_frozen BK165.out 3
         have hns50_1 := NB178_165.out
         have hms50_1 := NB165_178.out
         refine skip_ (w1 := ?_) (by rfl) rfl ?_ ?_
         rotate_left
         ·
          go_simp
          rfl
         refine hK.out _ _ ⟨((cell_far (p := ⟨gb165, _, none⟩) NB178_165.out _).trans (((cell_far (p := ⟨gb165, _, none⟩) NB178_165.out _).trans (((cell_far (p := ⟨gb165, _, none⟩) NB178_165.out _).trans (((cell_far (p := ⟨gb165, _, none⟩) NB178_165.out _).trans (hHeld.1)))))))), ((cell_far (p := ⟨gb165, _, none⟩) NB178_165.out _).trans (((cell_far (p := ⟨gb165, _, none⟩) NB178_165.out _).trans (((cell_far (p := ⟨gb165, _, none⟩) NB178_165.out _).trans (((cell_far (p := ⟨gb165, _, none⟩) NB178_165.out _).trans (hHeld.2.1)))))))), ((cell_far (p := ⟨gb165, _, none⟩) NB178_165.out _).trans (((cell_far (p := ⟨gb165, _, none⟩) NB178_165.out _).trans (((cell_far (p := ⟨gb165, _, none⟩) NB178_165.out _).trans (((cell_far (p := ⟨gb165, _, none⟩) NB178_165.out _).trans (hHeld.2.2.1)))))))), ((cell_far (p := ⟨gb165, _, none⟩) NB178_165.out _).trans (((cell_far (p := ⟨gb165, _, none⟩) NB178_165.out _).trans (((cell_far (p := ⟨gb165, _, none⟩) NB178_165.out _).trans (((cell_far (p := ⟨gb165, _, none⟩) NB178_165.out _).trans (hHeld.2.2.2))))))))⟩ (fun hHeld => ?_)
         clear hK K
         refine pA 7 3 [8, 2] ?_
         refine pA 8 4 [9, 1] ?_
         refine pA 9 5 [10] ?_
         refine done_ (done_of HT_.out (by kernel_rfl)) ?_
         try go_wp2
         refine bodyPost_ret (results_list (rs := [.cell 2 59, .tmp 3, .tmp 4, .tmp 5]) rfl (by simp) (.cell gb165 59 #[.int .i64 t169, .slice Ao16 t170.length co16, .int .i64 t173, .slice Ao17 t174.length co17] (0, 0) _ rfl (mP BK165) Try.underlying59 rfl (by kernel_rfl) (.tmp (.tmp (.tmp .nil))))) rfl ?_
         exact ⟨_, _, _, by first | rfl | (simp [errW_none, errW_some] <;> rfl) | (simp [*, errW_none, errW_some] <;> rfl), by (with_reducible repeat (first | apply Kd.R_alloc | apply Kd.R_drewN | apply Kd.R_drew)); exact Kd.R_mono (RF (RF (RF (RF (Kd.R_types HO_179001.out BK165.out (by decide)))))) (fun _ hk => ⟨hk.1.1.2, hk.1.2⟩), by (with_reducible repeat (first | apply Kd.R_alloc | apply Kd.R_drewN | apply Kd.R_drew)); exact Kd.R_mono (RF (RF (RF (RF (Kd.R_types HO_179003.out BK165.out (by decide)))))) (fun _ hk => ⟨hk.1.1.2, hk.1.2⟩), by (with_reducible repeat (first | apply Kd.R_alloc | apply Kd.R_drewN | apply Kd.R_drew)); exact Kd.R_mono (RF (RF (RF (RF (Kd.R_types HO208.out BK165.out (by decide)))))) (fun _ hk => ⟨hk.1.2.1, hk.1.2.2⟩), by repeat (first | (with_reducible first | exact HB.out | apply below_alloc | apply pw_below_drewN | apply below_drew1 | refine below_set ?_ (IsS136.ge HI168.out) | refine below_set ?_ GE165.out | refine below_set ?_ GE178.out) | exact HB.out)⟩
        ·
         rw [if_neg c35] at H
         exact absurd H (by simp)
       ·
        rw [if_neg c34] at H
        exact absurd H (by simp)
      ·
       rw [if_neg c33] at H
       exact absurd H (by simp)
     ·
      rw [if_neg c32] at H
      exact absurd H (by simp)
    ·
     rw [if_neg c31] at H
     exact absurd H (by simp)
   ·
    replace c29 := Bool.eq_false_iff.mpr c29
    subst c29
    have H1 : ((spec_l11Epoch.f t166 x169001_7 t169 t170 t173 t174).bind fun bt211 => (some (t169, t170, t173, t174, bt211.1, t184, t188))) = some (r1, r2, r3, r4, r5, r6, r7) := by rw [if_neg (show ¬ (false = true) by decide)] at H; first | done | exact H
    clear H
    have H := H1
    clear H1
    replace H := Option.bind_eq_some_iff.mp H
    obtain ⟨⟨t211, t212⟩, A510, H⟩ := H
    replace H : (some (t169, t170, t173, t174, t211, t184, t188)) = some (r1, r2, r3, r4, r5, r6, r7) := H
    have A51 := Aside0.mk A510
    clear A510
    simp only [Option.some.injEq, Prod.mk.injEq] at H
    obtain ⟨rfl, rfl, rfl, rfl, rfl, rfl, rfl⟩ := H
    try go_wp2
    have n0_ := Aside0.mk (Kd.R_drew HO_10.out)
    have n1_ := Aside0.mk (Kd.R_drew HO_179001.out)
    have n2_ := Aside0.mk (Kd.R_drew HO_179003.out)
    have n3_ := Aside0.mk (blk_drew BK165.out)
    have n4_ := Aside0.mk (blk_drew BK178.out)
    have n5_ := Aside0.mk (IsS136.drew HI168.out)
    have n6_ := Aside0.mk (below_drew1 HB.out)
    clear HO_10
    clear HO_179001
    clear HO_179003
    clear BK165
    clear BK178
    clear HI168
    clear HB
    have HO_10 := n0_
    have HO_179001 := n1_
    have HO_179003 := n2_
    have BK165 := n3_
    have BK178 := n4_
    have HI168 := n5_
    have HB := n6_
    clear n0_ n1_ n2_ n3_ n4_ n5_ n6_
    refine start_ (n := 10) (S := fun w' => w'.cell? ⟨gb178, 0, none⟩ = some (.int .i64 t169) ∧ w'.cell? ⟨gb178, 1, none⟩ = some (.slice Ao16 t170.length co16) ∧ w'.cell? ⟨gb178, 2, none⟩ = some (.int .i64 t173) ∧ w'.cell? ⟨gb178, 3, none⟩ = some (.slice Ao17 t174.length co17)) (ds := []) #[false, false, false, false, false, false, false, false, false, false] (by kernel_rfl) rfl rfl ⟨(blk_cell BK178.out 0).trans rfl, (blk_cell BK178.out 1).trans rfl, (blk_cell BK178.out 2).trans rfl, (blk_cell BK178.out 3).trans rfl⟩ (fun hHeld => ?_); refine with_tabW spec_DrawDeliverOut.tab8 spec_DrawDeliverOut.bits8 (fun HT_ HW_ => ?_)
    generalize wc.drew = w52 at HO_10 HO_179001 HO_179003 BK165 BK178 HI168 HB hHeld ⊢
    refine pA 1 53 [0, 1, 1, 8] ?_
    refine pA 4 56 [0, 1, 1, 2, 1, 5] ?_
    refine pA 5 57 [0, 1, 1, 2, 2, 4] ?_
    refine take_ (i := 0) (N := some 52) (v := ?_) (a' := ?_) #[true, true, false, false, true, true, false, false, false, false] rfl rfl (take_ofW HT_.out HW_.out (by kernel_rfl)) (fun _ _ _ h => h) (Or.inl ⟨by rfl, ?_⟩) hHeld ?_ ?_
    rotate_left
    ·
     rintro w' ⟨s0, s1, s2, s3⟩
     go_simp
     with_reducible rfl
    rotate_left
    ·
     simp only [Act.put, List.setIfInBounds_toArray, List.set_cons_zero, List.set_cons_succ, i64_w, i32_w]
     rfl
    refine take_ (i := 2) (N := some 54) (v := ?_) (a' := ?_) #[true, true, true, false, true, true, false, false, false, false] rfl rfl (take_ofW HT_.out HW_.out (by kernel_rfl)) (fun _ _ _ h => h) (Or.inl ⟨by rfl, ?_⟩) hHeld ?_ ?_
    rotate_left
    ·
     rintro w' ⟨s0, s1, s2, s3⟩
     go_simp
     with_reducible rfl
    rotate_left
    ·
     simp only [Act.put, List.setIfInBounds_toArray, List.set_cons_zero, List.set_cons_succ, i64_w, i32_w]
     rfl
    refine one_ (i := 3) (N := some 55) #[true, true, true, true, true, true, false, false, false, false] rfl rfl (one_of HT_.out (by kernel_rfl)) (by decide) (fun K hK => ?_)
    refine goes_ Try.func95 (by kernel_rfl) rfl #[.pointer (some ⟨g168, 0, none⟩), .agg #[.int .i64 t169, .slice Ao16 t170.length co16, .int .i64 t173, .slice Ao17 t174.length co17]] (by rfl) rfl rfl (by (try simp only [List.map_toArray, List.map_cons, List.map_nil]); first | done | rfl | (simp only [List.length_drop, List.length_take]; rfl)) ?_
    with_reducible refine (spec_l11Epoch.calls g168 t166 x169001_7 t169 _ _ t170 t173 _ _ t174 t211 t212 w _ ?side1 ?side2 ?side3 ?side4 ?side5 ?side6 ?side7 ?side8 A51.out).mono ?_
    (case side1 => repeat (first | (with_reducible first | exact HI168.out | apply IsS136.alloc | apply IsS136.drewN | apply IsS136.drew | apply IsS136.set_1 | refine IsS136.far ?_ NB168_165.out _ | refine IsS136.far ?_ NB168_178.out _) | exact HI168.out))
    (case side2 => repeat (first | (with_reducible first | exact HB.out | apply below_alloc | apply pw_below_drewN | apply below_drew1 | refine below_set ?_ (IsS136.ge HI168.out) | refine below_set ?_ GE165.out | refine below_set ?_ GE178.out) | exact HB.out))
    (case side3 => repeat (first | exact (Kd.R_reads' HO_179001.out).2.2 | (with_reducible refine Kd.C_alloc ?_ _) | (with_reducible refine Kd.C_drewN ?_ _) | (with_reducible refine Kd.C_drew ?_)))
    (case side4 => exact (Kd.R_reads' HO_179001.out).2.1)
    (case side5 => exact far_slice (IsS136.own_ne HI168.out HO_179001.out (by decide)))
    (case side6 => repeat (first | exact (Kd.R_reads' HO_179003.out).2.2 | (with_reducible refine Kd.C_alloc ?_ _) | (with_reducible refine Kd.C_drewN ?_ _) | (with_reducible refine Kd.C_drew ?_)))
    (case side7 => exact (Kd.R_reads' HO_179003.out).2.1)
    (case side8 => exact far_slice (IsS136.own_ne HI168.out HO_179003.out (by decide)))
    rintro e w53 ⟨rfl, hi, hb, hk⟩
    refine ⟨_, rfl, ?_⟩
    have n0_ := Aside0.mk (Kd.R_mono (Kd.R_keep (IsS136.apart (show IsS136 w _ g168 t166 x169001_7 from by repeat (first | (with_reducible first | exact HI168.out | apply IsS136.alloc | apply IsS136.drewN | apply IsS136.drew | apply IsS136.set_1 | refine IsS136.far ?_ NB168_165.out _ | refine IsS136.far ?_ NB168_178.out _) | exact HI168.out)) (mR HO_10) (by decide)) hk (fun _ h => h.2)) (fun _ h => h.1))
    have n1_ := Aside0.mk (Kd.R_mono (Kd.R_keep (IsS136.apart (show IsS136 w _ g168 t166 x169001_7 from by repeat (first | (with_reducible first | exact HI168.out | apply IsS136.alloc | apply IsS136.drewN | apply IsS136.drew | apply IsS136.set_1 | refine IsS136.far ?_ NB168_165.out _ | refine IsS136.far ?_ NB168_178.out _) | exact HI168.out)) (mR HO_179001) (by decide)) hk (fun _ h => h.2)) (fun _ h => h.1))
    have n2_ := Aside0.mk (Kd.R_mono (Kd.R_keep (IsS136.apart (show IsS136 w _ g168 t166 x169001_7 from by repeat (first | (with_reducible first | exact HI168.out | apply IsS136.alloc | apply IsS136.drewN | apply IsS136.drew | apply IsS136.set_1 | refine IsS136.far ?_ NB168_165.out _ | refine IsS136.far ?_ NB168_178.out _) | exact HI168.out)) (mR HO_179003) (by decide)) hk (fun _ h => h.2)) (fun _ h => h.1))
    have n3_ := Aside0.mk (KeepBut.blk hk (g' := gb165) (o := .cells #[.int .i64 0, .slice none 0 0, .int .i64 0, .slice none 0 0] 59 (0, 0)) (mB BK165) NB165_168.out (by simp))
    have n4_ := Aside0.mk (KeepBut.blk hk (g' := gb178) (o := .cells #[.int .i64 t169, .slice Ao16 t170.length co16, .int .i64 t173, .slice Ao17 t174.length co17] 59 (0, 0)) (mB BK178) NB178_168.out (by simp))
    have n5_ := Aside0.mk (hb)
    have n6_ := Aside0.mk (hi)
    clear HO_10
    clear HO_179001
    clear HO_179003
    clear BK165
    clear BK178
    clear HB
    clear HI168
    have HO_10 := n0_
    have HO_179001 := n1_
    have HO_179003 := n2_
    have BK165 := n3_
    have BK178 := n4_
    have HB := n5_
    have HI168 := n6_
    clear n0_ n1_ n2_ n3_ n4_ n5_ n6_
    (try clear hb)
    (try clear hb2)
    (try clear hk)
    (try clear hi)
    refine hK.out _ _ (ce4 BK178) (fun hHeld => ?_)
    clear hK K
    refine norm_ (a' := ?_) ?_ ?_
    rotate_left
    ·
     show Act.put _ (some 55) _ = _
     simp only [Act.put, List.setIfInBounds_toArray, List.set_cons_zero, List.set_cons_succ, i64_w, i32_w]
     rfl
    refine one_ (i := 6) (N := none) #[true, true, true, true, true, true, true, false, false, false] rfl rfl (one_of HT_.out (by kernel_rfl)) (by decide) (fun K hK => ?_)
    have hs54 : w53.cell? ⟨gb165, 0, none⟩ = some (.int .i64 0) := (blk_cell BK165.out 0).trans rfl
    have hfs54 := blk_frozen BK165.out 0
    have hns54_1 := NB178_165.out
    have hms54_1 := NB165_178.out
    have hs55 : w53.cell? ⟨gb165, 1, none⟩ = some (.slice none 0 0) := (blk_cell BK165.out 1).trans rfl
    have hfs55 := blk_frozen BK165.out 1
    have hns55_1 := NB178_165.out
    have hms55_1 := NB165_178.out
    have hs56 : w53.cell? ⟨gb165, 2, none⟩ = some (.int .i64 0) := (blk_cell BK165.out 2).trans rfl
    have hfs56 := blk_frozen BK165.out 2
    have hns56_1 := NB178_165.out
    have hms56_1 := NB165_178.out
    have hs57 : w53.cell? ⟨gb165, 3, none⟩ = some (.slice none 0 0) := (blk_cell BK165.out 3).trans rfl
    have hfs57 := blk_frozen BK165.out 3
    have hns57_1 := NB178_165.out
    have hms57_1 := NB165_178.out
    refine skip_ (w1 := ?_) (by rfl) rfl ?_ ?_
    rotate_left
    ·
     go_simp
     rfl
    refine hK.out _ _ ⟨((cell_far (p := ⟨gb165, _, none⟩) NB178_165.out _).trans (((cell_far (p := ⟨gb165, _, none⟩) NB178_165.out _).trans (((cell_far (p := ⟨gb165, _, none⟩) NB178_165.out _).trans (((cell_far (p := ⟨gb165, _, none⟩) NB178_165.out _).trans (hHeld.1)))))))), ((cell_far (p := ⟨gb165, _, none⟩) NB178_165.out _).trans (((cell_far (p := ⟨gb165, _, none⟩) NB178_165.out _).trans (((cell_far (p := ⟨gb165, _, none⟩) NB178_165.out _).trans (((cell_far (p := ⟨gb165, _, none⟩) NB178_165.out _).trans (hHeld.2.1)))))))), ((cell_far (p := ⟨gb165, _, none⟩) NB178_165.out _).trans (((cell_far (p := ⟨gb165, _, none⟩) NB178_165.out _).trans (((cell_far (p := ⟨gb165, _, none⟩) NB178_165.out _).trans (((cell_far (p := ⟨gb165, _, none⟩) NB178_165.out _).trans (hHeld.2.2.1)))))))), ((cell_far (p := ⟨gb165, _, none⟩) NB178_165.out _).trans (((cell_far (p := ⟨gb165, _, none⟩) NB178_165.out _).trans (((cell_far (p := ⟨gb165, _, none⟩) NB178_165.out _).trans (((cell_far (p := ⟨gb165, _, none⟩) NB178_165.out _).trans (hHeld.2.2.2))))))))⟩ (fun hHeld => ?_)
    clear hK K
    refine pA 7 3 [8, 2] ?_
    refine pA 8 4 [9, 1] ?_
    refine pA 9 5 [10] ?_
    refine done_ (done_of HT_.out (by kernel_rfl)) ?_
    try go_wp2
    refine bodyPost_ret (results_list (rs := [.cell 2 59, .tmp 3, .tmp 4, .tmp 5]) rfl (by simp) (.cell gb165 59 #[.int .i64 t169, .slice Ao16 t170.length co16, .int .i64 t173, .slice Ao17 t174.length co17] (0, 0) _ rfl (mP BK165) Try.underlying59 rfl (by kernel_rfl) (.tmp (.tmp (.tmp .nil))))) rfl ?_
    exact ⟨_, _, _, by first | rfl | (simp [errW_none, errW_some] <;> rfl) | (simp [*, errW_none, errW_some] <;> rfl), by (with_reducible repeat (first | apply Kd.R_alloc | apply Kd.R_drewN | apply Kd.R_drew)); exact Kd.R_mono (RF (RF (RF (RF (Kd.R_types HO_179001.out BK165.out (by decide)))))) (fun _ hk => ⟨hk.1.2, hk.1.1⟩), by (with_reducible repeat (first | apply Kd.R_alloc | apply Kd.R_drewN | apply Kd.R_drew)); exact Kd.R_mono (RF (RF (RF (RF (Kd.R_types HO_179003.out BK165.out (by decide)))))) (fun _ hk => ⟨hk.1.2, hk.1.1⟩), by (with_reducible repeat (first | apply Kd.R_alloc | apply Kd.R_drewN | apply Kd.R_drew)); exact Kd.R_mono (RF (RF (RF (RF (Kd.R_types HO_10.out BK165.out (by decide)))))) (fun _ hk => ⟨hk.1.1, hk.1.2⟩), by repeat (first | (with_reducible first | exact HB.out | apply below_alloc | apply pw_below_drewN | apply below_drew1 | refine below_set ?_ (IsS136.ge HI168.out) | refine below_set ?_ GE165.out | refine below_set ?_ GE178.out) | exact HB.out)⟩

end Go.Proofs.Ytgfoifkkffffgab.PFnWires
