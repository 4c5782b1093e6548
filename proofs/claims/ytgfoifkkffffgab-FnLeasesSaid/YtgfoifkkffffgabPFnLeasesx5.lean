-- Laid by a turned copy of the printer (wip/tools/patch_print.py)
import Derived.Test.YtgfoifkkffffgabPFnLeasesx0
import Derived.Test.YtgfoifkkffffgabPFnLeasesx2
import Derived.Test.YtgfoifkkffffgabPFnLeasesx3
import Derived.Test.YtgfoifkkffffgabPFnLeasesx4
namespace Go.Proofs.Ytgfoifkkffffgab.PFnLeases
open Go.RowKit Go.Proofs.YtgfoifkkffffgabW.PrintWords Go.Proofs.YtgfoifkkffffgabW.PrintLast Go.Proofs.YtgfoifkkffffgabW.PrintMore
attribute [local go_sem] max2_int min2_int max_two min_two max_three min_three max_four min_four   -- for this text's walks alone
set_option linter.unusedVariables false
set_option linter.unusedSimpArgs false

/-! ### spec_l13With: function 106 -/
def spec_l13With.f (l0 : List Int) : Option (Int × Int × Int × Int × Int) := (spec_l1Source.f l0).bind fun bt176 => ((spec_l13Lease.f bt176.1 bt176.2).bind fun bt179 => ((spec_l1Next.f bt176.1 bt179.2.2.2.2 9).bind fun bt185 => ((spec_l1Next.f bt176.1 bt185.2 9).bind fun bt187 => ((spec_l1Pick.f bt176.1 bt187.2 (([wrap64 (bt179.2.2.1 + bt185.1), wrap64 ((wrap64 (bt179.2.2.2.1 + 10)) + bt187.1), wrap64 (bt179.2.2.2.1 + 14), wrap64 (bt179.2.2.1 + 6), wrap64 (bt179.2.2.1 + 5), (-1)] : List Int))).bind fun bt192 => (some (bt179.1, bt179.2.1, bt179.2.2.1, bt179.2.2.2.1, bt192.1))))))
def spec_l13With.T3 : Bool × List (List Nat × List Nat) := (true, [([], []), ([], []), ([], []), ([2], [2]), ([], []), ([4], [4]), ([3, 5], [3, 5]), ([], []), ([7], [7]), ([8], [8]), ([], []), ([10, 5], [10]), ([9, 11], [9, 11]), ([], []), ([13], [13]), ([14], [14]), ([], []), ([16], [16]), ([17], [17]), ([], []), ([19], [19]), ([20], [20]), ([6, 12, 15, 18, 21], [6, 12, 15, 18, 21]), ([1, 22, 11], [1, 22]), ([0, 23, 0], [0]), ([23, 24, 0, 1, 2, 3, 4, 5, 6, 7, 8, 9, 10, 11, 12, 13, 14, 15, 16, 17, 18, 19, 20, 21, 22, 23, 24], [23])])
def spec_l13With.B3 : List Nat := [0, 0, 0, 4, 0, 16, 60, 0, 128, 384, 0, 1072, 4016, 0, 8192, 24576, 0, 65536, 196608, 0, 524288, 1572864, 4194300, 8388606, 16777215, 33554431]
theorem spec_l13With.tab3 : rtab .any (opsOf Try.f106 3) = spec_l13With.T3 := by kernel_rfl
theorem spec_l13With.bits3 : waitsOk spec_l13With.T3.2 spec_l13With.B3 = true := by kernel_rfl
set_option maxHeartbeats 8000000 in
set_option maxRecDepth 100000 in
theorem spec_l13With.calls (A0 : Option Addr) (c0 : Nat) (l0 : List Int) (r1 : Int) (r2 : Int) (r3 : Int) (r4 : Int) (r5 : Int) (w : World) (hr0 : Kd.C (Kd.int .u8) w A0 l0.length l0) (hc0 : l0.length ≤ c0) (h : spec_l13With.f l0 = some (r1, r2, r3, r4, r5)) :
  Calls Try.prog 106 #[.slice A0 l0.length c0] w fun e w' => e = .returned (.tuple #[.agg #[.int .i64 r1, .int .i64 r2, .int .i64 r3, .int .i64 r4], .int .i64 r5]) ∧ Below w.heap.size w w' := by
 have hu73 := Try.underlying73
 have HR0 := Aside0.mk hr0
 have HC0 := Aside0.mk hc0
 clear hr0 hc0
 have HB := am (Below.refl w.heap.size w)
 have H : ((spec_l1Source.f l0).bind fun bt176 => ((spec_l13Lease.f bt176.1 bt176.2).bind fun bt179 => ((spec_l1Next.f bt176.1 bt179.2.2.2.2 9).bind fun bt185 => ((spec_l1Next.f bt176.1 bt185.2 9).bind fun bt187 => ((spec_l1Pick.f bt176.1 bt187.2 (([wrap64 (bt179.2.2.1 + bt185.1), wrap64 ((wrap64 (bt179.2.2.2.1 + 10)) + bt187.1), wrap64 (bt179.2.2.2.1 + 14), wrap64 (bt179.2.2.1 + 6), wrap64 (bt179.2.2.1 + 5), (-1)] : List Int))).bind fun bt192 => (some (bt179.1, bt179.2.1, bt179.2.2.1, bt179.2.2.2.1, bt192.1))))))) = some (r1, r2, r3, r4, r5) := h
 clear h
 replace H := Option.bind_eq_some_iff.mp H
 obtain ⟨⟨t176, t177⟩, A20, H⟩ := H
 replace H : ((spec_l13Lease.f t176 t177).bind fun bt179 => ((spec_l1Next.f t176 bt179.2.2.2.2 9).bind fun bt185 => ((spec_l1Next.f t176 bt185.2 9).bind fun bt187 => ((spec_l1Pick.f t176 bt187.2 (([wrap64 (bt179.2.2.1 + bt185.1), wrap64 ((wrap64 (bt179.2.2.2.1 + 10)) + bt187.1), wrap64 (bt179.2.2.2.1 + 14), wrap64 (bt179.2.2.1 + 6), wrap64 (bt179.2.2.1 + 5), (-1)] : List Int))).bind fun bt192 => (some (bt179.1, bt179.2.1, bt179.2.2.1, bt179.2.2.2.1, bt192.1)))))) = some (r1, r2, r3, r4, r5) := H
 have A2 := Aside0.mk A20
 clear A20
 replace H := Option.bind_eq_some_iff.mp H
 obtain ⟨⟨t179, t180, t181, t182, t183⟩, A30, H⟩ := H
 replace H : ((spec_l1Next.f t176 t183 9).bind fun bt185 => ((spec_l1Next.f t176 bt185.2 9).bind fun bt187 => ((spec_l1Pick.f t176 bt187.2 (([wrap64 (t181 + bt185.1), wrap64 ((wrap64 (t182 + 10)) + bt187.1), wrap64 (t182 + 14), wrap64 (t181 + 6), wrap64 (t181 + 5), (-1)] : List Int))).bind fun bt192 => (some (t179, t180, t181, t182, bt192.1))))) = some (r1, r2, r3, r4, r5) := H
 have A3 := Aside0.mk A30
 clear A30
 replace H := Option.bind_eq_some_iff.mp H
 obtain ⟨⟨t185, t186⟩, A40, H⟩ := H
 replace H : ((spec_l1Next.f t176 t186 9).bind fun bt187 => ((spec_l1Pick.f t176 bt187.2 (([wrap64 (t181 + t185), wrap64 ((wrap64 (t182 + 10)) + bt187.1), wrap64 (t182 + 14), wrap64 (t181 + 6), wrap64 (t181 + 5), (-1)] : List Int))).bind fun bt192 => (some (t179, t180, t181, t182, bt192.1)))) = some (r1, r2, r3, r4, r5) := H
 have A4 := Aside0.mk A40
 clear A40
 replace H := Option.bind_eq_some_iff.mp H
 obtain ⟨⟨t187, t188⟩, A50, H⟩ := H
 replace H : ((spec_l1Pick.f t176 t188 (([wrap64 (t181 + t185), wrap64 ((wrap64 (t182 + 10)) + t187), wrap64 (t182 + 14), wrap64 (t181 + 6), wrap64 (t181 + 5), (-1)] : List Int))).bind fun bt192 => (some (t179, t180, t181, t182, bt192.1))) = some (r1, r2, r3, r4, r5) := H
 have A5 := Aside0.mk A50
 clear A50
 obtain ⟨y189, hy189⟩ : ∃ y_ : List Int, y_ = (([wrap64 (t181 + t185), wrap64 ((wrap64 (t182 + 10)) + t187), wrap64 (t182 + 14), wrap64 (t181 + 6), wrap64 (t181 + 5), (-1)] : List Int)) := ⟨_, rfl⟩
 replace H : ((spec_l1Pick.f t176 t188 y189).bind fun bt192 => (some (t179, t180, t181, t182, bt192.1))) = some (r1, r2, r3, r4, r5) := by first | (rw [hy189]; with_reducible exact H) | (have H2_ := (Option.bind_some _ _).symm.trans H; rw [hy189]; with_reducible exact H2_) | (have H2_ := (Option.bind_some _ _).symm.trans H; with_reducible exact H2_) | with_reducible exact H | (rw [hy189]; exact H) | exact H
 have Ny189 := Aside0.mk hy189
 clear hy189
 replace H := Option.bind_eq_some_iff.mp H
 obtain ⟨⟨t192, t193⟩, A60, H⟩ := H
 replace H : (some (t179, t180, t181, t182, t192)) = some (r1, r2, r3, r4, r5) := H
 have A6 := Aside0.mk A60
 clear A60
 simp only [Option.some.injEq, Prod.mk.injEq] at H
 obtain ⟨rfl, rfl, rfl, rfl, rfl⟩ := H
 go_enter Try.func106, Try.ntmps106
 try go_wp2_with (first | ((with_reducible refine gate_dst (N := 2) rfl ?_); refine boxE #[.int .i64 0, .int .i64 0, .int .i64 0, .int .i64 0] 73 (N := 2) rfl rfl ?_; intro gb175 hg w7 hbox hb; have BK175 := Aside0.mk hbox; have GW175 := gZ HB hg; have GE175 := gZ HB hg; replace HB := bS HB hb; clear hb hbox hg) | ((with_reducible refine gate_callee (f := 82) rfl ?_); refine goA (some 7) rfl rfl Try.func82 rfl #[.slice A0 l0.length c0] rfl ?_; (with_reducible refine (spec_l1Source.calls _ _ l0 t176 t177 w _ ?side1 ?side2 ?side3 A2.out).mono ?_); (case side1 => exact bel HB); (case side2 => exact HR0.out); (case side3 => exact HC0.out); rintro e w8 ⟨g178, rfl, hi, hb, hb2⟩; refine ⟨_, rfl, ?_⟩; replace HB := Aside0.mk hb; have HI178 := Aside0.mk hi; have NB178_175 := am (IsS136.ne_blk hi (blk_below (g := gb175) (o := .cells #[.int .i64 0, .int .i64 0, .int .i64 0, .int .i64 0] 73 (0, 0)) (mB BK175) hb2) (by decide)); have NB175_178 := am (Ne.symm (IsS136.ne_blk hi (blk_below (g := gb175) (o := .cells #[.int .i64 0, .int .i64 0, .int .i64 0, .int .i64 0] 73 (0, 0)) (mB BK175) hb2) (by decide))); replace BK175 := am (blk_below (g := gb175) (o := .cells #[.int .i64 0, .int .i64 0, .int .i64 0, .int .i64 0] 73 (0, 0)) (mB BK175) hb2); (try clear hb); (try clear hb2); (try clear hk); (try clear hi)) | ((with_reducible refine gate_callee (f := 125) rfl ?_); refine goA (some 9) rfl rfl Try.func125 rfl #[.pointer (some ⟨g178, 0, none⟩)] rfl ?_; (with_reducible refine (spec_l13Lease.calls g178 t176 t177 t179 t180 t181 t182 t183 w _ ?side1 ?side2 A3.out).mono ?_); (case side1 => repeat (first | (with_reducible first | exact HI178.out | apply IsS136.alloc | apply IsS136.drewN | apply IsS136.drew | apply IsS136.set_1 | refine IsS136.far ?_ NB178_175.out _) | exact HI178.out)); (case side2 => repeat (first | (with_reducible first | exact HB.out | apply below_alloc | apply pw_below_drewN | apply below_drew1 | refine below_set ?_ (IsS136.ge HI178.out) | refine below_set ?_ GE175.out) | exact HB.out)); rintro e w9 ⟨rfl, hi, hb, hk⟩; refine ⟨_, rfl, ?_⟩; replace BK175 := am (KeepBut.blk hk (g' := gb175) (o := .cells #[.int .i64 0, .int .i64 0, .int .i64 0, .int .i64 0] 73 (0, 0)) (mB BK175) NB175_178.out (by simp)); replace HB := Aside0.mk hb; replace HI178 := Aside0.mk hi; (try clear hb); (try clear hb2); (try clear hk); (try clear hi)) | ((with_reducible refine gate_dst (N := 5) rfl ?_); refine boxE #[.int .i64 0, .int .i64 0, .int .i64 0, .int .i64 0] 73 (N := 5) rfl rfl ?_; intro gb184 hg w10 hbox hb; have BK184 := Aside0.mk hbox; have GW184 := am ((by rw [hg]; exact (below_size (by repeat (first | (with_reducible first | exact HB.out | apply below_alloc | apply pw_below_drewN | apply below_drew1 | refine below_set ?_ (IsS136.ge HI178.out) | refine below_set ?_ GE175.out) | exact HB.out))) : w.heap.size ≤ gb184)); have GE184 := am ((by rw [hg]; exact (below_size (by repeat (first | (with_reducible first | exact HB.out | apply below_alloc | apply pw_below_drewN | apply below_drew1 | refine below_set ?_ (IsS136.ge HI178.out) | refine below_set ?_ GE175.out) | exact HB.out))) : w.heap.size ≤ gb184)); replace HB := am (below_step (by repeat (first | (with_reducible first | exact HB.out | apply below_alloc | apply pw_below_drewN | apply below_drew1 | refine below_set ?_ (IsS136.ge HI178.out) | refine below_set ?_ GE175.out) | exact HB.out)) hb); have NB175_184 := nL BK175 hg; have NB184_175 := nG BK175 hg; replace BK175 := bK BK175 hb; have NB178_184 := am ((by rw [hg]; exact Nat.ne_of_lt (IsS136.lt (show IsS136 w _ g178 t176 t183 from by repeat (first | (with_reducible first | exact HI178.out | apply IsS136.alloc | apply IsS136.drewN | apply IsS136.drew | apply IsS136.set_1 | refine IsS136.far ?_ NB178_175.out _) | exact HI178.out))) : g178 ≠ gb184)); have NB184_178 := am ((by rw [hg]; exact Nat.ne_of_gt (IsS136.lt (show IsS136 w _ g178 t176 t183 from by repeat (first | (with_reducible first | exact HI178.out | apply IsS136.alloc | apply IsS136.drewN | apply IsS136.drew | apply IsS136.set_1 | refine IsS136.far ?_ NB178_175.out _) | exact HI178.out))) : gb184 ≠ g178)); replace HI178 := am (IsS136.below (by repeat (first | (with_reducible first | exact HI178.out | apply IsS136.alloc | apply IsS136.drewN | apply IsS136.drew | apply IsS136.set_1 | refine IsS136.far ?_ NB178_175.out _) | exact HI178.out)) hb); clear hb hbox hg; have hnb11 := NB184_175.out; have hnc11 := NB175_184.out; have hnb12 := NB184_178.out; have hnc12 := NB178_184.out; have hz13 := cl4 BK184))
 have n0_ : Aside0 (((((w10.setCell ⟨gb184, 0, none⟩ (.int .i64 t179)).setCell ⟨gb184, 1, none⟩ (.int .i64 t180)).setCell ⟨gb184, 2, none⟩ (.int .i64 t181)).setCell ⟨gb184, 3, none⟩ (.int .i64 t182)).heap[gb175]? = some (.cells #[.int .i64 0, .int .i64 0, .int .i64 0, .int .i64 0] 73 (0, 0))) := ⟨by (with_reducible repeat (first | refine blk_drewN ?_ _ | refine blk_drew ?_ | refine blk_alloc ?_ _)); refine blk_far ?_ NB175_184.out _; (with_reducible repeat (first | refine blk_drewN ?_ _ | refine blk_drew ?_ | refine blk_alloc ?_ _)); refine blk_far ?_ NB175_184.out _; (with_reducible repeat (first | refine blk_drewN ?_ _ | refine blk_drew ?_ | refine blk_alloc ?_ _)); refine blk_far ?_ NB175_184.out _; (with_reducible repeat (first | refine blk_drewN ?_ _ | refine blk_drew ?_ | refine blk_alloc ?_ _)); refine blk_far ?_ NB175_184.out _; (with_reducible repeat (first | refine blk_drewN ?_ _ | refine blk_drew ?_ | refine blk_alloc ?_ _)); exact BK175.out⟩
 have n1_ : Aside0 (((((w10.setCell ⟨gb184, 0, none⟩ (.int .i64 t179)).setCell ⟨gb184, 1, none⟩ (.int .i64 t180)).setCell ⟨gb184, 2, none⟩ (.int .i64 t181)).setCell ⟨gb184, 3, none⟩ (.int .i64 t182)).heap[gb184]? = some (.cells #[.int .i64 t179, .int .i64 t180, .int .i64 t181, .int .i64 t182] 73 (0, 0))) := ⟨by (with_reducible repeat (first | refine blk_drewN ?_ _ | refine blk_drew ?_ | refine blk_alloc ?_ _)); refine blk_put (cs := #[.int .i64 t179, .int .i64 t180, .int .i64 t181, .int .i64 0]) ?_ 3 _ rfl; (with_reducible repeat (first | refine blk_drewN ?_ _ | refine blk_drew ?_ | refine blk_alloc ?_ _)); refine blk_put (cs := #[.int .i64 t179, .int .i64 t180, .int .i64 0, .int .i64 0]) ?_ 2 _ rfl; (with_reducible repeat (first | refine blk_drewN ?_ _ | refine blk_drew ?_ | refine blk_alloc ?_ _)); refine blk_put (cs := #[.int .i64 t179, .int .i64 0, .int .i64 0, .int .i64 0]) ?_ 1 _ rfl; (with_reducible repeat (first | refine blk_drewN ?_ _ | refine blk_drew ?_ | refine blk_alloc ?_ _)); refine blk_put (cs := #[.int .i64 0, .int .i64 0, .int .i64 0, .int .i64 0]) ?_ 0 _ rfl; (with_reducible repeat (first | refine blk_drewN ?_ _ | refine blk_drew ?_ | refine blk_alloc ?_ _)); exact BK184.out⟩
 have n2_ : Aside0 (IsS136 w ((((w10.setCell ⟨gb184, 0, none⟩ (.int .i64 t179)).setCell ⟨gb184, 1, none⟩ (.int .i64 t180)).setCell ⟨gb184, 2, none⟩ (.int .i64 t181)).setCell ⟨gb184, 3, none⟩ (.int .i64 t182)) g178 t176 t183) := ⟨by repeat (first | (with_reducible first | exact HI178.out | apply IsS136.alloc | apply IsS136.drewN | apply IsS136.drew | apply IsS136.set_1 | refine IsS136.far ?_ NB178_175.out _ | refine IsS136.far ?_ NB178_184.out _) | exact HI178.out)⟩
 have n3_ : Aside0 (Below w.heap.size w ((((w10.setCell ⟨gb184, 0, none⟩ (.int .i64 t179)).setCell ⟨gb184, 1, none⟩ (.int .i64 t180)).setCell ⟨gb184, 2, none⟩ (.int .i64 t181)).setCell ⟨gb184, 3, none⟩ (.int .i64 t182))) := ⟨by repeat (first | (with_reducible first | exact HB.out | apply below_alloc | apply pw_below_drewN | apply below_drew1 | refine below_set ?_ (IsS136.ge HI178.out) | refine below_set ?_ GE175.out | refine below_set ?_ GE184.out) | exact HB.out)⟩
 (try clear BK175)
 (try clear BK184)
 (try clear HI178)
 (try clear HB)
 generalize ((((w10.setCell ⟨gb184, 0, none⟩ (.int .i64 t179)).setCell ⟨gb184, 1, none⟩ (.int .i64 t180)).setCell ⟨gb184, 2, none⟩ (.int .i64 t181)).setCell ⟨gb184, 3, none⟩ (.int .i64 t182)) = w14 at n0_ n1_ n2_ n3_ ⊢
 have BK175 := n0_
 have BK184 := n1_
 have HI178 := n2_
 have HB := n3_
 clear n0_ n1_ n2_ n3_
 replace BK175 := am (blk_drew BK175.out)
 replace BK184 := am (blk_drew BK184.out)
 replace HI178 := am (IsS136.drew HI178.out)
 replace HB := am (below_drew1 HB.out)
 refine start_ (n := 26) (S := fun w' => w'.cell? ⟨gb184, 0, none⟩ = some (.int .i64 t179) ∧ w'.cell? ⟨gb184, 1, none⟩ = some (.int .i64 t180) ∧ w'.cell? ⟨gb184, 2, none⟩ = some (.int .i64 t181) ∧ w'.cell? ⟨gb184, 3, none⟩ = some (.int .i64 t182)) (ds := []) #[false, false, false, false, false, false, false, false, false, false, false, false, false, false, false, false, false, false, false, false, false, false, false, false, false, false] (by kernel_rfl) rfl rfl ⟨(blk_cell BK184.out 0).trans rfl, (blk_cell BK184.out 1).trans rfl, (blk_cell BK184.out 2).trans rfl, (blk_cell BK184.out 3).trans rfl⟩ (fun hHeld => ?_); refine with_tabW spec_l13With.tab3 spec_l13With.bits3 (fun HT_ HW_ => ?_)
 generalize w14.drew = w15 at BK175 BK184 HI178 HB hHeld ⊢
 refine pA 1 11 [0, 1, 1, 24] ?_
 refine pA 2 12 [0, 1, 2, 23] ?_
 refine pA 4 14 [0, 1, 2, 1, 1, 21] ?_
 refine pA 7 17 [0, 1, 2, 1, 1, 2, 1, 18] ?_
 refine pA 10 20 [0, 1, 2, 1, 1, 2, 1, 2, 1, 15] ?_
 refine pA 13 23 [0, 1, 2, 1, 1, 2, 1, 2, 1, 2, 1, 12] ?_
 refine pA 16 26 [0, 1, 2, 1, 1, 2, 1, 2, 1, 2, 1, 2, 1, 9] ?_
 refine pA 19 29 [0, 1, 2, 1, 1, 2, 1, 2, 1, 2, 1, 2, 1, 2, 1, 6] ?_
 refine tA 0 10 [3, 1, 1, 2, 1, 2, 1, 2, 1, 2, 1, 2, 1, 6] (hv := by rintro w' ⟨s0, s1, s2, s3⟩; go_simp; with_reducible rfl) (h := ?_)
 refine tA 3 13 [5, 2, 1, 2, 1, 2, 1, 2, 1, 2, 1, 6] (hv := by rintro w' ⟨s0, s1, s2, s3⟩; go_simp; with_reducible rfl) (h := ?_)
 refine tA 8 18 [5, 2, 2, 1, 1, 2, 1, 2, 1, 2, 1, 6] (hv := by rintro w' ⟨s0, s1, s2, s3⟩; go_simp; with_reducible rfl) (h := ?_)
 refine pA 9 19 [5, 2, 4, 2, 1, 2, 1, 2, 1, 6] ?_
 refine tA 14 24 [5, 2, 4, 2, 2, 1, 1, 2, 1, 6] (hv := by rintro w' ⟨s0, s1, s2, s3⟩; go_simp; with_reducible rfl) (h := ?_)
 refine pA 15 25 [5, 2, 4, 2, 4, 2, 1, 6] ?_
 refine tA 17 27 [5, 2, 4, 2, 5, 1, 1, 6] (hv := by rintro w' ⟨s0, s1, s2, s3⟩; go_simp; with_reducible rfl) (h := ?_)
 refine pA 18 28 [5, 2, 4, 2, 7, 6] ?_
 refine tA 20 30 [5, 2, 4, 2, 8, 5] (hv := by rintro w' ⟨s0, s1, s2, s3⟩; go_simp; with_reducible rfl) (h := ?_)
 refine pA 21 31 [5, 2, 4, 2, 9, 4] ?_
 refine one_ (i := 5) (N := some 15) (tr [6, 1, 4, 2, 9, 4]) rfl rfl (one_of HT_.out (by kernel_rfl)) (by decide) (fun K hK => ?_)
 refine goes_ Try.func85 (by kernel_rfl) rfl #[.pointer (some ⟨g178, 0, none⟩), .int .i64 9] (by rfl) rfl rfl (by (try simp only [List.map_toArray, List.map_cons, List.map_nil]); first | done | rfl | (simp only [List.length_drop, List.length_take]; rfl)) ?_
 with_reducible refine (spec_l1Next.calls g178 t176 t183 9 t185 t186 w _ ?side1 ?side2 A4.out).mono ?_
 (case side1 => repeat (first | (with_reducible first | exact HI178.out | apply IsS136.alloc | apply IsS136.drewN | apply IsS136.drew | apply IsS136.set_1 | refine IsS136.far ?_ NB178_175.out _ | refine IsS136.far ?_ NB178_184.out _) | exact HI178.out))
 (case side2 => repeat (first | (with_reducible first | exact HB.out | apply below_alloc | apply pw_below_drewN | apply below_drew1 | refine below_set ?_ (IsS136.ge HI178.out) | refine below_set ?_ GE175.out | refine below_set ?_ GE184.out) | exact HB.out))
 rintro e w16 ⟨rfl, hi, hb, hk⟩
 refine ⟨_, rfl, ?_⟩
 replace BK175 := am (KeepBut.blk hk (g' := gb175) (o := .cells #[.int .i64 0, .int .i64 0, .int .i64 0, .int .i64 0] 73 (0, 0)) (mB BK175) NB175_178.out (by simp))
 replace BK184 := am (KeepBut.blk hk (g' := gb184) (o := .cells #[.int .i64 t179, .int .i64 t180, .int .i64 t181, .int .i64 t182] 73 (0, 0)) (mB BK184) NB184_178.out (by simp))
 replace HB := am (hb)
 replace HI178 := am (hi)
 (try clear hb)
 (try clear hb2)
 (try clear hk)
 (try clear hi)
 refine hK.out _ _ (ce4 BK184) (fun hHeld => ?_)
 clear hK K
 refine norm_ (a' := ?_) ?_ ?_
 rotate_left
 ·
  show Act.put _ (some 15) _ = _
  simp only [Act.put, List.setIfInBounds_toArray, List.set_cons_zero, List.set_cons_succ, i64_w, i32_w]
  rfl
 refine pA 6 16 [11, 2, 9, 4] ?_
 refine one_ (i := 11) (N := some 21) (tr [12, 1, 9, 4]) rfl rfl (one_of HT_.out (by kernel_rfl)) (by decide) (fun K hK => ?_)
 refine goes_ Try.func85 (by kernel_rfl) rfl #[.pointer (some ⟨g178, 0, none⟩), .int .i64 9] (by rfl) rfl rfl (by (try simp only [List.map_toArray, List.map_cons, List.map_nil]); first | done | rfl | (simp only [List.length_drop, List.length_take]; rfl)) ?_
 with_reducible refine (spec_l1Next.calls g178 t176 t186 9 t187 t188 w _ ?side1 ?side2 A5.out).mono ?_
 (case side1 => repeat (first | (with_reducible first | exact HI178.out | apply IsS136.alloc | apply IsS136.drewN | apply IsS136.drew | apply IsS136.set_1 | refine IsS136.far ?_ NB178_175.out _ | refine IsS136.far ?_ NB178_184.out _) | exact HI178.out))
 (case side2 => repeat (first | (with_reducible first | exact HB.out | apply below_alloc | apply pw_below_drewN | apply below_drew1 | refine below_set ?_ (IsS136.ge HI178.out) | refine below_set ?_ GE175.out | refine below_set ?_ GE184.out) | exact HB.out))
 rintro e w17 ⟨rfl, hi, hb, hk⟩
 refine ⟨_, rfl, ?_⟩
 replace BK175 := am (KeepBut.blk hk (g' := gb175) (o := .cells #[.int .i64 0, .int .i64 0, .int .i64 0, .int .i64 0] 73 (0, 0)) (mB BK175) NB175_178.out (by simp))
 replace BK184 := am (KeepBut.blk hk (g' := gb184) (o := .cells #[.int .i64 t179, .int .i64 t180, .int .i64 t181, .int .i64 t182] 73 (0, 0)) (mB BK184) NB184_178.out (by simp))
 replace HB := am (hb)
 replace HI178 := am (hi)
 (try clear hb)
 (try clear hb2)
 (try clear hk)
 (try clear hi)
 refine hK.out _ _ (ce4 BK184) (fun hHeld => ?_)
 clear hK K
 refine norm_ (a' := ?_) ?_ ?_
 rotate_left
 ·
  show Act.put _ (some 21) _ = _
  simp only [Act.put, List.setIfInBounds_toArray, List.set_cons_zero, List.set_cons_succ, i64_w, i32_w]
  rfl
 refine pA 12 22 [22, 4] ?_
 refine one_ (i := 22) (N := some 32) (tr [23, 3]) rfl rfl (one_of HT_.out (by kernel_rfl)) (by decide) (fun K hK => ?_)
 refine Kd.R_lit_step (Kd.int .i64) _ 2 ?hg (N := 32) ?hd (xs := ([wrap64 (t181 + t185), wrap64 ((wrap64 (t182 + 10)) + t187), wrap64 (t182 + 14), wrap64 (t181 + 6), wrap64 (t181 + 5), (-1)] : List Int)) (inner := [.int .i64 (wrap64 (t181 + t185)), .int .i64 (wrap64 ((wrap64 (t182 + 10)) + t187)), .int .i64 (wrap64 (t182 + 14)), .int .i64 (wrap64 (t181 + 6)), .int .i64 (wrap64 (t181 + 5)), .int .i64 (-1)]) (ok := fun _ => True) (okp := fun _ => True) ?hr ?hp (fun _ hk => hk) trivial (Below.refl _ _) (Nat.le_refl _) (by simp) ?_; (case hd => rfl); (case hg => rfl); (case hr => first | (go_simp; done) | (go_simp; rfl)); (case hp => exact (Reps.one (show Kd.M (Kd.int .i64) _ _ _ (wrap64 (t181 + t185)) [.int .i64 (wrap64 (t181 + t185))] from rfl) (Reps.one (show Kd.M (Kd.int .i64) _ _ _ (wrap64 ((wrap64 (t182 + 10)) + t187)) [.int .i64 (wrap64 ((wrap64 (t182 + 10)) + t187))] from rfl) (Reps.one (show Kd.M (Kd.int .i64) _ _ _ (wrap64 (t182 + 14)) [.int .i64 (wrap64 (t182 + 14))] from rfl) (Reps.one (show Kd.M (Kd.int .i64) _ _ _ (wrap64 (t181 + 6)) [.int .i64 (wrap64 (t181 + 6))] from rfl) (Reps.one (show Kd.M (Kd.int .i64) _ _ _ (wrap64 (t181 + 5)) [.int .i64 (wrap64 (t181 + 5))] from rfl) (Reps.one (show Kd.M (Kd.int .i64) _ _ _ (-1) [.int .i64 (-1)] from rfl) (Reps.none _ _))))))))
 intro v190 w18 ho19 hb hg_ hnew_
 clear hg_ hnew_
 (first | rw [← Ny189.out] at ho19 | (simp only [Int.reduceToNat] at ho19; rw [← Ny189.out] at ho19))
 have HO191 := am (Kd.R_lower ho19 (below_size (by repeat (first | (with_reducible first | exact HB.out | apply below_alloc | apply pw_below_drewN | apply below_drew1 | refine below_set ?_ (IsS136.ge HI178.out) | refine below_set ?_ GE175.out | refine below_set ?_ GE184.out) | exact HB.out))))
 replace BK175 := bK BK175 hb
 replace BK184 := bK BK184 hb
 replace HB := am (below_step (by repeat (first | (with_reducible first | exact HB.out | apply below_alloc | apply pw_below_drewN | apply below_drew1 | refine below_set ?_ (IsS136.ge HI178.out) | refine below_set ?_ GE175.out | refine below_set ?_ GE184.out) | exact HB.out)) hb)
 replace HI178 := am (IsS136.below (by repeat (first | (with_reducible first | exact HI178.out | apply IsS136.alloc | apply IsS136.drewN | apply IsS136.drew | apply IsS136.set_1 | refine IsS136.far ?_ NB178_175.out _ | refine IsS136.far ?_ NB178_184.out _) | exact HI178.out)) hb)
 clear hb ho19
 obtain ⟨Ao20, co20, eo20⟩ := Kd.R_slice HO191.out
 (first | subst eo20 | (injection eo20 with f1_ f2_ f3_; have f4_ := f1_.symm; have f5_ := f3_.symm; clear f1_ f2_ f3_; subst f4_; subst f5_))
 refine hK.out _ _ (ce4 BK184) (fun hHeld => ?_)
 clear hK K
 refine norm_ (a' := ?_) ?_ ?_
 rotate_left
 ·
  show Act.put _ (some 32) _ = _
  simp only [Act.put, List.setIfInBounds_toArray, List.set_cons_zero, List.set_cons_succ, i64_w, i32_w]
  rfl
 refine one_ (i := 23) (N := some 33) (tr [24, 2]) rfl rfl (one_of HT_.out (by kernel_rfl)) (by decide) (fun K hK => ?_)
 refine goes_ Try.func84 (by kernel_rfl) rfl #[.pointer (some ⟨g178, 0, none⟩), .slice Ao20 y189.length co20] (by rfl) rfl rfl (by (try simp only [List.map_toArray, List.map_cons, List.map_nil]); first | done | rfl | (simp only [List.length_drop, List.length_take]; rfl)) ?_
 with_reducible refine (spec_l1Pick.calls g178 t176 t188 _ _ y189 t192 t193 w _ ?side1 ?side2 ?side3 ?side4 ?side5 A6.out).mono ?_
 (case side1 => repeat (first | (with_reducible first | exact HI178.out | apply IsS136.alloc | apply IsS136.drewN | apply IsS136.drew | apply IsS136.set_1 | refine IsS136.far ?_ NB178_175.out _ | refine IsS136.far ?_ NB178_184.out _) | exact HI178.out))
 (case side2 => repeat (first | (with_reducible first | exact HB.out | apply below_alloc | apply pw_below_drewN | apply below_drew1 | refine below_set ?_ (IsS136.ge HI178.out) | refine below_set ?_ GE175.out | refine below_set ?_ GE184.out) | exact HB.out))
 (case side3 => repeat (first | exact (Kd.R_reads' HO191.out).2.2 | (with_reducible refine Kd.C_alloc ?_ _) | (with_reducible refine Kd.C_drewN ?_ _) | (with_reducible refine Kd.C_drew ?_)))
 (case side4 => exact (Kd.R_reads' HO191.out).2.1)
 (case side5 => exact far_slice (IsS136.own_ne HI178.out HO191.out (by decide)))
 rintro e w21 ⟨rfl, hi, hb, hk⟩
 refine ⟨_, rfl, ?_⟩
 replace BK175 := am (KeepBut.blk hk (g' := gb175) (o := .cells #[.int .i64 0, .int .i64 0, .int .i64 0, .int .i64 0] 73 (0, 0)) (mB BK175) NB175_178.out (by simp))
 replace BK184 := am (KeepBut.blk hk (g' := gb184) (o := .cells #[.int .i64 t179, .int .i64 t180, .int .i64 t181, .int .i64 t182] 73 (0, 0)) (mB BK184) NB184_178.out (by simp))
 replace HO191 := am (Kd.R_mono (Kd.R_keep (IsS136.apart (show IsS136 w _ g178 t176 t188 from by repeat (first | (with_reducible first | exact HI178.out | apply IsS136.alloc | apply IsS136.drewN | apply IsS136.drew | apply IsS136.set_1 | refine IsS136.far ?_ NB178_175.out _ | refine IsS136.far ?_ NB178_184.out _) | exact HI178.out)) (mR HO191) (by decide)) hk (fun _ h => h.2)) (fun _ h => h.1))
 replace HB := am (hb)
 replace HI178 := am (hi)
 (try clear hb)
 (try clear hb2)
 (try clear hk)
 (try clear hi)
 refine hK.out _ _ (ce4 BK184) (fun hHeld => ?_)
 clear hK K
 refine norm_ (a' := ?_) ?_ ?_
 rotate_left
 ·
  show Act.put _ (some 33) _ = _
  simp only [Act.put, List.setIfInBounds_toArray, List.set_cons_zero, List.set_cons_succ, i64_w, i32_w]
  rfl
 refine one_ (i := 24) (N := none) (tr [25, 1]) rfl rfl (one_of HT_.out (by kernel_rfl)) (by decide) (fun K hK => ?_)
 have hs22 : w21.cell? ⟨gb175, 0, none⟩ = some (.int .i64 0) := (blk_cell BK175.out 0).trans rfl
 have hfs22 := blk_frozen BK175.out 0
 have hns22_1 := NB184_175.out
 have hms22_1 := NB175_184.out
 have hs23 : w21.cell? ⟨gb175, 1, none⟩ = some (.int .i64 0) := (blk_cell BK175.out 1).trans rfl
 have hfs23 := blk_frozen BK175.out 1
 have hns23_1 := NB184_175.out
 have hms23_1 := NB175_184.out
 have hs24 : w21.cell? ⟨gb175, 2, none⟩ = some (.int .i64 0) := (blk_cell BK175.out 2).trans rfl
 have hfs24 := blk_frozen BK175.out 2
 have hns24_1 := NB184_175.out
 have hms24_1 := NB175_184.out
 have hs25 : w21.cell? ⟨gb175, 3, none⟩ = some (.int .i64 0) := (blk_cell BK175.out 3).trans rfl
 have hfs25 := blk_frozen BK175.out 3
 have hns25_1 := NB184_175.out
 have hms25_1 := NB175_184.out
 refine skip_ (w1 := ?_) (by rfl) rfl ?_ ?_
 rotate_left
 ·
  go_simp
  rfl
 refine hK.out _ _ ⟨((cell_far (p := ⟨gb175, _, none⟩) NB184_175.out _).trans (((cell_far (p := ⟨gb175, _, none⟩) NB184_175.out _).trans (((cell_far (p := ⟨gb175, _, none⟩) NB184_175.out _).trans (((cell_far (p := ⟨gb175, _, none⟩) NB184_175.out _).trans (hHeld.1)))))))), ((cell_far (p := ⟨gb175, _, none⟩) NB184_175.out _).trans (((cell_far (p := ⟨gb175, _, none⟩) NB184_175.out _).trans (((cell_far (p := ⟨gb175, _, none⟩) NB184_175.out _).trans (((cell_far (p := ⟨gb175, _, none⟩) NB184_175.out _).trans (hHeld.2.1)))))))), ((cell_far (p := ⟨gb175, _, none⟩) NB184_175.out _).trans (((cell_far (p := ⟨gb175, _, none⟩) NB184_175.out _).trans (((cell_far (p := ⟨gb175, _, none⟩) NB184_175.out _).trans (((cell_far (p := ⟨gb175, _, none⟩) NB184_175.out _).trans (hHeld.2.2.1)))))))), ((cell_far (p := ⟨gb175, _, none⟩) NB184_175.out _).trans (((cell_far (p := ⟨gb175, _, none⟩) NB184_175.out _).trans (((cell_far (p := ⟨gb175, _, none⟩) NB184_175.out _).trans (((cell_far (p := ⟨gb175, _, none⟩) NB184_175.out _).trans (hHeld.2.2.2))))))))⟩ (fun hHeld => ?_)
 clear hK K
 refine pA 25 3 [26] ?_
 refine done_ (done_of HT_.out (by kernel_rfl)) ?_
 try go_wp2
 refine bodyPost_ret (results_ct rfl _ _ gb175 73 #[.int .i64 t179, .int .i64 t180, .int .i64 t181, .int .i64 t182] (0, 0) _ rfl (mP BK175) Try.underlying73 rfl (by kernel_rfl)) rfl ?_
 exact ⟨by first | rfl | (simp [errW_none, errW_some] <;> rfl) | (simp [*, errW_none, errW_some] <;> rfl), by repeat (first | (with_reducible first | exact HB.out | apply below_alloc | apply pw_below_drewN | apply below_drew1 | refine below_set ?_ (IsS136.ge HI178.out) | refine below_set ?_ GE175.out | refine below_set ?_ GE184.out) | exact HB.out)⟩

/-! ### spec_DrawMayTake: function 48 -/
def spec_DrawMayTake.f (l0 : List Int) : Option (Int × Int × Int × Int × Int) := (spec_l13With.f l0).bind fun bt195 => (some (bt195.1, bt195.2.1, bt195.2.2.1, bt195.2.2.2.1, bt195.2.2.2.2))
set_option maxHeartbeats 8000000 in
set_option maxRecDepth 100000 in
theorem spec_DrawMayTake.calls (A0 : Option Addr) (c0 : Nat) (l0 : List Int) (r1 : Int) (r2 : Int) (r3 : Int) (r4 : Int) (r5 : Int) (w : World) (hr0 : Kd.C (Kd.int .u8) w A0 l0.length l0) (hc0 : l0.length ≤ c0) (h : spec_DrawMayTake.f l0 = some (r1, r2, r3, r4, r5)) :
  Calls Try.prog 48 #[.slice A0 l0.length c0] w fun e w' => e = .returned (.tuple #[.agg #[.int .i64 r1, .int .i64 r2, .int .i64 r3, .int .i64 r4], .int .i64 r5]) ∧ Below w.heap.size w w' := by
 have hu73 := Try.underlying73
 have HR0 := Aside0.mk hr0
 have HC0 := Aside0.mk hc0
 clear hr0 hc0
 have HB := am (Below.refl w.heap.size w)
 have H : ((spec_l13With.f l0).bind fun bt195 => (some (bt195.1, bt195.2.1, bt195.2.2.1, bt195.2.2.2.1, bt195.2.2.2.2))) = some (r1, r2, r3, r4, r5) := h
 clear h
 replace H := Option.bind_eq_some_iff.mp H
 obtain ⟨⟨t195, t196, t197, t198, t199⟩, A20, H⟩ := H
 replace H : (some (t195, t196, t197, t198, t199)) = some (r1, r2, r3, r4, r5) := H
 have A2 := Aside0.mk A20
 clear A20
 simp only [Option.some.injEq, Prod.mk.injEq] at H
 obtain ⟨rfl, rfl, rfl, rfl, rfl⟩ := H
 go_enter Try.func48, Try.ntmps48
 go_wp2_with (first | ((with_reducible refine gate_dst (N := 2) rfl ?_); refine boxE #[.int .i64 0, .int .i64 0, .int .i64 0, .int .i64 0] 73 (N := 2) rfl rfl ?_; intro gb194 hg w3 hbox hb; have BK194 := Aside0.mk hbox; have GW194 := gZ HB hg; have GE194 := gZ HB hg; replace HB := bS HB hb; clear hb hbox hg) | ((with_reducible refine gate_callee (f := 106) rfl ?_); refine goA (some 5) rfl rfl Try.func106 rfl #[.slice A0 l0.length c0] rfl ?_; (with_reducible refine (spec_l13With.calls _ _ l0 t195 t196 t197 t198 t199 _ ?side1 ?side2 A2.out).mono ?_); (case side1 => exact mC HR0 HB); (case side2 => exact HC0.out); rintro e w4 ⟨rfl, hb⟩; refine ⟨_, rfl, ?_⟩; replace BK194 := bK BK194 hb; replace HB := bS HB hb; (try clear hb); (try clear hb2); (try clear hk); (try clear hi); have hz5 := cl4 BK194))
 refine bodyPost_ret (results_ct rfl _ _ gb194 73 #[.int .i64 t195, .int .i64 t196, .int .i64 t197, .int .i64 t198] (0, 0) _ rfl (mP BK194) Try.underlying73 rfl (by kernel_rfl)) rfl ?_
 exact ⟨by first | rfl | (simp [errW_none, errW_some] <;> rfl) | (simp [*, errW_none, errW_some] <;> rfl), bel HB⟩

/-! ### spec_l1In: function 88 -/
def spec_l1In.f (a0 : Int) (a1 : Int) (a2 : Int) : Option (Bool) := if a0 ≥ a1 then (some (decide (a0 ≤ a2))) else (some false)
set_option maxHeartbeats 8000000 in
set_option maxRecDepth 100000 in
theorem spec_l1In.calls (a0 : Int) (a1 : Int) (a2 : Int) (r : Bool) (w : World) (h : spec_l1In.f a0 a1 a2 = some r) :
  Calls Try.prog 88 #[.int .i64 a0, .int .i64 a1, .int .i64 a2] w fun e w' => e = .returned (.bool r) ∧ Drawn0 w w' := by
 have H : (if a0 ≥ a1 then (some (decide (a0 ≤ a2))) else (some false)) = some r := h
 clear h
 by_cases c4 : a0 ≥ a1
 ·
  rw [if_pos c4] at H
  have c4b0 : decide (a1 ≤ a0) = true := decide_eq_true c4
  clear c4
  obtain rfl := Option.some.inj H
  go_enter Try.func88, Try.ntmps88
  go_wp2
  go_ret
  exact ⟨by first | rfl | (simp; done) | (simp [*]; done), drw⟩
 rw [if_neg c4] at H
 have c4b0 : decide (a1 ≤ a0) = false := decide_eq_false c4
 clear c4
 obtain rfl := Option.some.inj H
 go_enter Try.func88, Try.ntmps88
 go_wp2
 go_ret
 exact ⟨by first | rfl | (simp; done) | (simp [*]; done), drw⟩

/-! ### spec_l13Time: function 109 -/
def spec_l13Time.f (a0 : Int) : Option (Bool) := (spec_l1In.f a0 0 1000000002).bind fun t200 => (some t200)
set_option maxHeartbeats 8000000 in
set_option maxRecDepth 100000 in
theorem spec_l13Time.calls (a0 : Int) (r : Bool) (w : World) (h : spec_l13Time.f a0 = some r) :
  Calls Try.prog 109 #[.int .i64 a0] w fun e w' => e = .returned (.bool r) ∧ Drawn0 w w' := by
 have H : ((spec_l1In.f a0 0 1000000002).bind fun t200 => (some t200)) = some r := h
 clear h
 replace H := Option.bind_eq_some_iff.mp H
 obtain ⟨t200, A20, H⟩ := H
 replace H : (some t200) = some r := H
 have A2 := Aside0.mk A20
 clear A20
 obtain rfl := Option.some.inj H
 go_enter Try.func109, Try.ntmps109
 go_wp2_with (first | ((with_reducible refine gate_callee (f := 88) rfl ?_); refine goA (some 4) rfl rfl Try.func88 rfl #[.int .i64 a0, .int .i64 0, .int .i64 1000000002] rfl ?_; (with_reducible refine (spec_l1In.calls a0 0 1000000002 t200 _ A2.out).mono ?_); rintro e w' ⟨rfl, ⟨nd, rfl⟩⟩; refine ⟨_, rfl, ?_⟩))
 go_ret
 exact ⟨by first | rfl | (simp; done) | (simp [*]; done), drw⟩

/-! ### spec_l10Epoch: function 124 -/
def spec_l10Epoch.f (a0 : Int) : Option (Bool) := (spec_l1In.f a0 1 1000).bind fun t201 => (some t201)
set_option maxHeartbeats 8000000 in
set_option maxRecDepth 100000 in
theorem spec_l10Epoch.calls (a0 : Int) (r : Bool) (w : World) (h : spec_l10Epoch.f a0 = some r) :
  Calls Try.prog 124 #[.int .i64 a0] w fun e w' => e = .returned (.bool r) ∧ Drawn0 w w' := by
 have H : ((spec_l1In.f a0 1 1000).bind fun t201 => (some t201)) = some r := h
 clear h
 replace H := Option.bind_eq_some_iff.mp H
 obtain ⟨t201, A20, H⟩ := H
 replace H : (some t201) = some r := H
 have A2 := Aside0.mk A20
 clear A20
 obtain rfl := Option.some.inj H
 go_enter Try.func124, Try.ntmps124
 go_wp2_with (first | ((with_reducible refine gate_callee (f := 88) rfl ?_); refine goA (some 4) rfl rfl Try.func88 rfl #[.int .i64 a0, .int .i64 1, .int .i64 1000] rfl ?_; (with_reducible refine (spec_l1In.calls a0 1 1000 t201 _ A2.out).mono ?_); rintro e w' ⟨rfl, ⟨nd, rfl⟩⟩; refine ⟨_, rfl, ?_⟩))
 go_ret
 exact ⟨by first | rfl | (simp; done) | (simp [*]; done), drw⟩

/-! ### spec_LeaseFault: function 107 -/
def spec_LeaseFault.f (a0_0 : Int) (a0_1 : Int) (a0_2 : Int) (a0_3 : Int) : Option (Int) := (spec_l1In.f a0_0 0 1).bind fun t203 => (if t203 = true then ((spec_l10Epoch.f a0_1).bind fun t204 => (if t204 = true then ((spec_l13Time.f a0_2).bind fun t205 => (if t205 = true then ((spec_l13Time.f a0_3).bind fun t206 => (if t206 = true then (some 0) else (some 3))) else (some 3))) else (some 3))) else (some 3))
set_option maxHeartbeats 8000000 in
set_option maxRecDepth 100000 in
theorem spec_LeaseFault.calls (a0_0 : Int) (a0_1 : Int) (a0_2 : Int) (a0_3 : Int) (r : Int) (w : World) (h : spec_LeaseFault.f a0_0 a0_1 a0_2 a0_3 = some r) :
  Calls Try.prog 107 #[.agg #[.int .i64 a0_0, .int .i64 a0_1, .int .i64 a0_2, .int .i64 a0_3]] w fun e w' => e = .returned (.int .i64 r) ∧ Below w.heap.size w w' := by
 have hu73 := Try.underlying73
 have HB := am (Below.refl w.heap.size w)
 have H : ((spec_l1In.f a0_0 0 1).bind fun t203 => (if t203 = true then ((spec_l10Epoch.f a0_1).bind fun t204 => (if t204 = true then ((spec_l13Time.f a0_2).bind fun t205 => (if t205 = true then ((spec_l13Time.f a0_3).bind fun t206 => (if t206 = true then (some 0) else (some 3))) else (some 3))) else (some 3))) else (some 3))) = some r := h
 clear h
 replace H := Option.bind_eq_some_iff.mp H
 obtain ⟨t203, A20, H⟩ := H
 replace H : (if t203 = true then ((spec_l10Epoch.f a0_1).bind fun t204 => (if t204 = true then ((spec_l13Time.f a0_2).bind fun t205 => (if t205 = true then ((spec_l13Time.f a0_3).bind fun t206 => (if t206 = true then (some 0) else (some 3))) else (some 3))) else (some 3))) else (some 3)) = some r := H
 have A2 := Aside0.mk A20
 clear A20
 by_cases c3 : t203 = true
 ·
  subst c3
  have H1 : ((spec_l10Epoch.f a0_1).bind fun t204 => (if t204 = true then ((spec_l13Time.f a0_2).bind fun t205 => (if t205 = true then ((spec_l13Time.f a0_3).bind fun t206 => (if t206 = true then (some 0) else (some 3))) else (some 3))) else (some 3))) = some r := by rw [if_pos rfl] at H; first | done | exact H
  clear H
  have H := H1
  clear H1
  replace H := Option.bind_eq_some_iff.mp H
  obtain ⟨t204, A40, H⟩ := H
  replace H : (if t204 = true then ((spec_l13Time.f a0_2).bind fun t205 => (if t205 = true then ((spec_l13Time.f a0_3).bind fun t206 => (if t206 = true then (some 0) else (some 3))) else (some 3))) else (some 3)) = some r := H
  have A4 := Aside0.mk A40
  clear A40
  by_cases c5 : t204 = true
  ·
   subst c5
   have H1 : ((spec_l13Time.f a0_2).bind fun t205 => (if t205 = true then ((spec_l13Time.f a0_3).bind fun t206 => (if t206 = true then (some 0) else (some 3))) else (some 3))) = some r := by rw [if_pos rfl] at H; first | done | exact H
   clear H
   have H := H1
   clear H1
   replace H := Option.bind_eq_some_iff.mp H
   obtain ⟨t205, A60, H⟩ := H
   replace H : (if t205 = true then ((spec_l13Time.f a0_3).bind fun t206 => (if t206 = true then (some 0) else (some 3))) else (some 3)) = some r := H
   have A6 := Aside0.mk A60
   clear A60
   by_cases c7 : t205 = true
   ·
    subst c7
    have H1 : ((spec_l13Time.f a0_3).bind fun t206 => (if t206 = true then (some 0) else (some 3))) = some r := by rw [if_pos rfl] at H; first | done | exact H
    clear H
    have H := H1
    clear H1
    replace H := Option.bind_eq_some_iff.mp H
    obtain ⟨t206, A80, H⟩ := H
    replace H : (if t206 = true then (some 0) else (some 3)) = some r := H
    have A8 := Aside0.mk A80
    clear A80
    by_cases c9 : t206 = true
    ·
     subst c9
     have H1 : (some 0) = some r := by rw [if_pos rfl] at H; first | done | exact H
     clear H
     have H := H1
     clear H1
     obtain rfl := Option.some.inj H
     go_enter Try.func107, Try.ntmps107
     go_wp2_with (first | ((with_reducible refine gate_dst (N := 1) rfl ?_); refine boxE #[.int .i64 a0_0, .int .i64 a0_1, .int .i64 a0_2, .int .i64 a0_3] 73 (N := 1) rfl rfl ?_; intro gb202 hg w10 hbox hb; have BK202 := Aside0.mk hbox; have GW202 := gZ HB hg; have GE202 := gZ HB hg; replace HB := bS HB hb; clear hb hbox hg; have hz11 := cl4 BK202) | ((with_reducible refine gate_callee (f := 88) rfl ?_); refine goA (some 5) rfl rfl Try.func88 rfl #[.int .i64 a0_0, .int .i64 0, .int .i64 1] rfl ?_; (with_reducible refine (spec_l1In.calls a0_0 0 1 true _ A2.out).mono ?_); rintro e w' ⟨rfl, ⟨nd, rfl⟩⟩; refine ⟨_, rfl, ?_⟩) | (go_at_call 124; (with_reducible refine (spec_l10Epoch.calls a0_1 true _ A4.out).mono ?_); rintro e w' ⟨rfl, ⟨nd, rfl⟩⟩) | (go_at_call 109; (with_reducible refine (spec_l13Time.calls a0_2 true _ A6.out).mono ?_); rintro e w' ⟨rfl, ⟨nd, rfl⟩⟩) | (go_at_call 109; (with_reducible refine (spec_l13Time.calls a0_3 true _ A8.out).mono ?_); rintro e w' ⟨rfl, ⟨nd, rfl⟩⟩))
     go_ret
     exact ⟨by first | rfl | (simp [errW_none, errW_some] <;> rfl) | (simp [*, errW_none, errW_some] <;> rfl), bel HB⟩
    replace c9 := Bool.eq_false_iff.mpr c9
    subst c9
    have H1 : (some 3) = some r := by rw [if_neg (show ¬ (false = true) by decide)] at H; first | done | exact H
    clear H
    have H := H1
    clear H1
    obtain rfl := Option.some.inj H
    go_enter Try.func107, Try.ntmps107
    go_wp2_with (first | ((with_reducible refine gate_dst (N := 1) rfl ?_); refine boxE #[.int .i64 a0_0, .int .i64 a0_1, .int .i64 a0_2, .int .i64 a0_3] 73 (N := 1) rfl rfl ?_; intro gb202 hg w12 hbox hb; have BK202 := Aside0.mk hbox; have GW202 := gZ HB hg; have GE202 := gZ HB hg; replace HB := bS HB hb; clear hb hbox hg; have hz13 := cl4 BK202) | ((with_reducible refine gate_callee (f := 88) rfl ?_); refine goA (some 5) rfl rfl Try.func88 rfl #[.int .i64 a0_0, .int .i64 0, .int .i64 1] rfl ?_; (with_reducible refine (spec_l1In.calls a0_0 0 1 true _ A2.out).mono ?_); rintro e w' ⟨rfl, ⟨nd, rfl⟩⟩; refine ⟨_, rfl, ?_⟩) | (go_at_call 124; (with_reducible refine (spec_l10Epoch.calls a0_1 true _ A4.out).mono ?_); rintro e w' ⟨rfl, ⟨nd, rfl⟩⟩) | (go_at_call 109; (with_reducible refine (spec_l13Time.calls a0_2 true _ A6.out).mono ?_); rintro e w' ⟨rfl, ⟨nd, rfl⟩⟩) | (go_at_call 109; (with_reducible refine (spec_l13Time.calls a0_3 false _ A8.out).mono ?_); rintro e w' ⟨rfl, ⟨nd, rfl⟩⟩))
    go_ret
    exact ⟨by first | rfl | (simp [errW_none, errW_some] <;> rfl) | (simp [*, errW_none, errW_some] <;> rfl), bel HB⟩
   replace c7 := Bool.eq_false_iff.mpr c7
   subst c7
   have H1 : (some 3) = some r := by rw [if_neg (show ¬ (false = true) by decide)] at H; first | done | exact H
   clear H
   have H := H1
   clear H1
   obtain rfl := Option.some.inj H
   go_enter Try.func107, Try.ntmps107
   go_wp2_with (first | ((with_reducible refine gate_dst (N := 1) rfl ?_); refine boxE #[.int .i64 a0_0, .int .i64 a0_1, .int .i64 a0_2, .int .i64 a0_3] 73 (N := 1) rfl rfl ?_; intro gb202 hg w14 hbox hb; have BK202 := Aside0.mk hbox; have GW202 := gZ HB hg; have GE202 := gZ HB hg; replace HB := bS HB hb; clear hb hbox hg; have hz15 := cl4 BK202) | ((with_reducible refine gate_callee (f := 88) rfl ?_); refine goA (some 5) rfl rfl Try.func88 rfl #[.int .i64 a0_0, .int .i64 0, .int .i64 1] rfl ?_; (with_reducible refine (spec_l1In.calls a0_0 0 1 true _ A2.out).mono ?_); rintro e w' ⟨rfl, ⟨nd, rfl⟩⟩; refine ⟨_, rfl, ?_⟩) | (go_at_call 124; (with_reducible refine (spec_l10Epoch.calls a0_1 true _ A4.out).mono ?_); rintro e w' ⟨rfl, ⟨nd, rfl⟩⟩) | (go_at_call 109; (with_reducible refine (spec_l13Time.calls a0_2 false _ A6.out).mono ?_); rintro e w' ⟨rfl, ⟨nd, rfl⟩⟩))
   go_ret
   exact ⟨by first | rfl | (simp [errW_none, errW_some] <;> rfl) | (simp [*, errW_none, errW_some] <;> rfl), bel HB⟩
  replace c5 := Bool.eq_false_iff.mpr c5
  subst c5
  have H1 : (some 3) = some r := by rw [if_neg (show ¬ (false = true) by decide)] at H; first | done | exact H
  clear H
  have H := H1
  clear H1
  obtain rfl := Option.some.inj H
  go_enter Try.func107, Try.ntmps107
  go_wp2_with (first | ((with_reducible refine gate_dst (N := 1) rfl ?_); refine boxE #[.int .i64 a0_0, .int .i64 a0_1, .int .i64 a0_2, .int .i64 a0_3] 73 (N := 1) rfl rfl ?_; intro gb202 hg w16 hbox hb; have BK202 := Aside0.mk hbox; have GW202 := gZ HB hg; have GE202 := gZ HB hg; replace HB := bS HB hb; clear hb hbox hg; have hz17 := cl4 BK202) | ((with_reducible refine gate_callee (f := 88) rfl ?_); refine goA (some 5) rfl rfl Try.func88 rfl #[.int .i64 a0_0, .int .i64 0, .int .i64 1] rfl ?_; (with_reducible refine (spec_l1In.calls a0_0 0 1 true _ A2.out).mono ?_); rintro e w' ⟨rfl, ⟨nd, rfl⟩⟩; refine ⟨_, rfl, ?_⟩) | (go_at_call 124; (with_reducible refine (spec_l10Epoch.calls a0_1 false _ A4.out).mono ?_); rintro e w' ⟨rfl, ⟨nd, rfl⟩⟩))
  go_ret
  exact ⟨by first | rfl | (simp [errW_none, errW_some] <;> rfl) | (simp [*, errW_none, errW_some] <;> rfl), bel HB⟩
 replace c3 := Bool.eq_false_iff.mpr c3
 subst c3
 have H1 : (some 3) = some r := by rw [if_neg (show ¬ (false = true) by decide)] at H; first | done | exact H
 clear H
 have H := H1
 clear H1
 obtain rfl := Option.some.inj H
 go_enter Try.func107, Try.ntmps107
 go_wp2_with (first | ((with_reducible refine gate_dst (N := 1) rfl ?_); refine boxE #[.int .i64 a0_0, .int .i64 a0_1, .int .i64 a0_2, .int .i64 a0_3] 73 (N := 1) rfl rfl ?_; intro gb202 hg w18 hbox hb; have BK202 := Aside0.mk hbox; have GW202 := gZ HB hg; have GE202 := gZ HB hg; replace HB := bS HB hb; clear hb hbox hg; have hz19 := cl4 BK202) | ((with_reducible refine gate_callee (f := 88) rfl ?_); refine goA (some 5) rfl rfl Try.func88 rfl #[.int .i64 a0_0, .int .i64 0, .int .i64 1] rfl ?_; (with_reducible refine (spec_l1In.calls a0_0 0 1 false _ A2.out).mono ?_); rintro e w' ⟨rfl, ⟨nd, rfl⟩⟩; refine ⟨_, rfl, ?_⟩))
 go_ret
 exact ⟨by first | rfl | (simp [errW_none, errW_some] <;> rfl) | (simp [*, errW_none, errW_some] <;> rfl), bel HB⟩

/-! ### spec_l13Take: function 108 -/
def spec_l13Take.f (a0_0 : Int) (a0_1 : Int) (a0_2 : Int) (a0_3 : Int) (a1 : Int) : Option (Bool) := (spec_l13Time.f a1).bind fun t208 => (if t208 = true then (some (decide (a1 ≥ (wrap64 ((wrap64 (a0_3 + 10)) + 4))))) else (some false))
set_option maxHeartbeats 8000000 in
set_option maxRecDepth 100000 in
theorem spec_l13Take.calls (a0_0 : Int) (a0_1 : Int) (a0_2 : Int) (a0_3 : Int) (a1 : Int) (r : Bool) (w : World) (h : spec_l13Take.f a0_0 a0_1 a0_2 a0_3 a1 = some r) :
  Calls Try.prog 108 #[.agg #[.int .i64 a0_0, .int .i64 a0_1, .int .i64 a0_2, .int .i64 a0_3], .int .i64 a1] w fun e w' => e = .returned (.bool r) ∧ Below w.heap.size w w' := by
 have hu73 := Try.underlying73
 have HB := am (Below.refl w.heap.size w)
 have H : ((spec_l13Time.f a1).bind fun t208 => (if t208 = true then (some (decide (a1 ≥ (wrap64 ((wrap64 (a0_3 + 10)) + 4))))) else (some false))) = some r := h
 clear h
 replace H := Option.bind_eq_some_iff.mp H
 obtain ⟨t208, A30, H⟩ := H
 replace H : (if t208 = true then (some (decide (a1 ≥ (wrap64 ((wrap64 (a0_3 + 10)) + 4))))) else (some false)) = some r := H
 have A3 := Aside0.mk A30
 clear A30
 by_cases c4 : t208 = true
 ·
  subst c4
  have H1 : (some (decide (a1 ≥ (wrap64 ((wrap64 (a0_3 + 10)) + 4))))) = some r := by rw [if_pos rfl] at H; first | done | exact H
  clear H
  have H := H1
  clear H1
  obtain rfl := Option.some.inj H
  go_enter Try.func108, Try.ntmps108
  go_wp2_with (first | ((with_reducible refine gate_dst (N := 2) rfl ?_); refine boxE #[.int .i64 a0_0, .int .i64 a0_1, .int .i64 a0_2, .int .i64 a0_3] 73 (N := 2) rfl rfl ?_; intro gb207 hg w5 hbox hb; have BK207 := Aside0.mk hbox; have GW207 := gZ HB hg; have GE207 := gZ HB hg; replace HB := bS HB hb; clear hb hbox hg) | ((with_reducible refine gate_callee (f := 109) rfl ?_); refine goA (some 6) rfl rfl Try.func109 rfl #[.int .i64 a1] rfl ?_; (with_reducible refine (spec_l13Time.calls a1 true _ A3.out).mono ?_); rintro e w' ⟨rfl, ⟨nd, rfl⟩⟩; refine ⟨_, rfl, ?_⟩; have hz6 := cl4 BK207))
  go_ret
  exact ⟨by first | rfl | (simp [errW_none, errW_some] <;> rfl) | (simp [*, errW_none, errW_some] <;> rfl), bel HB⟩
 replace c4 := Bool.eq_false_iff.mpr c4
 subst c4
 have H1 : (some false) = some r := by rw [if_neg (show ¬ (false = true) by decide)] at H; first | done | exact H
 clear H
 have H := H1
 clear H1
 obtain rfl := Option.some.inj H
 go_enter Try.func108, Try.ntmps108
 go_wp2_with (first | ((with_reducible refine gate_dst (N := 2) rfl ?_); refine boxE #[.int .i64 a0_0, .int .i64 a0_1, .int .i64 a0_2, .int .i64 a0_3] 73 (N := 2) rfl rfl ?_; intro gb207 hg w7 hbox hb; have BK207 := Aside0.mk hbox; have GW207 := gZ HB hg; have GE207 := gZ HB hg; replace HB := bS HB hb; clear hb hbox hg) | ((with_reducible refine gate_callee (f := 109) rfl ?_); refine goA (some 6) rfl rfl Try.func109 rfl #[.int .i64 a1] rfl ?_; (with_reducible refine (spec_l13Time.calls a1 false _ A3.out).mono ?_); rintro e w' ⟨rfl, ⟨nd, rfl⟩⟩; refine ⟨_, rfl, ?_⟩))
 go_ret
 exact ⟨by first | rfl | (simp [errW_none, errW_some] <;> rfl) | (simp [*, errW_none, errW_some] <;> rfl), bel HB⟩

/-! ### spec_MayTake: function 49 -/
def spec_MayTake.f (a0_0 : Int) (a0_1 : Int) (a0_2 : Int) (a0_3 : Int) (a1 : Int) : Option (Bool) := (spec_LeaseFault.f a0_0 a0_1 a0_2 a0_3).bind fun t210 => (if t210 = 0 then ((spec_l13Take.f a0_0 a0_1 a0_2 a0_3 a1).bind fun t211 => (some t211)) else (some false))
set_option maxHeartbeats 8000000 in
set_option maxRecDepth 100000 in
theorem spec_MayTake.calls (a0_0 : Int) (a0_1 : Int) (a0_2 : Int) (a0_3 : Int) (a1 : Int) (r : Bool) (w : World) (h : spec_MayTake.f a0_0 a0_1 a0_2 a0_3 a1 = some r) :
  Calls Try.prog 49 #[.agg #[.int .i64 a0_0, .int .i64 a0_1, .int .i64 a0_2, .int .i64 a0_3], .int .i64 a1] w fun e w' => e = .returned (.bool r) ∧ Below w.heap.size w w' := by
 have hu73 := Try.underlying73
 have HB := am (Below.refl w.heap.size w)
 have H : ((spec_LeaseFault.f a0_0 a0_1 a0_2 a0_3).bind fun t210 => (if t210 = 0 then ((spec_l13Take.f a0_0 a0_1 a0_2 a0_3 a1).bind fun t211 => (some t211)) else (some false))) = some r := h
 clear h
 replace H := Option.bind_eq_some_iff.mp H
 obtain ⟨t210, A30, H⟩ := H
 replace H : (if t210 = 0 then ((spec_l13Take.f a0_0 a0_1 a0_2 a0_3 a1).bind fun t211 => (some t211)) else (some false)) = some r := H
 have A3 := Aside0.mk A30
 clear A30
 by_cases c4 : t210 = 0
 ·
  rw [if_pos c4] at H
  have c4b0 : (t210 == 0) = true := beq_iff_eq.mpr c4
  have c4b1 : (t210 != 0) = false := bne_eq_false_iff_eq.mpr c4
  clear c4
  replace H := Option.bind_eq_some_iff.mp H
  obtain ⟨t211, A50, H⟩ := H
  replace H : (some t211) = some r := H
  have A5 := Aside0.mk A50
  clear A50
  obtain rfl := Option.some.inj H
  go_enter Try.func49, Try.ntmps49
  go_wp2_with (first | ((with_reducible refine gate_dst (N := 2) rfl ?_); refine boxE #[.int .i64 a0_0, .int .i64 a0_1, .int .i64 a0_2, .int .i64 a0_3] 73 (N := 2) rfl rfl ?_; intro gb209 hg w6 hbox hb; have BK209 := Aside0.mk hbox; have GW209 := gZ HB hg; have GE209 := gZ HB hg; replace HB := bS HB hb; clear hb hbox hg; have hz7 := cl4 BK209) | ((with_reducible refine gate_callee (f := 107) rfl ?_); refine goA (some 6) rfl rfl Try.func107 rfl #[.agg #[.int .i64 a0_0, .int .i64 a0_1, .int .i64 a0_2, .int .i64 a0_3]] rfl ?_; (with_reducible refine (spec_LeaseFault.calls a0_0 a0_1 a0_2 a0_3 t210 _ A3.out).mono ?_); rintro e w8 ⟨rfl, hb⟩; refine ⟨_, rfl, ?_⟩; replace BK209 := bK BK209 hb; replace HB := bS HB hb; (try clear hb); (try clear hb2); (try clear hk); (try clear hi); have hz9 := cl4 BK209) | (go_at_call 108; (with_reducible refine (spec_l13Take.calls a0_0 a0_1 a0_2 a0_3 a1 t211 _ A5.out).mono ?_); rintro e w10 ⟨rfl, hb⟩; replace BK209 := bK BK209 hb; replace HB := bS HB hb; (try clear hb); (try clear hb2); (try clear hk); (try clear hi)))
  go_ret
  exact ⟨by first | rfl | (simp [errW_none, errW_some] <;> rfl) | (simp [*, errW_none, errW_some] <;> rfl), bel HB⟩
 rw [if_neg c4] at H
 have c4b0 : (t210 == 0) = false := beq_eq_false_iff_ne.mpr c4
 have c4b1 : (t210 != 0) = true := bne_iff_ne.mpr c4
 obtain rfl := Option.some.inj H
 go_enter Try.func49, Try.ntmps49
 go_wp2_with (first | ((with_reducible refine gate_dst (N := 2) rfl ?_); refine boxE #[.int .i64 a0_0, .int .i64 a0_1, .int .i64 a0_2, .int .i64 a0_3] 73 (N := 2) rfl rfl ?_; intro gb209 hg w11 hbox hb; have BK209 := Aside0.mk hbox; have GW209 := gZ HB hg; have GE209 := gZ HB hg; replace HB := bS HB hb; clear hb hbox hg; have hz12 := cl4 BK209) | ((with_reducible refine gate_callee (f := 107) rfl ?_); refine goA (some 6) rfl rfl Try.func107 rfl #[.agg #[.int .i64 a0_0, .int .i64 a0_1, .int .i64 a0_2, .int .i64 a0_3]] rfl ?_; (with_reducible refine (spec_LeaseFault.calls a0_0 a0_1 a0_2 a0_3 t210 _ A3.out).mono ?_); rintro e w13 ⟨rfl, hb⟩; refine ⟨_, rfl, ?_⟩; replace BK209 := bK BK209 hb; replace HB := bS HB hb; (try clear hb); (try clear hb2); (try clear hk); (try clear hi)))
 go_ret
 exact ⟨by first | rfl | (simp [errW_none, errW_some] <;> rfl) | (simp [*, errW_none, errW_some] <;> rfl), bel HB⟩

/-! ### spec_MayLead: function 50 -/
def spec_MayLead.f (a0_0 : Int) (a0_1 : Int) (a0_2 : Int) (a0_3 : Int) (a1 : Int) : Option (Bool) := (spec_LeaseFault.f a0_0 a0_1 a0_2 a0_3).bind fun t213 => (if t213 = 0 then ((spec_l13Time.f a1).bind fun t214 => (if t214 = true then (some (decide (a1 < (wrap64 ((wrap64 (a0_2 + 10)) - 4))))) else (some false))) else (some false))
set_option maxHeartbeats 8000000 in
set_option maxRecDepth 100000 in
theorem spec_MayLead.calls (a0_0 : Int) (a0_1 : Int) (a0_2 : Int) (a0_3 : Int) (a1 : Int) (r : Bool) (w : World) (h : spec_MayLead.f a0_0 a0_1 a0_2 a0_3 a1 = some r) :
  Calls Try.prog 50 #[.agg #[.int .i64 a0_0, .int .i64 a0_1, .int .i64 a0_2, .int .i64 a0_3], .int .i64 a1] w fun e w' => e = .returned (.bool r) ∧ Below w.heap.size w w' := by
 have hu73 := Try.underlying73
 have HB := am (Below.refl w.heap.size w)
 have H : ((spec_LeaseFault.f a0_0 a0_1 a0_2 a0_3).bind fun t213 => (if t213 = 0 then ((spec_l13Time.f a1).bind fun t214 => (if t214 = true then (some (decide (a1 < (wrap64 ((wrap64 (a0_2 + 10)) - 4))))) else (some false))) else (some false))) = some r := h
 clear h
 replace H := Option.bind_eq_some_iff.mp H
 obtain ⟨t213, A30, H⟩ := H
 replace H : (if t213 = 0 then ((spec_l13Time.f a1).bind fun t214 => (if t214 = true then (some (decide (a1 < (wrap64 ((wrap64 (a0_2 + 10)) - 4))))) else (some false))) else (some false)) = some r := H
 have A3 := Aside0.mk A30
 clear A30
 by_cases c4 : t213 = 0
 ·
  rw [if_pos c4] at H
  have c4b0 : (t213 == 0) = true := beq_iff_eq.mpr c4
  have c4b1 : (t213 != 0) = false := bne_eq_false_iff_eq.mpr c4
  clear c4
  replace H := Option.bind_eq_some_iff.mp H
  obtain ⟨t214, A50, H⟩ := H
  replace H : (if t214 = true then (some (decide (a1 < (wrap64 ((wrap64 (a0_2 + 10)) - 4))))) else (some false)) = some r := H
  have A5 := Aside0.mk A50
  clear A50
  by_cases c6 : t214 = true
  ·
   subst c6
   have H1 : (some (decide (a1 < (wrap64 ((wrap64 (a0_2 + 10)) - 4))))) = some r := by rw [if_pos rfl] at H; first | done | exact H
   clear H
   have H := H1
   clear H1
   obtain rfl := Option.some.inj H
   go_enter Try.func50, Try.ntmps50
   go_wp2_with (first | ((with_reducible refine gate_dst (N := 2) rfl ?_); refine boxE #[.int .i64 a0_0, .int .i64 a0_1, .int .i64 a0_2, .int .i64 a0_3] 73 (N := 2) rfl rfl ?_; intro gb212 hg w7 hbox hb; have BK212 := Aside0.mk hbox; have GW212 := gZ HB hg; have GE212 := gZ HB hg; replace HB := bS HB hb; clear hb hbox hg; have hz8 := cl4 BK212) | ((with_reducible refine gate_callee (f := 107) rfl ?_); refine goA (some 6) rfl rfl Try.func107 rfl #[.agg #[.int .i64 a0_0, .int .i64 a0_1, .int .i64 a0_2, .int .i64 a0_3]] rfl ?_; (with_reducible refine (spec_LeaseFault.calls a0_0 a0_1 a0_2 a0_3 t213 _ A3.out).mono ?_); rintro e w9 ⟨rfl, hb⟩; refine ⟨_, rfl, ?_⟩; replace BK212 := bK BK212 hb; replace HB := bS HB hb; (try clear hb); (try clear hb2); (try clear hk); (try clear hi)) | (go_at_call 109; (with_reducible refine (spec_l13Time.calls a1 true _ A5.out).mono ?_); rintro e w' ⟨rfl, ⟨nd, rfl⟩⟩; have hz10 := cl4 BK212))
   go_ret
   exact ⟨by first | rfl | (simp [errW_none, errW_some] <;> rfl) | (simp [*, errW_none, errW_some] <;> rfl), bel HB⟩
  replace c6 := Bool.eq_false_iff.mpr c6
  subst c6
  have H1 : (some false) = some r := by rw [if_neg (show ¬ (false = true) by decide)] at H; first | done | exact H
  clear H
  have H := H1
  clear H1
  obtain rfl := Option.some.inj H
  go_enter Try.func50, Try.ntmps50
  go_wp2_with (first | ((with_reducible refine gate_dst (N := 2) rfl ?_); refine boxE #[.int .i64 a0_0, .int .i64 a0_1, .int .i64 a0_2, .int .i64 a0_3] 73 (N := 2) rfl rfl ?_; intro gb212 hg w11 hbox hb; have BK212 := Aside0.mk hbox; have GW212 := gZ HB hg; have GE212 := gZ HB hg; replace HB := bS HB hb; clear hb hbox hg; have hz12 := cl4 BK212) | ((with_reducible refine gate_callee (f := 107) rfl ?_); refine goA (some 6) rfl rfl Try.func107 rfl #[.agg #[.int .i64 a0_0, .int .i64 a0_1, .int .i64 a0_2, .int .i64 a0_3]] rfl ?_; (with_reducible refine (spec_LeaseFault.calls a0_0 a0_1 a0_2 a0_3 t213 _ A3.out).mono ?_); rintro e w13 ⟨rfl, hb⟩; refine ⟨_, rfl, ?_⟩; replace BK212 := bK BK212 hb; replace HB := bS HB hb; (try clear hb); (try clear hb2); (try clear hk); (try clear hi)) | (go_at_call 109; (with_reducible refine (spec_l13Time.calls a1 false _ A5.out).mono ?_); rintro e w' ⟨rfl, ⟨nd, rfl⟩⟩))
  go_ret
  exact ⟨by first | rfl | (simp [errW_none, errW_some] <;> rfl) | (simp [*, errW_none, errW_some] <;> rfl), bel HB⟩
 rw [if_neg c4] at H
 have c4b0 : (t213 == 0) = false := beq_eq_false_iff_ne.mpr c4
 have c4b1 : (t213 != 0) = true := bne_iff_ne.mpr c4
 obtain rfl := Option.some.inj H
 go_enter Try.func50, Try.ntmps50
 go_wp2_with (first | ((with_reducible refine gate_dst (N := 2) rfl ?_); refine boxE #[.int .i64 a0_0, .int .i64 a0_1, .int .i64 a0_2, .int .i64 a0_3] 73 (N := 2) rfl rfl ?_; intro gb212 hg w14 hbox hb; have BK212 := Aside0.mk hbox; have GW212 := gZ HB hg; have GE212 := gZ HB hg; replace HB := bS HB hb; clear hb hbox hg; have hz15 := cl4 BK212) | ((with_reducible refine gate_callee (f := 107) rfl ?_); refine goA (some 6) rfl rfl Try.func107 rfl #[.agg #[.int .i64 a0_0, .int .i64 a0_1, .int .i64 a0_2, .int .i64 a0_3]] rfl ?_; (with_reducible refine (spec_LeaseFault.calls a0_0 a0_1 a0_2 a0_3 t213 _ A3.out).mono ?_); rintro e w16 ⟨rfl, hb⟩; refine ⟨_, rfl, ?_⟩; replace BK212 := bK BK212 hb; replace HB := bS HB hb; (try clear hb); (try clear hb2); (try clear hk); (try clear hi)))
 go_ret
 exact ⟨by first | rfl | (simp [errW_none, errW_some] <;> rfl) | (simp [*, errW_none, errW_some] <;> rfl), bel HB⟩

end Go.Proofs.Ytgfoifkkffffgab.PFnLeases
