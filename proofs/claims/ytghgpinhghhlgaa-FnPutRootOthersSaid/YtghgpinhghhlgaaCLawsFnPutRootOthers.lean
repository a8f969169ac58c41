/- Contracts of functions of the given program (CLawsFnPutRootOthers). No conditions beyond those stated. -/
import Derived.Test.YtghgpinhghhlgaaA0
import Derived.Test.YtghgpinhghhlgaaAImplCountPointers
import Derived.Test.YtghgpinhghhlgaaAImplHeapSame
import Derived.Test.YtghgpinhghhlgaaAImplPutRoot
import Derived.Test.YtghgpinhghhlgaaALawsCcInts
import Derived.Test.YtghgpinhghhlgaaASpecDrawPutRoot
import Derived.Test.YtghgpinhghhlgaaASpecPutRoot
import Derived.Test.YtghgpinhghhlgaaA0
namespace Go.Proofs.Ytghgpinhghhlgaa.A
open Go.RowKit Go.Proofs.YtghgpinhghhlgaaW.PrintWords Go.Proofs.YtghgpinhghhlgaaW.PrintLast Go.Proofs.YtghgpinhghhlgaaW.PrintMore
attribute [local go_sem] max2_int min2_int max_two min_two max_three min_three max_four min_four   -- for this text's walks alone
set_option linter.unusedVariables false
set_option linter.unusedSimpArgs false

/-! ### laws_FnPutRootOthers -/
def laws_FnPutRootOthers.j0 : Nat → Bool → Bool → Bool → List Int → List Int → List Int → List Int → List Int → List Int → List Int → List Int → List Int → Option (Bool)
 | 0, _, _, _, _, _, _, _, _, _, _, _, _ => none
 | k + 1, x7, x9, x46, x415000, x415001, x415002, x426000, x426001, x426002, x437000, x437001, x437002 => if x46 = true then ((impl_HeapSame.f k x426000 x426001 x426002 x437000 x437001 x437002).bind fun t438 => (if t438 = true then (some (x7 == x9)) else (none))) else ((impl_CountPointers.f k x426000 x426001 x426002).bind fun t439 => ((impl_CountPointers.f k x415000 x415001 x415002).bind fun t440 => ((laws_ccInts.f k x426000 x415000).bind fun t441 => (if t441 = true then ((laws_ccInts.f k x426001 x415001).bind fun t442 => (if t442 = true then (if (wrap64 (t439 - t440)) ≥ (-1) then (some (decide ((wrap64 (t439 - t440)) ≤ 1))) else (none)) else (none))) else (none)))))
def laws_FnPutRootOthers.f (k : Nat) (l0 : List Int) : Option (Bool) := if (l0.length : Int) > 1048576 then (some true) else ((spec_DrawPutRoot.f k l0).bind fun bt403 => ((impl_PutRoot.f k bt403.1 bt403.2.1 bt403.2.2.1 bt403.2.2.2.1 bt403.2.2.2.2).bind fun bt415 => ((spec_PutRoot.f k bt403.1 bt403.2.1 bt403.2.2.1 bt403.2.2.2.1 bt403.2.2.2.2).bind fun bt426 => ((impl_HeapSame.f k bt415.1 bt415.2.1 bt415.2.2.1 bt426.1 bt426.2.1 bt426.2.2.1).bind fun t437 => (if t437 = true then (if (bt415.2.2.2 != bt426.2.2.2) = true then (laws_FnPutRootOthers.j0 k bt415.2.2.2 bt426.2.2.2 true bt403.1 bt403.2.1 bt403.2.2.1 bt415.1 bt415.2.1 bt415.2.2.1 bt426.1 bt426.2.1 bt426.2.2.1) else (laws_FnPutRootOthers.j0 k bt415.2.2.2 bt426.2.2.2 (!bt415.2.2.2) bt403.1 bt403.2.1 bt403.2.2.1 bt415.1 bt415.2.1 bt415.2.2.1 bt426.1 bt426.2.1 bt426.2.2.1)) else (laws_FnPutRootOthers.j0 k bt415.2.2.2 bt426.2.2.2 true bt403.1 bt403.2.1 bt403.2.2.1 bt415.1 bt415.2.1 bt415.2.2.1 bt426.1 bt426.2.1 bt426.2.2.1))))))
theorem laws_FnPutRootOthers.mono_l : ∀ k, (∀ y0 y1 y2 y3 y4 y5 y6 y7 y8 y9 y10 y11, LeO (laws_FnPutRootOthers.j0 k y0 y1 y2 y3 y4 y5 y6 y7 y8 y9 y10 y11) (laws_FnPutRootOthers.j0 (k + 1) y0 y1 y2 y3 y4 y5 y6 y7 y8 y9 y10 y11))
 | 0 => fun _ _ _ _ _ _ _ _ _ _ _ _ r h => by simp [laws_FnPutRootOthers.j0] at h
 | k + 1 => by
  have ih0 := laws_FnPutRootOthers.mono_l k
  ·intro y0 y1 y2 y3 y4 y5 y6 y7 y8 y9 y10 y11
   unfold laws_FnPutRootOthers.j0
   repeat' first
   | (with_reducible exact ih0 _ _ _ _ _ _ _ _ _ _ _ _)
   | (with_reducible exact impl_CountPointers.mono _ _ _ _)
   | (with_reducible exact impl_HeapSame.mono _ _ _ _ _ _ _)
   | (with_reducible exact impl_PutRoot.mono _ _ _ _ _ _)
   | (with_reducible exact laws_ccInts.mono _ _ _)
   | (with_reducible exact spec_DrawPutRoot.mono _ _)
   | (with_reducible exact spec_PutRoot.mono _ _ _ _ _ _)
   | (with_reducible exact LeO.refl _)
   | (with_reducible exact LeO.none _)
   | (with_reducible refine LeO.ite ?_ ?_)
   | (with_reducible refine LeO.bind ?_ (fun _ => ?_))
   | exact ih0 _ _ _ _ _ _ _ _ _ _ _ _
   | exact impl_CountPointers.mono _ _ _ _
   | exact impl_HeapSame.mono _ _ _ _ _ _ _
   | exact impl_PutRoot.mono _ _ _ _ _ _
   | exact laws_ccInts.mono _ _ _
   | exact spec_DrawPutRoot.mono _ _
   | exact spec_PutRoot.mono _ _ _ _ _ _
   | exact LeO.none _
   | refine LeO.ite ?_ ?_
   | refine LeO.bind ?_ (fun _ => ?_)
theorem laws_FnPutRootOthers.mono : ∀ a0 k, LeO (laws_FnPutRootOthers.f k a0) (laws_FnPutRootOthers.f (k + 1) a0) := by
 intro a0 k
 have ih0 := laws_FnPutRootOthers.mono_l k
 unfold laws_FnPutRootOthers.f
 repeat' first
   | (with_reducible exact ih0 _ _ _ _ _ _ _ _ _ _ _ _)
   | (with_reducible exact impl_CountPointers.mono _ _ _ _)
   | (with_reducible exact impl_HeapSame.mono _ _ _ _ _ _ _)
   | (with_reducible exact impl_PutRoot.mono _ _ _ _ _ _)
   | (with_reducible exact laws_ccInts.mono _ _ _)
   | (with_reducible exact spec_DrawPutRoot.mono _ _)
   | (with_reducible exact spec_PutRoot.mono _ _ _ _ _ _)
   | (with_reducible exact LeO.refl _)
   | (with_reducible exact LeO.none _)
   | (with_reducible refine LeO.ite ?_ ?_)
   | (with_reducible refine LeO.bind ?_ (fun _ => ?_))
   | exact ih0 _ _ _ _ _ _ _ _ _ _ _ _
   | exact impl_CountPointers.mono _ _ _ _
   | exact impl_HeapSame.mono _ _ _ _ _ _ _
   | exact impl_PutRoot.mono _ _ _ _ _ _
   | exact laws_ccInts.mono _ _ _
   | exact spec_DrawPutRoot.mono _ _
   | exact spec_PutRoot.mono _ _ _ _ _ _
   | exact LeO.none _
   | refine LeO.ite ?_ ?_
   | refine LeO.bind ?_ (fun _ => ?_)
set_option maxHeartbeats 8000000 in
set_option maxRecDepth 100000 in
theorem laws_FnPutRootOthers.calls (k : Nat) (A0 : Option Addr) (c0 : Nat) (l0 : List Int) (r : Bool) (w : World) (hr0 : Kd.C (Kd.int .u8) w A0 l0.length l0) (hc0 : l0.length ≤ c0) (h : laws_FnPutRootOthers.f k l0 = some r) :
  Calls Try.prog 4 #[.slice A0 l0.length c0] w fun e w' => e = .returned (.bool r) ∧ Below w.heap.size w w' := by
 have hu25 := Try.underlying25
 have HR0 := am hr0
 have HC0 := am hc0
 clear hr0 hc0
 have HB := am (Below.refl w.heap.size w)
 have H : (if (l0.length : Int) > 1048576 then (some true) else ((spec_DrawPutRoot.f k l0).bind fun bt403 => ((impl_PutRoot.f k bt403.1 bt403.2.1 bt403.2.2.1 bt403.2.2.2.1 bt403.2.2.2.2).bind fun bt415 => ((spec_PutRoot.f k bt403.1 bt403.2.1 bt403.2.2.1 bt403.2.2.2.1 bt403.2.2.2.2).bind fun bt426 => ((impl_HeapSame.f k bt415.1 bt415.2.1 bt415.2.2.1 bt426.1 bt426.2.1 bt426.2.2.1).bind fun t437 => (if t437 = true then (if (bt415.2.2.2 != bt426.2.2.2) = true then (laws_FnPutRootOthers.j0 k bt415.2.2.2 bt426.2.2.2 true bt403.1 bt403.2.1 bt403.2.2.1 bt415.1 bt415.2.1 bt415.2.2.1 bt426.1 bt426.2.1 bt426.2.2.1) else (laws_FnPutRootOthers.j0 k bt415.2.2.2 bt426.2.2.2 (!bt415.2.2.2) bt403.1 bt403.2.1 bt403.2.2.1 bt415.1 bt415.2.1 bt415.2.2.1 bt426.1 bt426.2.1 bt426.2.2.1)) else (laws_FnPutRootOthers.j0 k bt415.2.2.2 bt426.2.2.2 true bt403.1 bt403.2.1 bt403.2.2.1 bt415.1 bt415.2.1 bt415.2.2.1 bt426.1 bt426.2.1 bt426.2.2.1))))))) = some r := h
 clear h
 by_cases c2 : (l0.length : Int) > 1048576
 ·rw [if_pos c2] at H
  have c2b0 : decide (1048576 < (l0.length : Int)) = true := decide_eq_true c2
  have c2b1 : decide (1048576 < l0.length) = true := decide_eq_true (by omega)
  clear c2
  obtain rfl := Option.some.inj H
  go_enter Try.func4, Try.ntmps4
  go_wp2
  go_ret
  exact ⟨by first | rfl | (simp [errW_none, errW_some] <;> rfl) | (simp [*, errW_none, errW_some] <;> rfl), by exact bs0 HB.out⟩
 ·rw [if_neg c2] at H
  have c2b0 : decide (1048576 < (l0.length : Int)) = false := decide_eq_false c2
  have c2b1 : decide (1048576 < l0.length) = false := decide_eq_false (by omega)
  clear c2
  replace H := Option.bind_eq_some_iff.mp H
  obtain ⟨⟨t403, t406, t409, t412, t413⟩, A30, H⟩ := H
  replace H : ((impl_PutRoot.f k t403 t406 t409 t412 t413).bind fun bt415 => ((spec_PutRoot.f k t403 t406 t409 t412 t413).bind fun bt426 => ((impl_HeapSame.f k bt415.1 bt415.2.1 bt415.2.2.1 bt426.1 bt426.2.1 bt426.2.2.1).bind fun t437 => (if t437 = true then (if (bt415.2.2.2 != bt426.2.2.2) = true then (laws_FnPutRootOthers.j0 k bt415.2.2.2 bt426.2.2.2 true t403 t406 t409 bt415.1 bt415.2.1 bt415.2.2.1 bt426.1 bt426.2.1 bt426.2.2.1) else (laws_FnPutRootOthers.j0 k bt415.2.2.2 bt426.2.2.2 (!bt415.2.2.2) t403 t406 t409 bt415.1 bt415.2.1 bt415.2.2.1 bt426.1 bt426.2.1 bt426.2.2.1)) else (laws_FnPutRootOthers.j0 k bt415.2.2.2 bt426.2.2.2 true t403 t406 t409 bt415.1 bt415.2.1 bt415.2.2.1 bt426.1 bt426.2.1 bt426.2.2.1))))) = some r := H
  have A3 := am A30
  clear A30
  replace H := Option.bind_eq_some_iff.mp H
  obtain ⟨⟨t415, t418, t421, t424⟩, A40, H⟩ := H
  replace H : ((spec_PutRoot.f k t403 t406 t409 t412 t413).bind fun bt426 => ((impl_HeapSame.f k t415 t418 t421 bt426.1 bt426.2.1 bt426.2.2.1).bind fun t437 => (if t437 = true then (if (t424 != bt426.2.2.2) = true then (laws_FnPutRootOthers.j0 k t424 bt426.2.2.2 true t403 t406 t409 t415 t418 t421 bt426.1 bt426.2.1 bt426.2.2.1) else (laws_FnPutRootOthers.j0 k t424 bt426.2.2.2 (!t424) t403 t406 t409 t415 t418 t421 bt426.1 bt426.2.1 bt426.2.2.1)) else (laws_FnPutRootOthers.j0 k t424 bt426.2.2.2 true t403 t406 t409 t415 t418 t421 bt426.1 bt426.2.1 bt426.2.2.1)))) = some r := H
  have A4 := am A40
  clear A40
  replace H := Option.bind_eq_some_iff.mp H
  obtain ⟨⟨t426, t429, t432, t435⟩, A50, H⟩ := H
  replace H : ((impl_HeapSame.f k t415 t418 t421 t426 t429 t432).bind fun t437 => (if t437 = true then (if (t424 != t435) = true then (laws_FnPutRootOthers.j0 k t424 t435 true t403 t406 t409 t415 t418 t421 t426 t429 t432) else (laws_FnPutRootOthers.j0 k t424 t435 (!t424) t403 t406 t409 t415 t418 t421 t426 t429 t432)) else (laws_FnPutRootOthers.j0 k t424 t435 true t403 t406 t409 t415 t418 t421 t426 t429 t432))) = some r := H
  have A5 := am A50
  clear A50
  have HC6 := am H
  clear H
  go_enter Try.func4, Try.ntmps4
  go_upto_region 6 with (first | ((with_reducible refine gate_callee (f := 13) rfl ?_); refine goesL_ (some 16) rfl rfl Try.func13 (by kernel_rfl) rfl #[.slice A0 l0.length c0] rfl (by (try simp only [List.map_toArray, List.map_cons, List.map_nil]); first | done | rfl | (simp only [List.length_drop, List.length_take]; rfl)) ?_; (with_reducible refine (spec_DrawPutRoot.calls k _ _ l0 t403 t406 t409 t412 t413 _ ?side1 ?side2 A3.out).mono ?_); (case side1 => exact cl (HR0.out)); (case side2 => exact HC0.out); rintro e w7 ⟨v404, v407, v410, rfl, ho0, ho1, ho2, hb⟩; refine ⟨_, rfl, ?_⟩; have HO405 := am (Kd.R_lower ho0 (below_size (bl HB.out))); have HO408 := am (Kd.R_lower ho1 (below_size (bl HB.out))); have HO411 := am (Kd.R_lower ho2 (below_size (bl HB.out))); replace HB := am (below_step (bl HB.out) hb); (try clear hb); (try clear hb2); (try clear hk); (try clear hi); (try clear ho0); (try clear ho1); (try clear ho2)) | ((with_reducible refine gate_dst (N := 3) rfl ?_); refine box_event ?hg (N := 3) ?hd (cs := #[.slice none 0 0, .slice none 0 0, .slice none 0 0]) (t := 25) ?hr ?_; (case hd => rfl); (case hg => rfl); (case hr => first | (go_simp; done) | (go_simp; rfl)); intro gb414 hg w8 hbox hb; replace HO405 := am (Kd.R_below (rl HO405.out) hb); replace HO408 := am (Kd.R_below (rl HO408.out) hb); replace HO411 := am (Kd.R_below (rl HO411.out) hb); have BK414 := am (hbox); have GW414 := am ((by rw [hg]; exact (below_size (bl HB.out)) : w.heap.size ≤ gb414)); have GE414 := am ((by rw [hg]; exact (below_size (bl HB.out)) : w.heap.size ≤ gb414)); replace HB := am (below_step (bl HB.out) hb); clear hb hbox hg; obtain ⟨Ao9, co9, eo9⟩ := Kd.R_slice HO405.out; subst eo9; have hcz10_0 : w8.cell? ⟨gb414, 0, none⟩ = some (.slice none 0 0) := (blk_cell BK414.out 0).trans rfl; have hcz10_1 : w8.cell? ⟨gb414, 1, none⟩ = some (.slice none 0 0) := (blk_cell BK414.out 1).trans rfl; have hcz10_2 : w8.cell? ⟨gb414, 2, none⟩ = some (.slice none 0 0) := (blk_cell BK414.out 2).trans rfl; have hfz10_0 := blk_frozen BK414.out 0; have hfz10_1 := blk_frozen BK414.out 1; have hfz10_2 := blk_frozen BK414.out 2; obtain ⟨Ao11, co11, eo11⟩ := Kd.R_slice HO408.out; subst eo11; obtain ⟨Ao12, co12, eo12⟩ := Kd.R_slice HO411.out; subst eo12) | ((with_reducible refine gate_callee (f := 14) rfl ?_); refine goesL_ (some 24) rfl rfl Try.func14 (by kernel_rfl) rfl #[.agg #[.slice Ao9 t403.length co9, .slice Ao11 t406.length co11, .slice Ao12 t409.length co12], .int .i64 t412, .int .i64 t413] rfl (by (try simp only [List.map_toArray, List.map_cons, List.map_nil]); first | done | rfl | (simp only [List.length_drop, List.length_take]; rfl)) ?_; (with_reducible refine (impl_PutRoot.calls k _ _ t403 _ _ t406 _ _ t409 t412 t413 t415 t418 t421 t424 _ ?side1 ?side2 ?side3 ?side4 ?side5 ?side6 A4.out).mono ?_); (case side1 => exact (Kd.R_reads' (rf1 BK414.out HO405.out)).2.2); (case side2 => exact (Kd.R_reads' HO405.out).2.1); (case side3 => exact (Kd.R_reads' (rf1 BK414.out HO408.out)).2.2); (case side4 => exact (Kd.R_reads' HO408.out).2.1); (case side5 => exact (Kd.R_reads' (rf1 BK414.out HO411.out)).2.2); (case side6 => exact (Kd.R_reads' HO411.out).2.1); rintro e w13 ⟨v416, v419, v422, rfl, ho0, ho1, ho2, hb⟩; refine ⟨_, rfl, ?_⟩; have HO417 := am (Kd.R_lower (Kd.R_new' (Kd.R_new' (Kd.R_new' ho0 (Kd.R_lt (rf1 BK414.out HO405.out))) (Kd.R_lt (rf1 BK414.out HO408.out))) (Kd.R_lt (rf1 BK414.out HO411.out))) (below_size (bs1 GE414.out HB.out))); have HO420 := am (Kd.R_lower (Kd.R_new' (Kd.R_new' (Kd.R_new' ho1 (Kd.R_lt (rf1 BK414.out HO405.out))) (Kd.R_lt (rf1 BK414.out HO408.out))) (Kd.R_lt (rf1 BK414.out HO411.out))) (below_size (bs1 GE414.out HB.out))); have HO423 := am (Kd.R_lower (Kd.R_new' (Kd.R_new' (Kd.R_new' ho2 (Kd.R_lt (rf1 BK414.out HO405.out))) (Kd.R_lt (rf1 BK414.out HO408.out))) (Kd.R_lt (rf1 BK414.out HO411.out))) (below_size (bs1 GE414.out HB.out))); replace HO405 := am (Kd.R_mono (Kd.R_told (Kd.R_told (Kd.R_told (Kd.R_old (rf1 BK414.out HO405.out) hb) (Kd.R_base ho0)) (Kd.R_base ho1)) (Kd.R_base ho2)) (fun _ h_ => h_.1)); replace HO408 := am (Kd.R_mono (Kd.R_told (Kd.R_told (Kd.R_told (Kd.R_old (rf1 BK414.out HO408.out) hb) (Kd.R_base ho0)) (Kd.R_base ho1)) (Kd.R_base ho2)) (fun _ h_ => h_.1)); replace HO411 := am (Kd.R_mono (Kd.R_told (Kd.R_told (Kd.R_told (Kd.R_old (rf1 BK414.out HO411.out) hb) (Kd.R_base ho0)) (Kd.R_base ho1)) (Kd.R_base ho2)) (fun _ h_ => h_.1)); replace BK414 := am (blk_below (g := gb414) (o := .cells #[.slice Ao9 t403.length co9, .slice Ao11 t406.length co11, .slice Ao12 t409.length co12] 25 (0, 0)) (kp3 (kf0 BK414.out)) hb); replace HB := am (below_step (bs1 GE414.out HB.out) hb); (try clear hb); (try clear hb2); (try clear hk); (try clear hi); (try clear ho0); (try clear ho1); (try clear ho2)) | ((with_reducible refine gate_dst (N := 6) rfl ?_); refine box_event ?hg (N := 6) ?hd (cs := #[.slice none 0 0, .slice none 0 0, .slice none 0 0]) (t := 25) ?hr ?_; (case hd => rfl); (case hg => rfl); (case hr => first | (go_simp; done) | (go_simp; rfl)); intro gb425 hg w14 hbox hb; replace HO405 := am (Kd.R_below (rl HO405.out) hb); replace HO408 := am (Kd.R_below (rl HO408.out) hb); replace HO411 := am (Kd.R_below (rl HO411.out) hb); replace HO417 := am (Kd.R_below (rl HO417.out) hb); replace HO420 := am (Kd.R_below (rl HO420.out) hb); replace HO423 := am (Kd.R_below (rl HO423.out) hb); have BK425 := am (hbox); have GW425 := am ((by rw [hg]; exact (below_size (bs1 GE414.out HB.out)) : w.heap.size ≤ gb425)); have GE425 := am ((by rw [hg]; exact (below_size (bs1 GE414.out HB.out)) : w.heap.size ≤ gb425)); replace HB := am (below_step (bs1 GE414.out HB.out) hb); have NB414_425 := am ((by rw [hg]; exact Nat.ne_of_lt (blk_lt (g := gb414) (o := .cells #[.slice Ao9 t403.length co9, .slice Ao11 t406.length co11, .slice Ao12 t409.length co12] 25 (0, 0)) (kl BK414.out)) : gb414 ≠ gb425)); have NB425_414 := am ((by rw [hg]; exact Nat.ne_of_gt (blk_lt (g := gb414) (o := .cells #[.slice Ao9 t403.length co9, .slice Ao11 t406.length co11, .slice Ao12 t409.length co12] 25 (0, 0)) (kl BK414.out)) : gb425 ≠ gb414)); replace BK414 := am (blk_below (g := gb414) (o := .cells #[.slice Ao9 t403.length co9, .slice Ao11 t406.length co11, .slice Ao12 t409.length co12] 25 (0, 0)) (kl BK414.out) hb); clear hb hbox hg; obtain ⟨Ao15, co15, eo15⟩ := Kd.R_slice HO417.out; subst eo15; have hnb16 := NB425_414.out; have hnc16 := NB414_425.out; have hcz17_0 : w14.cell? ⟨gb425, 0, none⟩ = some (.slice none 0 0) := (blk_cell BK425.out 0).trans rfl; have hcz17_1 : w14.cell? ⟨gb425, 1, none⟩ = some (.slice none 0 0) := (blk_cell BK425.out 1).trans rfl; have hcz17_2 : w14.cell? ⟨gb425, 2, none⟩ = some (.slice none 0 0) := (blk_cell BK425.out 2).trans rfl; have hfz17_0 := blk_frozen BK425.out 0; have hfz17_1 := blk_frozen BK425.out 1; have hfz17_2 := blk_frozen BK425.out 2; obtain ⟨Ao18, co18, eo18⟩ := Kd.R_slice HO420.out; subst eo18; obtain ⟨Ao19, co19, eo19⟩ := Kd.R_slice HO423.out; subst eo19; have hcz20_0 : w14.cell? ⟨gb414, 0, none⟩ = some (.slice Ao9 t403.length co9) := (blk_cell BK414.out 0).trans rfl; have hcz20_1 : w14.cell? ⟨gb414, 1, none⟩ = some (.slice Ao11 t406.length co11) := (blk_cell BK414.out 1).trans rfl; have hcz20_2 : w14.cell? ⟨gb414, 2, none⟩ = some (.slice Ao12 t409.length co12) := (blk_cell BK414.out 2).trans rfl; have hfz20_0 := blk_frozen BK414.out 0; have hfz20_1 := blk_frozen BK414.out 1; have hfz20_2 := blk_frozen BK414.out 2) | ((with_reducible refine gate_callee (f := 15) rfl ?_); refine goesL_ (some 31) rfl rfl Try.func15 (by kernel_rfl) rfl #[.agg #[.slice Ao9 t403.length co9, .slice Ao11 t406.length co11, .slice Ao12 t409.length co12], .int .i64 t412, .int .i64 t413] rfl (by (try simp only [List.map_toArray, List.map_cons, List.map_nil]); first | done | rfl | (simp only [List.length_drop, List.length_take]; rfl)) ?_; (with_reducible refine (spec_PutRoot.calls k _ _ t403 _ _ t406 _ _ t409 t412 t413 t426 t429 t432 t435 _ ?side1 ?side2 ?side3 ?side4 ?side5 ?side6 A5.out).mono ?_); (case side1 => exact (Kd.R_reads' (rf1 BK425.out HO405.out)).2.2); (case side2 => exact (Kd.R_reads' HO405.out).2.1); (case side3 => exact (Kd.R_reads' (rf1 BK425.out HO408.out)).2.2); (case side4 => exact (Kd.R_reads' HO408.out).2.1); (case side5 => exact (Kd.R_reads' (rf1 BK425.out HO411.out)).2.2); (case side6 => exact (Kd.R_reads' HO411.out).2.1); rintro e w21 ⟨v427, v430, v433, rfl, ho0, ho1, ho2, hb⟩; refine ⟨_, rfl, ?_⟩; have HO428 := am (Kd.R_lower (Kd.R_new' (Kd.R_new' (Kd.R_new' (Kd.R_new' (Kd.R_new' (Kd.R_new' ho0 (Kd.R_lt (rf1 BK425.out HO405.out))) (Kd.R_lt (rf1 BK425.out HO408.out))) (Kd.R_lt (rf1 BK425.out HO411.out))) (Kd.R_lt (rf1 BK425.out HO417.out))) (Kd.R_lt (rf1 BK425.out HO420.out))) (Kd.R_lt (rf1 BK425.out HO423.out))) (below_size (bs2 GE414.out GE425.out HB.out))); have HO431 := am (Kd.R_lower (Kd.R_new' (Kd.R_new' (Kd.R_new' (Kd.R_new' (Kd.R_new' (Kd.R_new' ho1 (Kd.R_lt (rf1 BK425.out HO405.out))) (Kd.R_lt (rf1 BK425.out HO408.out))) (Kd.R_lt (rf1 BK425.out HO411.out))) (Kd.R_lt (rf1 BK425.out HO417.out))) (Kd.R_lt (rf1 BK425.out HO420.out))) (Kd.R_lt (rf1 BK425.out HO423.out))) (below_size (bs2 GE414.out GE425.out HB.out))); have HO434 := am (Kd.R_lower (Kd.R_new' (Kd.R_new' (Kd.R_new' (Kd.R_new' (Kd.R_new' (Kd.R_new' ho2 (Kd.R_lt (rf1 BK425.out HO405.out))) (Kd.R_lt (rf1 BK425.out HO408.out))) (Kd.R_lt (rf1 BK425.out HO411.out))) (Kd.R_lt (rf1 BK425.out HO417.out))) (Kd.R_lt (rf1 BK425.out HO420.out))) (Kd.R_lt (rf1 BK425.out HO423.out))) (below_size (bs2 GE414.out GE425.out HB.out))); replace HO405 := am (Kd.R_mono (Kd.R_told (Kd.R_told (Kd.R_told (Kd.R_old (rf1 BK425.out HO405.out) hb) (Kd.R_base ho0)) (Kd.R_base ho1)) (Kd.R_base ho2)) (fun _ h_ => h_.1)); replace HO408 := am (Kd.R_mono (Kd.R_told (Kd.R_told (Kd.R_told (Kd.R_old (rf1 BK425.out HO408.out) hb) (Kd.R_base ho0)) (Kd.R_base ho1)) (Kd.R_base ho2)) (fun _ h_ => h_.1)); replace HO411 := am (Kd.R_mono (Kd.R_told (Kd.R_told (Kd.R_told (Kd.R_old (rf1 BK425.out HO411.out) hb) (Kd.R_base ho0)) (Kd.R_base ho1)) (Kd.R_base ho2)) (fun _ h_ => h_.1)); replace HO417 := am (Kd.R_mono (Kd.R_told (Kd.R_told (Kd.R_told (Kd.R_old (rf1 BK425.out HO417.out) hb) (Kd.R_base ho0)) (Kd.R_base ho1)) (Kd.R_base ho2)) (fun _ h_ => h_.1)); replace HO420 := am (Kd.R_mono (Kd.R_told (Kd.R_told (Kd.R_told (Kd.R_old (rf1 BK425.out HO420.out) hb) (Kd.R_base ho0)) (Kd.R_base ho1)) (Kd.R_base ho2)) (fun _ h_ => h_.1)); replace HO423 := am (Kd.R_mono (Kd.R_told (Kd.R_told (Kd.R_told (Kd.R_old (rf1 BK425.out HO423.out) hb) (Kd.R_base ho0)) (Kd.R_base ho1)) (Kd.R_base ho2)) (fun _ h_ => h_.1)); replace BK414 := am (blk_below (g := gb414) (o := .cells #[.slice Ao9 t403.length co9, .slice Ao11 t406.length co11, .slice Ao12 t409.length co12] 25 (0, 0)) (kf1 NB414_425.out BK414.out) hb); replace BK425 := am (blk_below (g := gb425) (o := .cells #[.slice Ao15 t415.length co15, .slice Ao18 t418.length co18, .slice Ao19 t421.length co19] 25 (0, 0)) (kp3 (kf0 BK425.out)) hb); replace HB := am (below_step (bs2 GE414.out GE425.out HB.out) hb); (try clear hb); (try clear hb2); (try clear hk); (try clear hi); (try clear ho0); (try clear ho1); (try clear ho2)) | ((with_reducible refine gate_dst (N := 8) rfl ?_); refine box_event ?hg (N := 8) ?hd (cs := #[.slice none 0 0, .slice none 0 0, .slice none 0 0]) (t := 25) ?hr ?_; (case hd => rfl); (case hg => rfl); (case hr => first | (go_simp; done) | (go_simp; rfl)); intro gb436 hg w22 hbox hb; replace HO405 := am (Kd.R_below (rl HO405.out) hb); replace HO408 := am (Kd.R_below (rl HO408.out) hb); replace HO411 := am (Kd.R_below (rl HO411.out) hb); replace HO417 := am (Kd.R_below (rl HO417.out) hb); replace HO420 := am (Kd.R_below (rl HO420.out) hb); replace HO423 := am (Kd.R_below (rl HO423.out) hb); replace HO428 := am (Kd.R_below (rl HO428.out) hb); replace HO431 := am (Kd.R_below (rl HO431.out) hb); replace HO434 := am (Kd.R_below (rl HO434.out) hb); have BK436 := am (hbox); have GW436 := am ((by rw [hg]; exact (below_size (bs2 GE414.out GE425.out HB.out)) : w.heap.size ≤ gb436)); have GE436 := am ((by rw [hg]; exact (below_size (bs2 GE414.out GE425.out HB.out)) : w.heap.size ≤ gb436)); replace HB := am (below_step (bs2 GE414.out GE425.out HB.out) hb); have NB414_436 := am ((by rw [hg]; exact Nat.ne_of_lt (blk_lt (g := gb414) (o := .cells #[.slice Ao9 t403.length co9, .slice Ao11 t406.length co11, .slice Ao12 t409.length co12] 25 (0, 0)) (kl BK414.out)) : gb414 ≠ gb436)); have NB436_414 := am ((by rw [hg]; exact Nat.ne_of_gt (blk_lt (g := gb414) (o := .cells #[.slice Ao9 t403.length co9, .slice Ao11 t406.length co11, .slice Ao12 t409.length co12] 25 (0, 0)) (kl BK414.out)) : gb436 ≠ gb414)); replace BK414 := am (blk_below (g := gb414) (o := .cells #[.slice Ao9 t403.length co9, .slice Ao11 t406.length co11, .slice Ao12 t409.length co12] 25 (0, 0)) (kl BK414.out) hb); have NB425_436 := am ((by rw [hg]; exact Nat.ne_of_lt (blk_lt (g := gb425) (o := .cells #[.slice Ao15 t415.length co15, .slice Ao18 t418.length co18, .slice Ao19 t421.length co19] 25 (0, 0)) (kl BK425.out)) : gb425 ≠ gb436)); have NB436_425 := am ((by rw [hg]; exact Nat.ne_of_gt (blk_lt (g := gb425) (o := .cells #[.slice Ao15 t415.length co15, .slice Ao18 t418.length co18, .slice Ao19 t421.length co19] 25 (0, 0)) (kl BK425.out)) : gb436 ≠ gb425)); replace BK425 := am (blk_below (g := gb425) (o := .cells #[.slice Ao15 t415.length co15, .slice Ao18 t418.length co18, .slice Ao19 t421.length co19] 25 (0, 0)) (kl BK425.out) hb); clear hb hbox hg; obtain ⟨Ao23, co23, eo23⟩ := Kd.R_slice HO428.out; subst eo23; have hnb24 := NB436_414.out; have hnc24 := NB414_436.out; have hnb25 := NB436_425.out; have hnc25 := NB425_436.out; have hcz26_0 : w22.cell? ⟨gb436, 0, none⟩ = some (.slice none 0 0) := (blk_cell BK436.out 0).trans rfl; have hcz26_1 : w22.cell? ⟨gb436, 1, none⟩ = some (.slice none 0 0) := (blk_cell BK436.out 1).trans rfl; have hcz26_2 : w22.cell? ⟨gb436, 2, none⟩ = some (.slice none 0 0) := (blk_cell BK436.out 2).trans rfl; have hfz26_0 := blk_frozen BK436.out 0; have hfz26_1 := blk_frozen BK436.out 1; have hfz26_2 := blk_frozen BK436.out 2; obtain ⟨Ao27, co27, eo27⟩ := Kd.R_slice HO431.out; subst eo27; obtain ⟨Ao28, co28, eo28⟩ := Kd.R_slice HO434.out; subst eo28))
  (try simp only [Act.put, List.setIfInBounds_toArray, List.set_cons_zero, List.set_cons_succ])
  go_cut [46] (fun v46 wc => ∃ (kq : Nat) (x46_5 : Bool), v46 = .bool x46_5 ∧ Aside0 (laws_FnPutRootOthers.j0 kq t424 t435 x46_5 t403 t406 t409 t415 t418 t421 t426 t429 t432 = some r) ∧ Aside0 (kq ≤ k) ∧ Aside0 (Kd.R (Kd.int .i64) 3 wc w.heap.size (fun k_ => some k_ ≠ ((.slice Ao11 t406.length co11) : Value).ownBlock ∧ some k_ ≠ ((.slice Ao12 t409.length co12) : Value).ownBlock ∧ some k_ ≠ ((.slice Ao15 t415.length co15) : Value).ownBlock ∧ some k_ ≠ ((.slice Ao18 t418.length co18) : Value).ownBlock ∧ some k_ ≠ ((.slice Ao19 t421.length co19) : Value).ownBlock ∧ some k_ ≠ ((.slice Ao23 t426.length co23) : Value).ownBlock ∧ some k_ ≠ ((.slice Ao27 t429.length co27) : Value).ownBlock ∧ some k_ ≠ ((.slice Ao28 t432.length co28) : Value).ownBlock) (.slice Ao9 t403.length co9) t403) ∧ Aside0 (Kd.R (Kd.int .i64) 3 wc w.heap.size (fun k_ => some k_ ≠ ((.slice Ao9 t403.length co9) : Value).ownBlock ∧ some k_ ≠ ((.slice Ao12 t409.length co12) : Value).ownBlock ∧ some k_ ≠ ((.slice Ao15 t415.length co15) : Value).ownBlock ∧ some k_ ≠ ((.slice Ao18 t418.length co18) : Value).ownBlock ∧ some k_ ≠ ((.slice Ao19 t421.length co19) : Value).ownBlock ∧ some k_ ≠ ((.slice Ao23 t426.length co23) : Value).ownBlock ∧ some k_ ≠ ((.slice Ao27 t429.length co27) : Value).ownBlock ∧ some k_ ≠ ((.slice Ao28 t432.length co28) : Value).ownBlock) (.slice Ao11 t406.length co11) t406) ∧ Aside0 (Kd.R (Kd.int .i64) 3 wc w.heap.size (fun k_ => some k_ ≠ ((.slice Ao9 t403.length co9) : Value).ownBlock ∧ some k_ ≠ ((.slice Ao11 t406.length co11) : Value).ownBlock ∧ some k_ ≠ ((.slice Ao15 t415.length co15) : Value).ownBlock ∧ some k_ ≠ ((.slice Ao18 t418.length co18) : Value).ownBlock ∧ some k_ ≠ ((.slice Ao19 t421.length co19) : Value).ownBlock ∧ some k_ ≠ ((.slice Ao23 t426.length co23) : Value).ownBlock ∧ some k_ ≠ ((.slice Ao27 t429.length co27) : Value).ownBlock ∧ some k_ ≠ ((.slice Ao28 t432.length co28) : Value).ownBlock) (.slice Ao12 t409.length co12) t409) ∧ Aside0 (Kd.R (Kd.int .i64) 3 wc w.heap.size (fun k_ => some k_ ≠ ((.slice Ao9 t403.length co9) : Value).ownBlock ∧ some k_ ≠ ((.slice Ao11 t406.length co11) : Value).ownBlock ∧ some k_ ≠ ((.slice Ao12 t409.length co12) : Value).ownBlock ∧ some k_ ≠ ((.slice Ao18 t418.length co18) : Value).ownBlock ∧ some k_ ≠ ((.slice Ao19 t421.length co19) : Value).ownBlock ∧ some k_ ≠ ((.slice Ao23 t426.length co23) : Value).ownBlock ∧ some k_ ≠ ((.slice Ao27 t429.length co27) : Value).ownBlock ∧ some k_ ≠ ((.slice Ao28 t432.length co28) : Value).ownBlock) (.slice Ao15 t415.length co15) t415) ∧ Aside0 (Kd.R (Kd.int .i64) 3 wc w.heap.size (fun k_ => some k_ ≠ ((.slice Ao9 t403.length co9) : Value).ownBlock ∧ some k_ ≠ ((.slice Ao11 t406.length co11) : Value).ownBlock ∧ some k_ ≠ ((.slice Ao12 t409.length co12) : Value).ownBlock ∧ some k_ ≠ ((.slice Ao15 t415.length co15) : Value).ownBlock ∧ some k_ ≠ ((.slice Ao19 t421.length co19) : Value).ownBlock ∧ some k_ ≠ ((.slice Ao23 t426.length co23) : Value).ownBlock ∧ some k_ ≠ ((.slice Ao27 t429.length co27) : Value).ownBlock ∧ some k_ ≠ ((.slice Ao28 t432.length co28) : Value).ownBlock) (.slice Ao18 t418.length co18) t418) ∧ Aside0 (Kd.R (Kd.int .i64) 3 wc w.heap.size (fun k_ => some k_ ≠ ((.slice Ao9 t403.length co9) : Value).ownBlock ∧ some k_ ≠ ((.slice Ao11 t406.length co11) : Value).ownBlock ∧ some k_ ≠ ((.slice Ao12 t409.length co12) : Value).ownBlock ∧ some k_ ≠ ((.slice Ao15 t415.length co15) : Value).ownBlock ∧ some k_ ≠ ((.slice Ao18 t418.length co18) : Value).ownBlock ∧ some k_ ≠ ((.slice Ao23 t426.length co23) : Value).ownBlock ∧ some k_ ≠ ((.slice Ao27 t429.length co27) : Value).ownBlock ∧ some k_ ≠ ((.slice Ao28 t432.length co28) : Value).ownBlock) (.slice Ao19 t421.length co19) t421) ∧ Aside0 (Kd.R (Kd.int .i64) 3 wc w.heap.size (fun k_ => some k_ ≠ ((.slice Ao9 t403.length co9) : Value).ownBlock ∧ some k_ ≠ ((.slice Ao11 t406.length co11) : Value).ownBlock ∧ some k_ ≠ ((.slice Ao12 t409.length co12) : Value).ownBlock ∧ some k_ ≠ ((.slice Ao15 t415.length co15) : Value).ownBlock ∧ some k_ ≠ ((.slice Ao18 t418.length co18) : Value).ownBlock ∧ some k_ ≠ ((.slice Ao19 t421.length co19) : Value).ownBlock ∧ some k_ ≠ ((.slice Ao27 t429.length co27) : Value).ownBlock ∧ some k_ ≠ ((.slice Ao28 t432.length co28) : Value).ownBlock) (.slice Ao23 t426.length co23) t426) ∧ Aside0 (Kd.R (Kd.int .i64) 3 wc w.heap.size (fun k_ => some k_ ≠ ((.slice Ao9 t403.length co9) : Value).ownBlock ∧ some k_ ≠ ((.slice Ao11 t406.length co11) : Value).ownBlock ∧ some k_ ≠ ((.slice Ao12 t409.length co12) : Value).ownBlock ∧ some k_ ≠ ((.slice Ao15 t415.length co15) : Value).ownBlock ∧ some k_ ≠ ((.slice Ao18 t418.length co18) : Value).ownBlock ∧ some k_ ≠ ((.slice Ao19 t421.length co19) : Value).ownBlock ∧ some k_ ≠ ((.slice Ao23 t426.length co23) : Value).ownBlock ∧ some k_ ≠ ((.slice Ao28 t432.length co28) : Value).ownBlock) (.slice Ao27 t429.length co27) t429) ∧ Aside0 (Kd.R (Kd.int .i64) 3 wc w.heap.size (fun k_ => some k_ ≠ ((.slice Ao9 t403.length co9) : Value).ownBlock ∧ some k_ ≠ ((.slice Ao11 t406.length co11) : Value).ownBlock ∧ some k_ ≠ ((.slice Ao12 t409.length co12) : Value).ownBlock ∧ some k_ ≠ ((.slice Ao15 t415.length co15) : Value).ownBlock ∧ some k_ ≠ ((.slice Ao18 t418.length co18) : Value).ownBlock ∧ some k_ ≠ ((.slice Ao19 t421.length co19) : Value).ownBlock ∧ some k_ ≠ ((.slice Ao23 t426.length co23) : Value).ownBlock ∧ some k_ ≠ ((.slice Ao27 t429.length co27) : Value).ownBlock) (.slice Ao28 t432.length co28) t432) ∧ Aside0 (wc.heap[gb414]? = some (.cells #[(.slice Ao9 t403.length co9), (.slice Ao11 t406.length co11), (.slice Ao12 t409.length co12)] 25 (0, 0))) ∧ Aside0 (wc.heap[gb425]? = some (.cells #[(.slice Ao15 t415.length co15), (.slice Ao18 t418.length co18), (.slice Ao19 t421.length co19)] 25 (0, 0))) ∧ Aside0 (wc.heap[gb436]? = some (.cells #[(.slice Ao23 t426.length co23), (.slice Ao27 t429.length co27), (.slice Ao28 t432.length co28)] 25 (0, 0))) ∧ Aside0 (Below w.heap.size w wc))
  case first =>
   have H := HC6.out
   clear HC6
   replace H := Option.bind_eq_some_iff.mp H
   obtain ⟨t437, A290, H⟩ := H
   replace H : (if t437 = true then (if (t424 != t435) = true then (laws_FnPutRootOthers.j0 k t424 t435 true t403 t406 t409 t415 t418 t421 t426 t429 t432) else (laws_FnPutRootOthers.j0 k t424 t435 (!t424) t403 t406 t409 t415 t418 t421 t426 t429 t432)) else (laws_FnPutRootOthers.j0 k t424 t435 true t403 t406 t409 t415 t418 t421 t426 t429 t432)) = some r := H
   have A29 := am A290
   clear A290
   by_cases c30 : t437 = true
   ·subst c30
    have H1 : (if (t424 != t435) = true then (laws_FnPutRootOthers.j0 k t424 t435 true t403 t406 t409 t415 t418 t421 t426 t429 t432) else (laws_FnPutRootOthers.j0 k t424 t435 (!t424) t403 t406 t409 t415 t418 t421 t426 t429 t432)) = some r := by rw [if_pos rfl] at H; exact H
    clear H
    have H := H1
    clear H1
    by_cases c31 : (t424 != t435) = true
    ·rw [if_pos c31] at H
     have c31b0 : (t424 != t435) = true := c31
     (try (have c31b1 : decide (t424 = t435) = false := by simpa using c31))
     (try (have c31b2 : (t424 == t435) = false := by simpa using c31))
     (try (have c31b3 : ¬ (t424 = t435) := by simpa using c31))
     clear c31
     (first | rw [c31b0] | (simp only [i64_w, i32_w]; rw [c31b0]) | skip)
     have H' := am H
     clear H
     have hnb32 := NB425_414.out
     have hnc32 := NB414_425.out
     have hnb33 := NB425_436.out
     have hnc33 := NB436_425.out
     have hcz34_0 : w22.cell? ⟨gb425, 0, none⟩ = some (.slice Ao15 t415.length co15) := (blk_cell BK425.out 0).trans rfl
     have hcz34_1 : w22.cell? ⟨gb425, 1, none⟩ = some (.slice Ao18 t418.length co18) := (blk_cell BK425.out 1).trans rfl
     have hcz34_2 : w22.cell? ⟨gb425, 2, none⟩ = some (.slice Ao19 t421.length co19) := (blk_cell BK425.out 2).trans rfl
     have hfz34_0 := blk_frozen BK425.out 0
     have hfz34_1 := blk_frozen BK425.out 1
     have hfz34_2 := blk_frozen BK425.out 2
     have hnb35 := NB436_414.out
     have hnc35 := NB414_436.out
     have hcz36_0 : w22.cell? ⟨gb436, 0, none⟩ = some (.slice none 0 0) := (blk_cell BK436.out 0).trans rfl
     have hcz36_1 : w22.cell? ⟨gb436, 1, none⟩ = some (.slice none 0 0) := (blk_cell BK436.out 1).trans rfl
     have hcz36_2 : w22.cell? ⟨gb436, 2, none⟩ = some (.slice none 0 0) := (blk_cell BK436.out 2).trans rfl
     have hfz36_0 := blk_frozen BK436.out 0
     have hfz36_1 := blk_frozen BK436.out 1
     have hfz36_2 := blk_frozen BK436.out 2
     go_wp2_with (first | ((with_reducible refine gate_callee (f := 16) rfl ?_); refine goesL_ (some 36) rfl rfl Try.func16 (by kernel_rfl) rfl #[.agg #[.slice Ao15 t415.length co15, .slice Ao18 t418.length co18, .slice Ao19 t421.length co19], .agg #[.slice Ao23 t426.length co23, .slice Ao27 t429.length co27, .slice Ao28 t432.length co28]] rfl (by (try simp only [List.map_toArray, List.map_cons, List.map_nil]); first | done | rfl | (simp only [List.length_drop, List.length_take]; rfl)) ?_; (with_reducible refine (impl_HeapSame.calls k _ _ t415 _ _ t418 _ _ t421 _ _ t426 _ _ t429 _ _ t432 true _ ?side1 ?side2 ?side3 ?side4 ?side5 ?side6 ?side7 ?side8 ?side9 ?side10 ?side11 ?side12 A29.out).mono ?_); (case side1 => exact (Kd.R_reads' (rf1 BK436.out HO417.out)).2.2); (case side2 => exact (Kd.R_reads' HO417.out).2.1); (case side3 => exact (Kd.R_reads' (rf1 BK436.out HO420.out)).2.2); (case side4 => exact (Kd.R_reads' HO420.out).2.1); (case side5 => exact (Kd.R_reads' (rf1 BK436.out HO423.out)).2.2); (case side6 => exact (Kd.R_reads' HO423.out).2.1); (case side7 => exact (Kd.R_reads' (rf1 BK436.out HO428.out)).2.2); (case side8 => exact (Kd.R_reads' HO428.out).2.1); (case side9 => exact (Kd.R_reads' (rf1 BK436.out HO431.out)).2.2); (case side10 => exact (Kd.R_reads' HO431.out).2.1); (case side11 => exact (Kd.R_reads' (rf1 BK436.out HO434.out)).2.2); (case side12 => exact (Kd.R_reads' HO434.out).2.1); rintro e w37 ⟨rfl, hb⟩; refine ⟨_, rfl, ?_⟩; replace HO405 := am (Kd.R_below (rf1 BK436.out HO405.out) hb); replace HO408 := am (Kd.R_below (rf1 BK436.out HO408.out) hb); replace HO411 := am (Kd.R_below (rf1 BK436.out HO411.out) hb); replace HO417 := am (Kd.R_below (rf1 BK436.out HO417.out) hb); replace HO420 := am (Kd.R_below (rf1 BK436.out HO420.out) hb); replace HO423 := am (Kd.R_below (rf1 BK436.out HO423.out) hb); replace HO428 := am (Kd.R_below (rf1 BK436.out HO428.out) hb); replace HO431 := am (Kd.R_below (rf1 BK436.out HO431.out) hb); replace HO434 := am (Kd.R_below (rf1 BK436.out HO434.out) hb); replace BK414 := am (blk_below (g := gb414) (o := .cells #[.slice Ao9 t403.length co9, .slice Ao11 t406.length co11, .slice Ao12 t409.length co12] 25 (0, 0)) (kf1 NB414_436.out BK414.out) hb); replace BK425 := am (blk_below (g := gb425) (o := .cells #[.slice Ao15 t415.length co15, .slice Ao18 t418.length co18, .slice Ao19 t421.length co19] 25 (0, 0)) (kf1 NB425_436.out BK425.out) hb); replace BK436 := am (blk_below (g := gb436) (o := .cells #[.slice Ao23 t426.length co23, .slice Ao27 t429.length co27, .slice Ao28 t432.length co28] 25 (0, 0)) (kp3 (kf0 BK436.out)) hb); replace HB := am (below_step (bs3 GE414.out GE425.out GE436.out HB.out) hb); (try clear hb); (try clear hb2); (try clear hk); (try clear hi)))
     go_meet
     case rel => exact ⟨_, (true), (by first | rfl | (simp; done) | (simp [*]; done)), H', ⟨by first | omega | exact Nat.le_refl _⟩, ⟨rl (Kd.R_mono HO405.out (fun _ hk => by simp only [ne_eq] at hk ⊢; simp only [hk, not_false_eq_true, and_self]))⟩, ⟨rl (Kd.R_mono HO408.out (fun _ hk => by simp only [ne_eq] at hk ⊢; simp only [hk, not_false_eq_true, and_self]))⟩, ⟨rl (Kd.R_mono HO411.out (fun _ hk => by simp only [ne_eq] at hk ⊢; simp only [hk, not_false_eq_true, and_self]))⟩, ⟨rl (Kd.R_mono HO417.out (fun _ hk => by simp only [ne_eq] at hk ⊢; simp only [hk, not_false_eq_true, and_self]))⟩, ⟨rl (Kd.R_mono HO420.out (fun _ hk => by simp only [ne_eq] at hk ⊢; simp only [hk, not_false_eq_true, and_self]))⟩, ⟨rl (Kd.R_mono HO423.out (fun _ hk => by simp only [ne_eq] at hk ⊢; simp only [hk, not_false_eq_true, and_self]))⟩, ⟨rl (Kd.R_mono HO428.out (fun _ hk => by simp only [ne_eq] at hk ⊢; simp only [hk, not_false_eq_true, and_self]))⟩, ⟨rl (Kd.R_mono HO431.out (fun _ hk => by simp only [ne_eq] at hk ⊢; simp only [hk, not_false_eq_true, and_self]))⟩, ⟨rl (Kd.R_mono HO434.out (fun _ hk => by simp only [ne_eq] at hk ⊢; simp only [hk, not_false_eq_true, and_self]))⟩, ⟨kl BK414.out⟩, ⟨kl BK425.out⟩, ⟨kl BK436.out⟩, ⟨by exact bs3 GE414.out GE425.out GE436.out HB.out⟩⟩
    ·rw [if_neg c31] at H
     have c31b0 : (t424 != t435) = false := by simpa using c31
     (try (have c31b1 : decide (t424 = t435) = true := by simpa using c31))
     (try (have c31b2 : (t424 == t435) = true := by simpa using c31))
     clear c31
     (first | rw [c31b0] | (simp only [i64_w, i32_w]; rw [c31b0]) | skip)
     have H' := am H
     clear H
     have hnb38 := NB425_414.out
     have hnc38 := NB414_425.out
     have hnb39 := NB425_436.out
     have hnc39 := NB436_425.out
     have hcz40_0 : w22.cell? ⟨gb425, 0, none⟩ = some (.slice Ao15 t415.length co15) := (blk_cell BK425.out 0).trans rfl
     have hcz40_1 : w22.cell? ⟨gb425, 1, none⟩ = some (.slice Ao18 t418.length co18) := (blk_cell BK425.out 1).trans rfl
     have hcz40_2 : w22.cell? ⟨gb425, 2, none⟩ = some (.slice Ao19 t421.length co19) := (blk_cell BK425.out 2).trans rfl
     have hfz40_0 := blk_frozen BK425.out 0
     have hfz40_1 := blk_frozen BK425.out 1
     have hfz40_2 := blk_frozen BK425.out 2
     have hnb41 := NB436_414.out
     have hnc41 := NB414_436.out
     have hcz42_0 : w22.cell? ⟨gb436, 0, none⟩ = some (.slice none 0 0) := (blk_cell BK436.out 0).trans rfl
     have hcz42_1 : w22.cell? ⟨gb436, 1, none⟩ = some (.slice none 0 0) := (blk_cell BK436.out 1).trans rfl
     have hcz42_2 : w22.cell? ⟨gb436, 2, none⟩ = some (.slice none 0 0) := (blk_cell BK436.out 2).trans rfl
     have hfz42_0 := blk_frozen BK436.out 0
     have hfz42_1 := blk_frozen BK436.out 1
     have hfz42_2 := blk_frozen BK436.out 2
     go_wp2_with (first | ((with_reducible refine gate_callee (f := 16) rfl ?_); refine goesL_ (some 36) rfl rfl Try.func16 (by kernel_rfl) rfl #[.agg #[.slice Ao15 t415.length co15, .slice Ao18 t418.length co18, .slice Ao19 t421.length co19], .agg #[.slice Ao23 t426.length co23, .slice Ao27 t429.length co27, .slice Ao28 t432.length co28]] rfl (by (try simp only [List.map_toArray, List.map_cons, List.map_nil]); first | done | rfl | (simp only [List.length_drop, List.length_take]; rfl)) ?_; (with_reducible refine (impl_HeapSame.calls k _ _ t415 _ _ t418 _ _ t421 _ _ t426 _ _ t429 _ _ t432 true _ ?side1 ?side2 ?side3 ?side4 ?side5 ?side6 ?side7 ?side8 ?side9 ?side10 ?side11 ?side12 A29.out).mono ?_); (case side1 => exact (Kd.R_reads' (rf1 BK436.out HO417.out)).2.2); (case side2 => exact (Kd.R_reads' HO417.out).2.1); (case side3 => exact (Kd.R_reads' (rf1 BK436.out HO420.out)).2.2); (case side4 => exact (Kd.R_reads' HO420.out).2.1); (case side5 => exact (Kd.R_reads' (rf1 BK436.out HO423.out)).2.2); (case side6 => exact (Kd.R_reads' HO423.out).2.1); (case side7 => exact (Kd.R_reads' (rf1 BK436.out HO428.out)).2.2); (case side8 => exact (Kd.R_reads' HO428.out).2.1); (case side9 => exact (Kd.R_reads' (rf1 BK436.out HO431.out)).2.2); (case side10 => exact (Kd.R_reads' HO431.out).2.1); (case side11 => exact (Kd.R_reads' (rf1 BK436.out HO434.out)).2.2); (case side12 => exact (Kd.R_reads' HO434.out).2.1); rintro e w43 ⟨rfl, hb⟩; refine ⟨_, rfl, ?_⟩; replace HO405 := am (Kd.R_below (rf1 BK436.out HO405.out) hb); replace HO408 := am (Kd.R_below (rf1 BK436.out HO408.out) hb); replace HO411 := am (Kd.R_below (rf1 BK436.out HO411.out) hb); replace HO417 := am (Kd.R_below (rf1 BK436.out HO417.out) hb); replace HO420 := am (Kd.R_below (rf1 BK436.out HO420.out) hb); replace HO423 := am (Kd.R_below (rf1 BK436.out HO423.out) hb); replace HO428 := am (Kd.R_below (rf1 BK436.out HO428.out) hb); replace HO431 := am (Kd.R_below (rf1 BK436.out HO431.out) hb); replace HO434 := am (Kd.R_below (rf1 BK436.out HO434.out) hb); replace BK414 := am (blk_below (g := gb414) (o := .cells #[.slice Ao9 t403.length co9, .slice Ao11 t406.length co11, .slice Ao12 t409.length co12] 25 (0, 0)) (kf1 NB414_436.out BK414.out) hb); replace BK425 := am (blk_below (g := gb425) (o := .cells #[.slice Ao15 t415.length co15, .slice Ao18 t418.length co18, .slice Ao19 t421.length co19] 25 (0, 0)) (kf1 NB425_436.out BK425.out) hb); replace BK436 := am (blk_below (g := gb436) (o := .cells #[.slice Ao23 t426.length co23, .slice Ao27 t429.length co27, .slice Ao28 t432.length co28] 25 (0, 0)) (kp3 (kf0 BK436.out)) hb); replace HB := am (below_step (bs3 GE414.out GE425.out GE436.out HB.out) hb); (try clear hb); (try clear hb2); (try clear hk); (try clear hi)))
     go_meet
     case rel => exact ⟨_, (!t424), (by first | rfl | (simp; done) | (simp [*]; done)), H', ⟨by first | omega | exact Nat.le_refl _⟩, ⟨rl (Kd.R_mono HO405.out (fun _ hk => by simp only [ne_eq] at hk ⊢; simp only [hk, not_false_eq_true, and_self]))⟩, ⟨rl (Kd.R_mono HO408.out (fun _ hk => by simp only [ne_eq] at hk ⊢; simp only [hk, not_false_eq_true, and_self]))⟩, ⟨rl (Kd.R_mono HO411.out (fun _ hk => by simp only [ne_eq] at hk ⊢; simp only [hk, not_false_eq_true, and_self]))⟩, ⟨rl (Kd.R_mono HO417.out (fun _ hk => by simp only [ne_eq] at hk ⊢; simp only [hk, not_false_eq_true, and_self]))⟩, ⟨rl (Kd.R_mono HO420.out (fun _ hk => by simp only [ne_eq] at hk ⊢; simp only [hk, not_false_eq_true, and_self]))⟩, ⟨rl (Kd.R_mono HO423.out (fun _ hk => by simp only [ne_eq] at hk ⊢; simp only [hk, not_false_eq_true, and_self]))⟩, ⟨rl (Kd.R_mono HO428.out (fun _ hk => by simp only [ne_eq] at hk ⊢; simp only [hk, not_false_eq_true, and_self]))⟩, ⟨rl (Kd.R_mono HO431.out (fun _ hk => by simp only [ne_eq] at hk ⊢; simp only [hk, not_false_eq_true, and_self]))⟩, ⟨rl (Kd.R_mono HO434.out (fun _ hk => by simp only [ne_eq] at hk ⊢; simp only [hk, not_false_eq_true, and_self]))⟩, ⟨kl BK414.out⟩, ⟨kl BK425.out⟩, ⟨kl BK436.out⟩, ⟨by exact bs3 GE414.out GE425.out GE436.out HB.out⟩⟩
   ·replace c30 := Bool.eq_false_iff.mpr c30
    subst c30
    have H1 : (laws_FnPutRootOthers.j0 k t424 t435 true t403 t406 t409 t415 t418 t421 t426 t429 t432) = some r := by rw [if_neg (show ¬ (false = true) by decide)] at H; exact H
    clear H
    have H := H1
    clear H1
    have H' := am H
    clear H
    have hnb44 := NB425_414.out
    have hnc44 := NB414_425.out
    have hnb45 := NB425_436.out
    have hnc45 := NB436_425.out
    have hcz46_0 : w22.cell? ⟨gb425, 0, none⟩ = some (.slice Ao15 t415.length co15) := (blk_cell BK425.out 0).trans rfl
    have hcz46_1 : w22.cell? ⟨gb425, 1, none⟩ = some (.slice Ao18 t418.length co18) := (blk_cell BK425.out 1).trans rfl
    have hcz46_2 : w22.cell? ⟨gb425, 2, none⟩ = some (.slice Ao19 t421.length co19) := (blk_cell BK425.out 2).trans rfl
    have hfz46_0 := blk_frozen BK425.out 0
    have hfz46_1 := blk_frozen BK425.out 1
    have hfz46_2 := blk_frozen BK425.out 2
    have hnb47 := NB436_414.out
    have hnc47 := NB414_436.out
    have hcz48_0 : w22.cell? ⟨gb436, 0, none⟩ = some (.slice none 0 0) := (blk_cell BK436.out 0).trans rfl
    have hcz48_1 : w22.cell? ⟨gb436, 1, none⟩ = some (.slice none 0 0) := (blk_cell BK436.out 1).trans rfl
    have hcz48_2 : w22.cell? ⟨gb436, 2, none⟩ = some (.slice none 0 0) := (blk_cell BK436.out 2).trans rfl
    have hfz48_0 := blk_frozen BK436.out 0
    have hfz48_1 := blk_frozen BK436.out 1
    have hfz48_2 := blk_frozen BK436.out 2
    go_wp2_with (first | ((with_reducible refine gate_callee (f := 16) rfl ?_); refine goesL_ (some 36) rfl rfl Try.func16 (by kernel_rfl) rfl #[.agg #[.slice Ao15 t415.length co15, .slice Ao18 t418.length co18, .slice Ao19 t421.length co19], .agg #[.slice Ao23 t426.length co23, .slice Ao27 t429.length co27, .slice Ao28 t432.length co28]] rfl (by (try simp only [List.map_toArray, List.map_cons, List.map_nil]); first | done | rfl | (simp only [List.length_drop, List.length_take]; rfl)) ?_; (with_reducible refine (impl_HeapSame.calls k _ _ t415 _ _ t418 _ _ t421 _ _ t426 _ _ t429 _ _ t432 false _ ?side1 ?side2 ?side3 ?side4 ?side5 ?side6 ?side7 ?side8 ?side9 ?side10 ?side11 ?side12 A29.out).mono ?_); (case side1 => exact (Kd.R_reads' (rf1 BK436.out HO417.out)).2.2); (case side2 => exact (Kd.R_reads' HO417.out).2.1); (case side3 => exact (Kd.R_reads' (rf1 BK436.out HO420.out)).2.2); (case side4 => exact (Kd.R_reads' HO420.out).2.1); (case side5 => exact (Kd.R_reads' (rf1 BK436.out HO423.out)).2.2); (case side6 => exact (Kd.R_reads' HO423.out).2.1); (case side7 => exact (Kd.R_reads' (rf1 BK436.out HO428.out)).2.2); (case side8 => exact (Kd.R_reads' HO428.out).2.1); (case side9 => exact (Kd.R_reads' (rf1 BK436.out HO431.out)).2.2); (case side10 => exact (Kd.R_reads' HO431.out).2.1); (case side11 => exact (Kd.R_reads' (rf1 BK436.out HO434.out)).2.2); (case side12 => exact (Kd.R_reads' HO434.out).2.1); rintro e w49 ⟨rfl, hb⟩; refine ⟨_, rfl, ?_⟩; replace HO405 := am (Kd.R_below (rf1 BK436.out HO405.out) hb); replace HO408 := am (Kd.R_below (rf1 BK436.out HO408.out) hb); replace HO411 := am (Kd.R_below (rf1 BK436.out HO411.out) hb); replace HO417 := am (Kd.R_below (rf1 BK436.out HO417.out) hb); replace HO420 := am (Kd.R_below (rf1 BK436.out HO420.out) hb); replace HO423 := am (Kd.R_below (rf1 BK436.out HO423.out) hb); replace HO428 := am (Kd.R_below (rf1 BK436.out HO428.out) hb); replace HO431 := am (Kd.R_below (rf1 BK436.out HO431.out) hb); replace HO434 := am (Kd.R_below (rf1 BK436.out HO434.out) hb); replace BK414 := am (blk_below (g := gb414) (o := .cells #[.slice Ao9 t403.length co9, .slice Ao11 t406.length co11, .slice Ao12 t409.length co12] 25 (0, 0)) (kf1 NB414_436.out BK414.out) hb); replace BK425 := am (blk_below (g := gb425) (o := .cells #[.slice Ao15 t415.length co15, .slice Ao18 t418.length co18, .slice Ao19 t421.length co19] 25 (0, 0)) (kf1 NB425_436.out BK425.out) hb); replace BK436 := am (blk_below (g := gb436) (o := .cells #[.slice Ao23 t426.length co23, .slice Ao27 t429.length co27, .slice Ao28 t432.length co28] 25 (0, 0)) (kp3 (kf0 BK436.out)) hb); replace HB := am (below_step (bs3 GE414.out GE425.out GE436.out HB.out) hb); (try clear hb); (try clear hb2); (try clear hk); (try clear hi)))
    go_meet
    case rel => exact ⟨_, (true), (by first | rfl | (simp; done) | (simp [*]; done)), H', ⟨by first | omega | exact Nat.le_refl _⟩, ⟨rl (Kd.R_mono HO405.out (fun _ hk => by simp only [ne_eq] at hk ⊢; simp only [hk, not_false_eq_true, and_self]))⟩, ⟨rl (Kd.R_mono HO408.out (fun _ hk => by simp only [ne_eq] at hk ⊢; simp only [hk, not_false_eq_true, and_self]))⟩, ⟨rl (Kd.R_mono HO411.out (fun _ hk => by simp only [ne_eq] at hk ⊢; simp only [hk, not_false_eq_true, and_self]))⟩, ⟨rl (Kd.R_mono HO417.out (fun _ hk => by simp only [ne_eq] at hk ⊢; simp only [hk, not_false_eq_true, and_self]))⟩, ⟨rl (Kd.R_mono HO420.out (fun _ hk => by simp only [ne_eq] at hk ⊢; simp only [hk, not_false_eq_true, and_self]))⟩, ⟨rl (Kd.R_mono HO423.out (fun _ hk => by simp only [ne_eq] at hk ⊢; simp only [hk, not_false_eq_true, and_self]))⟩, ⟨rl (Kd.R_mono HO428.out (fun _ hk => by simp only [ne_eq] at hk ⊢; simp only [hk, not_false_eq_true, and_self]))⟩, ⟨rl (Kd.R_mono HO431.out (fun _ hk => by simp only [ne_eq] at hk ⊢; simp only [hk, not_false_eq_true, and_self]))⟩, ⟨rl (Kd.R_mono HO434.out (fun _ hk => by simp only [ne_eq] at hk ⊢; simp only [hk, not_false_eq_true, and_self]))⟩, ⟨kl BK414.out⟩, ⟨kl BK425.out⟩, ⟨kl BK436.out⟩, ⟨by exact bs3 GE414.out GE425.out GE436.out HB.out⟩⟩
  case rest =>
   clear HC6
   try clear c1
   try clear c2
   try clear c2b0
   try clear c2b1
   try clear p2
   try clear c3
   try clear c4
   try clear c13
   try clear c14
   try clear c15
   try clear c16
   try clear c24
   try clear c25
   try clear c30
   try clear c31
   try clear c31b0
   try clear c31b1
   try clear c31b2
   try clear c32
   try clear c33
   try clear c35
   try clear c38
   try clear c39
   try clear c41
   try clear c44
   try clear c45
   try clear c47
   try clear hcz10_0
   try clear hcz10_1
   try clear hcz10_2
   try clear hcz17_0
   try clear hcz17_1
   try clear hcz17_2
   try clear hcz20_0
   try clear hcz20_1
   try clear hcz20_2
   try clear hcz26_0
   try clear hcz26_1
   try clear hcz26_2
   try clear hcz34_0
   try clear hcz34_1
   try clear hcz34_2
   try clear hcz36_0
   try clear hcz36_1
   try clear hcz36_2
   try clear hcz40_0
   try clear hcz40_1
   try clear hcz40_2
   try clear hcz42_0
   try clear hcz42_1
   try clear hcz42_2
   try clear hcz46_0
   try clear hcz46_1
   try clear hcz46_2
   try clear hcz48_0
   try clear hcz48_1
   try clear hcz48_2
   try clear hfz10_0
   try clear hfz10_1
   try clear hfz10_2
   try clear hfz17_0
   try clear hfz17_1
   try clear hfz17_2
   try clear hfz20_0
   try clear hfz20_1
   try clear hfz20_2
   try clear hfz26_0
   try clear hfz26_1
   try clear hfz26_2
   try clear hfz34_0
   try clear hfz34_1
   try clear hfz34_2
   try clear hfz36_0
   try clear hfz36_1
   try clear hfz36_2
   try clear hfz40_0
   try clear hfz40_1
   try clear hfz40_2
   try clear hfz42_0
   try clear hfz42_1
   try clear hfz42_2
   try clear hfz46_0
   try clear hfz46_1
   try clear hfz46_2
   try clear hfz48_0
   try clear hfz48_1
   try clear hfz48_2
   obtain ⟨kq, x46_5, rfl, HA, HJ5, HO_415000, HO_415001, HO_415002, HO_426000, HO_426001, HO_426002, HO_437000, HO_437001, HO_437002, BK414, BK425, BK436, HB⟩ := hcut
   cases kq with
   | zero => exact absurd HA.out (by simp [laws_FnPutRootOthers.j0])
   | succ kj5 =>
    have H := HA.out
    clear HA
    simp only [laws_FnPutRootOthers.j0] at H
    by_cases c50 : x46_5 = true
    ·subst c50
     have H1 : ((impl_HeapSame.f kj5 t415 t418 t421 t426 t429 t432).bind fun t438 => (if t438 = true then (some (t424 == t435)) else (none))) = some r := by rw [if_pos rfl] at H; exact H
     clear H
     have H := H1
     clear H1
     replace H := Option.bind_eq_some_iff.mp H
     obtain ⟨t438, A510, H⟩ := H
     replace H : (if t438 = true then (some (t424 == t435)) else (none)) = some r := H
     have A51 := am A510
     clear A510
     by_cases c52 : t438 = true
     ·subst c52
      have H1 : (some (t424 == t435)) = some r := by rw [if_pos rfl] at H; exact H
      clear H
      have H := H1
      clear H1
      obtain rfl := Option.some.inj H
      have hnb53 := NB425_414.out
      have hnc53 := NB414_425.out
      have hnb54 := NB425_436.out
      have hnc54 := NB436_425.out
      have hcz55_0 : wc.cell? ⟨gb425, 0, none⟩ = some (.slice Ao15 t415.length co15) := (blk_cell BK425.out 0).trans rfl
      have hcz55_1 : wc.cell? ⟨gb425, 1, none⟩ = some (.slice Ao18 t418.length co18) := (blk_cell BK425.out 1).trans rfl
      have hcz55_2 : wc.cell? ⟨gb425, 2, none⟩ = some (.slice Ao19 t421.length co19) := (blk_cell BK425.out 2).trans rfl
      have hfz55_0 := blk_frozen BK425.out 0
      have hfz55_1 := blk_frozen BK425.out 1
      have hfz55_2 := blk_frozen BK425.out 2
      have hnb56 := NB436_414.out
      have hnc56 := NB414_436.out
      have hcz57_0 : wc.cell? ⟨gb436, 0, none⟩ = some (.slice Ao23 t426.length co23) := (blk_cell BK436.out 0).trans rfl
      have hcz57_1 : wc.cell? ⟨gb436, 1, none⟩ = some (.slice Ao27 t429.length co27) := (blk_cell BK436.out 1).trans rfl
      have hcz57_2 : wc.cell? ⟨gb436, 2, none⟩ = some (.slice Ao28 t432.length co28) := (blk_cell BK436.out 2).trans rfl
      have hfz57_0 := blk_frozen BK436.out 0
      have hfz57_1 := blk_frozen BK436.out 1
      have hfz57_2 := blk_frozen BK436.out 2
      go_wp2_with (first | ((with_reducible refine gate_callee (f := 16) rfl ?_); refine goesL_ (some 49) rfl rfl Try.func16 (by kernel_rfl) rfl #[.agg #[.slice Ao15 t415.length co15, .slice Ao18 t418.length co18, .slice Ao19 t421.length co19], .agg #[.slice Ao23 t426.length co23, .slice Ao27 t429.length co27, .slice Ao28 t432.length co28]] rfl (by (try simp only [List.map_toArray, List.map_cons, List.map_nil]); first | done | rfl | (simp only [List.length_drop, List.length_take]; rfl)) ?_; (with_reducible refine (impl_HeapSame.calls kj5 _ _ t415 _ _ t418 _ _ t421 _ _ t426 _ _ t429 _ _ t432 true _ ?side1 ?side2 ?side3 ?side4 ?side5 ?side6 ?side7 ?side8 ?side9 ?side10 ?side11 ?side12 A51.out).mono ?_); (case side1 => exact cl ((Kd.R_reads' HO_426000.out).2.2)); (case side2 => exact (Kd.R_reads' HO_426000.out).2.1); (case side3 => exact cl ((Kd.R_reads' HO_426001.out).2.2)); (case side4 => exact (Kd.R_reads' HO_426001.out).2.1); (case side5 => exact cl ((Kd.R_reads' HO_426002.out).2.2)); (case side6 => exact (Kd.R_reads' HO_426002.out).2.1); (case side7 => exact cl ((Kd.R_reads' HO_437000.out).2.2)); (case side8 => exact (Kd.R_reads' HO_437000.out).2.1); (case side9 => exact cl ((Kd.R_reads' HO_437001.out).2.2)); (case side10 => exact (Kd.R_reads' HO_437001.out).2.1); (case side11 => exact cl ((Kd.R_reads' HO_437002.out).2.2)); (case side12 => exact (Kd.R_reads' HO_437002.out).2.1); rintro e w58 ⟨rfl, hb⟩; refine ⟨_, rfl, ?_⟩; replace HO_415000 := am (Kd.R_below (rl HO_415000.out) hb); replace HO_415001 := am (Kd.R_below (rl HO_415001.out) hb); replace HO_415002 := am (Kd.R_below (rl HO_415002.out) hb); replace HO_426000 := am (Kd.R_below (rl HO_426000.out) hb); replace HO_426001 := am (Kd.R_below (rl HO_426001.out) hb); replace HO_426002 := am (Kd.R_below (rl HO_426002.out) hb); replace HO_437000 := am (Kd.R_below (rl HO_437000.out) hb); replace HO_437001 := am (Kd.R_below (rl HO_437001.out) hb); replace HO_437002 := am (Kd.R_below (rl HO_437002.out) hb); replace BK414 := am (blk_below (g := gb414) (o := .cells #[.slice Ao9 t403.length co9, .slice Ao11 t406.length co11, .slice Ao12 t409.length co12] 25 (0, 0)) (kl BK414.out) hb); replace BK425 := am (blk_below (g := gb425) (o := .cells #[.slice Ao15 t415.length co15, .slice Ao18 t418.length co18, .slice Ao19 t421.length co19] 25 (0, 0)) (kl BK425.out) hb); replace BK436 := am (blk_below (g := gb436) (o := .cells #[.slice Ao23 t426.length co23, .slice Ao27 t429.length co27, .slice Ao28 t432.length co28] 25 (0, 0)) (kl BK436.out) hb); replace HB := am (below_step (bs3 GE414.out GE425.out GE436.out HB.out) hb); (try clear hb); (try clear hb2); (try clear hk); (try clear hi)))
      go_ret
      exact ⟨by first | rfl | (simp [errW_none, errW_some] <;> rfl) | (simp [*, errW_none, errW_some] <;> rfl), by exact bs3 GE414.out GE425.out GE436.out HB.out⟩
     ·replace c52 := Bool.eq_false_iff.mpr c52
      subst c52
      have H1 : (none) = some r := by rw [if_neg (show ¬ (false = true) by decide)] at H; exact H
      clear H
      have H := H1
      clear H1
      exact absurd H (by simp)
    ·replace c50 := Bool.eq_false_iff.mpr c50
     subst c50
     have H1 : ((impl_CountPointers.f kj5 t415 t418 t421).bind fun t439 => ((impl_CountPointers.f kj5 t403 t406 t409).bind fun t440 => ((laws_ccInts.f kj5 t415 t403).bind fun t441 => (if t441 = true then ((laws_ccInts.f kj5 t418 t406).bind fun t442 => (if t442 = true then (if (wrap64 (t439 - t440)) ≥ (-1) then (some (decide ((wrap64 (t439 - t440)) ≤ 1))) else (none)) else (none))) else (none))))) = some r := by rw [if_neg (show ¬ (false = true) by decide)] at H; exact H
     clear H
     have H := H1
     clear H1
     replace H := Option.bind_eq_some_iff.mp H
     obtain ⟨t439, A590, H⟩ := H
     replace H : ((impl_CountPointers.f kj5 t403 t406 t409).bind fun t440 => ((laws_ccInts.f kj5 t415 t403).bind fun t441 => (if t441 = true then ((laws_ccInts.f kj5 t418 t406).bind fun t442 => (if t442 = true then (if (wrap64 (t439 - t440)) ≥ (-1) then (some (decide ((wrap64 (t439 - t440)) ≤ 1))) else (none)) else (none))) else (none)))) = some r := H
     have A59 := am A590
     clear A590
     replace H := Option.bind_eq_some_iff.mp H
     obtain ⟨t440, A600, H⟩ := H
     replace H : ((laws_ccInts.f kj5 t415 t403).bind fun t441 => (if t441 = true then ((laws_ccInts.f kj5 t418 t406).bind fun t442 => (if t442 = true then (if (wrap64 (t439 - t440)) ≥ (-1) then (some (decide ((wrap64 (t439 - t440)) ≤ 1))) else (none)) else (none))) else (none))) = some r := H
     have A60 := am A600
     clear A600
     replace H := Option.bind_eq_some_iff.mp H
     obtain ⟨t441, A610, H⟩ := H
     replace H : (if t441 = true then ((laws_ccInts.f kj5 t418 t406).bind fun t442 => (if t442 = true then (if (wrap64 (t439 - t440)) ≥ (-1) then (some (decide ((wrap64 (t439 - t440)) ≤ 1))) else (none)) else (none))) else (none)) = some r := H
     have A61 := am A610
     clear A610
     by_cases c62 : t441 = true
     ·subst c62
      have H1 : ((laws_ccInts.f kj5 t418 t406).bind fun t442 => (if t442 = true then (if (wrap64 (t439 - t440)) ≥ (-1) then (some (decide ((wrap64 (t439 - t440)) ≤ 1))) else (none)) else (none))) = some r := by rw [if_pos rfl] at H; exact H
      clear H
      have H := H1
      clear H1
      replace H := Option.bind_eq_some_iff.mp H
      obtain ⟨t442, A630, H⟩ := H
      replace H : (if t442 = true then (if (wrap64 (t439 - t440)) ≥ (-1) then (some (decide ((wrap64 (t439 - t440)) ≤ 1))) else (none)) else (none)) = some r := H
      have A63 := am A630
      clear A630
      by_cases c64 : t442 = true
      ·subst c64
       have H1 : (if (wrap64 (t439 - t440)) ≥ (-1) then (some (decide ((wrap64 (t439 - t440)) ≤ 1))) else (none)) = some r := by rw [if_pos rfl] at H; exact H
       clear H
       have H := H1
       clear H1
       by_cases c65 : (wrap64 (t439 - t440)) ≥ (-1)
       ·rw [if_pos c65] at H
        have c65b0 : decide ((-1) ≤ (wrap64 (t439 - t440))) = true := decide_eq_true c65
        clear c65
        obtain rfl := Option.some.inj H
        try go_wp2
        replace HO_415000 := am (Kd.R_drew HO_415000.out)
        replace HO_415001 := am (Kd.R_drew HO_415001.out)
        replace HO_415002 := am (Kd.R_drew HO_415002.out)
        replace HO_426000 := am (Kd.R_drew HO_426000.out)
        replace HO_426001 := am (Kd.R_drew HO_426001.out)
        replace HO_426002 := am (Kd.R_drew HO_426002.out)
        replace HO_437000 := am (Kd.R_drew HO_437000.out)
        replace HO_437001 := am (Kd.R_drew HO_437001.out)
        replace HO_437002 := am (Kd.R_drew HO_437002.out)
        replace BK414 := am (blk_drew BK414.out)
        replace BK425 := am (blk_drew BK425.out)
        replace BK436 := am (blk_drew BK436.out)
        replace HB := am (below_drew1 HB.out)
        refine start_ (n := 6) (S := fun w' => w'.cell? ⟨gb425, 0, none⟩ = some (.slice Ao15 t415.length co15) ∧ w'.cell? ⟨gb425, 1, none⟩ = some (.slice Ao18 t418.length co18) ∧ w'.cell? ⟨gb425, 2, none⟩ = some (.slice Ao19 t421.length co19) ∧ w'.cell? ⟨gb414, 0, none⟩ = some (.slice Ao9 t403.length co9) ∧ w'.cell? ⟨gb414, 1, none⟩ = some (.slice Ao11 t406.length co11) ∧ w'.cell? ⟨gb414, 2, none⟩ = some (.slice Ao12 t409.length co12)) (ds := []) #[false, false, false, false, false, false] (by kernel_rfl) rfl rfl ⟨(blk_cell BK425.out 0).trans rfl, (blk_cell BK425.out 1).trans rfl, (blk_cell BK425.out 2).trans rfl, (blk_cell BK414.out 0).trans rfl, (blk_cell BK414.out 1).trans rfl, (blk_cell BK414.out 2).trans rfl⟩ (fun hHeld => ?_)
        generalize wc.drew = w66 at HO_415000 HO_415001 HO_415002 HO_426000 HO_426001 HO_426002 HO_437000 HO_437001 HO_437002 BK414 BK425 BK436 HB hHeld ⊢
        refine take_ (i := 0) (N := some 55) (v := ?_) (a' := ?_) #[true, false, false, false, false, false] rfl rfl (by kernel_rfl) (fun _ _ _ h => h) (Or.inl ⟨by rfl, ?_⟩) hHeld ?_ ?_
        rotate_left
        ·rintro w' ⟨s0, s1, s2, s3, s4, s5⟩
         go_simp
         with_reducible rfl
        rotate_left
        ·simp only [Act.put, List.setIfInBounds_toArray, List.set_cons_zero, List.set_cons_succ, i64_w, i32_w]
         rfl
        refine take_ (i := 2) (N := some 57) (v := ?_) (a' := ?_) #[true, false, true, false, false, false] rfl rfl (by kernel_rfl) (fun _ _ _ h => h) (Or.inl ⟨by rfl, ?_⟩) hHeld ?_ ?_
        rotate_left
        ·rintro w' ⟨s0, s1, s2, s3, s4, s5⟩
         go_simp
         with_reducible rfl
        rotate_left
        ·simp only [Act.put, List.setIfInBounds_toArray, List.set_cons_zero, List.set_cons_succ, i64_w, i32_w]
         rfl
        refine one_ (i := 1) (N := some 56) #[true, true, true, false, false, false] rfl rfl (by kernel_rfl) (by decide) (fun K hK => ?_)
        refine goes_ Try.func18 (by kernel_rfl) rfl #[.agg #[.slice Ao15 t415.length co15, .slice Ao18 t418.length co18, .slice Ao19 t421.length co19]] (by rfl) rfl rfl (by (try simp only [List.map_toArray, List.map_cons, List.map_nil]); first | done | rfl | (simp only [List.length_drop, List.length_take]; rfl)) ?_
        with_reducible refine (impl_CountPointers.calls kj5 (fun k_ => some k_ = (.slice Ao15 t415.length co15 : Value).ownBlock) _ _ t415 (fun k_ => some k_ = (.slice Ao18 t418.length co18 : Value).ownBlock) _ _ t418 (fun k_ => some k_ = (.slice Ao19 t421.length co19 : Value).ownBlock) _ _ t421 t439 _ ?side1 ?side2 ?side3 A59.out).mono ?_
        (case side1 => exact Kd.R_V (Kd.R_tight rfl (Kd.R_types (Kd.R_types (Kd.R_types (HO_426000.out) BK414.out (by decide)) BK425.out (by decide)) BK436.out (by decide))))
        (case side2 => exact Kd.R_V (Kd.R_tight rfl (Kd.R_types (Kd.R_types (Kd.R_types (HO_426001.out) BK414.out (by decide)) BK425.out (by decide)) BK436.out (by decide))))
        (case side3 => exact Kd.R_V (Kd.R_tight rfl (Kd.R_types (Kd.R_types (Kd.R_types (HO_426002.out) BK414.out (by decide)) BK425.out (by decide)) BK436.out (by decide))))
        rintro e w67 ⟨rfl, hb⟩
        refine ⟨_, rfl, ?_⟩
        replace HO_415000 := am (Kd.R_below (rl HO_415000.out) hb)
        replace HO_415001 := am (Kd.R_below (rl HO_415001.out) hb)
        replace HO_415002 := am (Kd.R_below (rl HO_415002.out) hb)
        replace HO_426000 := am (Kd.R_below (rl HO_426000.out) hb)
        replace HO_426001 := am (Kd.R_below (rl HO_426001.out) hb)
        replace HO_426002 := am (Kd.R_below (rl HO_426002.out) hb)
        replace HO_437000 := am (Kd.R_below (rl HO_437000.out) hb)
        replace HO_437001 := am (Kd.R_below (rl HO_437001.out) hb)
        replace HO_437002 := am (Kd.R_below (rl HO_437002.out) hb)
        replace BK414 := am (blk_below (g := gb414) (o := .cells #[.slice Ao9 t403.length co9, .slice Ao11 t406.length co11, .slice Ao12 t409.length co12] 25 (0, 0)) (kl BK414.out) hb)
        replace BK425 := am (blk_below (g := gb425) (o := .cells #[.slice Ao15 t415.length co15, .slice Ao18 t418.length co18, .slice Ao19 t421.length co19] 25 (0, 0)) (kl BK425.out) hb)
        replace BK436 := am (blk_below (g := gb436) (o := .cells #[.slice Ao23 t426.length co23, .slice Ao27 t429.length co27, .slice Ao28 t432.length co28] 25 (0, 0)) (kl BK436.out) hb)
        replace HB := am (below_step (bs3 GE414.out GE425.out GE436.out HB.out) hb)
        (try clear hb)
        (try clear hb2)
        (try clear hk)
        (try clear hi)
        refine hK.out _ _ ⟨(blk_cell BK425.out 0).trans rfl, (blk_cell BK425.out 1).trans rfl, (blk_cell BK425.out 2).trans rfl, (blk_cell BK414.out 0).trans rfl, (blk_cell BK414.out 1).trans rfl, (blk_cell BK414.out 2).trans rfl⟩ (fun hHeld => ?_)
        clear hK K
        refine norm_ (a' := ?_) ?_ ?_
        rotate_left
        ·show Act.put _ (some 56) _ = _
         simp only [Act.put, List.setIfInBounds_toArray, List.set_cons_zero, List.set_cons_succ, i64_w, i32_w]
         rfl
        refine one_ (i := 3) (N := some 58) #[true, true, true, true, false, false] rfl rfl (by kernel_rfl) (by decide) (fun K hK => ?_)
        refine goes_ Try.func18 (by kernel_rfl) rfl #[.agg #[.slice Ao9 t403.length co9, .slice Ao11 t406.length co11, .slice Ao12 t409.length co12]] (by rfl) rfl rfl (by (try simp only [List.map_toArray, List.map_cons, List.map_nil]); first | done | rfl | (simp only [List.length_drop, List.length_take]; rfl)) ?_
        with_reducible refine (impl_CountPointers.calls kj5 (fun k_ => some k_ = (.slice Ao9 t403.length co9 : Value).ownBlock) _ _ t403 (fun k_ => some k_ = (.slice Ao11 t406.length co11 : Value).ownBlock) _ _ t406 (fun k_ => some k_ = (.slice Ao12 t409.length co12 : Value).ownBlock) _ _ t409 t440 _ ?side1 ?side2 ?side3 A60.out).mono ?_
        (case side1 => exact Kd.R_V (Kd.R_tight rfl (Kd.R_types (Kd.R_types (Kd.R_types (HO_415000.out) BK414.out (by decide)) BK425.out (by decide)) BK436.out (by decide))))
        (case side2 => exact Kd.R_V (Kd.R_tight rfl (Kd.R_types (Kd.R_types (Kd.R_types (HO_415001.out) BK414.out (by decide)) BK425.out (by decide)) BK436.out (by decide))))
        (case side3 => exact Kd.R_V (Kd.R_tight rfl (Kd.R_types (Kd.R_types (Kd.R_types (HO_415002.out) BK414.out (by decide)) BK425.out (by decide)) BK436.out (by decide))))
        rintro e w68 ⟨rfl, hb⟩
        refine ⟨_, rfl, ?_⟩
        replace HO_415000 := am (Kd.R_below (rl HO_415000.out) hb)
        replace HO_415001 := am (Kd.R_below (rl HO_415001.out) hb)
        replace HO_415002 := am (Kd.R_below (rl HO_415002.out) hb)
        replace HO_426000 := am (Kd.R_below (rl HO_426000.out) hb)
        replace HO_426001 := am (Kd.R_below (rl HO_426001.out) hb)
        replace HO_426002 := am (Kd.R_below (rl HO_426002.out) hb)
        replace HO_437000 := am (Kd.R_below (rl HO_437000.out) hb)
        replace HO_437001 := am (Kd.R_below (rl HO_437001.out) hb)
        replace HO_437002 := am (Kd.R_below (rl HO_437002.out) hb)
        replace BK414 := am (blk_below (g := gb414) (o := .cells #[.slice Ao9 t403.length co9, .slice Ao11 t406.length co11, .slice Ao12 t409.length co12] 25 (0, 0)) (kl BK414.out) hb)
        replace BK425 := am (blk_below (g := gb425) (o := .cells #[.slice Ao15 t415.length co15, .slice Ao18 t418.length co18, .slice Ao19 t421.length co19] 25 (0, 0)) (kl BK425.out) hb)
        replace BK436 := am (blk_below (g := gb436) (o := .cells #[.slice Ao23 t426.length co23, .slice Ao27 t429.length co27, .slice Ao28 t432.length co28] 25 (0, 0)) (kl BK436.out) hb)
        replace HB := am (below_step (bs3 GE414.out GE425.out GE436.out HB.out) hb)
        (try clear hb)
        (try clear hb2)
        (try clear hk)
        (try clear hi)
        refine hK.out _ _ ⟨(blk_cell BK425.out 0).trans rfl, (blk_cell BK425.out 1).trans rfl, (blk_cell BK425.out 2).trans rfl, (blk_cell BK414.out 0).trans rfl, (blk_cell BK414.out 1).trans rfl, (blk_cell BK414.out 2).trans rfl⟩ (fun hHeld => ?_)
        clear hK K
        refine norm_ (a' := ?_) ?_ ?_
        rotate_left
        ·show Act.put _ (some 58) _ = _
         simp only [Act.put, List.setIfInBounds_toArray, List.set_cons_zero, List.set_cons_succ, i64_w, i32_w]
         rfl
        refine pure_ (i := 4) (N := some 59) (v := ?_) (a' := ?_) #[true, true, true, true, true, false] rfl rfl (by kernel_rfl) (fun _ _ _ h => h) (Or.inl ⟨by rfl, ?_⟩) ?_ ?_
        rotate_left
        ·intro w'
         go_simp
         with_reducible rfl
        rotate_left
        ·simp only [Act.put, List.setIfInBounds_toArray, List.set_cons_zero, List.set_cons_succ, i64_w, i32_w]
         rfl
        refine pure_ (i := 5) (N := some 10) (v := ?_) (a' := ?_) #[true, true, true, true, true, true] rfl rfl (by kernel_rfl) (fun _ _ _ h => h) (Or.inl ⟨by rfl, ?_⟩) ?_ ?_
        rotate_left
        ·intro w'
         go_simp
         with_reducible rfl
        rotate_left
        ·simp only [Act.put, List.setIfInBounds_toArray, List.set_cons_zero, List.set_cons_succ, i64_w, i32_w]
         rfl
        refine done_ (by kernel_rfl) ?_
        have hnb69 := NB425_414.out
        have hnc69 := NB414_425.out
        have hnb70 := NB425_436.out
        have hnc70 := NB436_425.out
        have hcz71_0 : w68.cell? ⟨gb425, 0, none⟩ = some (.slice Ao15 t415.length co15) := (blk_cell BK425.out 0).trans rfl
        have hcz71_1 : w68.cell? ⟨gb425, 1, none⟩ = some (.slice Ao18 t418.length co18) := (blk_cell BK425.out 1).trans rfl
        have hcz71_2 : w68.cell? ⟨gb425, 2, none⟩ = some (.slice Ao19 t421.length co19) := (blk_cell BK425.out 2).trans rfl
        have hfz71_0 := blk_frozen BK425.out 0
        have hfz71_1 := blk_frozen BK425.out 1
        have hfz71_2 := blk_frozen BK425.out 2
        have hnb72 := NB414_436.out
        have hnc72 := NB436_414.out
        have hcz73_0 : w68.cell? ⟨gb414, 0, none⟩ = some (.slice Ao9 t403.length co9) := (blk_cell BK414.out 0).trans rfl
        have hcz73_1 : w68.cell? ⟨gb414, 1, none⟩ = some (.slice Ao11 t406.length co11) := (blk_cell BK414.out 1).trans rfl
        have hcz73_2 : w68.cell? ⟨gb414, 2, none⟩ = some (.slice Ao12 t409.length co12) := (blk_cell BK414.out 2).trans rfl
        have hfz73_0 := blk_frozen BK414.out 0
        have hfz73_1 := blk_frozen BK414.out 1
        have hfz73_2 := blk_frozen BK414.out 2
        try go_wp2_with (first | ((with_reducible refine gate_callee (f := 19) rfl ?_); refine goesL_ (some 64) rfl rfl Try.func19 (by kernel_rfl) rfl #[.slice Ao15 t415.length co15, .slice Ao9 t403.length co9] rfl (by (try simp only [List.map_toArray, List.map_cons, List.map_nil]); first | done | rfl | (simp only [List.length_drop, List.length_take]; rfl)) ?_; (with_reducible refine (laws_ccInts.calls kj5 _ _ t415 _ _ t403 true _ ?side1 ?side2 ?side3 ?side4 A61.out).mono ?_); (case side1 => exact cl ((Kd.R_reads' HO_426000.out).2.2)); (case side2 => exact (Kd.R_reads' HO_426000.out).2.1); (case side3 => exact cl ((Kd.R_reads' HO_415000.out).2.2)); (case side4 => exact (Kd.R_reads' HO_415000.out).2.1); rintro e w' ⟨rfl, ⟨nd, rfl⟩⟩; refine ⟨_, rfl, ?_⟩) | (go_at_call 19; (with_reducible refine (laws_ccInts.calls kj5 _ _ t418 _ _ t406 true _ ?side1 ?side2 ?side3 ?side4 A63.out).mono ?_); (case side1 => exact cl ((Kd.R_reads' HO_426001.out).2.2)); (case side2 => exact (Kd.R_reads' HO_426001.out).2.1); (case side3 => exact cl ((Kd.R_reads' HO_415001.out).2.2)); (case side4 => exact (Kd.R_reads' HO_415001.out).2.1); rintro e w' ⟨rfl, ⟨nd, rfl⟩⟩))
        go_ret
        exact ⟨by first | rfl | (simp [errW_none, errW_some] <;> rfl) | (simp [*, errW_none, errW_some] <;> rfl), by exact bs3 GE414.out GE425.out GE436.out HB.out⟩
       ·rw [if_neg c65] at H
        exact absurd H (by simp)
      ·replace c64 := Bool.eq_false_iff.mpr c64
       subst c64
       have H1 : (none) = some r := by rw [if_neg (show ¬ (false = true) by decide)] at H; exact H
       clear H
       have H := H1
       clear H1
       exact absurd H (by simp)
     ·replace c62 := Bool.eq_false_iff.mpr c62
      subst c62
      have H1 : (none) = some r := by rw [if_neg (show ¬ (false = true) by decide)] at H; exact H
      clear H
      have H := H1
      clear H1
      exact absurd H (by simp)

/-- THE ONE PURE STATEMENT of laws_FnPutRootOthers: yours. -/
def laws_FnPutRootOthers.Pure : Prop := ∀ (l0 : List Int), l0.length ≤ maxLen → l0.length * 1 ≤ 140737488351232 → (∀ x ∈ l0, (Lit.int .u8 x).wf = true) → ∃ k, laws_FnPutRootOthers.f k l0 = some true
theorem laws_FnPutRootOthers.walk (P : laws_FnPutRootOthers.Pure) (a0 : Option Addr) (len0 cap0 : Nat) (z0 : List Int) (w : World) (w0 : (a0 = none ∧ len0 = 0 ∧ cap0 = 0 ∧ z0 = []) ∨ ∃ x, a0 = some x ∧ len0 ≤ cap0 ∧ cap0 ≤ maxLen ∧ z0.length = cap0 ∧ (∀ i, i < z0.length → w.cell? (x.add i) = some (.int .u8 (z0.getD i 0))) ∧ ∀ n ∈ z0, (Lit.int .u8 n).wf = true) (y0 : len0 * 1 ≤ 140737488351232) :
  Calls Try.prog 4 #[.slice a0 len0 cap0] w fun e w' => e = .returned (.bool true) ∧ Below w.heap.size w w' := by
 obtain ⟨l0, rfl, hr0, hm0, hw0, hc0⟩ := ReadsInt.ofRowC w0
 obtain ⟨k, h⟩ := P l0 hm0 y0 hw0
 refine (laws_FnPutRootOthers.calls k _ _ l0 true w (Kd.C_of_reads (d := (0 : Int)) (h1 := fun _ => rfl) hr0) hc0 h).mono ?_
 rintro e w' ⟨rfl, hd⟩
 exact ⟨rfl, hd⟩

end Go.Proofs.Ytghgpinhghhlgaa.A
