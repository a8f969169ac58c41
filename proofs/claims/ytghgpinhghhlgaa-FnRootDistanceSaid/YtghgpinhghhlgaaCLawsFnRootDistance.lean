/- Contracts of functions of the given program (CLawsFnRootDistance). No conditions beyond those stated. -/
import Derived.Test.YtghgpinhghhlgaaA0
import Derived.Test.YtghgpinhghhlgaaAImplDistanceOf
import Derived.Test.YtghgpinhghhlgaaAImplHeapSame
import Derived.Test.YtghgpinhghhlgaaAImplPathTo
import Derived.Test.YtghgpinhghhlgaaAImplPutRoot
import Derived.Test.YtghgpinhghhlgaaALawsCcInts
import Derived.Test.YtghgpinhghhlgaaASpecDrawPutRoot
import Derived.Test.YtghgpinhghhlgaaASpecPutRoot
import Derived.Test.YtghgpinhghhlgaaA0
namespace Go.Proofs.Ytghgpinhghhlgaa.A
open Go.RowKit Go.Proofs.YtghgpinhghhlgaaW.PrintWords Go.Proofs.YtghgpinhghhlgaaW.PrintLast Go.Proofs.YtghgpinhghhlgaaW.PrintMore
attribute [local go_sem] max2_int min2_int max_two min_two max_three min_three max_four min_four   -- for this text's walks alone
set_option linter.unusedVariables false
set_option linter.unusedSimpArgs false

/-! ### laws_FnRootDistance -/
def laws_FnRootDistance.j0 : Nat → Int → Bool → Bool → Bool → List Int → List Int → List Int → List Int → List Int → List Int → Option (Bool)
 | 0, _, _, _, _, _, _, _, _, _, _ => none
 | k + 1, x5, x7, x9, x53, x704000, x704001, x704002, x715000, x715001, x715002 => if x53 = true then ((impl_HeapSame.f k x704000 x704001 x704002 x715000 x715001 x715002).bind fun t716 => (if t716 = true then (some (x7 == x9)) else (none))) else ((impl_DistanceOf.f k x704000 x704001 x704002 x5).bind fun bt717 => ((impl_PathTo.f k x704000 x704001 x704002 x5).bind fun bt719 => (if bt717.2 = true then (if bt717.1 = 1 then (if bt719.2 = true then ((laws_ccInts.f k bt719.1 (([x5] : List Int))).bind fun t726 => (some t726)) else (none)) else (none)) else (none))))
def laws_FnRootDistance.f (k : Nat) (l0 : List Int) : Option (Bool) := if (l0.length : Int) > 1048576 then (some true) else ((spec_DrawPutRoot.f k l0).bind fun bt681 => ((impl_PutRoot.f k bt681.1 bt681.2.1 bt681.2.2.1 bt681.2.2.2.1 bt681.2.2.2.2).bind fun bt693 => ((spec_PutRoot.f k bt681.1 bt681.2.1 bt681.2.2.1 bt681.2.2.2.1 bt681.2.2.2.2).bind fun bt704 => ((impl_HeapSame.f k bt693.1 bt693.2.1 bt693.2.2.1 bt704.1 bt704.2.1 bt704.2.2.1).bind fun t715 => (if t715 = true then (if (bt693.2.2.2 != bt704.2.2.2) = true then (laws_FnRootDistance.j0 k bt681.2.2.2.2 bt693.2.2.2 bt704.2.2.2 true bt693.1 bt693.2.1 bt693.2.2.1 bt704.1 bt704.2.1 bt704.2.2.1) else (if bt693.2.2.2 = true then (laws_FnRootDistance.j0 k bt681.2.2.2.2 bt693.2.2.2 bt704.2.2.2 (bt681.2.2.2.2 == (-1)) bt693.1 bt693.2.1 bt693.2.2.1 bt704.1 bt704.2.1 bt704.2.2.1) else (laws_FnRootDistance.j0 k bt681.2.2.2.2 bt693.2.2.2 bt704.2.2.2 true bt693.1 bt693.2.1 bt693.2.2.1 bt704.1 bt704.2.1 bt704.2.2.1))) else (laws_FnRootDistance.j0 k bt681.2.2.2.2 bt693.2.2.2 bt704.2.2.2 true bt693.1 bt693.2.1 bt693.2.2.1 bt704.1 bt704.2.1 bt704.2.2.1))))))
theorem laws_FnRootDistance.mono_l : ∀ k, (∀ y0 y1 y2 y3 y4 y5 y6 y7 y8 y9, LeO (laws_FnRootDistance.j0 k y0 y1 y2 y3 y4 y5 y6 y7 y8 y9) (laws_FnRootDistance.j0 (k + 1) y0 y1 y2 y3 y4 y5 y6 y7 y8 y9))
 | 0 => fun _ _ _ _ _ _ _ _ _ _ r h => by simp [laws_FnRootDistance.j0] at h
 | k + 1 => by
  have ih0 := laws_FnRootDistance.mono_l k
  ·intro y0 y1 y2 y3 y4 y5 y6 y7 y8 y9
   unfold laws_FnRootDistance.j0
   repeat' first
   | (with_reducible exact ih0 _ _ _ _ _ _ _ _ _ _)
   | (with_reducible exact impl_DistanceOf.mono _ _ _ _ _)
   | (with_reducible exact impl_HeapSame.mono _ _ _ _ _ _ _)
   | (with_reducible exact impl_PathTo.mono _ _ _ _ _)
   | (with_reducible exact impl_PutRoot.mono _ _ _ _ _ _)
   | (with_reducible exact laws_ccInts.mono _ _ _)
   | (with_reducible exact spec_DrawPutRoot.mono _ _)
   | (with_reducible exact spec_PutRoot.mono _ _ _ _ _ _)
   | (with_reducible exact LeO.refl _)
   | (with_reducible exact LeO.none _)
   | (with_reducible refine LeO.ite ?_ ?_)
   | (with_reducible refine LeO.bind ?_ (fun _ => ?_))
   | exact ih0 _ _ _ _ _ _ _ _ _ _
   | exact impl_DistanceOf.mono _ _ _ _ _
   | exact impl_HeapSame.mono _ _ _ _ _ _ _
   | exact impl_PathTo.mono _ _ _ _ _
   | exact impl_PutRoot.mono _ _ _ _ _ _
   | exact laws_ccInts.mono _ _ _
   | exact spec_DrawPutRoot.mono _ _
   | exact spec_PutRoot.mono _ _ _ _ _ _
   | exact LeO.none _
   | refine LeO.ite ?_ ?_
   | refine LeO.bind ?_ (fun _ => ?_)
theorem laws_FnRootDistance.mono : ∀ a0 k, LeO (laws_FnRootDistance.f k a0) (laws_FnRootDistance.f (k + 1) a0) := by
 intro a0 k
 have ih0 := laws_FnRootDistance.mono_l k
 unfold laws_FnRootDistance.f
 repeat' first
   | (with_reducible exact ih0 _ _ _ _ _ _ _ _ _ _)
   | (with_reducible exact impl_DistanceOf.mono _ _ _ _ _)
   | (with_reducible exact impl_HeapSame.mono _ _ _ _ _ _ _)
   | (with_reducible exact impl_PathTo.mono _ _ _ _ _)
   | (with_reducible exact impl_PutRoot.mono _ _ _ _ _ _)
   | (with_reducible exact laws_ccInts.mono _ _ _)
   | (with_reducible exact spec_DrawPutRoot.mono _ _)
   | (with_reducible exact spec_PutRoot.mono _ _ _ _ _ _)
   | (with_reducible exact LeO.refl _)
   | (with_reducible exact LeO.none _)
   | (with_reducible refine LeO.ite ?_ ?_)
   | (with_reducible refine LeO.bind ?_ (fun _ => ?_))
   | exact ih0 _ _ _ _ _ _ _ _ _ _
   | exact impl_DistanceOf.mono _ _ _ _ _
   | exact impl_HeapSame.mono _ _ _ _ _ _ _
   | exact impl_PathTo.mono _ _ _ _ _
   | exact impl_PutRoot.mono _ _ _ _ _ _
   | exact laws_ccInts.mono _ _ _
   | exact spec_DrawPutRoot.mono _ _
   | exact spec_PutRoot.mono _ _ _ _ _ _
   | exact LeO.none _
   | refine LeO.ite ?_ ?_
   | refine LeO.bind ?_ (fun _ => ?_)
set_option maxHeartbeats 8000000 in
set_option maxRecDepth 100000 in
theorem laws_FnRootDistance.calls (k : Nat) (A0 : Option Addr) (c0 : Nat) (l0 : List Int) (r : Bool) (w : World) (hr0 : Kd.C (Kd.int .u8) w A0 l0.length l0) (hc0 : l0.length ≤ c0) (h : laws_FnRootDistance.f k l0 = some r) :
  Calls Try.prog 7 #[.slice A0 l0.length c0] w fun e w' => e = .returned (.bool r) ∧ Below w.heap.size w w' := by
 have hu25 := Try.underlying25
 have HR0 := am hr0
 have HC0 := am hc0
 clear hr0 hc0
 have HB := am (Below.refl w.heap.size w)
 have H : (if (l0.length : Int) > 1048576 then (some true) else ((spec_DrawPutRoot.f k l0).bind fun bt681 => ((impl_PutRoot.f k bt681.1 bt681.2.1 bt681.2.2.1 bt681.2.2.2.1 bt681.2.2.2.2).bind fun bt693 => ((spec_PutRoot.f k bt681.1 bt681.2.1 bt681.2.2.1 bt681.2.2.2.1 bt681.2.2.2.2).bind fun bt704 => ((impl_HeapSame.f k bt693.1 bt693.2.1 bt693.2.2.1 bt704.1 bt704.2.1 bt704.2.2.1).bind fun t715 => (if t715 = true then (if (bt693.2.2.2 != bt704.2.2.2) = true then (laws_FnRootDistance.j0 k bt681.2.2.2.2 bt693.2.2.2 bt704.2.2.2 true bt693.1 bt693.2.1 bt693.2.2.1 bt704.1 bt704.2.1 bt704.2.2.1) else (if bt693.2.2.2 = true then (laws_FnRootDistance.j0 k bt681.2.2.2.2 bt693.2.2.2 bt704.2.2.2 (bt681.2.2.2.2 == (-1)) bt693.1 bt693.2.1 bt693.2.2.1 bt704.1 bt704.2.1 bt704.2.2.1) else (laws_FnRootDistance.j0 k bt681.2.2.2.2 bt693.2.2.2 bt704.2.2.2 true bt693.1 bt693.2.1 bt693.2.2.1 bt704.1 bt704.2.1 bt704.2.2.1))) else (laws_FnRootDistance.j0 k bt681.2.2.2.2 bt693.2.2.2 bt704.2.2.2 true bt693.1 bt693.2.1 bt693.2.2.1 bt704.1 bt704.2.1 bt704.2.2.1))))))) = some r := h
 clear h
 by_cases c2 : (l0.length : Int) > 1048576
 ·rw [if_pos c2] at H
  have c2b0 : decide (1048576 < (l0.length : Int)) = true := decide_eq_true c2
  have c2b1 : decide (1048576 < l0.length) = true := decide_eq_true (by omega)
  clear c2
  obtain rfl := Option.some.inj H
  go_enter Try.func7, Try.ntmps7
  go_wp2
  go_ret
  exact ⟨by first | rfl | (simp [errW_none, errW_some] <;> rfl) | (simp [*, errW_none, errW_some] <;> rfl), by exact bs0 HB.out⟩
 ·rw [if_neg c2] at H
  have c2b0 : decide (1048576 < (l0.length : Int)) = false := decide_eq_false c2
  have c2b1 : decide (1048576 < l0.length) = false := decide_eq_false (by omega)
  clear c2
  replace H := Option.bind_eq_some_iff.mp H
  obtain ⟨⟨t681, t684, t687, t690, t691⟩, A30, H⟩ := H
  replace H : ((impl_PutRoot.f k t681 t684 t687 t690 t691).bind fun bt693 => ((spec_PutRoot.f k t681 t684 t687 t690 t691).bind fun bt704 => ((impl_HeapSame.f k bt693.1 bt693.2.1 bt693.2.2.1 bt704.1 bt704.2.1 bt704.2.2.1).bind fun t715 => (if t715 = true then (if (bt693.2.2.2 != bt704.2.2.2) = true then (laws_FnRootDistance.j0 k t691 bt693.2.2.2 bt704.2.2.2 true bt693.1 bt693.2.1 bt693.2.2.1 bt704.1 bt704.2.1 bt704.2.2.1) else (if bt693.2.2.2 = true then (laws_FnRootDistance.j0 k t691 bt693.2.2.2 bt704.2.2.2 (t691 == (-1)) bt693.1 bt693.2.1 bt693.2.2.1 bt704.1 bt704.2.1 bt704.2.2.1) else (laws_FnRootDistance.j0 k t691 bt693.2.2.2 bt704.2.2.2 true bt693.1 bt693.2.1 bt693.2.2.1 bt704.1 bt704.2.1 bt704.2.2.1))) else (laws_FnRootDistance.j0 k t691 bt693.2.2.2 bt704.2.2.2 true bt693.1 bt693.2.1 bt693.2.2.1 bt704.1 bt704.2.1 bt704.2.2.1))))) = some r := H
  have A3 := am A30
  clear A30
  replace H := Option.bind_eq_some_iff.mp H
  obtain ⟨⟨t693, t696, t699, t702⟩, A40, H⟩ := H
  replace H : ((spec_PutRoot.f k t681 t684 t687 t690 t691).bind fun bt704 => ((impl_HeapSame.f k t693 t696 t699 bt704.1 bt704.2.1 bt704.2.2.1).bind fun t715 => (if t715 = true then (if (t702 != bt704.2.2.2) = true then (laws_FnRootDistance.j0 k t691 t702 bt704.2.2.2 true t693 t696 t699 bt704.1 bt704.2.1 bt704.2.2.1) else (if t702 = true then (laws_FnRootDistance.j0 k t691 t702 bt704.2.2.2 (t691 == (-1)) t693 t696 t699 bt704.1 bt704.2.1 bt704.2.2.1) else (laws_FnRootDistance.j0 k t691 t702 bt704.2.2.2 true t693 t696 t699 bt704.1 bt704.2.1 bt704.2.2.1))) else (laws_FnRootDistance.j0 k t691 t702 bt704.2.2.2 true t693 t696 t699 bt704.1 bt704.2.1 bt704.2.2.1)))) = some r := H
  have A4 := am A40
  clear A40
  replace H := Option.bind_eq_some_iff.mp H
  obtain ⟨⟨t704, t707, t710, t713⟩, A50, H⟩ := H
  replace H : ((impl_HeapSame.f k t693 t696 t699 t704 t707 t710).bind fun t715 => (if t715 = true then (if (t702 != t713) = true then (laws_FnRootDistance.j0 k t691 t702 t713 true t693 t696 t699 t704 t707 t710) else (if t702 = true then (laws_FnRootDistance.j0 k t691 t702 t713 (t691 == (-1)) t693 t696 t699 t704 t707 t710) else (laws_FnRootDistance.j0 k t691 t702 t713 true t693 t696 t699 t704 t707 t710))) else (laws_FnRootDistance.j0 k t691 t702 t713 true t693 t696 t699 t704 t707 t710))) = some r := H
  have A5 := am A50
  clear A50
  have HC6 := am H
  clear H
  go_enter Try.func7, Try.ntmps7
  go_upto_region 6 with (first | ((with_reducible refine gate_callee (f := 13) rfl ?_); refine goesL_ (some 19) rfl rfl Try.func13 (by kernel_rfl) rfl #[.slice A0 l0.length c0] rfl (by (try simp only [List.map_toArray, List.map_cons, List.map_nil]); first | done | rfl | (simp only [List.length_drop, List.length_take]; rfl)) ?_; (with_reducible refine (spec_DrawPutRoot.calls k _ _ l0 t681 t684 t687 t690 t691 _ ?side1 ?side2 A3.out).mono ?_); (case side1 => exact cl (HR0.out)); (case side2 => exact HC0.out); rintro e w7 ⟨v682, v685, v688, rfl, ho0, ho1, ho2, hb⟩; refine ⟨_, rfl, ?_⟩; have HO683 := am (Kd.R_lower ho0 (below_size (bl HB.out))); have HO686 := am (Kd.R_lower ho1 (below_size (bl HB.out))); have HO689 := am (Kd.R_lower ho2 (below_size (bl HB.out))); replace HB := am (below_step (bl HB.out) hb); (try clear hb); (try clear hb2); (try clear hk); (try clear hi); (try clear ho0); (try clear ho1); (try clear ho2)) | ((with_reducible refine gate_dst (N := 3) rfl ?_); (try (refine gate_guard (by rfl) ?_; dsimp only)); refine box_event ?hg (N := 3) ?hd (cs := #[.slice none 0 0, .slice none 0 0, .slice none 0 0]) (t := 25) ?hr ?_; (case hd => rfl); (case hg => rfl); (case hr => first | (go_simp; done) | (go_simp; rfl)); intro gb692 hg w8 hbox hb; replace HO683 := am (Kd.R_below (rl HO683.out) hb); replace HO686 := am (Kd.R_below (rl HO686.out) hb); replace HO689 := am (Kd.R_below (rl HO689.out) hb); have BK692 := am (hbox); have GW692 := am ((by rw [hg]; exact (below_size (bl HB.out)) : w.heap.size ≤ gb692)); have GE692 := am ((by rw [hg]; exact (below_size (bl HB.out)) : w.heap.size ≤ gb692)); replace HB := am (below_step (bl HB.out) hb); clear hb hbox hg; obtain ⟨Ao9, co9, eo9⟩ := Kd.R_slice HO683.out; subst eo9; have hcz10_0 : w8.cell? ⟨gb692, 0, none⟩ = some (.slice none 0 0) := (blk_cell BK692.out 0).trans rfl; have hcz10_1 : w8.cell? ⟨gb692, 1, none⟩ = some (.slice none 0 0) := (blk_cell BK692.out 1).trans rfl; have hcz10_2 : w8.cell? ⟨gb692, 2, none⟩ = some (.slice none 0 0) := (blk_cell BK692.out 2).trans rfl; have hfz10_0 := blk_frozen BK692.out 0; have hfz10_1 := blk_frozen BK692.out 1; have hfz10_2 := blk_frozen BK692.out 2; obtain ⟨Ao11, co11, eo11⟩ := Kd.R_slice HO686.out; subst eo11; obtain ⟨Ao12, co12, eo12⟩ := Kd.R_slice HO689.out; subst eo12) | ((with_reducible refine gate_callee (f := 14) rfl ?_); refine goesL_ (some 27) rfl rfl Try.func14 (by kernel_rfl) rfl #[.agg #[.slice Ao9 t681.length co9, .slice Ao11 t684.length co11, .slice Ao12 t687.length co12], .int .i64 t690, .int .i64 t691] rfl (by (try simp only [List.map_toArray, List.map_cons, List.map_nil]); first | done | rfl | (simp only [List.length_drop, List.length_take]; rfl)) ?_; (with_reducible refine (impl_PutRoot.calls k _ _ t681 _ _ t684 _ _ t687 t690 t691 t693 t696 t699 t702 _ ?side1 ?side2 ?side3 ?side4 ?side5 ?side6 A4.out).mono ?_); (case side1 => exact (Kd.R_reads' (rf1 BK692.out HO683.out)).2.2); (case side2 => exact (Kd.R_reads' HO683.out).2.1); (case side3 => exact (Kd.R_reads' (rf1 BK692.out HO686.out)).2.2); (case side4 => exact (Kd.R_reads' HO686.out).2.1); (case side5 => exact (Kd.R_reads' (rf1 BK692.out HO689.out)).2.2); (case side6 => exact (Kd.R_reads' HO689.out).2.1); rintro e w13 ⟨v694, v697, v700, rfl, ho0, ho1, ho2, hb⟩; refine ⟨_, rfl, ?_⟩; have HO695 := am (Kd.R_lower (Kd.R_new' (Kd.R_new' (Kd.R_new' ho0 (Kd.R_lt (rf1 BK692.out HO683.out))) (Kd.R_lt (rf1 BK692.out HO686.out))) (Kd.R_lt (rf1 BK692.out HO689.out))) (below_size (bs1 GE692.out HB.out))); have HO698 := am (Kd.R_lower (Kd.R_new' (Kd.R_new' (Kd.R_new' ho1 (Kd.R_lt (rf1 BK692.out HO683.out))) (Kd.R_lt (rf1 BK692.out HO686.out))) (Kd.R_lt (rf1 BK692.out HO689.out))) (below_size (bs1 GE692.out HB.out))); have HO701 := am (Kd.R_lower (Kd.R_new' (Kd.R_new' (Kd.R_new' ho2 (Kd.R_lt (rf1 BK692.out HO683.out))) (Kd.R_lt (rf1 BK692.out HO686.out))) (Kd.R_lt (rf1 BK692.out HO689.out))) (below_size (bs1 GE692.out HB.out))); replace HO683 := am (Kd.R_mono (Kd.R_told (Kd.R_told (Kd.R_told (Kd.R_old (rf1 BK692.out HO683.out) hb) (Kd.R_base ho0)) (Kd.R_base ho1)) (Kd.R_base ho2)) (fun _ h_ => h_.1)); replace HO686 := am (Kd.R_mono (Kd.R_told (Kd.R_told (Kd.R_told (Kd.R_old (rf1 BK692.out HO686.out) hb) (Kd.R_base ho0)) (Kd.R_base ho1)) (Kd.R_base ho2)) (fun _ h_ => h_.1)); replace HO689 := am (Kd.R_mono (Kd.R_told (Kd.R_told (Kd.R_told (Kd.R_old (rf1 BK692.out HO689.out) hb) (Kd.R_base ho0)) (Kd.R_base ho1)) (Kd.R_base ho2)) (fun _ h_ => h_.1)); replace BK692 := am (blk_below (g := gb692) (o := .cells #[.slice Ao9 t681.length co9, .slice Ao11 t684.length co11, .slice Ao12 t687.length co12] 25 (0, 0)) (kp3 (kf0 BK692.out)) hb); replace HB := am (below_step (bs1 GE692.out HB.out) hb); (try clear hb); (try clear hb2); (try clear hk); (try clear hi); (try clear ho0); (try clear ho1); (try clear ho2)) | ((with_reducible refine gate_dst (N := 6) rfl ?_); (try (refine gate_guard (by rfl) ?_; dsimp only)); refine box_event ?hg (N := 6) ?hd (cs := #[.slice none 0 0, .slice none 0 0, .slice none 0 0]) (t := 25) ?hr ?_; (case hd => rfl); (case hg => rfl); (case hr => first | (go_simp; done) | (go_simp; rfl)); intro gb703 hg w14 hbox hb; replace HO683 := am (Kd.R_below (rl HO683.out) hb); replace HO686 := am (Kd.R_below (rl HO686.out) hb); replace HO689 := am (Kd.R_below (rl HO689.out) hb); replace HO695 := am (Kd.R_below (rl HO695.out) hb); replace HO698 := am (Kd.R_below (rl HO698.out) hb); replace HO701 := am (Kd.R_below (rl HO701.out) hb); have BK703 := am (hbox); have GW703 := am ((by rw [hg]; exact (below_size (bs1 GE692.out HB.out)) : w.heap.size ≤ gb703)); have GE703 := am ((by rw [hg]; exact (below_size (bs1 GE692.out HB.out)) : w.heap.size ≤ gb703)); replace HB := am (below_step (bs1 GE692.out HB.out) hb); have NB692_703 := am ((by rw [hg]; exact Nat.ne_of_lt (blk_lt (g := gb692) (o := .cells #[.slice Ao9 t681.length co9, .slice Ao11 t684.length co11, .slice Ao12 t687.length co12] 25 (0, 0)) (kl BK692.out)) : gb692 ≠ gb703)); have NB703_692 := am ((by rw [hg]; exact Nat.ne_of_gt (blk_lt (g := gb692) (o := .cells #[.slice Ao9 t681.length co9, .slice Ao11 t684.length co11, .slice Ao12 t687.length co12] 25 (0, 0)) (kl BK692.out)) : gb703 ≠ gb692)); replace BK692 := am (blk_below (g := gb692) (o := .cells #[.slice Ao9 t681.length co9, .slice Ao11 t684.length co11, .slice Ao12 t687.length co12] 25 (0, 0)) (kl BK692.out) hb); clear hb hbox hg; obtain ⟨Ao15, co15, eo15⟩ := Kd.R_slice HO695.out; subst eo15; have hnb16 := NB703_692.out; have hnc16 := NB692_703.out; have hcz17_0 : w14.cell? ⟨gb703, 0, none⟩ = some (.slice none 0 0) := (blk_cell BK703.out 0).trans rfl; have hcz17_1 : w14.cell? ⟨gb703, 1, none⟩ = some (.slice none 0 0) := (blk_cell BK703.out 1).trans rfl; have hcz17_2 : w14.cell? ⟨gb703, 2, none⟩ = some (.slice none 0 0) := (blk_cell BK703.out 2).trans rfl; have hfz17_0 := blk_frozen BK703.out 0; have hfz17_1 := blk_frozen BK703.out 1; have hfz17_2 := blk_frozen BK703.out 2; obtain ⟨Ao18, co18, eo18⟩ := Kd.R_slice HO698.out; subst eo18; obtain ⟨Ao19, co19, eo19⟩ := Kd.R_slice HO701.out; subst eo19; have hcz20_0 : w14.cell? ⟨gb692, 0, none⟩ = some (.slice Ao9 t681.length co9) := (blk_cell BK692.out 0).trans rfl; have hcz20_1 : w14.cell? ⟨gb692, 1, none⟩ = some (.slice Ao11 t684.length co11) := (blk_cell BK692.out 1).trans rfl; have hcz20_2 : w14.cell? ⟨gb692, 2, none⟩ = some (.slice Ao12 t687.length co12) := (blk_cell BK692.out 2).trans rfl; have hfz20_0 := blk_frozen BK692.out 0; have hfz20_1 := blk_frozen BK692.out 1; have hfz20_2 := blk_frozen BK692.out 2) | ((with_reducible refine gate_callee (f := 15) rfl ?_); refine goesL_ (some 34) rfl rfl Try.func15 (by kernel_rfl) rfl #[.agg #[.slice Ao9 t681.length co9, .slice Ao11 t684.length co11, .slice Ao12 t687.length co12], .int .i64 t690, .int .i64 t691] rfl (by (try simp only [List.map_toArray, List.map_cons, List.map_nil]); first | done | rfl | (simp only [List.length_drop, List.length_take]; rfl)) ?_; (with_reducible refine (spec_PutRoot.calls k _ _ t681 _ _ t684 _ _ t687 t690 t691 t704 t707 t710 t713 _ ?side1 ?side2 ?side3 ?side4 ?side5 ?side6 A5.out).mono ?_); (case side1 => exact (Kd.R_reads' (rf1 BK703.out HO683.out)).2.2); (case side2 => exact (Kd.R_reads' HO683.out).2.1); (case side3 => exact (Kd.R_reads' (rf1 BK703.out HO686.out)).2.2); (case side4 => exact (Kd.R_reads' HO686.out).2.1); (case side5 => exact (Kd.R_reads' (rf1 BK703.out HO689.out)).2.2); (case side6 => exact (Kd.R_reads' HO689.out).2.1); rintro e w21 ⟨v705, v708, v711, rfl, ho0, ho1, ho2, hb⟩; refine ⟨_, rfl, ?_⟩; have HO706 := am (Kd.R_lower (Kd.R_new' (Kd.R_new' (Kd.R_new' (Kd.R_new' (Kd.R_new' (Kd.R_new' ho0 (Kd.R_lt (rf1 BK703.out HO683.out))) (Kd.R_lt (rf1 BK703.out HO686.out))) (Kd.R_lt (rf1 BK703.out HO689.out))) (Kd.R_lt (rf1 BK703.out HO695.out))) (Kd.R_lt (rf1 BK703.out HO698.out))) (Kd.R_lt (rf1 BK703.out HO701.out))) (below_size (bs2 GE692.out GE703.out HB.out))); have HO709 := am (Kd.R_lower (Kd.R_new' (Kd.R_new' (Kd.R_new' (Kd.R_new' (Kd.R_new' (Kd.R_new' ho1 (Kd.R_lt (rf1 BK703.out HO683.out))) (Kd.R_lt (rf1 BK703.out HO686.out))) (Kd.R_lt (rf1 BK703.out HO689.out))) (Kd.R_lt (rf1 BK703.out HO695.out))) (Kd.R_lt (rf1 BK703.out HO698.out))) (Kd.R_lt (rf1 BK703.out HO701.out))) (below_size (bs2 GE692.out GE703.out HB.out))); have HO712 := am (Kd.R_lower (Kd.R_new' (Kd.R_new' (Kd.R_new' (Kd.R_new' (Kd.R_new' (Kd.R_new' ho2 (Kd.R_lt (rf1 BK703.out HO683.out))) (Kd.R_lt (rf1 BK703.out HO686.out))) (Kd.R_lt (rf1 BK703.out HO689.out))) (Kd.R_lt (rf1 BK703.out HO695.out))) (Kd.R_lt (rf1 BK703.out HO698.out))) (Kd.R_lt (rf1 BK703.out HO701.out))) (below_size (bs2 GE692.out GE703.out HB.out))); replace HO683 := am (Kd.R_mono (Kd.R_told (Kd.R_told (Kd.R_told (Kd.R_old (rf1 BK703.out HO683.out) hb) (Kd.R_base ho0)) (Kd.R_base ho1)) (Kd.R_base ho2)) (fun _ h_ => h_.1)); replace HO686 := am (Kd.R_mono (Kd.R_told (Kd.R_told (Kd.R_told (Kd.R_old (rf1 BK703.out HO686.out) hb) (Kd.R_base ho0)) (Kd.R_base ho1)) (Kd.R_base ho2)) (fun _ h_ => h_.1)); replace HO689 := am (Kd.R_mono (Kd.R_told (Kd.R_told (Kd.R_told (Kd.R_old (rf1 BK703.out HO689.out) hb) (Kd.R_base ho0)) (Kd.R_base ho1)) (Kd.R_base ho2)) (fun _ h_ => h_.1)); replace HO695 := am (Kd.R_mono (Kd.R_told (Kd.R_told (Kd.R_told (Kd.R_old (rf1 BK703.out HO695.out) hb) (Kd.R_base ho0)) (Kd.R_base ho1)) (Kd.R_base ho2)) (fun _ h_ => h_.1)); replace HO698 := am (Kd.R_mono (Kd.R_told (Kd.R_told (Kd.R_told (Kd.R_old (rf1 BK703.out HO698.out) hb) (Kd.R_base ho0)) (Kd.R_base ho1)) (Kd.R_base ho2)) (fun _ h_ => h_.1)); replace HO701 := am (Kd.R_mono (Kd.R_told (Kd.R_told (Kd.R_told (Kd.R_old (rf1 BK703.out HO701.out) hb) (Kd.R_base ho0)) (Kd.R_base ho1)) (Kd.R_base ho2)) (fun _ h_ => h_.1)); replace BK692 := am (blk_below (g := gb692) (o := .cells #[.slice Ao9 t681.length co9, .slice Ao11 t684.length co11, .slice Ao12 t687.length co12] 25 (0, 0)) (kf1 NB692_703.out BK692.out) hb); replace BK703 := am (blk_below (g := gb703) (o := .cells #[.slice Ao15 t693.length co15, .slice Ao18 t696.length co18, .slice Ao19 t699.length co19] 25 (0, 0)) (kp3 (kf0 BK703.out)) hb); replace HB := am (below_step (bs2 GE692.out GE703.out HB.out) hb); (try clear hb); (try clear hb2); (try clear hk); (try clear hi); (try clear ho0); (try clear ho1); (try clear ho2)) | ((with_reducible refine gate_dst (N := 8) rfl ?_); (try (refine gate_guard (by rfl) ?_; dsimp only)); refine box_event ?hg (N := 8) ?hd (cs := #[.slice none 0 0, .slice none 0 0, .slice none 0 0]) (t := 25) ?hr ?_; (case hd => rfl); (case hg => rfl); (case hr => first | (go_simp; done) | (go_simp; rfl)); intro gb714 hg w22 hbox hb; replace HO683 := am (Kd.R_below (rl HO683.out) hb); replace HO686 := am (Kd.R_below (rl HO686.out) hb); replace HO689 := am (Kd.R_below (rl HO689.out) hb); replace HO695 := am (Kd.R_below (rl HO695.out) hb); replace HO698 := am (Kd.R_below (rl HO698.out) hb); replace HO701 := am (Kd.R_below (rl HO701.out) hb); replace HO706 := am (Kd.R_below (rl HO706.out) hb); replace HO709 := am (Kd.R_below (rl HO709.out) hb); replace HO712 := am (Kd.R_below (rl HO712.out) hb); have BK714 := am (hbox); have GW714 := am ((by rw [hg]; exact (below_size (bs2 GE692.out GE703.out HB.out)) : w.heap.size ≤ gb714)); have GE714 := am ((by rw [hg]; exact (below_size (bs2 GE692.out GE703.out HB.out)) : w.heap.size ≤ gb714)); replace HB := am (below_step (bs2 GE692.out GE703.out HB.out) hb); have NB692_714 := am ((by rw [hg]; exact Nat.ne_of_lt (blk_lt (g := gb692) (o := .cells #[.slice Ao9 t681.length co9, .slice Ao11 t684.length co11, .slice Ao12 t687.length co12] 25 (0, 0)) (kl BK692.out)) : gb692 ≠ gb714)); have NB714_692 := am ((by rw [hg]; exact Nat.ne_of_gt (blk_lt (g := gb692) (o := .cells #[.slice Ao9 t681.length co9, .slice Ao11 t684.length co11, .slice Ao12 t687.length co12] 25 (0, 0)) (kl BK692.out)) : gb714 ≠ gb692)); replace BK692 := am (blk_below (g := gb692) (o := .cells #[.slice Ao9 t681.length co9, .slice Ao11 t684.length co11, .slice Ao12 t687.length co12] 25 (0, 0)) (kl BK692.out) hb); have NB703_714 := am ((by rw [hg]; exact Nat.ne_of_lt (blk_lt (g := gb703) (o := .cells #[.slice Ao15 t693.length co15, .slice Ao18 t696.length co18, .slice Ao19 t699.length co19] 25 (0, 0)) (kl BK703.out)) : gb703 ≠ gb714)); have NB714_703 := am ((by rw [hg]; exact Nat.ne_of_gt (blk_lt (g := gb703) (o := .cells #[.slice Ao15 t693.length co15, .slice Ao18 t696.length co18, .slice Ao19 t699.length co19] 25 (0, 0)) (kl BK703.out)) : gb714 ≠ gb703)); replace BK703 := am (blk_below (g := gb703) (o := .cells #[.slice Ao15 t693.length co15, .slice Ao18 t696.length co18, .slice Ao19 t699.length co19] 25 (0, 0)) (kl BK703.out) hb); clear hb hbox hg; obtain ⟨Ao23, co23, eo23⟩ := Kd.R_slice HO706.out; subst eo23; have hnb24 := NB714_692.out; have hnc24 := NB692_714.out; have hnb25 := NB714_703.out; have hnc25 := NB703_714.out; have hcz26_0 : w22.cell? ⟨gb714, 0, none⟩ = some (.slice none 0 0) := (blk_cell BK714.out 0).trans rfl; have hcz26_1 : w22.cell? ⟨gb714, 1, none⟩ = some (.slice none 0 0) := (blk_cell BK714.out 1).trans rfl; have hcz26_2 : w22.cell? ⟨gb714, 2, none⟩ = some (.slice none 0 0) := (blk_cell BK714.out 2).trans rfl; have hfz26_0 := blk_frozen BK714.out 0; have hfz26_1 := blk_frozen BK714.out 1; have hfz26_2 := blk_frozen BK714.out 2; obtain ⟨Ao27, co27, eo27⟩ := Kd.R_slice HO709.out; subst eo27; obtain ⟨Ao28, co28, eo28⟩ := Kd.R_slice HO712.out; subst eo28))
  (try simp only [Act.put, List.setIfInBounds_toArray, List.set_cons_zero, List.set_cons_succ])
  go_cut [53] (fun v53 wc => ∃ (kq : Nat) (x53_5 : Bool), v53 = .bool x53_5 ∧ Aside0 (laws_FnRootDistance.j0 kq t691 t702 t713 x53_5 t693 t696 t699 t704 t707 t710 = some r) ∧ Aside0 (kq ≤ k) ∧ Aside0 (Kd.R (Kd.int .i64) 3 wc w.heap.size (fun k_ => some k_ ≠ ((.slice Ao18 t696.length co18) : Value).ownBlock ∧ some k_ ≠ ((.slice Ao19 t699.length co19) : Value).ownBlock ∧ some k_ ≠ ((.slice Ao23 t704.length co23) : Value).ownBlock ∧ some k_ ≠ ((.slice Ao27 t707.length co27) : Value).ownBlock ∧ some k_ ≠ ((.slice Ao28 t710.length co28) : Value).ownBlock) (.slice Ao15 t693.length co15) t693) ∧ Aside0 (Kd.R (Kd.int .i64) 3 wc w.heap.size (fun k_ => some k_ ≠ ((.slice Ao15 t693.length co15) : Value).ownBlock ∧ some k_ ≠ ((.slice Ao19 t699.length co19) : Value).ownBlock ∧ some k_ ≠ ((.slice Ao23 t704.length co23) : Value).ownBlock ∧ some k_ ≠ ((.slice Ao27 t707.length co27) : Value).ownBlock ∧ some k_ ≠ ((.slice Ao28 t710.length co28) : Value).ownBlock) (.slice Ao18 t696.length co18) t696) ∧ Aside0 (Kd.R (Kd.int .i64) 3 wc w.heap.size (fun k_ => some k_ ≠ ((.slice Ao15 t693.length co15) : Value).ownBlock ∧ some k_ ≠ ((.slice Ao18 t696.length co18) : Value).ownBlock ∧ some k_ ≠ ((.slice Ao23 t704.length co23) : Value).ownBlock ∧ some k_ ≠ ((.slice Ao27 t707.length co27) : Value).ownBlock ∧ some k_ ≠ ((.slice Ao28 t710.length co28) : Value).ownBlock) (.slice Ao19 t699.length co19) t699) ∧ Aside0 (Kd.R (Kd.int .i64) 3 wc w.heap.size (fun k_ => some k_ ≠ ((.slice Ao15 t693.length co15) : Value).ownBlock ∧ some k_ ≠ ((.slice Ao18 t696.length co18) : Value).ownBlock ∧ some k_ ≠ ((.slice Ao19 t699.length co19) : Value).ownBlock ∧ some k_ ≠ ((.slice Ao27 t707.length co27) : Value).ownBlock ∧ some k_ ≠ ((.slice Ao28 t710.length co28) : Value).ownBlock) (.slice Ao23 t704.length co23) t704) ∧ Aside0 (Kd.R (Kd.int .i64) 3 wc w.heap.size (fun k_ => some k_ ≠ ((.slice Ao15 t693.length co15) : Value).ownBlock ∧ some k_ ≠ ((.slice Ao18 t696.length co18) : Value).ownBlock ∧ some k_ ≠ ((.slice Ao19 t699.length co19) : Value).ownBlock ∧ some k_ ≠ ((.slice Ao23 t704.length co23) : Value).ownBlock ∧ some k_ ≠ ((.slice Ao28 t710.length co28) : Value).ownBlock) (.slice Ao27 t707.length co27) t707) ∧ Aside0 (Kd.R (Kd.int .i64) 3 wc w.heap.size (fun k_ => some k_ ≠ ((.slice Ao15 t693.length co15) : Value).ownBlock ∧ some k_ ≠ ((.slice Ao18 t696.length co18) : Value).ownBlock ∧ some k_ ≠ ((.slice Ao19 t699.length co19) : Value).ownBlock ∧ some k_ ≠ ((.slice Ao23 t704.length co23) : Value).ownBlock ∧ some k_ ≠ ((.slice Ao27 t707.length co27) : Value).ownBlock) (.slice Ao28 t710.length co28) t710) ∧ Aside0 (wc.heap[gb703]? = some (.cells #[(.slice Ao15 t693.length co15), (.slice Ao18 t696.length co18), (.slice Ao19 t699.length co19)] 25 (0, 0))) ∧ Aside0 (wc.heap[gb714]? = some (.cells #[(.slice Ao23 t704.length co23), (.slice Ao27 t707.length co27), (.slice Ao28 t710.length co28)] 25 (0, 0))) ∧ Aside0 (Below w.heap.size w wc))
  case first =>
   have H := HC6.out
   clear HC6
   replace H := Option.bind_eq_some_iff.mp H
   obtain ⟨t715, A290, H⟩ := H
   replace H : (if t715 = true then (if (t702 != t713) = true then (laws_FnRootDistance.j0 k t691 t702 t713 true t693 t696 t699 t704 t707 t710) else (if t702 = true then (laws_FnRootDistance.j0 k t691 t702 t713 (t691 == (-1)) t693 t696 t699 t704 t707 t710) else (laws_FnRootDistance.j0 k t691 t702 t713 true t693 t696 t699 t704 t707 t710))) else (laws_FnRootDistance.j0 k t691 t702 t713 true t693 t696 t699 t704 t707 t710)) = some r := H
   have A29 := am A290
   clear A290
   by_cases c30 : t715 = true
   ·subst c30
    have H1 : (if (t702 != t713) = true then (laws_FnRootDistance.j0 k t691 t702 t713 true t693 t696 t699 t704 t707 t710) else (if t702 = true then (laws_FnRootDistance.j0 k t691 t702 t713 (t691 == (-1)) t693 t696 t699 t704 t707 t710) else (laws_FnRootDistance.j0 k t691 t702 t713 true t693 t696 t699 t704 t707 t710))) = some r := by rw [if_pos rfl] at H; exact H
    clear H
    have H := H1
    clear H1
    by_cases c31 : (t702 != t713) = true
    ·rw [if_pos c31] at H
     have c31b0 : (t702 != t713) = true := c31
     (try (have c31b1 : decide (t702 = t713) = false := by simpa using c31))
     (try (have c31b2 : (t702 == t713) = false := by simpa using c31))
     (try (have c31b3 : ¬ (t702 = t713) := by simpa using c31))
     clear c31
     (first | rw [c31b0] | (simp only [i64_w, i32_w]; rw [c31b0]) | skip)
     have H' := am H
     clear H
     have hnb32 := NB703_692.out
     have hnc32 := NB692_703.out
     have hnb33 := NB703_714.out
     have hnc33 := NB714_703.out
     have hcz34_0 : w22.cell? ⟨gb703, 0, none⟩ = some (.slice Ao15 t693.length co15) := (blk_cell BK703.out 0).trans rfl
     have hcz34_1 : w22.cell? ⟨gb703, 1, none⟩ = some (.slice Ao18 t696.length co18) := (blk_cell BK703.out 1).trans rfl
     have hcz34_2 : w22.cell? ⟨gb703, 2, none⟩ = some (.slice Ao19 t699.length co19) := (blk_cell BK703.out 2).trans rfl
     have hfz34_0 := blk_frozen BK703.out 0
     have hfz34_1 := blk_frozen BK703.out 1
     have hfz34_2 := blk_frozen BK703.out 2
     have hnb35 := NB714_692.out
     have hnc35 := NB692_714.out
     have hcz36_0 : w22.cell? ⟨gb714, 0, none⟩ = some (.slice none 0 0) := (blk_cell BK714.out 0).trans rfl
     have hcz36_1 : w22.cell? ⟨gb714, 1, none⟩ = some (.slice none 0 0) := (blk_cell BK714.out 1).trans rfl
     have hcz36_2 : w22.cell? ⟨gb714, 2, none⟩ = some (.slice none 0 0) := (blk_cell BK714.out 2).trans rfl
     have hfz36_0 := blk_frozen BK714.out 0
     have hfz36_1 := blk_frozen BK714.out 1
     have hfz36_2 := blk_frozen BK714.out 2
     go_wp2_with (first | ((with_reducible refine gate_callee (f := 16) rfl ?_); refine goesL_ (some 39) rfl rfl Try.func16 (by kernel_rfl) rfl #[.agg #[.slice Ao15 t693.length co15, .slice Ao18 t696.length co18, .slice Ao19 t699.length co19], .agg #[.slice Ao23 t704.length co23, .slice Ao27 t707.length co27, .slice Ao28 t710.length co28]] rfl (by (try simp only [List.map_toArray, List.map_cons, List.map_nil]); first | done | rfl | (simp only [List.length_drop, List.length_take]; rfl)) ?_; (with_reducible refine (impl_HeapSame.calls k _ _ t693 _ _ t696 _ _ t699 _ _ t704 _ _ t707 _ _ t710 true _ ?side1 ?side2 ?side3 ?side4 ?side5 ?side6 ?side7 ?side8 ?side9 ?side10 ?side11 ?side12 A29.out).mono ?_); (case side1 => exact (Kd.R_reads' (rf1 BK714.out HO695.out)).2.2); (case side2 => exact (Kd.R_reads' HO695.out).2.1); (case side3 => exact (Kd.R_reads' (rf1 BK714.out HO698.out)).2.2); (case side4 => exact (Kd.R_reads' HO698.out).2.1); (case side5 => exact (Kd.R_reads' (rf1 BK714.out HO701.out)).2.2); (case side6 => exact (Kd.R_reads' HO701.out).2.1); (case side7 => exact (Kd.R_reads' (rf1 BK714.out HO706.out)).2.2); (case side8 => exact (Kd.R_reads' HO706.out).2.1); (case side9 => exact (Kd.R_reads' (rf1 BK714.out HO709.out)).2.2); (case side10 => exact (Kd.R_reads' HO709.out).2.1); (case side11 => exact (Kd.R_reads' (rf1 BK714.out HO712.out)).2.2); (case side12 => exact (Kd.R_reads' HO712.out).2.1); rintro e w37 ⟨rfl, hb⟩; refine ⟨_, rfl, ?_⟩; replace HO683 := am (Kd.R_below (rf1 BK714.out HO683.out) hb); replace HO686 := am (Kd.R_below (rf1 BK714.out HO686.out) hb); replace HO689 := am (Kd.R_below (rf1 BK714.out HO689.out) hb); replace HO695 := am (Kd.R_below (rf1 BK714.out HO695.out) hb); replace HO698 := am (Kd.R_below (rf1 BK714.out HO698.out) hb); replace HO701 := am (Kd.R_below (rf1 BK714.out HO701.out) hb); replace HO706 := am (Kd.R_below (rf1 BK714.out HO706.out) hb); replace HO709 := am (Kd.R_below (rf1 BK714.out HO709.out) hb); replace HO712 := am (Kd.R_below (rf1 BK714.out HO712.out) hb); replace BK692 := am (blk_below (g := gb692) (o := .cells #[.slice Ao9 t681.length co9, .slice Ao11 t684.length co11, .slice Ao12 t687.length co12] 25 (0, 0)) (kf1 NB692_714.out BK692.out) hb); replace BK703 := am (blk_below (g := gb703) (o := .cells #[.slice Ao15 t693.length co15, .slice Ao18 t696.length co18, .slice Ao19 t699.length co19] 25 (0, 0)) (kf1 NB703_714.out BK703.out) hb); replace BK714 := am (blk_below (g := gb714) (o := .cells #[.slice Ao23 t704.length co23, .slice Ao27 t707.length co27, .slice Ao28 t710.length co28] 25 (0, 0)) (kp3 (kf0 BK714.out)) hb); replace HB := am (below_step (bs3 GE692.out GE703.out GE714.out HB.out) hb); (try clear hb); (try clear hb2); (try clear hk); (try clear hi)))
     go_meet
     case rel => exact ⟨_, (true), (by first | rfl | (simp; done) | (simp [*]; done)), H', ⟨by first | omega | exact Nat.le_refl _⟩, ⟨rl (Kd.R_mono HO695.out (fun _ hk => by simp only [ne_eq] at hk ⊢; simp only [hk, not_false_eq_true, and_self]))⟩, ⟨rl (Kd.R_mono HO698.out (fun _ hk => by simp only [ne_eq] at hk ⊢; simp only [hk, not_false_eq_true, and_self]))⟩, ⟨rl (Kd.R_mono HO701.out (fun _ hk => by simp only [ne_eq] at hk ⊢; simp only [hk, not_false_eq_true, and_self]))⟩, ⟨rl (Kd.R_mono HO706.out (fun _ hk => by simp only [ne_eq] at hk ⊢; simp only [hk, not_false_eq_true, and_self]))⟩, ⟨rl (Kd.R_mono HO709.out (fun _ hk => by simp only [ne_eq] at hk ⊢; simp only [hk, not_false_eq_true, and_self]))⟩, ⟨rl (Kd.R_mono HO712.out (fun _ hk => by simp only [ne_eq] at hk ⊢; simp only [hk, not_false_eq_true, and_self]))⟩, ⟨kl BK703.out⟩, ⟨kl BK714.out⟩, ⟨by exact bs3 GE692.out GE703.out GE714.out HB.out⟩⟩
    ·rw [if_neg c31] at H
     have c31b0 : (t702 != t713) = false := by simpa using c31
     (try (have c31b1 : decide (t702 = t713) = true := by simpa using c31))
     (try (have c31b2 : (t702 == t713) = true := by simpa using c31))
     clear c31
     (first | rw [c31b0] | (simp only [i64_w, i32_w]; rw [c31b0]) | skip)
     by_cases c38 : t702 = true
     ·subst c38
      have H1 : (laws_FnRootDistance.j0 k t691 true t713 (t691 == (-1)) t693 t696 t699 t704 t707 t710) = some r := by rw [if_pos rfl] at H; exact H
      clear H
      have H := H1
      clear H1
      have H' := am H
      clear H
      have hnb39 := NB703_692.out
      have hnc39 := NB692_703.out
      have hnb40 := NB703_714.out
      have hnc40 := NB714_703.out
      have hcz41_0 : w22.cell? ⟨gb703, 0, none⟩ = some (.slice Ao15 t693.length co15) := (blk_cell BK703.out 0).trans rfl
      have hcz41_1 : w22.cell? ⟨gb703, 1, none⟩ = some (.slice Ao18 t696.length co18) := (blk_cell BK703.out 1).trans rfl
      have hcz41_2 : w22.cell? ⟨gb703, 2, none⟩ = some (.slice Ao19 t699.length co19) := (blk_cell BK703.out 2).trans rfl
      have hfz41_0 := blk_frozen BK703.out 0
      have hfz41_1 := blk_frozen BK703.out 1
      have hfz41_2 := blk_frozen BK703.out 2
      have hnb42 := NB714_692.out
      have hnc42 := NB692_714.out
      have hcz43_0 : w22.cell? ⟨gb714, 0, none⟩ = some (.slice none 0 0) := (blk_cell BK714.out 0).trans rfl
      have hcz43_1 : w22.cell? ⟨gb714, 1, none⟩ = some (.slice none 0 0) := (blk_cell BK714.out 1).trans rfl
      have hcz43_2 : w22.cell? ⟨gb714, 2, none⟩ = some (.slice none 0 0) := (blk_cell BK714.out 2).trans rfl
      have hfz43_0 := blk_frozen BK714.out 0
      have hfz43_1 := blk_frozen BK714.out 1
      have hfz43_2 := blk_frozen BK714.out 2
      go_wp2_with (first | ((with_reducible refine gate_callee (f := 16) rfl ?_); refine goesL_ (some 39) rfl rfl Try.func16 (by kernel_rfl) rfl #[.agg #[.slice Ao15 t693.length co15, .slice Ao18 t696.length co18, .slice Ao19 t699.length co19], .agg #[.slice Ao23 t704.length co23, .slice Ao27 t707.length co27, .slice Ao28 t710.length co28]] rfl (by (try simp only [List.map_toArray, List.map_cons, List.map_nil]); first | done | rfl | (simp only [List.length_drop, List.length_take]; rfl)) ?_; (with_reducible refine (impl_HeapSame.calls k _ _ t693 _ _ t696 _ _ t699 _ _ t704 _ _ t707 _ _ t710 true _ ?side1 ?side2 ?side3 ?side4 ?side5 ?side6 ?side7 ?side8 ?side9 ?side10 ?side11 ?side12 A29.out).mono ?_); (case side1 => exact (Kd.R_reads' (rf1 BK714.out HO695.out)).2.2); (case side2 => exact (Kd.R_reads' HO695.out).2.1); (case side3 => exact (Kd.R_reads' (rf1 BK714.out HO698.out)).2.2); (case side4 => exact (Kd.R_reads' HO698.out).2.1); (case side5 => exact (Kd.R_reads' (rf1 BK714.out HO701.out)).2.2); (case side6 => exact (Kd.R_reads' HO701.out).2.1); (case side7 => exact (Kd.R_reads' (rf1 BK714.out HO706.out)).2.2); (case side8 => exact (Kd.R_reads' HO706.out).2.1); (case side9 => exact (Kd.R_reads' (rf1 BK714.out HO709.out)).2.2); (case side10 => exact (Kd.R_reads' HO709.out).2.1); (case side11 => exact (Kd.R_reads' (rf1 BK714.out HO712.out)).2.2); (case side12 => exact (Kd.R_reads' HO712.out).2.1); rintro e w44 ⟨rfl, hb⟩; refine ⟨_, rfl, ?_⟩; replace HO683 := am (Kd.R_below (rf1 BK714.out HO683.out) hb); replace HO686 := am (Kd.R_below (rf1 BK714.out HO686.out) hb); replace HO689 := am (Kd.R_below (rf1 BK714.out HO689.out) hb); replace HO695 := am (Kd.R_below (rf1 BK714.out HO695.out) hb); replace HO698 := am (Kd.R_below (rf1 BK714.out HO698.out) hb); replace HO701 := am (Kd.R_below (rf1 BK714.out HO701.out) hb); replace HO706 := am (Kd.R_below (rf1 BK714.out HO706.out) hb); replace HO709 := am (Kd.R_below (rf1 BK714.out HO709.out) hb); replace HO712 := am (Kd.R_below (rf1 BK714.out HO712.out) hb); replace BK692 := am (blk_below (g := gb692) (o := .cells #[.slice Ao9 t681.length co9, .slice Ao11 t684.length co11, .slice Ao12 t687.length co12] 25 (0, 0)) (kf1 NB692_714.out BK692.out) hb); replace BK703 := am (blk_below (g := gb703) (o := .cells #[.slice Ao15 t693.length co15, .slice Ao18 t696.length co18, .slice Ao19 t699.length co19] 25 (0, 0)) (kf1 NB703_714.out BK703.out) hb); replace BK714 := am (blk_below (g := gb714) (o := .cells #[.slice Ao23 t704.length co23, .slice Ao27 t707.length co27, .slice Ao28 t710.length co28] 25 (0, 0)) (kp3 (kf0 BK714.out)) hb); replace HB := am (below_step (bs3 GE692.out GE703.out GE714.out HB.out) hb); (try clear hb); (try clear hb2); (try clear hk); (try clear hi)))
      go_meet
      case rel => exact ⟨_, ((t691 == (-1))), (by first | rfl | (simp; done) | (simp [*]; done)), H', ⟨by first | omega | exact Nat.le_refl _⟩, ⟨rl (Kd.R_mono HO695.out (fun _ hk => by simp only [ne_eq] at hk ⊢; simp only [hk, not_false_eq_true, and_self]))⟩, ⟨rl (Kd.R_mono HO698.out (fun _ hk => by simp only [ne_eq] at hk ⊢; simp only [hk, not_false_eq_true, and_self]))⟩, ⟨rl (Kd.R_mono HO701.out (fun _ hk => by simp only [ne_eq] at hk ⊢; simp only [hk, not_false_eq_true, and_self]))⟩, ⟨rl (Kd.R_mono HO706.out (fun _ hk => by simp only [ne_eq] at hk ⊢; simp only [hk, not_false_eq_true, and_self]))⟩, ⟨rl (Kd.R_mono HO709.out (fun _ hk => by simp only [ne_eq] at hk ⊢; simp only [hk, not_false_eq_true, and_self]))⟩, ⟨rl (Kd.R_mono HO712.out (fun _ hk => by simp only [ne_eq] at hk ⊢; simp only [hk, not_false_eq_true, and_self]))⟩, ⟨kl BK703.out⟩, ⟨kl BK714.out⟩, ⟨by exact bs3 GE692.out GE703.out GE714.out HB.out⟩⟩
     ·replace c38 := Bool.eq_false_iff.mpr c38
      subst c38
      have H1 : (laws_FnRootDistance.j0 k t691 false t713 true t693 t696 t699 t704 t707 t710) = some r := by rw [if_neg (show ¬ (false = true) by decide)] at H; exact H
      clear H
      have H := H1
      clear H1
      have H' := am H
      clear H
      have hnb45 := NB703_692.out
      have hnc45 := NB692_703.out
      have hnb46 := NB703_714.out
      have hnc46 := NB714_703.out
      have hcz47_0 : w22.cell? ⟨gb703, 0, none⟩ = some (.slice Ao15 t693.length co15) := (blk_cell BK703.out 0).trans rfl
      have hcz47_1 : w22.cell? ⟨gb703, 1, none⟩ = some (.slice Ao18 t696.length co18) := (blk_cell BK703.out 1).trans rfl
      have hcz47_2 : w22.cell? ⟨gb703, 2, none⟩ = some (.slice Ao19 t699.length co19) := (blk_cell BK703.out 2).trans rfl
      have hfz47_0 := blk_frozen BK703.out 0
      have hfz47_1 := blk_frozen BK703.out 1
      have hfz47_2 := blk_frozen BK703.out 2
      have hnb48 := NB714_692.out
      have hnc48 := NB692_714.out
      have hcz49_0 : w22.cell? ⟨gb714, 0, none⟩ = some (.slice none 0 0) := (blk_cell BK714.out 0).trans rfl
      have hcz49_1 : w22.cell? ⟨gb714, 1, none⟩ = some (.slice none 0 0) := (blk_cell BK714.out 1).trans rfl
      have hcz49_2 : w22.cell? ⟨gb714, 2, none⟩ = some (.slice none 0 0) := (blk_cell BK714.out 2).trans rfl
      have hfz49_0 := blk_frozen BK714.out 0
      have hfz49_1 := blk_frozen BK714.out 1
      have hfz49_2 := blk_frozen BK714.out 2
      go_wp2_with (first | ((with_reducible refine gate_callee (f := 16) rfl ?_); refine goesL_ (some 39) rfl rfl Try.func16 (by kernel_rfl) rfl #[.agg #[.slice Ao15 t693.length co15, .slice Ao18 t696.length co18, .slice Ao19 t699.length co19], .agg #[.slice Ao23 t704.length co23, .slice Ao27 t707.length co27, .slice Ao28 t710.length co28]] rfl (by (try simp only [List.map_toArray, List.map_cons, List.map_nil]); first | done | rfl | (simp only [List.length_drop, List.length_take]; rfl)) ?_; (with_reducible refine (impl_HeapSame.calls k _ _ t693 _ _ t696 _ _ t699 _ _ t704 _ _ t707 _ _ t710 true _ ?side1 ?side2 ?side3 ?side4 ?side5 ?side6 ?side7 ?side8 ?side9 ?side10 ?side11 ?side12 A29.out).mono ?_); (case side1 => exact (Kd.R_reads' (rf1 BK714.out HO695.out)).2.2); (case side2 => exact (Kd.R_reads' HO695.out).2.1); (case side3 => exact (Kd.R_reads' (rf1 BK714.out HO698.out)).2.2); (case side4 => exact (Kd.R_reads' HO698.out).2.1); (case side5 => exact (Kd.R_reads' (rf1 BK714.out HO701.out)).2.2); (case side6 => exact (Kd.R_reads' HO701.out).2.1); (case side7 => exact (Kd.R_reads' (rf1 BK714.out HO706.out)).2.2); (case side8 => exact (Kd.R_reads' HO706.out).2.1); (case side9 => exact (Kd.R_reads' (rf1 BK714.out HO709.out)).2.2); (case side10 => exact (Kd.R_reads' HO709.out).2.1); (case side11 => exact (Kd.R_reads' (rf1 BK714.out HO712.out)).2.2); (case side12 => exact (Kd.R_reads' HO712.out).2.1); rintro e w50 ⟨rfl, hb⟩; refine ⟨_, rfl, ?_⟩; replace HO683 := am (Kd.R_below (rf1 BK714.out HO683.out) hb); replace HO686 := am (Kd.R_below (rf1 BK714.out HO686.out) hb); replace HO689 := am (Kd.R_below (rf1 BK714.out HO689.out) hb); replace HO695 := am (Kd.R_below (rf1 BK714.out HO695.out) hb); replace HO698 := am (Kd.R_below (rf1 BK714.out HO698.out) hb); replace HO701 := am (Kd.R_below (rf1 BK714.out HO701.out) hb); replace HO706 := am (Kd.R_below (rf1 BK714.out HO706.out) hb); replace HO709 := am (Kd.R_below (rf1 BK714.out HO709.out) hb); replace HO712 := am (Kd.R_below (rf1 BK714.out HO712.out) hb); replace BK692 := am (blk_below (g := gb692) (o := .cells #[.slice Ao9 t681.length co9, .slice Ao11 t684.length co11, .slice Ao12 t687.length co12] 25 (0, 0)) (kf1 NB692_714.out BK692.out) hb); replace BK703 := am (blk_below (g := gb703) (o := .cells #[.slice Ao15 t693.length co15, .slice Ao18 t696.length co18, .slice Ao19 t699.length co19] 25 (0, 0)) (kf1 NB703_714.out BK703.out) hb); replace BK714 := am (blk_below (g := gb714) (o := .cells #[.slice Ao23 t704.length co23, .slice Ao27 t707.length co27, .slice Ao28 t710.length co28] 25 (0, 0)) (kp3 (kf0 BK714.out)) hb); replace HB := am (below_step (bs3 GE692.out GE703.out GE714.out HB.out) hb); (try clear hb); (try clear hb2); (try clear hk); (try clear hi)))
      go_meet
      case rel => exact ⟨_, (true), (by first | rfl | (simp; done) | (simp [*]; done)), H', ⟨by first | omega | exact Nat.le_refl _⟩, ⟨rl (Kd.R_mono HO695.out (fun _ hk => by simp only [ne_eq] at hk ⊢; simp only [hk, not_false_eq_true, and_self]))⟩, ⟨rl (Kd.R_mono HO698.out (fun _ hk => by simp only [ne_eq] at hk ⊢; simp only [hk, not_false_eq_true, and_self]))⟩, ⟨rl (Kd.R_mono HO701.out (fun _ hk => by simp only [ne_eq] at hk ⊢; simp only [hk, not_false_eq_true, and_self]))⟩, ⟨rl (Kd.R_mono HO706.out (fun _ hk => by simp only [ne_eq] at hk ⊢; simp only [hk, not_false_eq_true, and_self]))⟩, ⟨rl (Kd.R_mono HO709.out (fun _ hk => by simp only [ne_eq] at hk ⊢; simp only [hk, not_false_eq_true, and_self]))⟩, ⟨rl (Kd.R_mono HO712.out (fun _ hk => by simp only [ne_eq] at hk ⊢; simp only [hk, not_false_eq_true, and_self]))⟩, ⟨kl BK703.out⟩, ⟨kl BK714.out⟩, ⟨by exact bs3 GE692.out GE703.out GE714.out HB.out⟩⟩
   ·replace c30 := Bool.eq_false_iff.mpr c30
    subst c30
    have H1 : (laws_FnRootDistance.j0 k t691 t702 t713 true t693 t696 t699 t704 t707 t710) = some r := by rw [if_neg (show ¬ (false = true) by decide)] at H; exact H
    clear H
    have H := H1
    clear H1
    have H' := am H
    clear H
    have hnb51 := NB703_692.out
    have hnc51 := NB692_703.out
    have hnb52 := NB703_714.out
    have hnc52 := NB714_703.out
    have hcz53_0 : w22.cell? ⟨gb703, 0, none⟩ = some (.slice Ao15 t693.length co15) := (blk_cell BK703.out 0).trans rfl
    have hcz53_1 : w22.cell? ⟨gb703, 1, none⟩ = some (.slice Ao18 t696.length co18) := (blk_cell BK703.out 1).trans rfl
    have hcz53_2 : w22.cell? ⟨gb703, 2, none⟩ = some (.slice Ao19 t699.length co19) := (blk_cell BK703.out 2).trans rfl
    have hfz53_0 := blk_frozen BK703.out 0
    have hfz53_1 := blk_frozen BK703.out 1
    have hfz53_2 := blk_frozen BK703.out 2
    have hnb54 := NB714_692.out
    have hnc54 := NB692_714.out
    have hcz55_0 : w22.cell? ⟨gb714, 0, none⟩ = some (.slice none 0 0) := (blk_cell BK714.out 0).trans rfl
    have hcz55_1 : w22.cell? ⟨gb714, 1, none⟩ = some (.slice none 0 0) := (blk_cell BK714.out 1).trans rfl
    have hcz55_2 : w22.cell? ⟨gb714, 2, none⟩ = some (.slice none 0 0) := (blk_cell BK714.out 2).trans rfl
    have hfz55_0 := blk_frozen BK714.out 0
    have hfz55_1 := blk_frozen BK714.out 1
    have hfz55_2 := blk_frozen BK714.out 2
    go_wp2_with (first | ((with_reducible refine gate_callee (f := 16) rfl ?_); refine goesL_ (some 39) rfl rfl Try.func16 (by kernel_rfl) rfl #[.agg #[.slice Ao15 t693.length co15, .slice Ao18 t696.length co18, .slice Ao19 t699.length co19], .agg #[.slice Ao23 t704.length co23, .slice Ao27 t707.length co27, .slice Ao28 t710.length co28]] rfl (by (try simp only [List.map_toArray, List.map_cons, List.map_nil]); first | done | rfl | (simp only [List.length_drop, List.length_take]; rfl)) ?_; (with_reducible refine (impl_HeapSame.calls k _ _ t693 _ _ t696 _ _ t699 _ _ t704 _ _ t707 _ _ t710 false _ ?side1 ?side2 ?side3 ?side4 ?side5 ?side6 ?side7 ?side8 ?side9 ?side10 ?side11 ?side12 A29.out).mono ?_); (case side1 => exact (Kd.R_reads' (rf1 BK714.out HO695.out)).2.2); (case side2 => exact (Kd.R_reads' HO695.out).2.1); (case side3 => exact (Kd.R_reads' (rf1 BK714.out HO698.out)).2.2); (case side4 => exact (Kd.R_reads' HO698.out).2.1); (case side5 => exact (Kd.R_reads' (rf1 BK714.out HO701.out)).2.2); (case side6 => exact (Kd.R_reads' HO701.out).2.1); (case side7 => exact (Kd.R_reads' (rf1 BK714.out HO706.out)).2.2); (case side8 => exact (Kd.R_reads' HO706.out).2.1); (case side9 => exact (Kd.R_reads' (rf1 BK714.out HO709.out)).2.2); (case side10 => exact (Kd.R_reads' HO709.out).2.1); (case side11 => exact (Kd.R_reads' (rf1 BK714.out HO712.out)).2.2); (case side12 => exact (Kd.R_reads' HO712.out).2.1); rintro e w56 ⟨rfl, hb⟩; refine ⟨_, rfl, ?_⟩; replace HO683 := am (Kd.R_below (rf1 BK714.out HO683.out) hb); replace HO686 := am (Kd.R_below (rf1 BK714.out HO686.out) hb); replace HO689 := am (Kd.R_below (rf1 BK714.out HO689.out) hb); replace HO695 := am (Kd.R_below (rf1 BK714.out HO695.out) hb); replace HO698 := am (Kd.R_below (rf1 BK714.out HO698.out) hb); replace HO701 := am (Kd.R_below (rf1 BK714.out HO701.out) hb); replace HO706 := am (Kd.R_below (rf1 BK714.out HO706.out) hb); replace HO709 := am (Kd.R_below (rf1 BK714.out HO709.out) hb); replace HO712 := am (Kd.R_below (rf1 BK714.out HO712.out) hb); replace BK692 := am (blk_below (g := gb692) (o := .cells #[.slice Ao9 t681.length co9, .slice Ao11 t684.length co11, .slice Ao12 t687.length co12] 25 (0, 0)) (kf1 NB692_714.out BK692.out) hb); replace BK703 := am (blk_below (g := gb703) (o := .cells #[.slice Ao15 t693.length co15, .slice Ao18 t696.length co18, .slice Ao19 t699.length co19] 25 (0, 0)) (kf1 NB703_714.out BK703.out) hb); replace BK714 := am (blk_below (g := gb714) (o := .cells #[.slice Ao23 t704.length co23, .slice Ao27 t707.length co27, .slice Ao28 t710.length co28] 25 (0, 0)) (kp3 (kf0 BK714.out)) hb); replace HB := am (below_step (bs3 GE692.out GE703.out GE714.out HB.out) hb); (try clear hb); (try clear hb2); (try clear hk); (try clear hi)))
    go_meet
    case rel => exact ⟨_, (true), (by first | rfl | (simp; done) | (simp [*]; done)), H', ⟨by first | omega | exact Nat.le_refl _⟩, ⟨rl (Kd.R_mono HO695.out (fun _ hk => by simp only [ne_eq] at hk ⊢; simp only [hk, not_false_eq_true, and_self]))⟩, ⟨rl (Kd.R_mono HO698.out (fun _ hk => by simp only [ne_eq] at hk ⊢; simp only [hk, not_false_eq_true, and_self]))⟩, ⟨rl (Kd.R_mono HO701.out (fun _ hk => by simp only [ne_eq] at hk ⊢; simp only [hk, not_false_eq_true, and_self]))⟩, ⟨rl (Kd.R_mono HO706.out (fun _ hk => by simp only [ne_eq] at hk ⊢; simp only [hk, not_false_eq_true, and_self]))⟩, ⟨rl (Kd.R_mono HO709.out (fun _ hk => by simp only [ne_eq] at hk ⊢; simp only [hk, not_false_eq_true, and_self]))⟩, ⟨rl (Kd.R_mono HO712.out (fun _ hk => by simp only [ne_eq] at hk ⊢; simp only [hk, not_false_eq_true, and_self]))⟩, ⟨kl BK703.out⟩, ⟨kl BK714.out⟩, ⟨by exact bs3 GE692.out GE703.out GE714.out HB.out⟩⟩
  case rest =>
   clear HC6
   try clear c1
   try clear c2
   try clear c2b0
   try clear c2b1
   try clear p2
   try clear c3
   try clear c4
   try clear c5
   try clear c7
   try clear c13
   try clear c14
   try clear c15
   try clear c16
   try clear c24
   try clear c25
   try clear c30
   try clear c31
   try clear c31b0
   try clear c31b1
   try clear c31b2
   try clear c32
   try clear c33
   try clear c35
   try clear c38
   try clear c39
   try clear c40
   try clear c42
   try clear c45
   try clear c46
   try clear c48
   try clear c51
   try clear c52
   try clear c54
   try clear hcz10_0
   try clear hcz10_1
   try clear hcz10_2
   try clear hcz17_0
   try clear hcz17_1
   try clear hcz17_2
   try clear hcz20_0
   try clear hcz20_1
   try clear hcz20_2
   try clear hcz26_0
   try clear hcz26_1
   try clear hcz26_2
   try clear hcz34_0
   try clear hcz34_1
   try clear hcz34_2
   try clear hcz36_0
   try clear hcz36_1
   try clear hcz36_2
   try clear hcz41_0
   try clear hcz41_1
   try clear hcz41_2
   try clear hcz43_0
   try clear hcz43_1
   try clear hcz43_2
   try clear hcz47_0
   try clear hcz47_1
   try clear hcz47_2
   try clear hcz49_0
   try clear hcz49_1
   try clear hcz49_2
   try clear hcz53_0
   try clear hcz53_1
   try clear hcz53_2
   try clear hcz55_0
   try clear hcz55_1
   try clear hcz55_2
   try clear hfz10_0
   try clear hfz10_1
   try clear hfz10_2
   try clear hfz17_0
   try clear hfz17_1
   try clear hfz17_2
   try clear hfz20_0
   try clear hfz20_1
   try clear hfz20_2
   try clear hfz26_0
   try clear hfz26_1
   try clear hfz26_2
   try clear hfz34_0
   try clear hfz34_1
   try clear hfz34_2
   try clear hfz36_0
   try clear hfz36_1
   try clear hfz36_2
   try clear hfz41_0
   try clear hfz41_1
   try clear hfz41_2
   try clear hfz43_0
   try clear hfz43_1
   try clear hfz43_2
   try clear hfz47_0
   try clear hfz47_1
   try clear hfz47_2
   try clear hfz49_0
   try clear hfz49_1
   try clear hfz49_2
   try clear hfz53_0
   try clear hfz53_1
   try clear hfz53_2
   try clear hfz55_0
   try clear hfz55_1
   try clear hfz55_2
   obtain ⟨kq, x53_5, rfl, HA, HJ5, HO_704000, HO_704001, HO_704002, HO_715000, HO_715001, HO_715002, BK703, BK714, HB⟩ := hcut
   cases kq with
   | zero => exact absurd HA.out (by simp [laws_FnRootDistance.j0])
   | succ kj5 =>
    have H := HA.out
    clear HA
    simp only [laws_FnRootDistance.j0] at H
    by_cases c57 : x53_5 = true
    ·subst c57
     have H1 : ((impl_HeapSame.f kj5 t693 t696 t699 t704 t707 t710).bind fun t716 => (if t716 = true then (some (t702 == t713)) else (none))) = some r := by rw [if_pos rfl] at H; exact H
     clear H
     have H := H1
     clear H1
     replace H := Option.bind_eq_some_iff.mp H
     obtain ⟨t716, A580, H⟩ := H
     replace H : (if t716 = true then (some (t702 == t713)) else (none)) = some r := H
     have A58 := am A580
     clear A580
     by_cases c59 : t716 = true
     ·subst c59
      have H1 : (some (t702 == t713)) = some r := by rw [if_pos rfl] at H; exact H
      clear H
      have H := H1
      clear H1
      obtain rfl := Option.some.inj H
      have hnb60 := NB703_714.out
      have hnc60 := NB714_703.out
      have hcz61_0 : wc.cell? ⟨gb703, 0, none⟩ = some (.slice Ao15 t693.length co15) := (blk_cell BK703.out 0).trans rfl
      have hcz61_1 : wc.cell? ⟨gb703, 1, none⟩ = some (.slice Ao18 t696.length co18) := (blk_cell BK703.out 1).trans rfl
      have hcz61_2 : wc.cell? ⟨gb703, 2, none⟩ = some (.slice Ao19 t699.length co19) := (blk_cell BK703.out 2).trans rfl
      have hfz61_0 := blk_frozen BK703.out 0
      have hfz61_1 := blk_frozen BK703.out 1
      have hfz61_2 := blk_frozen BK703.out 2
      have hcz62_0 : wc.cell? ⟨gb714, 0, none⟩ = some (.slice Ao23 t704.length co23) := (blk_cell BK714.out 0).trans rfl
      have hcz62_1 : wc.cell? ⟨gb714, 1, none⟩ = some (.slice Ao27 t707.length co27) := (blk_cell BK714.out 1).trans rfl
      have hcz62_2 : wc.cell? ⟨gb714, 2, none⟩ = some (.slice Ao28 t710.length co28) := (blk_cell BK714.out 2).trans rfl
      have hfz62_0 := blk_frozen BK714.out 0
      have hfz62_1 := blk_frozen BK714.out 1
      have hfz62_2 := blk_frozen BK714.out 2
      go_wp2_with (first | ((with_reducible refine gate_callee (f := 16) rfl ?_); refine goesL_ (some 56) rfl rfl Try.func16 (by kernel_rfl) rfl #[.agg #[.slice Ao15 t693.length co15, .slice Ao18 t696.length co18, .slice Ao19 t699.length co19], .agg #[.slice Ao23 t704.length co23, .slice Ao27 t707.length co27, .slice Ao28 t710.length co28]] rfl (by (try simp only [List.map_toArray, List.map_cons, List.map_nil]); first | done | rfl | (simp only [List.length_drop, List.length_take]; rfl)) ?_; (with_reducible refine (impl_HeapSame.calls kj5 _ _ t693 _ _ t696 _ _ t699 _ _ t704 _ _ t707 _ _ t710 true _ ?side1 ?side2 ?side3 ?side4 ?side5 ?side6 ?side7 ?side8 ?side9 ?side10 ?side11 ?side12 A58.out).mono ?_); (case side1 => exact cl ((Kd.R_reads' HO_704000.out).2.2)); (case side2 => exact (Kd.R_reads' HO_704000.out).2.1); (case side3 => exact cl ((Kd.R_reads' HO_704001.out).2.2)); (case side4 => exact (Kd.R_reads' HO_704001.out).2.1); (case side5 => exact cl ((Kd.R_reads' HO_704002.out).2.2)); (case side6 => exact (Kd.R_reads' HO_704002.out).2.1); (case side7 => exact cl ((Kd.R_reads' HO_715000.out).2.2)); (case side8 => exact (Kd.R_reads' HO_715000.out).2.1); (case side9 => exact cl ((Kd.R_reads' HO_715001.out).2.2)); (case side10 => exact (Kd.R_reads' HO_715001.out).2.1); (case side11 => exact cl ((Kd.R_reads' HO_715002.out).2.2)); (case side12 => exact (Kd.R_reads' HO_715002.out).2.1); rintro e w63 ⟨rfl, hb⟩; refine ⟨_, rfl, ?_⟩; replace HO_704000 := am (Kd.R_below (rl HO_704000.out) hb); replace HO_704001 := am (Kd.R_below (rl HO_704001.out) hb); replace HO_704002 := am (Kd.R_below (rl HO_704002.out) hb); replace HO_715000 := am (Kd.R_below (rl HO_715000.out) hb); replace HO_715001 := am (Kd.R_below (rl HO_715001.out) hb); replace HO_715002 := am (Kd.R_below (rl HO_715002.out) hb); replace BK703 := am (blk_below (g := gb703) (o := .cells #[.slice Ao15 t693.length co15, .slice Ao18 t696.length co18, .slice Ao19 t699.length co19] 25 (0, 0)) (kl BK703.out) hb); replace BK714 := am (blk_below (g := gb714) (o := .cells #[.slice Ao23 t704.length co23, .slice Ao27 t707.length co27, .slice Ao28 t710.length co28] 25 (0, 0)) (kl BK714.out) hb); replace HB := am (below_step (bs2 GE703.out GE714.out HB.out) hb); (try clear hb); (try clear hb2); (try clear hk); (try clear hi)))
      go_ret
      exact ⟨by first | rfl | (simp [errW_none, errW_some] <;> rfl) | (simp [*, errW_none, errW_some] <;> rfl), by exact bs2 GE703.out GE714.out HB.out⟩
     ·replace c59 := Bool.eq_false_iff.mpr c59
      subst c59
      have H1 : (none) = some r := by rw [if_neg (show ¬ (false = true) by decide)] at H; exact H
      clear H
      have H := H1
      clear H1
      exact absurd H (by simp)
    ·replace c57 := Bool.eq_false_iff.mpr c57
     subst c57
     have H1 : ((impl_DistanceOf.f kj5 t693 t696 t699 t691).bind fun bt717 => ((impl_PathTo.f kj5 t693 t696 t699 t691).bind fun bt719 => (if bt717.2 = true then (if bt717.1 = 1 then (if bt719.2 = true then ((laws_ccInts.f kj5 bt719.1 (([t691] : List Int))).bind fun t726 => (some t726)) else (none)) else (none)) else (none)))) = some r := by rw [if_neg (show ¬ (false = true) by decide)] at H; exact H
     clear H
     have H := H1
     clear H1
     replace H := Option.bind_eq_some_iff.mp H
     obtain ⟨⟨t717, t718⟩, A640, H⟩ := H
     replace H : ((impl_PathTo.f kj5 t693 t696 t699 t691).bind fun bt719 => (if t718 = true then (if t717 = 1 then (if bt719.2 = true then ((laws_ccInts.f kj5 bt719.1 (([t691] : List Int))).bind fun t726 => (some t726)) else (none)) else (none)) else (none))) = some r := H
     have A64 := am A640
     clear A640
     replace H := Option.bind_eq_some_iff.mp H
     obtain ⟨⟨t719, t722⟩, A650, H⟩ := H
     replace H : (if t718 = true then (if t717 = 1 then (if t722 = true then ((laws_ccInts.f kj5 t719 (([t691] : List Int))).bind fun t726 => (some t726)) else (none)) else (none)) else (none)) = some r := H
     have A65 := am A650
     clear A650
     by_cases c66 : t718 = true
     ·subst c66
      have H1 : (if t717 = 1 then (if t722 = true then ((laws_ccInts.f kj5 t719 (([t691] : List Int))).bind fun t726 => (some t726)) else (none)) else (none)) = some r := by rw [if_pos rfl] at H; exact H
      clear H
      have H := H1
      clear H1
      by_cases c67 : t717 = 1
      ·rw [if_pos c67] at H
       have c67b0 : (t717 == 1) = true := beq_iff_eq.mpr c67
       have c67b1 : (t717 != 1) = false := bne_eq_false_iff_eq.mpr c67
       clear c67
       by_cases c68 : t722 = true
       ·subst c68
        have H1 : ((laws_ccInts.f kj5 t719 (([t691] : List Int))).bind fun t726 => (some t726)) = some r := by rw [if_pos rfl] at H; exact H
        clear H
        have H := H1
        clear H1
        obtain ⟨y723, hy723⟩ : ∃ y_ : List Int, y_ = (([t691] : List Int)) := ⟨_, rfl⟩
        replace H : ((laws_ccInts.f kj5 t719 y723).bind fun t726 => (some t726)) = some r := by first | (rw [hy723]; with_reducible exact H) | (have H2_ := (Option.bind_some _ _).symm.trans H; rw [hy723]; with_reducible exact H2_) | (have H2_ := (Option.bind_some _ _).symm.trans H; with_reducible exact H2_) | with_reducible exact H | (rw [hy723]; exact H) | exact H
        have Ny723 := am hy723
        clear hy723
        replace H := Option.bind_eq_some_iff.mp H
        obtain ⟨t726, A690, H⟩ := H
        replace H : (some t726) = some r := H
        have A69 := am A690
        clear A690
        obtain rfl := Option.some.inj H
        have hnb70 := NB703_714.out
        have hnc70 := NB714_703.out
        have hcz71_0 : wc.cell? ⟨gb703, 0, none⟩ = some (.slice Ao15 t693.length co15) := (blk_cell BK703.out 0).trans rfl
        have hcz71_1 : wc.cell? ⟨gb703, 1, none⟩ = some (.slice Ao18 t696.length co18) := (blk_cell BK703.out 1).trans rfl
        have hcz71_2 : wc.cell? ⟨gb703, 2, none⟩ = some (.slice Ao19 t699.length co19) := (blk_cell BK703.out 2).trans rfl
        have hfz71_0 := blk_frozen BK703.out 0
        have hfz71_1 := blk_frozen BK703.out 1
        have hfz71_2 := blk_frozen BK703.out 2
        go_wp2_with (first | ((with_reducible refine gate_callee (f := 27) rfl ?_); refine goesL_ (some 65) rfl rfl Try.func27 (by kernel_rfl) rfl #[.agg #[.slice Ao15 t693.length co15, .slice Ao18 t696.length co18, .slice Ao19 t699.length co19], .int .i64 t691] rfl (by (try simp only [List.map_toArray, List.map_cons, List.map_nil]); first | done | rfl | (simp only [List.length_drop, List.length_take]; rfl)) ?_; (with_reducible refine (impl_DistanceOf.calls kj5 _ _ t693 _ _ t696 _ _ t699 t691 t717 true _ ?side1 ?side2 ?side3 ?side4 ?side5 ?side6 A64.out).mono ?_); (case side1 => exact cl ((Kd.R_reads' HO_704000.out).2.2)); (case side2 => exact (Kd.R_reads' HO_704000.out).2.1); (case side3 => exact cl ((Kd.R_reads' HO_704001.out).2.2)); (case side4 => exact (Kd.R_reads' HO_704001.out).2.1); (case side5 => exact cl ((Kd.R_reads' HO_704002.out).2.2)); (case side6 => exact (Kd.R_reads' HO_704002.out).2.1); rintro e w72 ⟨rfl, hb⟩; refine ⟨_, rfl, ?_⟩; replace HO_704000 := am (Kd.R_below (rl HO_704000.out) hb); replace HO_704001 := am (Kd.R_below (rl HO_704001.out) hb); replace HO_704002 := am (Kd.R_below (rl HO_704002.out) hb); replace HO_715000 := am (Kd.R_below (rl HO_715000.out) hb); replace HO_715001 := am (Kd.R_below (rl HO_715001.out) hb); replace HO_715002 := am (Kd.R_below (rl HO_715002.out) hb); replace BK703 := am (blk_below (g := gb703) (o := .cells #[.slice Ao15 t693.length co15, .slice Ao18 t696.length co18, .slice Ao19 t699.length co19] 25 (0, 0)) (kl BK703.out) hb); replace BK714 := am (blk_below (g := gb714) (o := .cells #[.slice Ao23 t704.length co23, .slice Ao27 t707.length co27, .slice Ao28 t710.length co28] 25 (0, 0)) (kl BK714.out) hb); replace HB := am (below_step (bs2 GE703.out GE714.out HB.out) hb); (try clear hb); (try clear hb2); (try clear hk); (try clear hi); have hcz73_0 : w72.cell? ⟨gb703, 0, none⟩ = some (.slice Ao15 t693.length co15) := (blk_cell BK703.out 0).trans rfl; have hcz73_1 : w72.cell? ⟨gb703, 1, none⟩ = some (.slice Ao18 t696.length co18) := (blk_cell BK703.out 1).trans rfl; have hcz73_2 : w72.cell? ⟨gb703, 2, none⟩ = some (.slice Ao19 t699.length co19) := (blk_cell BK703.out 2).trans rfl; have hfz73_0 := blk_frozen BK703.out 0; have hfz73_1 := blk_frozen BK703.out 1; have hfz73_2 := blk_frozen BK703.out 2) | ((with_reducible refine gate_callee (f := 28) rfl ?_); refine goesL_ (some 71) rfl rfl Try.func28 (by kernel_rfl) rfl #[.agg #[.slice Ao15 t693.length co15, .slice Ao18 t696.length co18, .slice Ao19 t699.length co19], .int .i64 t691] rfl (by (try simp only [List.map_toArray, List.map_cons, List.map_nil]); first | done | rfl | (simp only [List.length_drop, List.length_take]; rfl)) ?_; (with_reducible refine (impl_PathTo.calls kj5 _ _ t693 _ _ t696 _ _ t699 t691 t719 true _ ?side1 ?side2 ?side3 ?side4 ?side5 ?side6 A65.out).mono ?_); (case side1 => exact cl ((Kd.R_reads' HO_704000.out).2.2)); (case side2 => exact (Kd.R_reads' HO_704000.out).2.1); (case side3 => exact cl ((Kd.R_reads' HO_704001.out).2.2)); (case side4 => exact (Kd.R_reads' HO_704001.out).2.1); (case side5 => exact cl ((Kd.R_reads' HO_704002.out).2.2)); (case side6 => exact (Kd.R_reads' HO_704002.out).2.1); rintro e w74 ⟨v720, rfl, ho0, hb⟩; refine ⟨_, rfl, ?_⟩; have HO721 := am (Kd.R_lower (Kd.R_new' (Kd.R_new' (Kd.R_new' (Kd.R_new' (Kd.R_new' (Kd.R_new' ho0 (Kd.R_lt (rl HO_704000.out))) (Kd.R_lt (rl HO_704001.out))) (Kd.R_lt (rl HO_704002.out))) (Kd.R_lt (rl HO_715000.out))) (Kd.R_lt (rl HO_715001.out))) (Kd.R_lt (rl HO_715002.out))) (below_size (bs2 GE703.out GE714.out HB.out))); replace HO_704000 := am (Kd.R_elder' (rl HO_704000.out) (Kd.R_base ho0) hb); replace HO_704001 := am (Kd.R_elder' (rl HO_704001.out) (Kd.R_base ho0) hb); replace HO_704002 := am (Kd.R_elder' (rl HO_704002.out) (Kd.R_base ho0) hb); replace HO_715000 := am (Kd.R_elder' (rl HO_715000.out) (Kd.R_base ho0) hb); replace HO_715001 := am (Kd.R_elder' (rl HO_715001.out) (Kd.R_base ho0) hb); replace HO_715002 := am (Kd.R_elder' (rl HO_715002.out) (Kd.R_base ho0) hb); replace BK703 := am (blk_below (g := gb703) (o := .cells #[.slice Ao15 t693.length co15, .slice Ao18 t696.length co18, .slice Ao19 t699.length co19] 25 (0, 0)) (kl BK703.out) hb); replace BK714 := am (blk_below (g := gb714) (o := .cells #[.slice Ao23 t704.length co23, .slice Ao27 t707.length co27, .slice Ao28 t710.length co28] 25 (0, 0)) (kl BK714.out) hb); replace HB := am (below_step (bs2 GE703.out GE714.out HB.out) hb); (try clear hb); (try clear hb2); (try clear hk); (try clear hi); (try clear ho0)) | ((with_reducible refine gate_dst (N := 85) rfl ?_); (try (refine gate_guard (by rfl) ?_; dsimp only)); refine Kd.R_lit (Kd.int .i64) _ 3 ?hg (N := 85) ?hd (xs := ([t691] : List Int)) (inner := [.int .i64 t691]) (ok := fun _ => True) (okp := fun _ => True) ?hr ?hp (fun _ hk => hk) trivial (Below.refl _ _) (Nat.le_refl _) (by simp) ?_; (case hd => rfl); (case hg => rfl); (case hr => first | (go_simp; done) | (go_simp; rfl)); (case hp => exact (Reps.one (show Kd.M (Kd.int .i64) _ _ _ t691 [.int .i64 t691] from rfl) (Reps.none _ _))); intro v724 w75 ho76 hb hg_ hnew_; clear hg_ hnew_; (first | rw [← Ny723.out] at ho76 | (simp only [Int.reduceToNat] at ho76; rw [← Ny723.out] at ho76)); have HO725 := am (Kd.R_lower (Kd.R_new' (Kd.R_new' (Kd.R_new' (Kd.R_new' (Kd.R_new' (Kd.R_new' (Kd.R_new' ho76 (Kd.R_lt (rl HO_704000.out))) (Kd.R_lt (rl HO_704001.out))) (Kd.R_lt (rl HO_704002.out))) (Kd.R_lt (rl HO_715000.out))) (Kd.R_lt (rl HO_715001.out))) (Kd.R_lt (rl HO_715002.out))) (Kd.R_lt (rl HO721.out))) (below_size (bs2 GE703.out GE714.out HB.out))); replace HO_704000 := am (Kd.R_elder' (rl HO_704000.out) (Kd.R_base ho76) hb); replace HO_704001 := am (Kd.R_elder' (rl HO_704001.out) (Kd.R_base ho76) hb); replace HO_704002 := am (Kd.R_elder' (rl HO_704002.out) (Kd.R_base ho76) hb); replace HO_715000 := am (Kd.R_elder' (rl HO_715000.out) (Kd.R_base ho76) hb); replace HO_715001 := am (Kd.R_elder' (rl HO_715001.out) (Kd.R_base ho76) hb); replace HO_715002 := am (Kd.R_elder' (rl HO_715002.out) (Kd.R_base ho76) hb); replace HO721 := am (Kd.R_elder' (rl HO721.out) (Kd.R_base ho76) hb); replace BK703 := am (blk_below (g := gb703) (o := .cells #[.slice Ao15 t693.length co15, .slice Ao18 t696.length co18, .slice Ao19 t699.length co19] 25 (0, 0)) (kl BK703.out) hb); replace BK714 := am (blk_below (g := gb714) (o := .cells #[.slice Ao23 t704.length co23, .slice Ao27 t707.length co27, .slice Ao28 t710.length co28] 25 (0, 0)) (kl BK714.out) hb); replace HB := am (below_step (bs2 GE703.out GE714.out HB.out) hb); clear hb ho76; obtain ⟨Ao77, co77, eo77⟩ := Kd.R_slice HO721.out; subst eo77; obtain ⟨Ao78, co78, eo78⟩ := Kd.R_slice HO725.out; subst eo78) | (go_at_call 19; (with_reducible refine (laws_ccInts.calls kj5 _ _ t719 _ _ y723 t726 _ ?side1 ?side2 ?side3 ?side4 A69.out).mono ?_); (case side1 => exact cl ((Kd.R_reads' HO721.out).2.2)); (case side2 => exact (Kd.R_reads' HO721.out).2.1); (case side3 => exact cl ((Kd.R_reads' HO725.out).2.2)); (case side4 => exact (Kd.R_reads' HO725.out).2.1); rintro e w' ⟨rfl, ⟨nd, rfl⟩⟩))
        go_ret
        exact ⟨by first | rfl | (simp [errW_none, errW_some] <;> rfl) | (simp [*, errW_none, errW_some] <;> rfl), by exact bs2 GE703.out GE714.out HB.out⟩
       ·replace c68 := Bool.eq_false_iff.mpr c68
        subst c68
        have H1 : (none) = some r := by rw [if_neg (show ¬ (false = true) by decide)] at H; exact H
        clear H
        have H := H1
        clear H1
        exact absurd H (by simp)
      ·rw [if_neg c67] at H
       exact absurd H (by simp)
     ·replace c66 := Bool.eq_false_iff.mpr c66
      subst c66
      have H1 : (none) = some r := by rw [if_neg (show ¬ (false = true) by decide)] at H; exact H
      clear H
      have H := H1
      clear H1
      exact absurd H (by simp)

/-- THE ONE PURE STATEMENT of laws_FnRootDistance: yours. -/
def laws_FnRootDistance.Pure : Prop := ∀ (l0 : List Int), l0.length ≤ maxLen → l0.length * 1 ≤ 140737488351232 → (∀ x ∈ l0, (Lit.int .u8 x).wf = true) → ∃ k, laws_FnRootDistance.f k l0 = some true
theorem laws_FnRootDistance.walk (P : laws_FnRootDistance.Pure) (a0 : Option Addr) (len0 cap0 : Nat) (z0 : List Int) (w : World) (w0 : (a0 = none ∧ len0 = 0 ∧ cap0 = 0 ∧ z0 = []) ∨ ∃ x, a0 = some x ∧ len0 ≤ cap0 ∧ cap0 ≤ maxLen ∧ z0.length = cap0 ∧ (∀ i, i < z0.length → w.cell? (x.add i) = some (.int .u8 (z0.getD i 0))) ∧ ∀ n ∈ z0, (Lit.int .u8 n).wf = true) (y0 : len0 * 1 ≤ 140737488351232) :
  Calls Try.prog 7 #[.slice a0 len0 cap0] w fun e w' => e = .returned (.bool true) ∧ Below w.heap.size w w' := by
 obtain ⟨l0, rfl, hr0, hm0, hw0, hc0⟩ := ReadsInt.ofRowC w0
 obtain ⟨k, h⟩ := P l0 hm0 y0 hw0
 refine (laws_FnRootDistance.calls k _ _ l0 true w (Kd.C_of_reads (d := (0 : Int)) (h1 := fun _ => rfl) hr0) hc0 h).mono ?_
 rintro e w' ⟨rfl, hd⟩
 exact ⟨rfl, hd⟩

end Go.Proofs.Ytghgpinhghhlgaa.A
