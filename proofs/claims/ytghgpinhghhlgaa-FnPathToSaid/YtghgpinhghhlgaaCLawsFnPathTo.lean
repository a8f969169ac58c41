/- Contracts of functions of the given program (CLawsFnPathTo). No conditions beyond those stated. -/
import Derived.Test.YtghgpinhghhlgaaA0
import Derived.Test.YtghgpinhghhlgaaAImplDistanceOf
import Derived.Test.YtghgpinhghhlgaaAImplPathTo
import Derived.Test.YtghgpinhghhlgaaALawsCcInts
import Derived.Test.YtghgpinhghhlgaaASpecDrawPathTo
import Derived.Test.YtghgpinhghhlgaaASpecPathTo
import Derived.Test.YtghgpinhghhlgaaA0
namespace Go.Proofs.Ytghgpinhghhlgaa.A
open Go.RowKit Go.Proofs.YtghgpinhghhlgaaW.PrintWords Go.Proofs.YtghgpinhghhlgaaW.PrintLast Go.Proofs.YtghgpinhghhlgaaW.PrintMore
attribute [local go_sem] max2_int min2_int max_two min_two max_three min_three max_four min_four   -- for this text's walks alone
set_option linter.unusedVariables false
set_option linter.unusedSimpArgs false

/-! ### laws_FnPathTo -/
mutual
def laws_FnPathTo.j0 : Nat → Int → List Int → Bool → List Int → Bool → Bool → List Int → List Int → List Int → Option (Bool)
 | 0, _, _, _, _, _, _, _, _, _ => none
 | k + 1, x4, x5, x6, x7, x8, x46, x819000, x819001, x819002 => if x46 = true then ((laws_ccInts.f k x5 x7).bind fun t828 => (if t828 = true then (some (x6 == x8)) else (none))) else ((impl_DistanceOf.f k x819000 x819001 x819002 x4).bind fun bt829 => (laws_FnPathTo.l0 k x4 x5 bt829.1 bt829.2 false 0 x819000 x819001 x819002))
def laws_FnPathTo.l0 : Nat → Int → List Int → Int → Bool → Bool → Int → List Int → List Int → List Int → Option (Bool)
 | 0, _, _, _, _, _, _, _, _, _ => none
 | k + 1, x4, x5, x9, x10, x11, x12, x819000, x819001, x819002 => if x12 < (x819002.length : Int) then (if x11 = true then (laws_FnPathTo.l0 k x4 x5 x9 x10 true (wrap64 (x12 + 1)) x819000 x819001 x819002) else (if 0 ≤ x12 then (if 0 < (x5.length : Int) then (laws_FnPathTo.l0 k x4 x5 x9 x10 ((rd x819002 x12) == (rd x5 0)) (wrap64 (x12 + 1)) x819000 x819001 x819002) else (none)) else (none))) else (laws_FnPathTo.l1 k x4 x5 x9 x10 x11 1 x819000 x819001 x819002)
def laws_FnPathTo.l1 : Nat → Int → List Int → Int → Bool → Bool → Int → List Int → List Int → List Int → Option (Bool)
 | 0, _, _, _, _, _, _, _, _, _ => none
 | k + 1, x4, x5, x9, x10, x11, x13, x819000, x819001, x819002 => if x13 < (x5.length : Int) then (if 0 ≤ (wrap64 (x13 - 1)) then (if (wrap64 (x13 - 1)) < (x5.length : Int) then (if 0 ≤ (rd x5 (wrap64 (x13 - 1))) then (if (rd x5 (wrap64 (x13 - 1))) < (x819000.length : Int) then (if 0 ≤ x13 then (if (rd x819000 (rd x5 (wrap64 (x13 - 1)))) = (rd x5 x13) then (laws_FnPathTo.l1 k x4 x5 x9 x10 x11 (wrap64 (x13 + 1)) x819000 x819001 x819002) else (if (rd x5 (wrap64 (x13 - 1))) < (x819001.length : Int) then (if (rd x819001 (rd x5 (wrap64 (x13 - 1)))) = (rd x5 x13) then (laws_FnPathTo.l1 k x4 x5 x9 x10 x11 (wrap64 (x13 + 1)) x819000 x819001 x819002) else (none)) else (none))) else (none)) else (none)) else (none)) else (none)) else (none)) else (if x10 = true then (if x11 = true then (if (x5.length : Int) = x9 then (if 0 ≤ (wrap64 (x9 - 1)) then (if (wrap64 (x9 - 1)) < (x5.length : Int) then (some ((rd x5 (wrap64 (x9 - 1))) == x4)) else (none)) else (none)) else (none)) else (none)) else (none))
end
def laws_FnPathTo.f (k : Nat) (l0 : List Int) : Option (Bool) := if (l0.length : Int) > 1048576 then (some true) else ((spec_DrawPathTo.f k l0).bind fun bt808 => ((impl_PathTo.f k bt808.1 bt808.2.1 bt808.2.2.1 bt808.2.2.2).bind fun bt819 => ((spec_PathTo.f k bt808.1 bt808.2.1 bt808.2.2.1 bt808.2.2.2).bind fun bt823 => ((laws_ccInts.f k bt819.1 bt823.1).bind fun t827 => (if t827 = true then (if (bt819.2 != bt823.2) = true then (laws_FnPathTo.j0 k bt808.2.2.2 bt819.1 bt819.2 bt823.1 bt823.2 true bt808.1 bt808.2.1 bt808.2.2.1) else (laws_FnPathTo.j0 k bt808.2.2.2 bt819.1 bt819.2 bt823.1 bt823.2 (!bt819.2) bt808.1 bt808.2.1 bt808.2.2.1)) else (laws_FnPathTo.j0 k bt808.2.2.2 bt819.1 bt819.2 bt823.1 bt823.2 true bt808.1 bt808.2.1 bt808.2.2.1))))))
theorem laws_FnPathTo.mono_l : ∀ k, (∀ y0 y1 y2 y3 y4 y5 y6 y7 y8, LeO (laws_FnPathTo.j0 k y0 y1 y2 y3 y4 y5 y6 y7 y8) (laws_FnPathTo.j0 (k + 1) y0 y1 y2 y3 y4 y5 y6 y7 y8)) ∧ (∀ y0 y1 y2 y3 y4 y5 y6 y7 y8, LeO (laws_FnPathTo.l0 k y0 y1 y2 y3 y4 y5 y6 y7 y8) (laws_FnPathTo.l0 (k + 1) y0 y1 y2 y3 y4 y5 y6 y7 y8)) ∧ (∀ y0 y1 y2 y3 y4 y5 y6 y7 y8, LeO (laws_FnPathTo.l1 k y0 y1 y2 y3 y4 y5 y6 y7 y8) (laws_FnPathTo.l1 (k + 1) y0 y1 y2 y3 y4 y5 y6 y7 y8))
 | 0 => ⟨fun _ _ _ _ _ _ _ _ _ r h => by simp [laws_FnPathTo.j0] at h, fun _ _ _ _ _ _ _ _ _ r h => by simp [laws_FnPathTo.l0] at h, fun _ _ _ _ _ _ _ _ _ r h => by simp [laws_FnPathTo.l1] at h⟩
 | k + 1 => by
  obtain ⟨ih0, ih1, ih2⟩ := laws_FnPathTo.mono_l k
  refine ⟨?_, ?_, ?_⟩
  ·intro y0 y1 y2 y3 y4 y5 y6 y7 y8
   unfold laws_FnPathTo.j0
   repeat' first
   | (with_reducible exact ih0 _ _ _ _ _ _ _ _ _)
   | (with_reducible exact ih1 _ _ _ _ _ _ _ _ _)
   | (with_reducible exact ih2 _ _ _ _ _ _ _ _ _)
   | (with_reducible exact impl_DistanceOf.mono _ _ _ _ _)
   | (with_reducible exact impl_PathTo.mono _ _ _ _ _)
   | (with_reducible exact laws_ccInts.mono _ _ _)
   | (with_reducible exact spec_DrawPathTo.mono _ _)
   | (with_reducible exact spec_PathTo.mono _ _ _ _ _)
   | (with_reducible exact LeO.refl _)
   | (with_reducible exact LeO.none _)
   | (with_reducible refine LeO.ite ?_ ?_)
   | (with_reducible refine LeO.bind ?_ (fun _ => ?_))
   | exact ih0 _ _ _ _ _ _ _ _ _
   | exact ih1 _ _ _ _ _ _ _ _ _
   | exact ih2 _ _ _ _ _ _ _ _ _
   | exact impl_DistanceOf.mono _ _ _ _ _
   | exact impl_PathTo.mono _ _ _ _ _
   | exact laws_ccInts.mono _ _ _
   | exact spec_DrawPathTo.mono _ _
   | exact spec_PathTo.mono _ _ _ _ _
   | exact LeO.none _
   | refine LeO.ite ?_ ?_
   | refine LeO.bind ?_ (fun _ => ?_)
  ·intro y0 y1 y2 y3 y4 y5 y6 y7 y8
   unfold laws_FnPathTo.l0
   repeat' first
   | (with_reducible exact ih0 _ _ _ _ _ _ _ _ _)
   | (with_reducible exact ih1 _ _ _ _ _ _ _ _ _)
   | (with_reducible exact ih2 _ _ _ _ _ _ _ _ _)
   | (with_reducible exact impl_DistanceOf.mono _ _ _ _ _)
   | (with_reducible exact impl_PathTo.mono _ _ _ _ _)
   | (with_reducible exact laws_ccInts.mono _ _ _)
   | (with_reducible exact spec_DrawPathTo.mono _ _)
   | (with_reducible exact spec_PathTo.mono _ _ _ _ _)
   | (with_reducible exact LeO.refl _)
   | (with_reducible exact LeO.none _)
   | (with_reducible refine LeO.ite ?_ ?_)
   | (with_reducible refine LeO.bind ?_ (fun _ => ?_))
   | exact ih0 _ _ _ _ _ _ _ _ _
   | exact ih1 _ _ _ _ _ _ _ _ _
   | exact ih2 _ _ _ _ _ _ _ _ _
   | exact impl_DistanceOf.mono _ _ _ _ _
   | exact impl_PathTo.mono _ _ _ _ _
   | exact laws_ccInts.mono _ _ _
   | exact spec_DrawPathTo.mono _ _
   | exact spec_PathTo.mono _ _ _ _ _
   | exact LeO.none _
   | refine LeO.ite ?_ ?_
   | refine LeO.bind ?_ (fun _ => ?_)
  ·intro y0 y1 y2 y3 y4 y5 y6 y7 y8
   unfold laws_FnPathTo.l1
   repeat' first
   | (with_reducible exact ih0 _ _ _ _ _ _ _ _ _)
   | (with_reducible exact ih1 _ _ _ _ _ _ _ _ _)
   | (with_reducible exact ih2 _ _ _ _ _ _ _ _ _)
   | (with_reducible exact impl_DistanceOf.mono _ _ _ _ _)
   | (with_reducible exact impl_PathTo.mono _ _ _ _ _)
   | (with_reducible exact laws_ccInts.mono _ _ _)
   | (with_reducible exact spec_DrawPathTo.mono _ _)
   | (with_reducible exact spec_PathTo.mono _ _ _ _ _)
   | (with_reducible exact LeO.refl _)
   | (with_reducible exact LeO.none _)
   | (with_reducible refine LeO.ite ?_ ?_)
   | (with_reducible refine LeO.bind ?_ (fun _ => ?_))
   | exact ih0 _ _ _ _ _ _ _ _ _
   | exact ih1 _ _ _ _ _ _ _ _ _
   | exact ih2 _ _ _ _ _ _ _ _ _
   | exact impl_DistanceOf.mono _ _ _ _ _
   | exact impl_PathTo.mono _ _ _ _ _
   | exact laws_ccInts.mono _ _ _
   | exact spec_DrawPathTo.mono _ _
   | exact spec_PathTo.mono _ _ _ _ _
   | exact LeO.none _
   | refine LeO.ite ?_ ?_
   | refine LeO.bind ?_ (fun _ => ?_)
theorem laws_FnPathTo.mono : ∀ a0 k, LeO (laws_FnPathTo.f k a0) (laws_FnPathTo.f (k + 1) a0) := by
 intro a0 k
 obtain ⟨ih0, ih1, ih2⟩ := laws_FnPathTo.mono_l k
 unfold laws_FnPathTo.f
 repeat' first
   | (with_reducible exact ih0 _ _ _ _ _ _ _ _ _)
   | (with_reducible exact ih1 _ _ _ _ _ _ _ _ _)
   | (with_reducible exact ih2 _ _ _ _ _ _ _ _ _)
   | (with_reducible exact impl_DistanceOf.mono _ _ _ _ _)
   | (with_reducible exact impl_PathTo.mono _ _ _ _ _)
   | (with_reducible exact laws_ccInts.mono _ _ _)
   | (with_reducible exact spec_DrawPathTo.mono _ _)
   | (with_reducible exact spec_PathTo.mono _ _ _ _ _)
   | (with_reducible exact LeO.refl _)
   | (with_reducible exact LeO.none _)
   | (with_reducible refine LeO.ite ?_ ?_)
   | (with_reducible refine LeO.bind ?_ (fun _ => ?_))
   | exact ih0 _ _ _ _ _ _ _ _ _
   | exact ih1 _ _ _ _ _ _ _ _ _
   | exact ih2 _ _ _ _ _ _ _ _ _
   | exact impl_DistanceOf.mono _ _ _ _ _
   | exact impl_PathTo.mono _ _ _ _ _
   | exact laws_ccInts.mono _ _ _
   | exact spec_DrawPathTo.mono _ _
   | exact spec_PathTo.mono _ _ _ _ _
   | exact LeO.none _
   | refine LeO.ite ?_ ?_
   | refine LeO.bind ?_ (fun _ => ?_)
set_option maxHeartbeats 8000000 in
set_option maxRecDepth 100000 in
theorem laws_FnPathTo.calls (k : Nat) (A0 : Option Addr) (c0 : Nat) (l0 : List Int) (r : Bool) (w : World) (hr0 : Kd.C (Kd.int .u8) w A0 l0.length l0) (hc0 : l0.length ≤ c0) (h : laws_FnPathTo.f k l0 = some r) :
  Calls Try.prog 9 #[.slice A0 l0.length c0] w fun e w' => e = .returned (.bool r) ∧ Below w.heap.size w w' := by
 have hu25 := Try.underlying25
 have HR0 := am hr0
 have HC0 := am hc0
 clear hr0 hc0
 have HB := am (Below.refl w.heap.size w)
 have H : (if (l0.length : Int) > 1048576 then (some true) else ((spec_DrawPathTo.f k l0).bind fun bt808 => ((impl_PathTo.f k bt808.1 bt808.2.1 bt808.2.2.1 bt808.2.2.2).bind fun bt819 => ((spec_PathTo.f k bt808.1 bt808.2.1 bt808.2.2.1 bt808.2.2.2).bind fun bt823 => ((laws_ccInts.f k bt819.1 bt823.1).bind fun t827 => (if t827 = true then (if (bt819.2 != bt823.2) = true then (laws_FnPathTo.j0 k bt808.2.2.2 bt819.1 bt819.2 bt823.1 bt823.2 true bt808.1 bt808.2.1 bt808.2.2.1) else (laws_FnPathTo.j0 k bt808.2.2.2 bt819.1 bt819.2 bt823.1 bt823.2 (!bt819.2) bt808.1 bt808.2.1 bt808.2.2.1)) else (laws_FnPathTo.j0 k bt808.2.2.2 bt819.1 bt819.2 bt823.1 bt823.2 true bt808.1 bt808.2.1 bt808.2.2.1))))))) = some r := h
 clear h
 by_cases c2 : (l0.length : Int) > 1048576
 ·rw [if_pos c2] at H
  have c2b0 : decide (1048576 < (l0.length : Int)) = true := decide_eq_true c2
  have c2b1 : decide (1048576 < l0.length) = true := decide_eq_true (by omega)
  clear c2
  obtain rfl := Option.some.inj H
  go_enter Try.func9, Try.ntmps9
  go_wp2
  repeat (go_quiet (fail); try go_wp2)
  go_ret
  exact ⟨by first | rfl | (simp [errW_none, errW_some] <;> rfl) | (simp [*, errW_none, errW_some] <;> rfl), by exact bs0 HB.out⟩
 ·rw [if_neg c2] at H
  have c2b0 : decide (1048576 < (l0.length : Int)) = false := decide_eq_false c2
  have c2b1 : decide (1048576 < l0.length) = false := decide_eq_false (by omega)
  clear c2
  replace H := Option.bind_eq_some_iff.mp H
  obtain ⟨⟨t808, t811, t814, t817⟩, A30, H⟩ := H
  replace H : ((impl_PathTo.f k t808 t811 t814 t817).bind fun bt819 => ((spec_PathTo.f k t808 t811 t814 t817).bind fun bt823 => ((laws_ccInts.f k bt819.1 bt823.1).bind fun t827 => (if t827 = true then (if (bt819.2 != bt823.2) = true then (laws_FnPathTo.j0 k t817 bt819.1 bt819.2 bt823.1 bt823.2 true t808 t811 t814) else (laws_FnPathTo.j0 k t817 bt819.1 bt819.2 bt823.1 bt823.2 (!bt819.2) t808 t811 t814)) else (laws_FnPathTo.j0 k t817 bt819.1 bt819.2 bt823.1 bt823.2 true t808 t811 t814))))) = some r := H
  have A3 := am A30
  clear A30
  replace H := Option.bind_eq_some_iff.mp H
  obtain ⟨⟨t819, t822⟩, A40, H⟩ := H
  replace H : ((spec_PathTo.f k t808 t811 t814 t817).bind fun bt823 => ((laws_ccInts.f k t819 bt823.1).bind fun t827 => (if t827 = true then (if (t822 != bt823.2) = true then (laws_FnPathTo.j0 k t817 t819 t822 bt823.1 bt823.2 true t808 t811 t814) else (laws_FnPathTo.j0 k t817 t819 t822 bt823.1 bt823.2 (!t822) t808 t811 t814)) else (laws_FnPathTo.j0 k t817 t819 t822 bt823.1 bt823.2 true t808 t811 t814)))) = some r := H
  have A4 := am A40
  clear A40
  replace H := Option.bind_eq_some_iff.mp H
  obtain ⟨⟨t823, t826⟩, A50, H⟩ := H
  replace H : ((laws_ccInts.f k t819 t823).bind fun t827 => (if t827 = true then (if (t822 != t826) = true then (laws_FnPathTo.j0 k t817 t819 t822 t823 t826 true t808 t811 t814) else (laws_FnPathTo.j0 k t817 t819 t822 t823 t826 (!t822) t808 t811 t814)) else (laws_FnPathTo.j0 k t817 t819 t822 t823 t826 true t808 t811 t814))) = some r := H
  have A5 := am A50
  clear A50
  have HC6 := am H
  clear H
  go_enter Try.func9, Try.ntmps9
  go_upto_region 6 with (first | (go_at_call 29; (with_reducible refine (spec_DrawPathTo.calls k _ _ l0 t808 t811 t814 t817 _ ?side1 ?side2 A3.out).mono ?_); (case side1 => exact cl (HR0.out)); (case side2 => exact HC0.out); rintro e w7 ⟨v809, v812, v815, rfl, ho0, ho1, ho2, hb⟩; have HO810 := am (Kd.R_lower ho0 (below_size (bl HB.out))); have HO813 := am (Kd.R_lower ho1 (below_size (bl HB.out))); have HO816 := am (Kd.R_lower ho2 (below_size (bl HB.out))); replace HB := am (below_step (bl HB.out) hb); (try clear hb); (try clear hb2); (try clear hk); (try clear hi); (try clear ho0); (try clear ho1); (try clear ho2)) | ((with_reducible refine gate_dst (N := 3) rfl ?_); (try (refine gate_guard (by rfl) ?_; dsimp only)); refine box_event ?hg (N := 3) ?hd (cs := #[.slice none 0 0, .slice none 0 0, .slice none 0 0]) (t := 25) ?hr ?_; (case hd => rfl); (case hg => rfl); (case hr => first | (go_simp; done) | (go_simp; rfl)); intro gb818 hg w8 hbox hb; replace HO810 := am (Kd.R_below (rl HO810.out) hb); replace HO813 := am (Kd.R_below (rl HO813.out) hb); replace HO816 := am (Kd.R_below (rl HO816.out) hb); have BK818 := am (hbox); have GW818 := am ((by rw [hg]; exact (below_size (bl HB.out)) : w.heap.size ≤ gb818)); have GE818 := am ((by rw [hg]; exact (below_size (bl HB.out)) : w.heap.size ≤ gb818)); replace HB := am (below_step (bl HB.out) hb); clear hb hbox hg; obtain ⟨Ao9, co9, eo9⟩ := Kd.R_slice HO810.out; subst eo9; have hcz10_0 : w8.cell? ⟨gb818, 0, none⟩ = some (.slice none 0 0) := (blk_cell BK818.out 0).trans rfl; have hcz10_1 : w8.cell? ⟨gb818, 1, none⟩ = some (.slice none 0 0) := (blk_cell BK818.out 1).trans rfl; have hcz10_2 : w8.cell? ⟨gb818, 2, none⟩ = some (.slice none 0 0) := (blk_cell BK818.out 2).trans rfl; have hfz10_0 := blk_frozen BK818.out 0; have hfz10_1 := blk_frozen BK818.out 1; have hfz10_2 := blk_frozen BK818.out 2; obtain ⟨Ao11, co11, eo11⟩ := Kd.R_slice HO813.out; subst eo11; obtain ⟨Ao12, co12, eo12⟩ := Kd.R_slice HO816.out; subst eo12) | (go_at_call 28; (with_reducible refine (impl_PathTo.calls k _ _ t808 _ _ t811 _ _ t814 t817 t819 t822 _ ?side1 ?side2 ?side3 ?side4 ?side5 ?side6 A4.out).mono ?_); (case side1 => exact (Kd.R_reads' (rf1 BK818.out HO810.out)).2.2); (case side2 => exact (Kd.R_reads' HO810.out).2.1); (case side3 => exact (Kd.R_reads' (rf1 BK818.out HO813.out)).2.2); (case side4 => exact (Kd.R_reads' HO813.out).2.1); (case side5 => exact (Kd.R_reads' (rf1 BK818.out HO816.out)).2.2); (case side6 => exact (Kd.R_reads' HO816.out).2.1); rintro e w13 ⟨v820, rfl, ho0, hb⟩; have HO821 := am (Kd.R_lower (Kd.R_new' (Kd.R_new' (Kd.R_new' ho0 (Kd.R_lt (rf1 BK818.out HO810.out))) (Kd.R_lt (rf1 BK818.out HO813.out))) (Kd.R_lt (rf1 BK818.out HO816.out))) (below_size (bs1 GE818.out HB.out))); replace HO810 := am (Kd.R_elder' (rf1 BK818.out HO810.out) (Kd.R_base ho0) hb); replace HO813 := am (Kd.R_elder' (rf1 BK818.out HO813.out) (Kd.R_base ho0) hb); replace HO816 := am (Kd.R_elder' (rf1 BK818.out HO816.out) (Kd.R_base ho0) hb); replace BK818 := am (blk_below (g := gb818) (o := .cells #[.slice Ao9 t808.length co9, .slice Ao11 t811.length co11, .slice Ao12 t814.length co12] 25 (0, 0)) (kp3 (kf0 BK818.out)) hb); replace HB := am (below_step (bs1 GE818.out HB.out) hb); (try clear hb); (try clear hb2); (try clear hk); (try clear hi); (try clear ho0); have hcz14_0 : w13.cell? ⟨gb818, 0, none⟩ = some (.slice Ao9 t808.length co9) := (blk_cell BK818.out 0).trans rfl; have hcz14_1 : w13.cell? ⟨gb818, 1, none⟩ = some (.slice Ao11 t811.length co11) := (blk_cell BK818.out 1).trans rfl; have hcz14_2 : w13.cell? ⟨gb818, 2, none⟩ = some (.slice Ao12 t814.length co12) := (blk_cell BK818.out 2).trans rfl; have hfz14_0 := blk_frozen BK818.out 0; have hfz14_1 := blk_frozen BK818.out 1; have hfz14_2 := blk_frozen BK818.out 2) | (go_at_call 30; (with_reducible refine (spec_PathTo.calls k _ _ t808 _ _ t811 _ _ t814 t817 t823 t826 _ ?side1 ?side2 ?side3 ?side4 ?side5 ?side6 A5.out).mono ?_); (case side1 => exact cl ((Kd.R_reads' HO810.out).2.2)); (case side2 => exact (Kd.R_reads' HO810.out).2.1); (case side3 => exact cl ((Kd.R_reads' HO813.out).2.2)); (case side4 => exact (Kd.R_reads' HO813.out).2.1); (case side5 => exact cl ((Kd.R_reads' HO816.out).2.2)); (case side6 => exact (Kd.R_reads' HO816.out).2.1); rintro e w15 ⟨v824, rfl, ho0, hb⟩; have HO825 := am (Kd.R_lower (Kd.R_new' (Kd.R_new' (Kd.R_new' (Kd.R_new' ho0 (Kd.R_lt (rl HO810.out))) (Kd.R_lt (rl HO813.out))) (Kd.R_lt (rl HO816.out))) (Kd.R_lt (rl HO821.out))) (below_size (bs1 GE818.out HB.out))); replace HO810 := am (Kd.R_elder' (rl HO810.out) (Kd.R_base ho0) hb); replace HO813 := am (Kd.R_elder' (rl HO813.out) (Kd.R_base ho0) hb); replace HO816 := am (Kd.R_elder' (rl HO816.out) (Kd.R_base ho0) hb); replace HO821 := am (Kd.R_elder' (rl HO821.out) (Kd.R_base ho0) hb); replace BK818 := am (blk_below (g := gb818) (o := .cells #[.slice Ao9 t808.length co9, .slice Ao11 t811.length co11, .slice Ao12 t814.length co12] 25 (0, 0)) (kl BK818.out) hb); replace HB := am (below_step (bs1 GE818.out HB.out) hb); (try clear hb); (try clear hb2); (try clear hk); (try clear hi); (try clear ho0)))
  repeat (go_quiet (first | (go_at_call 29; (with_reducible refine (spec_DrawPathTo.calls k _ _ l0 t808 t811 t814 t817 _ ?side1 ?side2 A3.out).mono ?_); (case side1 => exact cl (HR0.out)); (case side2 => exact HC0.out); rintro e w7 ⟨v809, v812, v815, rfl, ho0, ho1, ho2, hb⟩; have HO810 := am (Kd.R_lower ho0 (below_size (bl HB.out))); have HO813 := am (Kd.R_lower ho1 (below_size (bl HB.out))); have HO816 := am (Kd.R_lower ho2 (below_size (bl HB.out))); replace HB := am (below_step (bl HB.out) hb); (try clear hb); (try clear hb2); (try clear hk); (try clear hi); (try clear ho0); (try clear ho1); (try clear ho2)) | ((with_reducible refine gate_dst (N := 3) rfl ?_); (try (refine gate_guard (by rfl) ?_; dsimp only)); refine box_event ?hg (N := 3) ?hd (cs := #[.slice none 0 0, .slice none 0 0, .slice none 0 0]) (t := 25) ?hr ?_; (case hd => rfl); (case hg => rfl); (case hr => first | (go_simp; done) | (go_simp; rfl)); intro gb818 hg w8 hbox hb; replace HO810 := am (Kd.R_below (rl HO810.out) hb); replace HO813 := am (Kd.R_below (rl HO813.out) hb); replace HO816 := am (Kd.R_below (rl HO816.out) hb); have BK818 := am (hbox); have GW818 := am ((by rw [hg]; exact (below_size (bl HB.out)) : w.heap.size ≤ gb818)); have GE818 := am ((by rw [hg]; exact (below_size (bl HB.out)) : w.heap.size ≤ gb818)); replace HB := am (below_step (bl HB.out) hb); clear hb hbox hg; obtain ⟨Ao9, co9, eo9⟩ := Kd.R_slice HO810.out; subst eo9; have hcz10_0 : w8.cell? ⟨gb818, 0, none⟩ = some (.slice none 0 0) := (blk_cell BK818.out 0).trans rfl; have hcz10_1 : w8.cell? ⟨gb818, 1, none⟩ = some (.slice none 0 0) := (blk_cell BK818.out 1).trans rfl; have hcz10_2 : w8.cell? ⟨gb818, 2, none⟩ = some (.slice none 0 0) := (blk_cell BK818.out 2).trans rfl; have hfz10_0 := blk_frozen BK818.out 0; have hfz10_1 := blk_frozen BK818.out 1; have hfz10_2 := blk_frozen BK818.out 2; obtain ⟨Ao11, co11, eo11⟩ := Kd.R_slice HO813.out; subst eo11; obtain ⟨Ao12, co12, eo12⟩ := Kd.R_slice HO816.out; subst eo12) | (go_at_call 28; (with_reducible refine (impl_PathTo.calls k _ _ t808 _ _ t811 _ _ t814 t817 t819 t822 _ ?side1 ?side2 ?side3 ?side4 ?side5 ?side6 A4.out).mono ?_); (case side1 => exact (Kd.R_reads' (rf1 BK818.out HO810.out)).2.2); (case side2 => exact (Kd.R_reads' HO810.out).2.1); (case side3 => exact (Kd.R_reads' (rf1 BK818.out HO813.out)).2.2); (case side4 => exact (Kd.R_reads' HO813.out).2.1); (case side5 => exact (Kd.R_reads' (rf1 BK818.out HO816.out)).2.2); (case side6 => exact (Kd.R_reads' HO816.out).2.1); rintro e w13 ⟨v820, rfl, ho0, hb⟩; have HO821 := am (Kd.R_lower (Kd.R_new' (Kd.R_new' (Kd.R_new' ho0 (Kd.R_lt (rf1 BK818.out HO810.out))) (Kd.R_lt (rf1 BK818.out HO813.out))) (Kd.R_lt (rf1 BK818.out HO816.out))) (below_size (bs1 GE818.out HB.out))); replace HO810 := am (Kd.R_elder' (rf1 BK818.out HO810.out) (Kd.R_base ho0) hb); replace HO813 := am (Kd.R_elder' (rf1 BK818.out HO813.out) (Kd.R_base ho0) hb); replace HO816 := am (Kd.R_elder' (rf1 BK818.out HO816.out) (Kd.R_base ho0) hb); replace BK818 := am (blk_below (g := gb818) (o := .cells #[.slice Ao9 t808.length co9, .slice Ao11 t811.length co11, .slice Ao12 t814.length co12] 25 (0, 0)) (kp3 (kf0 BK818.out)) hb); replace HB := am (below_step (bs1 GE818.out HB.out) hb); (try clear hb); (try clear hb2); (try clear hk); (try clear hi); (try clear ho0); have hcz14_0 : w13.cell? ⟨gb818, 0, none⟩ = some (.slice Ao9 t808.length co9) := (blk_cell BK818.out 0).trans rfl; have hcz14_1 : w13.cell? ⟨gb818, 1, none⟩ = some (.slice Ao11 t811.length co11) := (blk_cell BK818.out 1).trans rfl; have hcz14_2 : w13.cell? ⟨gb818, 2, none⟩ = some (.slice Ao12 t814.length co12) := (blk_cell BK818.out 2).trans rfl; have hfz14_0 := blk_frozen BK818.out 0; have hfz14_1 := blk_frozen BK818.out 1; have hfz14_2 := blk_frozen BK818.out 2) | (go_at_call 30; (with_reducible refine (spec_PathTo.calls k _ _ t808 _ _ t811 _ _ t814 t817 t823 t826 _ ?side1 ?side2 ?side3 ?side4 ?side5 ?side6 A5.out).mono ?_); (case side1 => exact cl ((Kd.R_reads' HO810.out).2.2)); (case side2 => exact (Kd.R_reads' HO810.out).2.1); (case side3 => exact cl ((Kd.R_reads' HO813.out).2.2)); (case side4 => exact (Kd.R_reads' HO813.out).2.1); (case side5 => exact cl ((Kd.R_reads' HO816.out).2.2)); (case side6 => exact (Kd.R_reads' HO816.out).2.1); rintro e w15 ⟨v824, rfl, ho0, hb⟩; have HO825 := am (Kd.R_lower (Kd.R_new' (Kd.R_new' (Kd.R_new' (Kd.R_new' ho0 (Kd.R_lt (rl HO810.out))) (Kd.R_lt (rl HO813.out))) (Kd.R_lt (rl HO816.out))) (Kd.R_lt (rl HO821.out))) (below_size (bs1 GE818.out HB.out))); replace HO810 := am (Kd.R_elder' (rl HO810.out) (Kd.R_base ho0) hb); replace HO813 := am (Kd.R_elder' (rl HO813.out) (Kd.R_base ho0) hb); replace HO816 := am (Kd.R_elder' (rl HO816.out) (Kd.R_base ho0) hb); replace HO821 := am (Kd.R_elder' (rl HO821.out) (Kd.R_base ho0) hb); replace BK818 := am (blk_below (g := gb818) (o := .cells #[.slice Ao9 t808.length co9, .slice Ao11 t811.length co11, .slice Ao12 t814.length co12] 25 (0, 0)) (kl BK818.out) hb); replace HB := am (below_step (bs1 GE818.out HB.out) hb); (try clear hb); (try clear hb2); (try clear hk); (try clear hi); (try clear ho0))); go_upto_region 6 with (first | (go_at_call 29; (with_reducible refine (spec_DrawPathTo.calls k _ _ l0 t808 t811 t814 t817 _ ?side1 ?side2 A3.out).mono ?_); (case side1 => exact cl (HR0.out)); (case side2 => exact HC0.out); rintro e w7 ⟨v809, v812, v815, rfl, ho0, ho1, ho2, hb⟩; have HO810 := am (Kd.R_lower ho0 (below_size (bl HB.out))); have HO813 := am (Kd.R_lower ho1 (below_size (bl HB.out))); have HO816 := am (Kd.R_lower ho2 (below_size (bl HB.out))); replace HB := am (below_step (bl HB.out) hb); (try clear hb); (try clear hb2); (try clear hk); (try clear hi); (try clear ho0); (try clear ho1); (try clear ho2)) | ((with_reducible refine gate_dst (N := 3) rfl ?_); (try (refine gate_guard (by rfl) ?_; dsimp only)); refine box_event ?hg (N := 3) ?hd (cs := #[.slice none 0 0, .slice none 0 0, .slice none 0 0]) (t := 25) ?hr ?_; (case hd => rfl); (case hg => rfl); (case hr => first | (go_simp; done) | (go_simp; rfl)); intro gb818 hg w8 hbox hb; replace HO810 := am (Kd.R_below (rl HO810.out) hb); replace HO813 := am (Kd.R_below (rl HO813.out) hb); replace HO816 := am (Kd.R_below (rl HO816.out) hb); have BK818 := am (hbox); have GW818 := am ((by rw [hg]; exact (below_size (bl HB.out)) : w.heap.size ≤ gb818)); have GE818 := am ((by rw [hg]; exact (below_size (bl HB.out)) : w.heap.size ≤ gb818)); replace HB := am (below_step (bl HB.out) hb); clear hb hbox hg; obtain ⟨Ao9, co9, eo9⟩ := Kd.R_slice HO810.out; subst eo9; have hcz10_0 : w8.cell? ⟨gb818, 0, none⟩ = some (.slice none 0 0) := (blk_cell BK818.out 0).trans rfl; have hcz10_1 : w8.cell? ⟨gb818, 1, none⟩ = some (.slice none 0 0) := (blk_cell BK818.out 1).trans rfl; have hcz10_2 : w8.cell? ⟨gb818, 2, none⟩ = some (.slice none 0 0) := (blk_cell BK818.out 2).trans rfl; have hfz10_0 := blk_frozen BK818.out 0; have hfz10_1 := blk_frozen BK818.out 1; have hfz10_2 := blk_frozen BK818.out 2; obtain ⟨Ao11, co11, eo11⟩ := Kd.R_slice HO813.out; subst eo11; obtain ⟨Ao12, co12, eo12⟩ := Kd.R_slice HO816.out; subst eo12) | (go_at_call 28; (with_reducible refine (impl_PathTo.calls k _ _ t808 _ _ t811 _ _ t814 t817 t819 t822 _ ?side1 ?side2 ?side3 ?side4 ?side5 ?side6 A4.out).mono ?_); (case side1 => exact (Kd.R_reads' (rf1 BK818.out HO810.out)).2.2); (case side2 => exact (Kd.R_reads' HO810.out).2.1); (case side3 => exact (Kd.R_reads' (rf1 BK818.out HO813.out)).2.2); (case side4 => exact (Kd.R_reads' HO813.out).2.1); (case side5 => exact (Kd.R_reads' (rf1 BK818.out HO816.out)).2.2); (case side6 => exact (Kd.R_reads' HO816.out).2.1); rintro e w13 ⟨v820, rfl, ho0, hb⟩; have HO821 := am (Kd.R_lower (Kd.R_new' (Kd.R_new' (Kd.R_new' ho0 (Kd.R_lt (rf1 BK818.out HO810.out))) (Kd.R_lt (rf1 BK818.out HO813.out))) (Kd.R_lt (rf1 BK818.out HO816.out))) (below_size (bs1 GE818.out HB.out))); replace HO810 := am (Kd.R_elder' (rf1 BK818.out HO810.out) (Kd.R_base ho0) hb); replace HO813 := am (Kd.R_elder' (rf1 BK818.out HO813.out) (Kd.R_base ho0) hb); replace HO816 := am (Kd.R_elder' (rf1 BK818.out HO816.out) (Kd.R_base ho0) hb); replace BK818 := am (blk_below (g := gb818) (o := .cells #[.slice Ao9 t808.length co9, .slice Ao11 t811.length co11, .slice Ao12 t814.length co12] 25 (0, 0)) (kp3 (kf0 BK818.out)) hb); replace HB := am (below_step (bs1 GE818.out HB.out) hb); (try clear hb); (try clear hb2); (try clear hk); (try clear hi); (try clear ho0); have hcz14_0 : w13.cell? ⟨gb818, 0, none⟩ = some (.slice Ao9 t808.length co9) := (blk_cell BK818.out 0).trans rfl; have hcz14_1 : w13.cell? ⟨gb818, 1, none⟩ = some (.slice Ao11 t811.length co11) := (blk_cell BK818.out 1).trans rfl; have hcz14_2 : w13.cell? ⟨gb818, 2, none⟩ = some (.slice Ao12 t814.length co12) := (blk_cell BK818.out 2).trans rfl; have hfz14_0 := blk_frozen BK818.out 0; have hfz14_1 := blk_frozen BK818.out 1; have hfz14_2 := blk_frozen BK818.out 2) | (go_at_call 30; (with_reducible refine (spec_PathTo.calls k _ _ t808 _ _ t811 _ _ t814 t817 t823 t826 _ ?side1 ?side2 ?side3 ?side4 ?side5 ?side6 A5.out).mono ?_); (case side1 => exact cl ((Kd.R_reads' HO810.out).2.2)); (case side2 => exact (Kd.R_reads' HO810.out).2.1); (case side3 => exact cl ((Kd.R_reads' HO813.out).2.2)); (case side4 => exact (Kd.R_reads' HO813.out).2.1); (case side5 => exact cl ((Kd.R_reads' HO816.out).2.2)); (case side6 => exact (Kd.R_reads' HO816.out).2.1); rintro e w15 ⟨v824, rfl, ho0, hb⟩; have HO825 := am (Kd.R_lower (Kd.R_new' (Kd.R_new' (Kd.R_new' (Kd.R_new' ho0 (Kd.R_lt (rl HO810.out))) (Kd.R_lt (rl HO813.out))) (Kd.R_lt (rl HO816.out))) (Kd.R_lt (rl HO821.out))) (below_size (bs1 GE818.out HB.out))); replace HO810 := am (Kd.R_elder' (rl HO810.out) (Kd.R_base ho0) hb); replace HO813 := am (Kd.R_elder' (rl HO813.out) (Kd.R_base ho0) hb); replace HO816 := am (Kd.R_elder' (rl HO816.out) (Kd.R_base ho0) hb); replace HO821 := am (Kd.R_elder' (rl HO821.out) (Kd.R_base ho0) hb); replace BK818 := am (blk_below (g := gb818) (o := .cells #[.slice Ao9 t808.length co9, .slice Ao11 t811.length co11, .slice Ao12 t814.length co12] 25 (0, 0)) (kl BK818.out) hb); replace HB := am (below_step (bs1 GE818.out HB.out) hb); (try clear hb); (try clear hb2); (try clear hk); (try clear hi); (try clear ho0))))
  (try simp only [Act.put, List.setIfInBounds_toArray, List.set_cons_zero, List.set_cons_succ])
  go_cut [46] (fun v46 wc => ∃ (kq : Nat) (x46_5 : Bool), v46 = .bool x46_5 ∧ Aside0 (laws_FnPathTo.j0 kq t817 t819 t822 t823 t826 x46_5 t808 t811 t814 = some r) ∧ Aside0 (kq ≤ k) ∧ Aside0 (Kd.R (Kd.int .i64) 3 wc w.heap.size (fun k_ => some k_ ≠ (v824 : Value).ownBlock ∧ some k_ ≠ ((.slice Ao9 t808.length co9) : Value).ownBlock ∧ some k_ ≠ ((.slice Ao11 t811.length co11) : Value).ownBlock ∧ some k_ ≠ ((.slice Ao12 t814.length co12) : Value).ownBlock) v820 t819) ∧ Aside0 (Kd.R (Kd.int .i64) 3 wc w.heap.size (fun k_ => some k_ ≠ (v820 : Value).ownBlock ∧ some k_ ≠ ((.slice Ao9 t808.length co9) : Value).ownBlock ∧ some k_ ≠ ((.slice Ao11 t811.length co11) : Value).ownBlock ∧ some k_ ≠ ((.slice Ao12 t814.length co12) : Value).ownBlock) v824 t823) ∧ Aside0 (Kd.R (Kd.int .i64) 3 wc w.heap.size (fun k_ => some k_ ≠ (v820 : Value).ownBlock ∧ some k_ ≠ (v824 : Value).ownBlock ∧ some k_ ≠ ((.slice Ao11 t811.length co11) : Value).ownBlock ∧ some k_ ≠ ((.slice Ao12 t814.length co12) : Value).ownBlock) (.slice Ao9 t808.length co9) t808) ∧ Aside0 (Kd.R (Kd.int .i64) 3 wc w.heap.size (fun k_ => some k_ ≠ (v820 : Value).ownBlock ∧ some k_ ≠ (v824 : Value).ownBlock ∧ some k_ ≠ ((.slice Ao9 t808.length co9) : Value).ownBlock ∧ some k_ ≠ ((.slice Ao12 t814.length co12) : Value).ownBlock) (.slice Ao11 t811.length co11) t811) ∧ Aside0 (Kd.R (Kd.int .i64) 3 wc w.heap.size (fun k_ => some k_ ≠ (v820 : Value).ownBlock ∧ some k_ ≠ (v824 : Value).ownBlock ∧ some k_ ≠ ((.slice Ao9 t808.length co9) : Value).ownBlock ∧ some k_ ≠ ((.slice Ao11 t811.length co11) : Value).ownBlock) (.slice Ao12 t814.length co12) t814) ∧ Aside0 (wc.heap[gb818]? = some (.cells #[(.slice Ao9 t808.length co9), (.slice Ao11 t811.length co11), (.slice Ao12 t814.length co12)] 25 (0, 0))) ∧ Aside0 (Below w.heap.size w wc))
  case first =>
   have H := HC6.out
   clear HC6
   replace H := Option.bind_eq_some_iff.mp H
   obtain ⟨t827, A160, H⟩ := H
   replace H : (if t827 = true then (if (t822 != t826) = true then (laws_FnPathTo.j0 k t817 t819 t822 t823 t826 true t808 t811 t814) else (laws_FnPathTo.j0 k t817 t819 t822 t823 t826 (!t822) t808 t811 t814)) else (laws_FnPathTo.j0 k t817 t819 t822 t823 t826 true t808 t811 t814)) = some r := H
   have A16 := am A160
   clear A160
   by_cases c17 : t827 = true
   ·subst c17
    have H1 : (if (t822 != t826) = true then (laws_FnPathTo.j0 k t817 t819 t822 t823 t826 true t808 t811 t814) else (laws_FnPathTo.j0 k t817 t819 t822 t823 t826 (!t822) t808 t811 t814)) = some r := by rw [if_pos rfl] at H; exact H
    clear H
    have H := H1
    clear H1
    by_cases c18 : (t822 != t826) = true
    ·rw [if_pos c18] at H
     have c18b0 : (t822 != t826) = true := c18
     (try (have c18b1 : decide (t822 = t826) = false := by simpa using c18))
     (try (have c18b2 : (t822 == t826) = false := by simpa using c18))
     (try (have c18b3 : ¬ (t822 = t826) := by simpa using c18))
     clear c18
     (first | rw [c18b0] | (simp only [i64_w, i32_w]; rw [c18b0]) | skip)
     have H' := am H
     clear H
     obtain ⟨Ao19, co19, eo19⟩ := Kd.R_slice HO821.out
     subst eo19
     obtain ⟨Ao20, co20, eo20⟩ := Kd.R_slice HO825.out
     subst eo20
     go_wp2_with (first | (go_at_call 19; (with_reducible refine (laws_ccInts.calls k _ _ t819 _ _ t823 true _ ?side1 ?side2 ?side3 ?side4 A16.out).mono ?_); (case side1 => exact cl ((Kd.R_reads' HO821.out).2.2)); (case side2 => exact (Kd.R_reads' HO821.out).2.1); (case side3 => exact cl ((Kd.R_reads' HO825.out).2.2)); (case side4 => exact (Kd.R_reads' HO825.out).2.1); rintro e w' ⟨rfl, ⟨nd, rfl⟩⟩; (try first | exact ⟨rfl, _, World.drewN_drewN _ _ _⟩ | exact ⟨rfl, _, Eq.trans (World.drewN_drewN _ _ _) (congrArg (World.drewN _) (Nat.add_assoc _ _ _))⟩)))
     repeat (go_quiet (first | (go_at_call 19; (with_reducible refine (laws_ccInts.calls k _ _ t819 _ _ t823 true _ ?side1 ?side2 ?side3 ?side4 A16.out).mono ?_); (case side1 => exact cl ((Kd.R_reads' HO821.out).2.2)); (case side2 => exact (Kd.R_reads' HO821.out).2.1); (case side3 => exact cl ((Kd.R_reads' HO825.out).2.2)); (case side4 => exact (Kd.R_reads' HO825.out).2.1); rintro e w' ⟨rfl, ⟨nd, rfl⟩⟩; (try first | exact ⟨rfl, _, World.drewN_drewN _ _ _⟩ | exact ⟨rfl, _, Eq.trans (World.drewN_drewN _ _ _) (congrArg (World.drewN _) (Nat.add_assoc _ _ _))⟩))); try go_wp2_with (first | (go_at_call 19; (with_reducible refine (laws_ccInts.calls k _ _ t819 _ _ t823 true _ ?side1 ?side2 ?side3 ?side4 A16.out).mono ?_); (case side1 => exact cl ((Kd.R_reads' HO821.out).2.2)); (case side2 => exact (Kd.R_reads' HO821.out).2.1); (case side3 => exact cl ((Kd.R_reads' HO825.out).2.2)); (case side4 => exact (Kd.R_reads' HO825.out).2.1); rintro e w' ⟨rfl, ⟨nd, rfl⟩⟩; (try first | exact ⟨rfl, _, World.drewN_drewN _ _ _⟩ | exact ⟨rfl, _, Eq.trans (World.drewN_drewN _ _ _) (congrArg (World.drewN _) (Nat.add_assoc _ _ _))⟩))))
     go_meet
     case rel => exact ⟨_, (true), (by first | rfl | (simp; done) | (simp [*]; done)), H', ⟨by first | omega | exact Nat.le_refl _⟩, ⟨rl (Kd.R_mono HO821.out (fun _ hk => by first | exact ⟨hk.2, ⟨hk.1.1.1.2, ⟨hk.1.1.2, hk.1.2⟩⟩⟩ | (simp only [ne_eq] at hk ⊢; simp only [hk, not_false_eq_true, and_self])))⟩, ⟨rl (Kd.R_mono HO825.out (fun _ hk => by first | exact ⟨hk.2, ⟨hk.1.1.1.2, ⟨hk.1.1.2, hk.1.2⟩⟩⟩ | (simp only [ne_eq] at hk ⊢; simp only [hk, not_false_eq_true, and_self])))⟩, ⟨rl (Kd.R_mono HO810.out (fun _ hk => by first | exact ⟨hk.1.2, ⟨hk.2, ⟨hk.1.1.1, hk.1.1.2⟩⟩⟩ | (simp only [ne_eq] at hk ⊢; simp only [hk, not_false_eq_true, and_self])))⟩, ⟨rl (Kd.R_mono HO813.out (fun _ hk => by first | exact ⟨hk.1.2, ⟨hk.2, ⟨hk.1.1.1, hk.1.1.2⟩⟩⟩ | (simp only [ne_eq] at hk ⊢; simp only [hk, not_false_eq_true, and_self])))⟩, ⟨rl (Kd.R_mono HO816.out (fun _ hk => by first | exact ⟨hk.1.2, ⟨hk.2, ⟨hk.1.1.1, hk.1.1.2⟩⟩⟩ | (simp only [ne_eq] at hk ⊢; simp only [hk, not_false_eq_true, and_self])))⟩, ⟨kl BK818.out⟩, ⟨by exact bs1 GE818.out HB.out⟩⟩
    ·rw [if_neg c18] at H
     have c18b0 : (t822 != t826) = false := by simpa using c18
     (try (have c18b1 : decide (t822 = t826) = true := by simpa using c18))
     (try (have c18b2 : (t822 == t826) = true := by simpa using c18))
     clear c18
     (first | rw [c18b0] | (simp only [i64_w, i32_w]; rw [c18b0]) | skip)
     have H' := am H
     clear H
     obtain ⟨Ao21, co21, eo21⟩ := Kd.R_slice HO821.out
     subst eo21
     obtain ⟨Ao22, co22, eo22⟩ := Kd.R_slice HO825.out
     subst eo22
     go_wp2_with (first | (go_at_call 19; (with_reducible refine (laws_ccInts.calls k _ _ t819 _ _ t823 true _ ?side1 ?side2 ?side3 ?side4 A16.out).mono ?_); (case side1 => exact cl ((Kd.R_reads' HO821.out).2.2)); (case side2 => exact (Kd.R_reads' HO821.out).2.1); (case side3 => exact cl ((Kd.R_reads' HO825.out).2.2)); (case side4 => exact (Kd.R_reads' HO825.out).2.1); rintro e w' ⟨rfl, ⟨nd, rfl⟩⟩; (try first | exact ⟨rfl, _, World.drewN_drewN _ _ _⟩ | exact ⟨rfl, _, Eq.trans (World.drewN_drewN _ _ _) (congrArg (World.drewN _) (Nat.add_assoc _ _ _))⟩)))
     repeat (go_quiet (first | (go_at_call 19; (with_reducible refine (laws_ccInts.calls k _ _ t819 _ _ t823 true _ ?side1 ?side2 ?side3 ?side4 A16.out).mono ?_); (case side1 => exact cl ((Kd.R_reads' HO821.out).2.2)); (case side2 => exact (Kd.R_reads' HO821.out).2.1); (case side3 => exact cl ((Kd.R_reads' HO825.out).2.2)); (case side4 => exact (Kd.R_reads' HO825.out).2.1); rintro e w' ⟨rfl, ⟨nd, rfl⟩⟩; (try first | exact ⟨rfl, _, World.drewN_drewN _ _ _⟩ | exact ⟨rfl, _, Eq.trans (World.drewN_drewN _ _ _) (congrArg (World.drewN _) (Nat.add_assoc _ _ _))⟩))); try go_wp2_with (first | (go_at_call 19; (with_reducible refine (laws_ccInts.calls k _ _ t819 _ _ t823 true _ ?side1 ?side2 ?side3 ?side4 A16.out).mono ?_); (case side1 => exact cl ((Kd.R_reads' HO821.out).2.2)); (case side2 => exact (Kd.R_reads' HO821.out).2.1); (case side3 => exact cl ((Kd.R_reads' HO825.out).2.2)); (case side4 => exact (Kd.R_reads' HO825.out).2.1); rintro e w' ⟨rfl, ⟨nd, rfl⟩⟩; (try first | exact ⟨rfl, _, World.drewN_drewN _ _ _⟩ | exact ⟨rfl, _, Eq.trans (World.drewN_drewN _ _ _) (congrArg (World.drewN _) (Nat.add_assoc _ _ _))⟩))))
     go_meet
     case rel => exact ⟨_, (!t822), (by first | rfl | (simp; done) | (simp [*]; done)), H', ⟨by first | omega | exact Nat.le_refl _⟩, ⟨rl (Kd.R_mono HO821.out (fun _ hk => by first | exact ⟨hk.2, ⟨hk.1.1.1.2, ⟨hk.1.1.2, hk.1.2⟩⟩⟩ | (simp only [ne_eq] at hk ⊢; simp only [hk, not_false_eq_true, and_self])))⟩, ⟨rl (Kd.R_mono HO825.out (fun _ hk => by first | exact ⟨hk.2, ⟨hk.1.1.1.2, ⟨hk.1.1.2, hk.1.2⟩⟩⟩ | (simp only [ne_eq] at hk ⊢; simp only [hk, not_false_eq_true, and_self])))⟩, ⟨rl (Kd.R_mono HO810.out (fun _ hk => by first | exact ⟨hk.1.2, ⟨hk.2, ⟨hk.1.1.1, hk.1.1.2⟩⟩⟩ | (simp only [ne_eq] at hk ⊢; simp only [hk, not_false_eq_true, and_self])))⟩, ⟨rl (Kd.R_mono HO813.out (fun _ hk => by first | exact ⟨hk.1.2, ⟨hk.2, ⟨hk.1.1.1, hk.1.1.2⟩⟩⟩ | (simp only [ne_eq] at hk ⊢; simp only [hk, not_false_eq_true, and_self])))⟩, ⟨rl (Kd.R_mono HO816.out (fun _ hk => by first | exact ⟨hk.1.2, ⟨hk.2, ⟨hk.1.1.1, hk.1.1.2⟩⟩⟩ | (simp only [ne_eq] at hk ⊢; simp only [hk, not_false_eq_true, and_self])))⟩, ⟨kl BK818.out⟩, ⟨by exact bs1 GE818.out HB.out⟩⟩
   ·replace c17 := Bool.eq_false_iff.mpr c17
    subst c17
    have H1 : (laws_FnPathTo.j0 k t817 t819 t822 t823 t826 true t808 t811 t814) = some r := by rw [if_neg (show ¬ (false = true) by decide)] at H; exact H
    clear H
    have H := H1
    clear H1
    have H' := am H
    clear H
    obtain ⟨Ao23, co23, eo23⟩ := Kd.R_slice HO821.out
    subst eo23
    obtain ⟨Ao24, co24, eo24⟩ := Kd.R_slice HO825.out
    subst eo24
    go_wp2_with (first | (go_at_call 19; (with_reducible refine (laws_ccInts.calls k _ _ t819 _ _ t823 false _ ?side1 ?side2 ?side3 ?side4 A16.out).mono ?_); (case side1 => exact cl ((Kd.R_reads' HO821.out).2.2)); (case side2 => exact (Kd.R_reads' HO821.out).2.1); (case side3 => exact cl ((Kd.R_reads' HO825.out).2.2)); (case side4 => exact (Kd.R_reads' HO825.out).2.1); rintro e w' ⟨rfl, ⟨nd, rfl⟩⟩; (try first | exact ⟨rfl, _, World.drewN_drewN _ _ _⟩ | exact ⟨rfl, _, Eq.trans (World.drewN_drewN _ _ _) (congrArg (World.drewN _) (Nat.add_assoc _ _ _))⟩)))
    repeat (go_quiet (first | (go_at_call 19; (with_reducible refine (laws_ccInts.calls k _ _ t819 _ _ t823 false _ ?side1 ?side2 ?side3 ?side4 A16.out).mono ?_); (case side1 => exact cl ((Kd.R_reads' HO821.out).2.2)); (case side2 => exact (Kd.R_reads' HO821.out).2.1); (case side3 => exact cl ((Kd.R_reads' HO825.out).2.2)); (case side4 => exact (Kd.R_reads' HO825.out).2.1); rintro e w' ⟨rfl, ⟨nd, rfl⟩⟩; (try first | exact ⟨rfl, _, World.drewN_drewN _ _ _⟩ | exact ⟨rfl, _, Eq.trans (World.drewN_drewN _ _ _) (congrArg (World.drewN _) (Nat.add_assoc _ _ _))⟩))); try go_wp2_with (first | (go_at_call 19; (with_reducible refine (laws_ccInts.calls k _ _ t819 _ _ t823 false _ ?side1 ?side2 ?side3 ?side4 A16.out).mono ?_); (case side1 => exact cl ((Kd.R_reads' HO821.out).2.2)); (case side2 => exact (Kd.R_reads' HO821.out).2.1); (case side3 => exact cl ((Kd.R_reads' HO825.out).2.2)); (case side4 => exact (Kd.R_reads' HO825.out).2.1); rintro e w' ⟨rfl, ⟨nd, rfl⟩⟩; (try first | exact ⟨rfl, _, World.drewN_drewN _ _ _⟩ | exact ⟨rfl, _, Eq.trans (World.drewN_drewN _ _ _) (congrArg (World.drewN _) (Nat.add_assoc _ _ _))⟩))))
    go_meet
    case rel => exact ⟨_, (true), (by first | rfl | (simp; done) | (simp [*]; done)), H', ⟨by first | omega | exact Nat.le_refl _⟩, ⟨rl (Kd.R_mono HO821.out (fun _ hk => by first | exact ⟨hk.2, ⟨hk.1.1.1.2, ⟨hk.1.1.2, hk.1.2⟩⟩⟩ | (simp only [ne_eq] at hk ⊢; simp only [hk, not_false_eq_true, and_self])))⟩, ⟨rl (Kd.R_mono HO825.out (fun _ hk => by first | exact ⟨hk.2, ⟨hk.1.1.1.2, ⟨hk.1.1.2, hk.1.2⟩⟩⟩ | (simp only [ne_eq] at hk ⊢; simp only [hk, not_false_eq_true, and_self])))⟩, ⟨rl (Kd.R_mono HO810.out (fun _ hk => by first | exact ⟨hk.1.2, ⟨hk.2, ⟨hk.1.1.1, hk.1.1.2⟩⟩⟩ | (simp only [ne_eq] at hk ⊢; simp only [hk, not_false_eq_true, and_self])))⟩, ⟨rl (Kd.R_mono HO813.out (fun _ hk => by first | exact ⟨hk.1.2, ⟨hk.2, ⟨hk.1.1.1, hk.1.1.2⟩⟩⟩ | (simp only [ne_eq] at hk ⊢; simp only [hk, not_false_eq_true, and_self])))⟩, ⟨rl (Kd.R_mono HO816.out (fun _ hk => by first | exact ⟨hk.1.2, ⟨hk.2, ⟨hk.1.1.1, hk.1.1.2⟩⟩⟩ | (simp only [ne_eq] at hk ⊢; simp only [hk, not_false_eq_true, and_self])))⟩, ⟨kl BK818.out⟩, ⟨by exact bs1 GE818.out HB.out⟩⟩
  case rest =>
   clear HC6
   try clear c1
   try clear c2
   try clear c2b0
   try clear c2b1
   try clear p2
   try clear c9
   try clear c17
   try clear c18
   try clear c18b0
   try clear c18b1
   try clear c18b2
   try clear hcz10_0
   try clear hcz10_1
   try clear hcz10_2
   try clear hcz14_0
   try clear hcz14_1
   try clear hcz14_2
   try clear hfz10_0
   try clear hfz10_1
   try clear hfz10_2
   try clear hfz14_0
   try clear hfz14_1
   try clear hfz14_2
   obtain ⟨kq, x46_5, rfl, HA, HJ5, HO_5, HO_7, HO_819000, HO_819001, HO_819002, BK818, HB⟩ := hcut
   cases kq with
   | zero => exact absurd HA.out (by simp [laws_FnPathTo.j0])
   | succ kj5 =>
    have H := HA.out
    clear HA
    simp only [laws_FnPathTo.j0] at H
    by_cases c25 : x46_5 = true
    ·subst c25
     have H1 : ((laws_ccInts.f kj5 t819 t823).bind fun t828 => (if t828 = true then (some (t822 == t826)) else (none))) = some r := by rw [if_pos rfl] at H; exact H
     clear H
     have H := H1
     clear H1
     replace H := Option.bind_eq_some_iff.mp H
     obtain ⟨t828, A260, H⟩ := H
     replace H : (if t828 = true then (some (t822 == t826)) else (none)) = some r := H
     have A26 := am A260
     clear A260
     by_cases c27 : t828 = true
     ·subst c27
      have H1 : (some (t822 == t826)) = some r := by rw [if_pos rfl] at H; exact H
      clear H
      have H := H1
      clear H1
      obtain rfl := Option.some.inj H
      obtain ⟨Ao28, co28, eo28⟩ := Kd.R_slice HO_5.out
      subst eo28
      obtain ⟨Ao29, co29, eo29⟩ := Kd.R_slice HO_7.out
      subst eo29
      go_wp2_with (first | (go_at_call 19; (with_reducible refine (laws_ccInts.calls kj5 _ _ t819 _ _ t823 true _ ?side1 ?side2 ?side3 ?side4 A26.out).mono ?_); (case side1 => exact cl ((Kd.R_reads' HO_5.out).2.2)); (case side2 => exact (Kd.R_reads' HO_5.out).2.1); (case side3 => exact cl ((Kd.R_reads' HO_7.out).2.2)); (case side4 => exact (Kd.R_reads' HO_7.out).2.1); rintro e w' ⟨rfl, ⟨nd, rfl⟩⟩; (try first | exact ⟨rfl, _, World.drewN_drewN _ _ _⟩ | exact ⟨rfl, _, Eq.trans (World.drewN_drewN _ _ _) (congrArg (World.drewN _) (Nat.add_assoc _ _ _))⟩)))
      repeat (go_quiet (first | (go_at_call 19; (with_reducible refine (laws_ccInts.calls kj5 _ _ t819 _ _ t823 true _ ?side1 ?side2 ?side3 ?side4 A26.out).mono ?_); (case side1 => exact cl ((Kd.R_reads' HO_5.out).2.2)); (case side2 => exact (Kd.R_reads' HO_5.out).2.1); (case side3 => exact cl ((Kd.R_reads' HO_7.out).2.2)); (case side4 => exact (Kd.R_reads' HO_7.out).2.1); rintro e w' ⟨rfl, ⟨nd, rfl⟩⟩; (try first | exact ⟨rfl, _, World.drewN_drewN _ _ _⟩ | exact ⟨rfl, _, Eq.trans (World.drewN_drewN _ _ _) (congrArg (World.drewN _) (Nat.add_assoc _ _ _))⟩))); try go_wp2_with (first | (go_at_call 19; (with_reducible refine (laws_ccInts.calls kj5 _ _ t819 _ _ t823 true _ ?side1 ?side2 ?side3 ?side4 A26.out).mono ?_); (case side1 => exact cl ((Kd.R_reads' HO_5.out).2.2)); (case side2 => exact (Kd.R_reads' HO_5.out).2.1); (case side3 => exact cl ((Kd.R_reads' HO_7.out).2.2)); (case side4 => exact (Kd.R_reads' HO_7.out).2.1); rintro e w' ⟨rfl, ⟨nd, rfl⟩⟩; (try first | exact ⟨rfl, _, World.drewN_drewN _ _ _⟩ | exact ⟨rfl, _, Eq.trans (World.drewN_drewN _ _ _) (congrArg (World.drewN _) (Nat.add_assoc _ _ _))⟩))))
      go_ret
      exact ⟨by first | rfl | (simp [errW_none, errW_some] <;> rfl) | (simp [*, errW_none, errW_some] <;> rfl), by exact bs1 GE818.out HB.out⟩
     ·replace c27 := Bool.eq_false_iff.mpr c27
      subst c27
      have H1 : (none) = some r := by rw [if_neg (show ¬ (false = true) by decide)] at H; exact H
      clear H
      have H := H1
      clear H1
      exact absurd H (by simp)
    ·replace c25 := Bool.eq_false_iff.mpr c25
     subst c25
     have H1 : ((impl_DistanceOf.f kj5 t808 t811 t814 t817).bind fun bt829 => (laws_FnPathTo.l0 kj5 t817 t819 bt829.1 bt829.2 false 0 t808 t811 t814)) = some r := by rw [if_neg (show ¬ (false = true) by decide)] at H; exact H
     clear H
     have H := H1
     clear H1
     replace H := Option.bind_eq_some_iff.mp H
     obtain ⟨⟨t829, t830⟩, A300, H⟩ := H
     replace H : (laws_FnPathTo.l0 kj5 t817 t819 t829 t830 false 0 t808 t811 t814) = some r := H
     have A30 := am A300
     clear A300
     have H' := am H
     clear H
     have hcz31_0 : wc.cell? ⟨gb818, 0, none⟩ = some (.slice Ao9 t808.length co9) := (blk_cell BK818.out 0).trans rfl
     have hcz31_1 : wc.cell? ⟨gb818, 1, none⟩ = some (.slice Ao11 t811.length co11) := (blk_cell BK818.out 1).trans rfl
     have hcz31_2 : wc.cell? ⟨gb818, 2, none⟩ = some (.slice Ao12 t814.length co12) := (blk_cell BK818.out 2).trans rfl
     have hfz31_0 := blk_frozen BK818.out 0
     have hfz31_1 := blk_frozen BK818.out 1
     have hfz31_2 := blk_frozen BK818.out 2
     go_wp2_with (first | (go_at_call 27; (with_reducible refine (impl_DistanceOf.calls kj5 _ _ t808 _ _ t811 _ _ t814 t817 t829 t830 _ ?side1 ?side2 ?side3 ?side4 ?side5 ?side6 A30.out).mono ?_); (case side1 => exact cl ((Kd.R_reads' HO_819000.out).2.2)); (case side2 => exact (Kd.R_reads' HO_819000.out).2.1); (case side3 => exact cl ((Kd.R_reads' HO_819001.out).2.2)); (case side4 => exact (Kd.R_reads' HO_819001.out).2.1); (case side5 => exact cl ((Kd.R_reads' HO_819002.out).2.2)); (case side6 => exact (Kd.R_reads' HO_819002.out).2.1); rintro e w32 ⟨rfl, hb⟩; replace HO_5 := am (Kd.R_below (rl HO_5.out) hb); replace HO_7 := am (Kd.R_below (rl HO_7.out) hb); replace HO_819000 := am (Kd.R_below (rl HO_819000.out) hb); replace HO_819001 := am (Kd.R_below (rl HO_819001.out) hb); replace HO_819002 := am (Kd.R_below (rl HO_819002.out) hb); replace BK818 := am (blk_below (g := gb818) (o := .cells #[.slice Ao9 t808.length co9, .slice Ao11 t811.length co11, .slice Ao12 t814.length co12] 25 (0, 0)) (kl BK818.out) hb); replace HB := am (below_step (bs1 GE818.out HB.out) hb); (try clear hb); (try clear hb2); (try clear hk); (try clear hi)))
     repeat (go_quiet (first | (go_at_call 27; (with_reducible refine (impl_DistanceOf.calls kj5 _ _ t808 _ _ t811 _ _ t814 t817 t829 t830 _ ?side1 ?side2 ?side3 ?side4 ?side5 ?side6 A30.out).mono ?_); (case side1 => exact cl ((Kd.R_reads' HO_819000.out).2.2)); (case side2 => exact (Kd.R_reads' HO_819000.out).2.1); (case side3 => exact cl ((Kd.R_reads' HO_819001.out).2.2)); (case side4 => exact (Kd.R_reads' HO_819001.out).2.1); (case side5 => exact cl ((Kd.R_reads' HO_819002.out).2.2)); (case side6 => exact (Kd.R_reads' HO_819002.out).2.1); rintro e w32 ⟨rfl, hb⟩; replace HO_5 := am (Kd.R_below (rl HO_5.out) hb); replace HO_7 := am (Kd.R_below (rl HO_7.out) hb); replace HO_819000 := am (Kd.R_below (rl HO_819000.out) hb); replace HO_819001 := am (Kd.R_below (rl HO_819001.out) hb); replace HO_819002 := am (Kd.R_below (rl HO_819002.out) hb); replace BK818 := am (blk_below (g := gb818) (o := .cells #[.slice Ao9 t808.length co9, .slice Ao11 t811.length co11, .slice Ao12 t814.length co12] 25 (0, 0)) (kl BK818.out) hb); replace HB := am (below_step (bs1 GE818.out HB.out) hb); (try clear hb); (try clear hb2); (try clear hk); (try clear hi))); try go_wp2_with (first | (go_at_call 27; (with_reducible refine (impl_DistanceOf.calls kj5 _ _ t808 _ _ t811 _ _ t814 t817 t829 t830 _ ?side1 ?side2 ?side3 ?side4 ?side5 ?side6 A30.out).mono ?_); (case side1 => exact cl ((Kd.R_reads' HO_819000.out).2.2)); (case side2 => exact (Kd.R_reads' HO_819000.out).2.1); (case side3 => exact cl ((Kd.R_reads' HO_819001.out).2.2)); (case side4 => exact (Kd.R_reads' HO_819001.out).2.1); (case side5 => exact cl ((Kd.R_reads' HO_819002.out).2.2)); (case side6 => exact (Kd.R_reads' HO_819002.out).2.1); rintro e w32 ⟨rfl, hb⟩; replace HO_5 := am (Kd.R_below (rl HO_5.out) hb); replace HO_7 := am (Kd.R_below (rl HO_7.out) hb); replace HO_819000 := am (Kd.R_below (rl HO_819000.out) hb); replace HO_819001 := am (Kd.R_below (rl HO_819001.out) hb); replace HO_819002 := am (Kd.R_below (rl HO_819002.out) hb); replace BK818 := am (blk_below (g := gb818) (o := .cells #[.slice Ao9 t808.length co9, .slice Ao11 t811.length co11, .slice Ao12 t814.length co12] 25 (0, 0)) (kl BK818.out) hb); replace HB := am (below_step (bs1 GE818.out HB.out) hb); (try clear hb); (try clear hb2); (try clear hk); (try clear hi))))
     go_loopg [11, 12] kj5 (fun kq v11 v12 w' => ∃ (x11_2 : Bool) (x12_2 : Int), v11 = .bool x11_2 ∧ v12 = .int .i64 x12_2 ∧ Aside0 (laws_FnPathTo.l0 kq t817 t819 t829 t830 x11_2 x12_2 t808 t811 t814 = some r) ∧ Aside0 (kq ≤ kj5) ∧ Aside0 (Kd.R (Kd.int .i64) 3 w' w.heap.size (fun k_ => some k_ ≠ ((.slice Ao9 t808.length co9) : Value).ownBlock ∧ some k_ ≠ ((.slice Ao11 t811.length co11) : Value).ownBlock ∧ some k_ ≠ ((.slice Ao12 t814.length co12) : Value).ownBlock) v820 t819) ∧ Aside0 (Kd.R (Kd.int .i64) 3 w' w.heap.size (fun k_ => some k_ ≠ (v820 : Value).ownBlock ∧ some k_ ≠ ((.slice Ao11 t811.length co11) : Value).ownBlock ∧ some k_ ≠ ((.slice Ao12 t814.length co12) : Value).ownBlock) (.slice Ao9 t808.length co9) t808) ∧ Aside0 (Kd.R (Kd.int .i64) 3 w' w.heap.size (fun k_ => some k_ ≠ (v820 : Value).ownBlock ∧ some k_ ≠ ((.slice Ao9 t808.length co9) : Value).ownBlock ∧ some k_ ≠ ((.slice Ao12 t814.length co12) : Value).ownBlock) (.slice Ao11 t811.length co11) t811) ∧ Aside0 (Kd.R (Kd.int .i64) 3 w' w.heap.size (fun k_ => some k_ ≠ (v820 : Value).ownBlock ∧ some k_ ≠ ((.slice Ao9 t808.length co9) : Value).ownBlock ∧ some k_ ≠ ((.slice Ao11 t811.length co11) : Value).ownBlock) (.slice Ao12 t814.length co12) t814) ∧ Aside0 (w'.heap[gb818]? = some (.cells #[(.slice Ao9 t808.length co9), (.slice Ao11 t811.length co11), (.slice Ao12 t814.length co12)] 25 (0, 0))) ∧ Aside0 (Below w.heap.size w w'))
     case atStart => exact ⟨(false), (0), (by first | rfl | (simp; done) | (simp [*]; done)), (by first | rfl | (simp; done) | (simp [*]; done)), H', ⟨Nat.le_refl _⟩, ⟨rl (Kd.R_mono HO_5.out (fun _ hk => by first | exact ⟨hk.2.1, ⟨hk.2.2.1, hk.2.2.2⟩⟩ | (simp only [ne_eq] at hk ⊢; simp only [hk, not_false_eq_true, and_self])))⟩, ⟨rl (Kd.R_mono HO_819000.out (fun _ hk => by first | exact ⟨hk.1, ⟨hk.2.2.1, hk.2.2.2⟩⟩ | (simp only [ne_eq] at hk ⊢; simp only [hk, not_false_eq_true, and_self])))⟩, ⟨rl (Kd.R_mono HO_819001.out (fun _ hk => by first | exact ⟨hk.1, ⟨hk.2.2.1, hk.2.2.2⟩⟩ | (simp only [ne_eq] at hk ⊢; simp only [hk, not_false_eq_true, and_self])))⟩, ⟨rl (Kd.R_mono HO_819002.out (fun _ hk => by first | exact ⟨hk.1, ⟨hk.2.2.1, hk.2.2.2⟩⟩ | (simp only [ne_eq] at hk ⊢; simp only [hk, not_false_eq_true, and_self])))⟩, ⟨kl BK818.out⟩, ⟨by exact bs1 GE818.out HB.out⟩⟩
     case round =>
      clear H'
      try clear c1
      try clear c2
      try clear c2b0
      try clear c2b1
      try clear p2
      try clear c9
      try clear c17
      try clear c18
      try clear c18b0
      try clear c18b1
      try clear c18b2
      try clear c25
      try clear c27
      try clear hcz10_0
      try clear hcz10_1
      try clear hcz10_2
      try clear hcz14_0
      try clear hcz14_1
      try clear hcz14_2
      try clear hcz31_0
      try clear hcz31_1
      try clear hcz31_2
      try clear hfz10_0
      try clear hfz10_1
      try clear hfz10_2
      try clear hfz14_0
      try clear hfz14_1
      try clear hfz14_2
      try clear hfz31_0
      try clear hfz31_1
      try clear hfz31_2
      try clear p2
      obtain ⟨x11_2, x12_2, rfl, rfl, HA, HK2, HO_5, HO_819000, HO_819001, HO_819002, BK818, HB⟩ := hrel
      cases gk with
      | zero => exact absurd HA.out (by simp [laws_FnPathTo.l0])
      | succ k2 =>
       have H := HA.out
       clear HA
       simp only [laws_FnPathTo.l0] at H
       by_cases c33 : x12_2 < (t814.length : Int)
       ·rw [if_pos c33] at H
        have c33b0 : decide (x12_2 < (t814.length : Int)) = true := decide_eq_true c33
        clear c33
        by_cases c34 : x11_2 = true
        ·subst c34
         have H1 : (laws_FnPathTo.l0 k2 t817 t819 t829 t830 true (wrap64 (x12_2 + 1)) t808 t811 t814) = some r := by rw [if_pos rfl] at H; exact H
         clear H
         have H := H1
         clear H1
         have H' := am H
         clear H
         have hcz35_0 : wr.cell? ⟨gb818, 0, none⟩ = some (.slice Ao9 t808.length co9) := (blk_cell BK818.out 0).trans rfl
         have hcz35_1 : wr.cell? ⟨gb818, 1, none⟩ = some (.slice Ao11 t811.length co11) := (blk_cell BK818.out 1).trans rfl
         have hcz35_2 : wr.cell? ⟨gb818, 2, none⟩ = some (.slice Ao12 t814.length co12) := (blk_cell BK818.out 2).trans rfl
         have hfz35_0 := blk_frozen BK818.out 0
         have hfz35_1 := blk_frozen BK818.out 1
         have hfz35_2 := blk_frozen BK818.out 2
         go_wp2
         repeat (go_quiet (fail); try go_wp2)
         go_roundg k2
         case measure => have := HJ5.out; have := HK2.out; omega
         case rel => exact ⟨(true), (wrap64 (x12_2 + 1)), (by first | rfl | (simp; done) | (simp [*]; done)), (by first | rfl | (simp; done) | (simp [*]; done)), H', ⟨by have := HJ5.out; have := HK2.out; omega⟩, ⟨rl HO_5.out⟩, ⟨rl HO_819000.out⟩, ⟨rl HO_819001.out⟩, ⟨rl HO_819002.out⟩, ⟨kl BK818.out⟩, ⟨by exact bs1 GE818.out HB.out⟩⟩
        ·replace c34 := Bool.eq_false_iff.mpr c34
         subst c34
         have H1 : (if 0 ≤ x12_2 then (if 0 < (t819.length : Int) then (laws_FnPathTo.l0 k2 t817 t819 t829 t830 ((rd t814 x12_2) == (rd t819 0)) (wrap64 (x12_2 + 1)) t808 t811 t814) else (none)) else (none)) = some r := by rw [if_neg (show ¬ (false = true) by decide)] at H; exact H
         clear H
         have H := H1
         clear H1
         by_cases c36 : 0 ≤ x12_2
         ·rw [if_pos c36] at H
          have c36b0 : decide (0 ≤ x12_2) = true := decide_eq_true c36
          clear c36
          by_cases c37 : 0 < (t819.length : Int)
          ·rw [if_pos c37] at H
           have c37b0 : decide (0 < (t819.length : Int)) = true := decide_eq_true c37
           have c37b1 : decide (0 < t819.length) = true := decide_eq_true (by omega)
           clear c37
           have H' := am H
           clear H
           have hcz38_0 : wr.cell? ⟨gb818, 0, none⟩ = some (.slice Ao9 t808.length co9) := (blk_cell BK818.out 0).trans rfl
           have hcz38_1 : wr.cell? ⟨gb818, 1, none⟩ = some (.slice Ao11 t811.length co11) := (blk_cell BK818.out 1).trans rfl
           have hcz38_2 : wr.cell? ⟨gb818, 2, none⟩ = some (.slice Ao12 t814.length co12) := (blk_cell BK818.out 2).trans rfl
           have hfz38_0 := blk_frozen BK818.out 0
           have hfz38_1 := blk_frozen BK818.out 1
           have hfz38_2 := blk_frozen BK818.out 2
           have p831 : 0 ≤ (x12_2 : Int) := of_decide_eq_true (by first | (with_reducible assumption) | assumption)
           have q831 : x12_2 < (t814.length : Int) := of_decide_eq_true (by first | (with_reducible assumption) | assumption)
           obtain ⟨ad831, e831, hx831_0⟩ := Kd.at_int (Kd.R_reads' HO_819002.out).2.2 x12_2 p831 q831
           cases e831
           replace p831 := eq_true p831
           replace q831 := eq_true q831
           obtain ⟨Ao39, co39, eo39⟩ := Kd.R_slice HO_5.out
           subst eo39
           have p832 : 0 ≤ (0 : Int) := (by omega)
           have q832 : 0 < (t819.length : Int) := of_decide_eq_true (by first | (with_reducible assumption) | assumption)
           obtain ⟨ad832, e832, hx832_0⟩ := Kd.at_int (Kd.R_reads' HO_5.out).2.2 0 p832 q832
           cases e832
           have qi832 : (0 < t819.length) = True := eq_true (by omega)
           (try rw [show ((0 : Int)).toNat = 0 from rfl] at hx832_0)
           (try rw [Addr.add_zero'] at hx832_0)
           replace p832 := eq_true p832
           replace q832 := eq_true q832
           go_wp2
           repeat (go_quiet (fail); try go_wp2)
           go_roundg k2
           case measure => have := HJ5.out; have := HK2.out; omega
           case rel => exact ⟨(((rd t814 x12_2) == (rd t819 0))), (wrap64 (x12_2 + 1)), (by first | rfl | (simp; done) | (simp [*]; done)), (by first | rfl | (simp; done) | (simp [*]; done)), H', ⟨by have := HJ5.out; have := HK2.out; omega⟩, ⟨rl HO_5.out⟩, ⟨rl HO_819000.out⟩, ⟨rl HO_819001.out⟩, ⟨rl HO_819002.out⟩, ⟨kl BK818.out⟩, ⟨by exact bs1 GE818.out HB.out⟩⟩
          ·rw [if_neg c37] at H
           exact absurd H (by simp)
         ·rw [if_neg c36] at H
          exact absurd H (by simp)
       ·rw [if_neg c33] at H
        have c33b0 : decide (x12_2 < (t814.length : Int)) = false := decide_eq_false c33
        clear c33
        have H' := am H
        clear H
        have hcz40_0 : wr.cell? ⟨gb818, 0, none⟩ = some (.slice Ao9 t808.length co9) := (blk_cell BK818.out 0).trans rfl
        have hcz40_1 : wr.cell? ⟨gb818, 1, none⟩ = some (.slice Ao11 t811.length co11) := (blk_cell BK818.out 1).trans rfl
        have hcz40_2 : wr.cell? ⟨gb818, 2, none⟩ = some (.slice Ao12 t814.length co12) := (blk_cell BK818.out 2).trans rfl
        have hfz40_0 := blk_frozen BK818.out 0
        have hfz40_1 := blk_frozen BK818.out 1
        have hfz40_2 := blk_frozen BK818.out 2
        go_wp2
        repeat (go_quiet (fail); try go_wp2)
        go_loopg [13] k2 (fun kq v13 w' => ∃ (x13_3 : Int), v13 = .int .i64 x13_3 ∧ Aside0 (laws_FnPathTo.l1 kq t817 t819 t829 t830 x11_2 x13_3 t808 t811 t814 = some r) ∧ Aside0 (kq ≤ k2) ∧ Aside0 (Kd.R (Kd.int .i64) 3 w' w.heap.size (fun k_ => some k_ ≠ ((.slice Ao9 t808.length co9) : Value).ownBlock ∧ some k_ ≠ ((.slice Ao11 t811.length co11) : Value).ownBlock ∧ some k_ ≠ ((.slice Ao12 t814.length co12) : Value).ownBlock) v820 t819) ∧ Aside0 (Kd.R (Kd.int .i64) 3 w' w.heap.size (fun k_ => some k_ ≠ (v820 : Value).ownBlock ∧ some k_ ≠ ((.slice Ao11 t811.length co11) : Value).ownBlock ∧ some k_ ≠ ((.slice Ao12 t814.length co12) : Value).ownBlock) (.slice Ao9 t808.length co9) t808) ∧ Aside0 (Kd.R (Kd.int .i64) 3 w' w.heap.size (fun k_ => some k_ ≠ (v820 : Value).ownBlock ∧ some k_ ≠ ((.slice Ao9 t808.length co9) : Value).ownBlock ∧ some k_ ≠ ((.slice Ao12 t814.length co12) : Value).ownBlock) (.slice Ao11 t811.length co11) t811) ∧ Aside0 (Kd.R (Kd.int .i64) 3 w' w.heap.size (fun k_ => some k_ ≠ (v820 : Value).ownBlock ∧ some k_ ≠ ((.slice Ao9 t808.length co9) : Value).ownBlock ∧ some k_ ≠ ((.slice Ao11 t811.length co11) : Value).ownBlock) (.slice Ao12 t814.length co12) t814) ∧ Aside0 (w'.heap[gb818]? = some (.cells #[(.slice Ao9 t808.length co9), (.slice Ao11 t811.length co11), (.slice Ao12 t814.length co12)] 25 (0, 0))) ∧ Aside0 (Below w.heap.size w w'))
        case atStart => exact ⟨(1), (by first | rfl | (simp; done) | (simp [*]; done)), H', ⟨Nat.le_refl _⟩, ⟨rl HO_5.out⟩, ⟨rl HO_819000.out⟩, ⟨rl HO_819001.out⟩, ⟨rl HO_819002.out⟩, ⟨kl BK818.out⟩, ⟨by exact bs1 GE818.out HB.out⟩⟩
        case round =>
         clear H'
         try clear c1
         try clear c2
         try clear c2b0
         try clear c2b1
         try clear p2
         try clear c3
         try clear p6
         try clear p8
         try clear q8
         try clear hx8
         try clear qi8
         try clear c9
         try clear c17
         try clear c18
         try clear c18b0
         try clear c18b1
         try clear c18b2
         try clear c25
         try clear c27
         try clear c33
         try clear c33b0
         try clear c34
         try clear c36
         try clear c36b0
         try clear c37
         try clear c37b0
         try clear c37b1
         try clear hcz10_0
         try clear hcz10_1
         try clear hcz10_2
         try clear hcz14_0
         try clear hcz14_1
         try clear hcz14_2
         try clear hcz31_0
         try clear hcz31_1
         try clear hcz31_2
         try clear hcz35_0
         try clear hcz35_1
         try clear hcz35_2
         try clear hcz38_0
         try clear hcz38_1
         try clear hcz38_2
         try clear hcz40_0
         try clear hcz40_1
         try clear hcz40_2
         try clear hfz10_0
         try clear hfz10_1
         try clear hfz10_2
         try clear hfz14_0
         try clear hfz14_1
         try clear hfz14_2
         try clear hfz31_0
         try clear hfz31_1
         try clear hfz31_2
         try clear hfz35_0
         try clear hfz35_1
         try clear hfz35_2
         try clear hfz38_0
         try clear hfz38_1
         try clear hfz38_2
         try clear hfz40_0
         try clear hfz40_1
         try clear hfz40_2
         try clear hx831_0
         try clear hx832_0
         try clear p2
         try clear p831
         try clear p832
         try clear q831
         try clear q832
         obtain ⟨x13_3, rfl, HA, HK3, HO_5, HO_819000, HO_819001, HO_819002, BK818, HB⟩ := hrel
         cases gk with
         | zero => exact absurd HA.out (by simp [laws_FnPathTo.l1])
         | succ k3 =>
          have H := HA.out
          clear HA
          simp only [laws_FnPathTo.l1] at H
          by_cases c41 : x13_3 < (t819.length : Int)
          ·rw [if_pos c41] at H
           have c41b0 : decide (x13_3 < (t819.length : Int)) = true := decide_eq_true c41
           clear c41
           obtain ⟨ji42, hji42⟩ : ∃ j_ : Int, (wrap64 (x13_3 - 1)) = j_ := ⟨_, rfl⟩
           replace H : (if 0 ≤ (ji42) then (if (ji42) < (t819.length : Int) then (if 0 ≤ (rd t819 (ji42)) then (if (rd t819 (ji42)) < (t808.length : Int) then (if 0 ≤ x13_3 then (if (rd t808 (rd t819 (ji42))) = (rd t819 x13_3) then (laws_FnPathTo.l1 k3 t817 t819 t829 t830 x11_2 (wrap64 (x13_3 + 1)) t808 t811 t814) else (if (rd t819 (ji42)) < (t811.length : Int) then (if (rd t811 (rd t819 (ji42))) = (rd t819 x13_3) then (laws_FnPathTo.l1 k3 t817 t819 t829 t830 x11_2 (wrap64 (x13_3 + 1)) t808 t811 t814) else (none)) else (none))) else (none)) else (none)) else (none)) else (none)) else (none)) = some r := by first | (rw [hji42] at H; exact H) | (simp only [hji42] at H ⊢; exact H)
           have hji42w : (IntKind.i64.wrap (x13_3 - 1)) = ji42 := (i64_w _).trans hji42
           by_cases c43 : 0 ≤ (ji42)
           ·rw [if_pos c43] at H
            have c43b0 : decide (0 ≤ (ji42)) = true := decide_eq_true c43
            clear c43
            by_cases c44 : (ji42) < (t819.length : Int)
            ·rw [if_pos c44] at H
             have c44b0 : decide ((ji42) < (t819.length : Int)) = true := decide_eq_true c44
             clear c44
             by_cases c45 : 0 ≤ (rd t819 (ji42))
             ·rw [if_pos c45] at H
              have c45b0 : decide (0 ≤ (rd t819 (ji42))) = true := decide_eq_true c45
              clear c45
              by_cases c46 : (rd t819 (ji42)) < (t808.length : Int)
              ·rw [if_pos c46] at H
               have c46b0 : decide ((rd t819 (ji42)) < (t808.length : Int)) = true := decide_eq_true c46
               clear c46
               by_cases c47 : 0 ≤ x13_3
               ·rw [if_pos c47] at H
                have c47b0 : decide (0 ≤ x13_3) = true := decide_eq_true c47
                clear c47
                by_cases c48 : (rd t808 (rd t819 (ji42))) = (rd t819 x13_3)
                ·rw [if_pos c48] at H
                 have c48b0 : ((rd t808 (rd t819 (ji42))) == (rd t819 x13_3)) = true := beq_iff_eq.mpr c48
                 have c48b1 : ((rd t808 (rd t819 (ji42))) != (rd t819 x13_3)) = false := bne_eq_false_iff_eq.mpr c48
                 clear c48
                 have H' := am H
                 clear H
                 obtain ⟨Ao49, co49, eo49⟩ := Kd.R_slice HO_5.out
                 subst eo49
                 have hcz50_0 : wr.cell? ⟨gb818, 0, none⟩ = some (.slice Ao9 t808.length co9) := (blk_cell BK818.out 0).trans rfl
                 have hcz50_1 : wr.cell? ⟨gb818, 1, none⟩ = some (.slice Ao11 t811.length co11) := (blk_cell BK818.out 1).trans rfl
                 have hcz50_2 : wr.cell? ⟨gb818, 2, none⟩ = some (.slice Ao12 t814.length co12) := (blk_cell BK818.out 2).trans rfl
                 have hfz50_0 := blk_frozen BK818.out 0
                 have hfz50_1 := blk_frozen BK818.out 1
                 have hfz50_2 := blk_frozen BK818.out 2
                 have p833 : 0 ≤ ((ji42) : Int) := of_decide_eq_true (by first | (with_reducible assumption) | assumption)
                 have q833 : (ji42) < (t819.length : Int) := of_decide_eq_true (by first | (with_reducible assumption) | assumption)
                 obtain ⟨ad833, e833, hx833_0⟩ := Kd.at_int (Kd.R_reads' HO_5.out).2.2 (ji42) p833 q833
                 cases e833
                 replace p833 := eq_true p833
                 replace q833 := eq_true q833
                 have p834 : 0 ≤ ((rd t819 (ji42)) : Int) := of_decide_eq_true (by first | (with_reducible assumption) | assumption)
                 have q834 : (rd t819 (ji42)) < (t808.length : Int) := of_decide_eq_true (by first | (with_reducible assumption) | assumption)
                 obtain ⟨ad834, e834, hx834_0⟩ := Kd.at_int (Kd.R_reads' HO_819000.out).2.2 (rd t819 (ji42)) p834 q834
                 cases e834
                 replace p834 := eq_true p834
                 replace q834 := eq_true q834
                 have p835 : 0 ≤ (x13_3 : Int) := of_decide_eq_true (by first | (with_reducible assumption) | assumption)
                 have q835 : x13_3 < (t819.length : Int) := of_decide_eq_true (by first | (with_reducible assumption) | assumption)
                 obtain ⟨ad835, e835, hx835_0⟩ := Kd.at_int (Kd.R_reads' HO_5.out).2.2 x13_3 p835 q835
                 obtain rfl : ad833 = ad835 := (by injection e835)
                 replace p835 := eq_true p835
                 replace q835 := eq_true q835
                 go_wp2
                 repeat (go_quiet (fail); try go_wp2)
                 go_roundg k3
                 case measure => have := HJ5.out; have := HK2.out; have := HK3.out; omega
                 case rel => exact ⟨(wrap64 (x13_3 + 1)), (by first | rfl | (simp; done) | (simp [*]; done)), H', ⟨by have := HJ5.out; have := HK2.out; have := HK3.out; omega⟩, ⟨rl HO_5.out⟩, ⟨rl HO_819000.out⟩, ⟨rl HO_819001.out⟩, ⟨rl HO_819002.out⟩, ⟨kl BK818.out⟩, ⟨by exact bs1 GE818.out HB.out⟩⟩
                ·rw [if_neg c48] at H
                 have c48b0 : ((rd t808 (rd t819 (ji42))) == (rd t819 x13_3)) = false := beq_eq_false_iff_ne.mpr c48
                 have c48b1 : ((rd t808 (rd t819 (ji42))) != (rd t819 x13_3)) = true := bne_iff_ne.mpr c48
                 by_cases c51 : (rd t819 (ji42)) < (t811.length : Int)
                 ·rw [if_pos c51] at H
                  have c51b0 : decide ((rd t819 (ji42)) < (t811.length : Int)) = true := decide_eq_true c51
                  clear c51
                  by_cases c52 : (rd t811 (rd t819 (ji42))) = (rd t819 x13_3)
                  ·rw [if_pos c52] at H
                   have c52b0 : ((rd t811 (rd t819 (ji42))) == (rd t819 x13_3)) = true := beq_iff_eq.mpr c52
                   have c52b1 : ((rd t811 (rd t819 (ji42))) != (rd t819 x13_3)) = false := bne_eq_false_iff_eq.mpr c52
                   clear c52
                   have H' := am H
                   clear H
                   obtain ⟨Ao53, co53, eo53⟩ := Kd.R_slice HO_5.out
                   subst eo53
                   have hcz54_0 : wr.cell? ⟨gb818, 0, none⟩ = some (.slice Ao9 t808.length co9) := (blk_cell BK818.out 0).trans rfl
                   have hcz54_1 : wr.cell? ⟨gb818, 1, none⟩ = some (.slice Ao11 t811.length co11) := (blk_cell BK818.out 1).trans rfl
                   have hcz54_2 : wr.cell? ⟨gb818, 2, none⟩ = some (.slice Ao12 t814.length co12) := (blk_cell BK818.out 2).trans rfl
                   have hfz54_0 := blk_frozen BK818.out 0
                   have hfz54_1 := blk_frozen BK818.out 1
                   have hfz54_2 := blk_frozen BK818.out 2
                   have p833 : 0 ≤ ((ji42) : Int) := of_decide_eq_true (by first | (with_reducible assumption) | assumption)
                   have q833 : (ji42) < (t819.length : Int) := of_decide_eq_true (by first | (with_reducible assumption) | assumption)
                   obtain ⟨ad833, e833, hx833_0⟩ := Kd.at_int (Kd.R_reads' HO_5.out).2.2 (ji42) p833 q833
                   cases e833
                   replace p833 := eq_true p833
                   replace q833 := eq_true q833
                   have p834 : 0 ≤ ((rd t819 (ji42)) : Int) := of_decide_eq_true (by first | (with_reducible assumption) | assumption)
                   have q834 : (rd t819 (ji42)) < (t808.length : Int) := of_decide_eq_true (by first | (with_reducible assumption) | assumption)
                   obtain ⟨ad834, e834, hx834_0⟩ := Kd.at_int (Kd.R_reads' HO_819000.out).2.2 (rd t819 (ji42)) p834 q834
                   cases e834
                   replace p834 := eq_true p834
                   replace q834 := eq_true q834
                   have p835 : 0 ≤ (x13_3 : Int) := of_decide_eq_true (by first | (with_reducible assumption) | assumption)
                   have q835 : x13_3 < (t819.length : Int) := of_decide_eq_true (by first | (with_reducible assumption) | assumption)
                   obtain ⟨ad835, e835, hx835_0⟩ := Kd.at_int (Kd.R_reads' HO_5.out).2.2 x13_3 p835 q835
                   obtain rfl : ad833 = ad835 := (by injection e835)
                   replace p835 := eq_true p835
                   replace q835 := eq_true q835
                   have p836 : 0 ≤ ((ji42) : Int) := of_decide_eq_true (by first | (with_reducible assumption) | assumption)
                   have q836 : (ji42) < (t819.length : Int) := of_decide_eq_true (by first | (with_reducible assumption) | assumption)
                   obtain ⟨ad836, e836, hx836_0⟩ := Kd.at_int (Kd.R_reads' HO_5.out).2.2 (ji42) p836 q836
                   obtain rfl : ad833 = ad836 := (by injection e836)
                   replace p836 := eq_true p836
                   replace q836 := eq_true q836
                   have p837 : 0 ≤ ((rd t819 (ji42)) : Int) := of_decide_eq_true (by first | (with_reducible assumption) | assumption)
                   have q837 : (rd t819 (ji42)) < (t811.length : Int) := of_decide_eq_true (by first | (with_reducible assumption) | assumption)
                   obtain ⟨ad837, e837, hx837_0⟩ := Kd.at_int (Kd.R_reads' HO_819001.out).2.2 (rd t819 (ji42)) p837 q837
                   cases e837
                   replace p837 := eq_true p837
                   replace q837 := eq_true q837
                   have p838 : 0 ≤ (x13_3 : Int) := of_decide_eq_true (by first | (with_reducible assumption) | assumption)
                   have q838 : x13_3 < (t819.length : Int) := of_decide_eq_true (by first | (with_reducible assumption) | assumption)
                   obtain ⟨ad838, e838, hx838_0⟩ := Kd.at_int (Kd.R_reads' HO_5.out).2.2 x13_3 p838 q838
                   obtain rfl : ad833 = ad838 := (by injection e838)
                   replace p838 := eq_true p838
                   replace q838 := eq_true q838
                   go_wp2
                   repeat (go_quiet (fail); try go_wp2)
                   go_roundg k3
                   case measure => have := HJ5.out; have := HK2.out; have := HK3.out; omega
                   case rel => exact ⟨(wrap64 (x13_3 + 1)), (by first | rfl | (simp; done) | (simp [*]; done)), H', ⟨by have := HJ5.out; have := HK2.out; have := HK3.out; omega⟩, ⟨rl HO_5.out⟩, ⟨rl HO_819000.out⟩, ⟨rl HO_819001.out⟩, ⟨rl HO_819002.out⟩, ⟨kl BK818.out⟩, ⟨by exact bs1 GE818.out HB.out⟩⟩
                  ·rw [if_neg c52] at H
                   exact absurd H (by simp)
                 ·rw [if_neg c51] at H
                  exact absurd H (by simp)
               ·rw [if_neg c47] at H
                exact absurd H (by simp)
              ·rw [if_neg c46] at H
               exact absurd H (by simp)
             ·rw [if_neg c45] at H
              exact absurd H (by simp)
            ·rw [if_neg c44] at H
             exact absurd H (by simp)
           ·rw [if_neg c43] at H
            exact absurd H (by simp)
          ·rw [if_neg c41] at H
           have c41b0 : decide (x13_3 < (t819.length : Int)) = false := decide_eq_false c41
           clear c41
           by_cases c55 : t830 = true
           ·subst c55
            have H1 : (if x11_2 = true then (if (t819.length : Int) = t829 then (if 0 ≤ (wrap64 (t829 - 1)) then (if (wrap64 (t829 - 1)) < (t819.length : Int) then (some ((rd t819 (wrap64 (t829 - 1))) == t817)) else (none)) else (none)) else (none)) else (none)) = some r := by rw [if_pos rfl] at H; exact H
            clear H
            have H := H1
            clear H1
            by_cases c56 : x11_2 = true
            ·subst c56
             have H1 : (if (t819.length : Int) = t829 then (if 0 ≤ (wrap64 (t829 - 1)) then (if (wrap64 (t829 - 1)) < (t819.length : Int) then (some ((rd t819 (wrap64 (t829 - 1))) == t817)) else (none)) else (none)) else (none)) = some r := by rw [if_pos rfl] at H; exact H
             clear H
             have H := H1
             clear H1
             by_cases c57 : (t819.length : Int) = t829
             ·rw [if_pos c57] at H
              have c57b0 : ((t819.length : Int) == t829) = true := beq_iff_eq.mpr c57
              have c57b1 : ((t819.length : Int) != t829) = false := bne_eq_false_iff_eq.mpr c57
              clear c57
              obtain ⟨ji58, hji58⟩ : ∃ j_ : Int, (wrap64 (t829 - 1)) = j_ := ⟨_, rfl⟩
              replace H : (if 0 ≤ (ji58) then (if (ji58) < (t819.length : Int) then (some ((rd t819 (ji58)) == t817)) else (none)) else (none)) = some r := by first | (rw [hji58] at H; exact H) | (simp only [hji58] at H ⊢; exact H)
              have hji58w : (IntKind.i64.wrap (t829 - 1)) = ji58 := (i64_w _).trans hji58
              by_cases c59 : 0 ≤ (ji58)
              ·rw [if_pos c59] at H
               have c59b0 : decide (0 ≤ (ji58)) = true := decide_eq_true c59
               clear c59
               by_cases c60 : (ji58) < (t819.length : Int)
               ·rw [if_pos c60] at H
                have c60b0 : decide ((ji58) < (t819.length : Int)) = true := decide_eq_true c60
                clear c60
                obtain rfl := Option.some.inj H
                obtain ⟨Ao61, co61, eo61⟩ := Kd.R_slice HO_5.out
                subst eo61
                have p839 : 0 ≤ ((ji58) : Int) := of_decide_eq_true (by first | (with_reducible assumption) | assumption)
                have q839 : (ji58) < (t819.length : Int) := of_decide_eq_true (by first | (with_reducible assumption) | assumption)
                obtain ⟨ad839, e839, hx839_0⟩ := Kd.at_int (Kd.R_reads' HO_5.out).2.2 (ji58) p839 q839
                cases e839
                replace p839 := eq_true p839
                replace q839 := eq_true q839
                go_wp2
                repeat (go_quiet (fail); try go_wp2)
                go_ret
                exact ⟨by first | rfl | (simp [errW_none, errW_some] <;> rfl) | (simp only [← hji58]; first | rfl | (simp [errW_none, errW_some] <;> rfl)) | (simp [*, errW_none, errW_some] <;> rfl), by exact bs1 GE818.out HB.out⟩
               ·rw [if_neg c60] at H
                exact absurd H (by simp)
              ·rw [if_neg c59] at H
               exact absurd H (by simp)
             ·rw [if_neg c57] at H
              exact absurd H (by simp)
            ·replace c56 := Bool.eq_false_iff.mpr c56
             subst c56
             have H1 : (none) = some r := by rw [if_neg (show ¬ (false = true) by decide)] at H; exact H
             clear H
             have H := H1
             clear H1
             exact absurd H (by simp)
           ·replace c55 := Bool.eq_false_iff.mpr c55
            subst c55
            have H1 : (none) = some r := by rw [if_neg (show ¬ (false = true) by decide)] at H; exact H
            clear H
            have H := H1
            clear H1
            exact absurd H (by simp)

/-- THE ONE PURE STATEMENT of laws_FnPathTo: yours. -/
def laws_FnPathTo.Pure : Prop := ∀ (l0 : List Int), l0.length ≤ maxLen → l0.length * 1 ≤ 140737488351232 → (∀ x ∈ l0, (Lit.int .u8 x).wf = true) → ∃ k, laws_FnPathTo.f k l0 = some true
theorem laws_FnPathTo.walk (P : laws_FnPathTo.Pure) (a0 : Option Addr) (len0 cap0 : Nat) (z0 : List Int) (w : World) (w0 : (a0 = none ∧ len0 = 0 ∧ cap0 = 0 ∧ z0 = []) ∨ ∃ x, a0 = some x ∧ len0 ≤ cap0 ∧ cap0 ≤ maxLen ∧ z0.length = cap0 ∧ (∀ i, i < z0.length → w.cell? (x.add i) = some (.int .u8 (z0.getD i 0))) ∧ ∀ n ∈ z0, (Lit.int .u8 n).wf = true) (y0 : len0 * 1 ≤ 140737488351232) :
  Calls Try.prog 9 #[.slice a0 len0 cap0] w fun e w' => e = .returned (.bool true) ∧ Below w.heap.size w w' := by
 obtain ⟨l0, rfl, hr0, hm0, hw0, hc0⟩ := ReadsInt.ofRowC w0
 obtain ⟨k, h⟩ := P l0 hm0 y0 hw0
 refine (laws_FnPathTo.calls k _ _ l0 true w (Kd.C_of_reads (d := (0 : Int)) (h1 := fun _ => rfl) hr0) hc0 h).mono ?_
 rintro e w' ⟨rfl, hd⟩
 exact ⟨rfl, hd⟩

end Go.Proofs.Ytghgpinhghhlgaa.A
