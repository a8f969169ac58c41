/- Contracts of functions of the given program (CLawsFnCountLive). No conditions beyond those stated. -/
import Derived.Test.YtghgpinhghhlgaaA0
import Derived.Test.YtghgpinhghhlgaaAImplCountLive
import Derived.Test.YtghgpinhghhlgaaAImplHeapValid
import Derived.Test.YtghgpinhghhlgaaAImplPutRoot
import Derived.Test.YtghgpinhghhlgaaASpecCountLive
import Derived.Test.YtghgpinhghhlgaaASpecDrawCountLive
import Derived.Test.YtghgpinhghhlgaaA0
namespace Go.Proofs.Ytghgpinhghhlgaa.A
open Go.RowKit Go.Proofs.YtghgpinhghhlgaaW.PrintWords Go.Proofs.YtghgpinhghhlgaaW.PrintLast Go.Proofs.YtghgpinhghhlgaaW.PrintMore
attribute [local go_sem] max2_int min2_int max_two min_two max_three min_three max_four min_four   -- for this text's walks alone
set_option linter.unusedVariables false
set_option linter.unusedSimpArgs false

/-! ### laws_FnCountLive -/
mutual
def laws_FnCountLive.j0 : Nat → Int → Bool → List Int → List Int → List Int → Option (Bool)
 | 0, _, _, _, _, _ => none
 | k + 1, x4, x24, x619000, x619001, x619002 => if x24 = true then ((spec_CountLive.f k x619000 x619001 x619002).bind fun t622 => (if x4 = t622 then (some (x4 == 0)) else (none))) else (laws_FnCountLive.l0 k x4 0 x619000 x619001 x619002)
def laws_FnCountLive.l0 : Nat → Int → Int → List Int → List Int → List Int → Option (Bool)
 | 0, _, _, _, _, _ => none
 | k + 1, x4, x5, x619000, x619001, x619002 => if x5 < (x619002.length : Int) then ((impl_PutRoot.f k x619000 x619001 x619002 x5 (-1)).bind fun bt623 => ((impl_CountLive.f k bt623.1 bt623.2.1 bt623.2.2.1).bind fun t634 => (if bt623.2.2.2 = true then (if t634 > x4 then (none) else (laws_FnCountLive.l0 k t634 (wrap64 (x5 + 1)) bt623.1 bt623.2.1 bt623.2.2.1)) else (none)))) else (some (x4 == 0))
end
def laws_FnCountLive.f (k : Nat) (l0 : List Int) : Option (Bool) := if (l0.length : Int) > 1048576 then (some true) else ((spec_DrawCountLive.f k l0).bind fun bt609 => ((impl_CountLive.f k bt609.1 bt609.2.1 bt609.2.2).bind fun t619 => ((spec_CountLive.f k bt609.1 bt609.2.1 bt609.2.2).bind fun t620 => (if t619 = t620 then ((impl_HeapValid.f k bt609.1 bt609.2.1 bt609.2.2).bind fun t621 => (laws_FnCountLive.j0 k t619 (!t621) bt609.1 bt609.2.1 bt609.2.2)) else (laws_FnCountLive.j0 k t619 true bt609.1 bt609.2.1 bt609.2.2)))))
theorem laws_FnCountLive.mono_l : ∀ k, (∀ y0 y1 y2 y3 y4, LeO (laws_FnCountLive.j0 k y0 y1 y2 y3 y4) (laws_FnCountLive.j0 (k + 1) y0 y1 y2 y3 y4)) ∧ (∀ y0 y1 y2 y3 y4, LeO (laws_FnCountLive.l0 k y0 y1 y2 y3 y4) (laws_FnCountLive.l0 (k + 1) y0 y1 y2 y3 y4))
 | 0 => ⟨fun _ _ _ _ _ r h => by simp [laws_FnCountLive.j0] at h, fun _ _ _ _ _ r h => by simp [laws_FnCountLive.l0] at h⟩
 | k + 1 => by
  obtain ⟨ih0, ih1⟩ := laws_FnCountLive.mono_l k
  refine ⟨?_, ?_⟩
  ·intro y0 y1 y2 y3 y4
   unfold laws_FnCountLive.j0
   repeat' first
   | (with_reducible exact ih0 _ _ _ _ _)
   | (with_reducible exact ih1 _ _ _ _ _)
   | (with_reducible exact impl_CountLive.mono _ _ _ _)
   | (with_reducible exact impl_HeapValid.mono _ _ _ _)
   | (with_reducible exact impl_PutRoot.mono _ _ _ _ _ _)
   | (with_reducible exact spec_CountLive.mono _ _ _ _)
   | (with_reducible exact spec_DrawCountLive.mono _ _)
   | (with_reducible exact LeO.refl _)
   | (with_reducible exact LeO.none _)
   | (with_reducible refine LeO.ite ?_ ?_)
   | (with_reducible refine LeO.bind ?_ (fun _ => ?_))
   | exact ih0 _ _ _ _ _
   | exact ih1 _ _ _ _ _
   | exact impl_CountLive.mono _ _ _ _
   | exact impl_HeapValid.mono _ _ _ _
   | exact impl_PutRoot.mono _ _ _ _ _ _
   | exact spec_CountLive.mono _ _ _ _
   | exact spec_DrawCountLive.mono _ _
   | exact LeO.none _
   | refine LeO.ite ?_ ?_
   | refine LeO.bind ?_ (fun _ => ?_)
  ·intro y0 y1 y2 y3 y4
   unfold laws_FnCountLive.l0
   repeat' first
   | (with_reducible exact ih0 _ _ _ _ _)
   | (with_reducible exact ih1 _ _ _ _ _)
   | (with_reducible exact impl_CountLive.mono _ _ _ _)
   | (with_reducible exact impl_HeapValid.mono _ _ _ _)
   | (with_reducible exact impl_PutRoot.mono _ _ _ _ _ _)
   | (with_reducible exact spec_CountLive.mono _ _ _ _)
   | (with_reducible exact spec_DrawCountLive.mono _ _)
   | (with_reducible exact LeO.refl _)
   | (with_reducible exact LeO.none _)
   | (with_reducible refine LeO.ite ?_ ?_)
   | (with_reducible refine LeO.bind ?_ (fun _ => ?_))
   | exact ih0 _ _ _ _ _
   | exact ih1 _ _ _ _ _
   | exact impl_CountLive.mono _ _ _ _
   | exact impl_HeapValid.mono _ _ _ _
   | exact impl_PutRoot.mono _ _ _ _ _ _
   | exact spec_CountLive.mono _ _ _ _
   | exact spec_DrawCountLive.mono _ _
   | exact LeO.none _
   | refine LeO.ite ?_ ?_
   | refine LeO.bind ?_ (fun _ => ?_)
theorem laws_FnCountLive.mono : ∀ a0 k, LeO (laws_FnCountLive.f k a0) (laws_FnCountLive.f (k + 1) a0) := by
 intro a0 k
 obtain ⟨ih0, ih1⟩ := laws_FnCountLive.mono_l k
 unfold laws_FnCountLive.f
 repeat' first
   | (with_reducible exact ih0 _ _ _ _ _)
   | (with_reducible exact ih1 _ _ _ _ _)
   | (with_reducible exact impl_CountLive.mono _ _ _ _)
   | (with_reducible exact impl_HeapValid.mono _ _ _ _)
   | (with_reducible exact impl_PutRoot.mono _ _ _ _ _ _)
   | (with_reducible exact spec_CountLive.mono _ _ _ _)
   | (with_reducible exact spec_DrawCountLive.mono _ _)
   | (with_reducible exact LeO.refl _)
   | (with_reducible exact LeO.none _)
   | (with_reducible refine LeO.ite ?_ ?_)
   | (with_reducible refine LeO.bind ?_ (fun _ => ?_))
   | exact ih0 _ _ _ _ _
   | exact ih1 _ _ _ _ _
   | exact impl_CountLive.mono _ _ _ _
   | exact impl_HeapValid.mono _ _ _ _
   | exact impl_PutRoot.mono _ _ _ _ _ _
   | exact spec_CountLive.mono _ _ _ _
   | exact spec_DrawCountLive.mono _ _
   | exact LeO.none _
   | refine LeO.ite ?_ ?_
   | refine LeO.bind ?_ (fun _ => ?_)
set_option maxHeartbeats 8000000 in
set_option maxRecDepth 100000 in
theorem laws_FnCountLive.calls (k : Nat) (A0 : Option Addr) (c0 : Nat) (l0 : List Int) (r : Bool) (w : World) (hr0 : Kd.C (Kd.int .u8) w A0 l0.length l0) (hc0 : l0.length ≤ c0) (h : laws_FnCountLive.f k l0 = some r) :
  Calls Try.prog 6 #[.slice A0 l0.length c0] w fun e w' => e = .returned (.bool r) ∧ Below w.heap.size w w' := by
 have hu25 := Try.underlying25
 have HR0 := am hr0
 have HC0 := am hc0
 clear hr0 hc0
 have HB := am (Below.refl w.heap.size w)
 have H : (if (l0.length : Int) > 1048576 then (some true) else ((spec_DrawCountLive.f k l0).bind fun bt609 => ((impl_CountLive.f k bt609.1 bt609.2.1 bt609.2.2).bind fun t619 => ((spec_CountLive.f k bt609.1 bt609.2.1 bt609.2.2).bind fun t620 => (if t619 = t620 then ((impl_HeapValid.f k bt609.1 bt609.2.1 bt609.2.2).bind fun t621 => (laws_FnCountLive.j0 k t619 (!t621) bt609.1 bt609.2.1 bt609.2.2)) else (laws_FnCountLive.j0 k t619 true bt609.1 bt609.2.1 bt609.2.2)))))) = some r := h
 clear h
 by_cases c2 : (l0.length : Int) > 1048576
 ·rw [if_pos c2] at H
  have c2b0 : decide (1048576 < (l0.length : Int)) = true := decide_eq_true c2
  have c2b1 : decide (1048576 < l0.length) = true := decide_eq_true (by omega)
  clear c2
  obtain rfl := Option.some.inj H
  go_enter Try.func6, Try.ntmps6
  go_wp2
  go_ret
  exact ⟨by first | rfl | (simp [errW_none, errW_some] <;> rfl) | (simp [*, errW_none, errW_some] <;> rfl), by exact bs0 HB.out⟩
 ·rw [if_neg c2] at H
  have c2b0 : decide (1048576 < (l0.length : Int)) = false := decide_eq_false c2
  have c2b1 : decide (1048576 < l0.length) = false := decide_eq_false (by omega)
  clear c2
  replace H := Option.bind_eq_some_iff.mp H
  obtain ⟨⟨t609, t612, t615⟩, A30, H⟩ := H
  replace H : ((impl_CountLive.f k t609 t612 t615).bind fun t619 => ((spec_CountLive.f k t609 t612 t615).bind fun t620 => (if t619 = t620 then ((impl_HeapValid.f k t609 t612 t615).bind fun t621 => (laws_FnCountLive.j0 k t619 (!t621) t609 t612 t615)) else (laws_FnCountLive.j0 k t619 true t609 t612 t615)))) = some r := H
  have A3 := am A30
  clear A30
  replace H := Option.bind_eq_some_iff.mp H
  obtain ⟨t619, A40, H⟩ := H
  replace H : ((spec_CountLive.f k t609 t612 t615).bind fun t620 => (if t619 = t620 then ((impl_HeapValid.f k t609 t612 t615).bind fun t621 => (laws_FnCountLive.j0 k t619 (!t621) t609 t612 t615)) else (laws_FnCountLive.j0 k t619 true t609 t612 t615))) = some r := H
  have A4 := am A40
  clear A40
  have HC5 := am H
  clear H
  go_enter Try.func6, Try.ntmps6
  go_upto_region 5 with (first | ((with_reducible refine gate_callee (f := 25) rfl ?_); refine goesL_ (some 13) rfl rfl Try.func25 (by kernel_rfl) rfl #[.slice A0 l0.length c0] rfl (by (try simp only [List.map_toArray, List.map_cons, List.map_nil]); first | done | rfl | (simp only [List.length_drop, List.length_take]; rfl)) ?_; (with_reducible refine (spec_DrawCountLive.calls k _ _ l0 t609 t612 t615 _ ?side1 ?side2 A3.out).mono ?_); (case side1 => exact cl (HR0.out)); (case side2 => exact HC0.out); rintro e w6 ⟨v610, v613, v616, rfl, ho0, ho1, ho2, hb⟩; refine ⟨_, rfl, ?_⟩; have HO611 := am (Kd.R_lower ho0 (below_size (bl HB.out))); have HO614 := am (Kd.R_lower ho1 (below_size (bl HB.out))); have HO617 := am (Kd.R_lower ho2 (below_size (bl HB.out))); replace HB := am (below_step (bl HB.out) hb); (try clear hb); (try clear hb2); (try clear hk); (try clear hi); (try clear ho0); (try clear ho1); (try clear ho2)) | ((with_reducible refine gate_dst (N := 3) rfl ?_); refine box_event ?hg (N := 3) ?hd (cs := #[.slice none 0 0, .slice none 0 0, .slice none 0 0]) (t := 25) ?hr ?_; (case hd => rfl); (case hg => rfl); (case hr => first | (go_simp; done) | (go_simp; rfl)); intro gb618 hg w7 hbox hb; replace HO611 := am (Kd.R_below (rl HO611.out) hb); replace HO614 := am (Kd.R_below (rl HO614.out) hb); replace HO617 := am (Kd.R_below (rl HO617.out) hb); have BK618 := am (hbox); have GW618 := am ((by rw [hg]; exact (below_size (bl HB.out)) : w.heap.size ≤ gb618)); have GE618 := am ((by rw [hg]; exact (below_size (bl HB.out)) : w.heap.size ≤ gb618)); replace HB := am (below_step (bl HB.out) hb); clear hb hbox hg; obtain ⟨Ao8, co8, eo8⟩ := Kd.R_slice HO611.out; subst eo8; have hcz9_0 : w7.cell? ⟨gb618, 0, none⟩ = some (.slice none 0 0) := (blk_cell BK618.out 0).trans rfl; have hcz9_1 : w7.cell? ⟨gb618, 1, none⟩ = some (.slice none 0 0) := (blk_cell BK618.out 1).trans rfl; have hcz9_2 : w7.cell? ⟨gb618, 2, none⟩ = some (.slice none 0 0) := (blk_cell BK618.out 2).trans rfl; have hfz9_0 := blk_frozen BK618.out 0; have hfz9_1 := blk_frozen BK618.out 1; have hfz9_2 := blk_frozen BK618.out 2; obtain ⟨Ao10, co10, eo10⟩ := Kd.R_slice HO614.out; subst eo10; obtain ⟨Ao11, co11, eo11⟩ := Kd.R_slice HO617.out; subst eo11) | ((with_reducible refine gate_callee (f := 24) rfl ?_); refine goesL_ (some 15) rfl rfl Try.func24 (by kernel_rfl) rfl #[.agg #[.slice Ao8 t609.length co8, .slice Ao10 t612.length co10, .slice Ao11 t615.length co11]] rfl (by (try simp only [List.map_toArray, List.map_cons, List.map_nil]); first | done | rfl | (simp only [List.length_drop, List.length_take]; rfl)) ?_; (with_reducible refine (impl_CountLive.calls k _ _ t609 _ _ t612 _ _ t615 t619 _ ?side1 ?side2 ?side3 ?side4 ?side5 ?side6 A4.out).mono ?_); (case side1 => exact (Kd.R_reads' (rf1 BK618.out HO611.out)).2.2); (case side2 => exact (Kd.R_reads' HO611.out).2.1); (case side3 => exact (Kd.R_reads' (rf1 BK618.out HO614.out)).2.2); (case side4 => exact (Kd.R_reads' HO614.out).2.1); (case side5 => exact (Kd.R_reads' (rf1 BK618.out HO617.out)).2.2); (case side6 => exact (Kd.R_reads' HO617.out).2.1); rintro e w12 ⟨rfl, hb⟩; refine ⟨_, rfl, ?_⟩; replace HO611 := am (Kd.R_below (rf1 BK618.out HO611.out) hb); replace HO614 := am (Kd.R_below (rf1 BK618.out HO614.out) hb); replace HO617 := am (Kd.R_below (rf1 BK618.out HO617.out) hb); replace BK618 := am (blk_below (g := gb618) (o := .cells #[.slice Ao8 t609.length co8, .slice Ao10 t612.length co10, .slice Ao11 t615.length co11] 25 (0, 0)) (kp3 (kf0 BK618.out)) hb); replace HB := am (below_step (bs1 GE618.out HB.out) hb); (try clear hb); (try clear hb2); (try clear hk); (try clear hi)))
  (try simp only [Act.put, List.setIfInBounds_toArray, List.set_cons_zero, List.set_cons_succ])
  go_cut [24] (fun v24 wc => ∃ (kq : Nat) (x24_4 : Bool), v24 = .bool x24_4 ∧ Aside0 (laws_FnCountLive.j0 kq t619 x24_4 t609 t612 t615 = some r) ∧ Aside0 (kq ≤ k) ∧ Aside0 (Kd.R (Kd.int .i64) 3 wc w.heap.size (fun k_ => some k_ ≠ ((.slice Ao10 t612.length co10) : Value).ownBlock ∧ some k_ ≠ ((.slice Ao11 t615.length co11) : Value).ownBlock) (.slice Ao8 t609.length co8) t609) ∧ Aside0 (Kd.R (Kd.int .i64) 3 wc w.heap.size (fun k_ => some k_ ≠ ((.slice Ao8 t609.length co8) : Value).ownBlock ∧ some k_ ≠ ((.slice Ao11 t615.length co11) : Value).ownBlock) (.slice Ao10 t612.length co10) t612) ∧ Aside0 (Kd.R (Kd.int .i64) 3 wc w.heap.size (fun k_ => some k_ ≠ ((.slice Ao8 t609.length co8) : Value).ownBlock ∧ some k_ ≠ ((.slice Ao10 t612.length co10) : Value).ownBlock) (.slice Ao11 t615.length co11) t615) ∧ Aside0 (wc.heap[gb618]? = some (.cells #[(.slice Ao8 t609.length co8), (.slice Ao10 t612.length co10), (.slice Ao11 t615.length co11)] 25 (0, 0))) ∧ Aside0 (Below w.heap.size w wc))
  case first =>
   have H := HC5.out
   clear HC5
   replace H := Option.bind_eq_some_iff.mp H
   obtain ⟨t620, A130, H⟩ := H
   replace H : (if t619 = t620 then ((impl_HeapValid.f k t609 t612 t615).bind fun t621 => (laws_FnCountLive.j0 k t619 (!t621) t609 t612 t615)) else (laws_FnCountLive.j0 k t619 true t609 t612 t615)) = some r := H
   have A13 := am A130
   clear A130
   by_cases c14 : t619 = t620
   ·rw [if_pos c14] at H
    have c14b0 : (t619 == t620) = true := beq_iff_eq.mpr c14
    have c14b1 : (t619 != t620) = false := bne_eq_false_iff_eq.mpr c14
    clear c14
    (first | rw [c14b0] | (simp only [i64_w, i32_w]; rw [c14b0]) | skip)
    replace H := Option.bind_eq_some_iff.mp H
    obtain ⟨t621, A150, H⟩ := H
    replace H : (laws_FnCountLive.j0 k t619 (!t621) t609 t612 t615) = some r := H
    have A15 := am A150
    clear A150
    have H' := am H
    clear H
    have hcz16_0 : w12.cell? ⟨gb618, 0, none⟩ = some (.slice Ao8 t609.length co8) := (blk_cell BK618.out 0).trans rfl
    have hcz16_1 : w12.cell? ⟨gb618, 1, none⟩ = some (.slice Ao10 t612.length co10) := (blk_cell BK618.out 1).trans rfl
    have hcz16_2 : w12.cell? ⟨gb618, 2, none⟩ = some (.slice Ao11 t615.length co11) := (blk_cell BK618.out 2).trans rfl
    have hfz16_0 := blk_frozen BK618.out 0
    have hfz16_1 := blk_frozen BK618.out 1
    have hfz16_2 := blk_frozen BK618.out 2
    go_wp2_with (first | ((with_reducible refine gate_callee (f := 26) rfl ?_); refine goesL_ (some 18) rfl rfl Try.func26 (by kernel_rfl) rfl #[.agg #[.slice Ao8 t609.length co8, .slice Ao10 t612.length co10, .slice Ao11 t615.length co11]] rfl (by (try simp only [List.map_toArray, List.map_cons, List.map_nil]); first | done | rfl | (simp only [List.length_drop, List.length_take]; rfl)) ?_; (with_reducible refine (spec_CountLive.calls k _ _ t609 _ _ t612 _ _ t615 t620 _ ?side1 ?side2 ?side3 ?side4 ?side5 ?side6 A13.out).mono ?_); (case side1 => exact cl ((Kd.R_reads' HO611.out).2.2)); (case side2 => exact (Kd.R_reads' HO611.out).2.1); (case side3 => exact cl ((Kd.R_reads' HO614.out).2.2)); (case side4 => exact (Kd.R_reads' HO614.out).2.1); (case side5 => exact cl ((Kd.R_reads' HO617.out).2.2)); (case side6 => exact (Kd.R_reads' HO617.out).2.1); rintro e w17 ⟨rfl, hb⟩; refine ⟨_, rfl, ?_⟩; replace HO611 := am (Kd.R_below (rl HO611.out) hb); replace HO614 := am (Kd.R_below (rl HO614.out) hb); replace HO617 := am (Kd.R_below (rl HO617.out) hb); replace BK618 := am (blk_below (g := gb618) (o := .cells #[.slice Ao8 t609.length co8, .slice Ao10 t612.length co10, .slice Ao11 t615.length co11] 25 (0, 0)) (kl BK618.out) hb); replace HB := am (below_step (bs1 GE618.out HB.out) hb); (try clear hb); (try clear hb2); (try clear hk); (try clear hi); have hcz18_0 : w17.cell? ⟨gb618, 0, none⟩ = some (.slice Ao8 t609.length co8) := (blk_cell BK618.out 0).trans rfl; have hcz18_1 : w17.cell? ⟨gb618, 1, none⟩ = some (.slice Ao10 t612.length co10) := (blk_cell BK618.out 1).trans rfl; have hcz18_2 : w17.cell? ⟨gb618, 2, none⟩ = some (.slice Ao11 t615.length co11) := (blk_cell BK618.out 2).trans rfl; have hfz18_0 := blk_frozen BK618.out 0; have hfz18_1 := blk_frozen BK618.out 1; have hfz18_2 := blk_frozen BK618.out 2) | (go_at_call 17; (with_reducible refine (impl_HeapValid.calls k (fun k_ => some k_ = (.slice Ao8 t609.length co8 : Value).ownBlock) _ _ t609 (fun k_ => some k_ = (.slice Ao10 t612.length co10 : Value).ownBlock) _ _ t612 (fun k_ => some k_ = (.slice Ao11 t615.length co11 : Value).ownBlock) _ _ t615 t621 _ ?side1 ?side2 ?side3 A15.out).mono ?_); (case side1 => exact Kd.R_V (Kd.R_tight rfl (Kd.R_types (HO611.out) BK618.out (by decide)))); (case side2 => exact Kd.R_V (Kd.R_tight rfl (Kd.R_types (HO614.out) BK618.out (by decide)))); (case side3 => exact Kd.R_V (Kd.R_tight rfl (Kd.R_types (HO617.out) BK618.out (by decide)))); rintro e w19 ⟨rfl, hb⟩; replace HO611 := am (Kd.R_below (rl HO611.out) hb); replace HO614 := am (Kd.R_below (rl HO614.out) hb); replace HO617 := am (Kd.R_below (rl HO617.out) hb); replace BK618 := am (blk_below (g := gb618) (o := .cells #[.slice Ao8 t609.length co8, .slice Ao10 t612.length co10, .slice Ao11 t615.length co11] 25 (0, 0)) (kl BK618.out) hb); replace HB := am (below_step (bs1 GE618.out HB.out) hb); (try clear hb); (try clear hb2); (try clear hk); (try clear hi)))
    go_meet
    case rel => exact ⟨_, (!t621), (by first | rfl | (simp; done) | (simp [*]; done)), H', ⟨by first | omega | exact Nat.le_refl _⟩, ⟨rl HO611.out⟩, ⟨rl HO614.out⟩, ⟨rl HO617.out⟩, ⟨kl BK618.out⟩, ⟨by exact bs1 GE618.out HB.out⟩⟩
   ·rw [if_neg c14] at H
    have c14b0 : (t619 == t620) = false := beq_eq_false_iff_ne.mpr c14
    have c14b1 : (t619 != t620) = true := bne_iff_ne.mpr c14
    (first | rw [c14b0] | (simp only [i64_w, i32_w]; rw [c14b0]) | skip)
    have H' := am H
    clear H
    have hcz20_0 : w12.cell? ⟨gb618, 0, none⟩ = some (.slice Ao8 t609.length co8) := (blk_cell BK618.out 0).trans rfl
    have hcz20_1 : w12.cell? ⟨gb618, 1, none⟩ = some (.slice Ao10 t612.length co10) := (blk_cell BK618.out 1).trans rfl
    have hcz20_2 : w12.cell? ⟨gb618, 2, none⟩ = some (.slice Ao11 t615.length co11) := (blk_cell BK618.out 2).trans rfl
    have hfz20_0 := blk_frozen BK618.out 0
    have hfz20_1 := blk_frozen BK618.out 1
    have hfz20_2 := blk_frozen BK618.out 2
    go_wp2_with (first | ((with_reducible refine gate_callee (f := 26) rfl ?_); refine goesL_ (some 18) rfl rfl Try.func26 (by kernel_rfl) rfl #[.agg #[.slice Ao8 t609.length co8, .slice Ao10 t612.length co10, .slice Ao11 t615.length co11]] rfl (by (try simp only [List.map_toArray, List.map_cons, List.map_nil]); first | done | rfl | (simp only [List.length_drop, List.length_take]; rfl)) ?_; (with_reducible refine (spec_CountLive.calls k _ _ t609 _ _ t612 _ _ t615 t620 _ ?side1 ?side2 ?side3 ?side4 ?side5 ?side6 A13.out).mono ?_); (case side1 => exact cl ((Kd.R_reads' HO611.out).2.2)); (case side2 => exact (Kd.R_reads' HO611.out).2.1); (case side3 => exact cl ((Kd.R_reads' HO614.out).2.2)); (case side4 => exact (Kd.R_reads' HO614.out).2.1); (case side5 => exact cl ((Kd.R_reads' HO617.out).2.2)); (case side6 => exact (Kd.R_reads' HO617.out).2.1); rintro e w21 ⟨rfl, hb⟩; refine ⟨_, rfl, ?_⟩; replace HO611 := am (Kd.R_below (rl HO611.out) hb); replace HO614 := am (Kd.R_below (rl HO614.out) hb); replace HO617 := am (Kd.R_below (rl HO617.out) hb); replace BK618 := am (blk_below (g := gb618) (o := .cells #[.slice Ao8 t609.length co8, .slice Ao10 t612.length co10, .slice Ao11 t615.length co11] 25 (0, 0)) (kl BK618.out) hb); replace HB := am (below_step (bs1 GE618.out HB.out) hb); (try clear hb); (try clear hb2); (try clear hk); (try clear hi)))
    go_meet
    case rel => exact ⟨_, (true), (by first | rfl | (simp; done) | (simp [*]; done)), H', ⟨by first | omega | exact Nat.le_refl _⟩, ⟨rl HO611.out⟩, ⟨rl HO614.out⟩, ⟨rl HO617.out⟩, ⟨kl BK618.out⟩, ⟨by exact bs1 GE618.out HB.out⟩⟩
  case rest =>
   clear HC5
   try clear c1
   try clear c2
   try clear c2b0
   try clear c2b1
   try clear p2
   try clear c6
   try clear c14
   try clear c14b0
   try clear c14b1
   try clear hcz16_0
   try clear hcz16_1
   try clear hcz16_2
   try clear hcz18_0
   try clear hcz18_1
   try clear hcz18_2
   try clear hcz20_0
   try clear hcz20_1
   try clear hcz20_2
   try clear hcz9_0
   try clear hcz9_1
   try clear hcz9_2
   try clear hfz16_0
   try clear hfz16_1
   try clear hfz16_2
   try clear hfz18_0
   try clear hfz18_1
   try clear hfz18_2
   try clear hfz20_0
   try clear hfz20_1
   try clear hfz20_2
   try clear hfz9_0
   try clear hfz9_1
   try clear hfz9_2
   obtain ⟨kq, x24_4, rfl, HA, HJ4, HO_619000, HO_619001, HO_619002, BK618, HB⟩ := hcut
   cases kq with
   | zero => exact absurd HA.out (by simp [laws_FnCountLive.j0])
   | succ kj4 =>
    have H := HA.out
    clear HA
    simp only [laws_FnCountLive.j0] at H
    by_cases c22 : x24_4 = true
    ·subst c22
     have H1 : ((spec_CountLive.f kj4 t609 t612 t615).bind fun t622 => (if t619 = t622 then (some (t619 == 0)) else (none))) = some r := by rw [if_pos rfl] at H; exact H
     clear H
     have H := H1
     clear H1
     replace H := Option.bind_eq_some_iff.mp H
     obtain ⟨t622, A230, H⟩ := H
     replace H : (if t619 = t622 then (some (t619 == 0)) else (none)) = some r := H
     have A23 := am A230
     clear A230
     by_cases c24 : t619 = t622
     ·rw [if_pos c24] at H
      have c24b0 : (t619 == t622) = true := beq_iff_eq.mpr c24
      have c24b1 : (t619 != t622) = false := bne_eq_false_iff_eq.mpr c24
      clear c24
      obtain rfl := Option.some.inj H
      have hcz25_0 : wc.cell? ⟨gb618, 0, none⟩ = some (.slice Ao8 t609.length co8) := (blk_cell BK618.out 0).trans rfl
      have hcz25_1 : wc.cell? ⟨gb618, 1, none⟩ = some (.slice Ao10 t612.length co10) := (blk_cell BK618.out 1).trans rfl
      have hcz25_2 : wc.cell? ⟨gb618, 2, none⟩ = some (.slice Ao11 t615.length co11) := (blk_cell BK618.out 2).trans rfl
      have hfz25_0 := blk_frozen BK618.out 0
      have hfz25_1 := blk_frozen BK618.out 1
      have hfz25_2 := blk_frozen BK618.out 2
      go_wp2_with (first | ((with_reducible refine gate_callee (f := 26) rfl ?_); refine goesL_ (some 27) rfl rfl Try.func26 (by kernel_rfl) rfl #[.agg #[.slice Ao8 t609.length co8, .slice Ao10 t612.length co10, .slice Ao11 t615.length co11]] rfl (by (try simp only [List.map_toArray, List.map_cons, List.map_nil]); first | done | rfl | (simp only [List.length_drop, List.length_take]; rfl)) ?_; (with_reducible refine (spec_CountLive.calls kj4 _ _ t609 _ _ t612 _ _ t615 t622 _ ?side1 ?side2 ?side3 ?side4 ?side5 ?side6 A23.out).mono ?_); (case side1 => exact cl ((Kd.R_reads' HO_619000.out).2.2)); (case side2 => exact (Kd.R_reads' HO_619000.out).2.1); (case side3 => exact cl ((Kd.R_reads' HO_619001.out).2.2)); (case side4 => exact (Kd.R_reads' HO_619001.out).2.1); (case side5 => exact cl ((Kd.R_reads' HO_619002.out).2.2)); (case side6 => exact (Kd.R_reads' HO_619002.out).2.1); rintro e w26 ⟨rfl, hb⟩; refine ⟨_, rfl, ?_⟩; replace HO_619000 := am (Kd.R_below (rl HO_619000.out) hb); replace HO_619001 := am (Kd.R_below (rl HO_619001.out) hb); replace HO_619002 := am (Kd.R_below (rl HO_619002.out) hb); replace BK618 := am (blk_below (g := gb618) (o := .cells #[.slice Ao8 t609.length co8, .slice Ao10 t612.length co10, .slice Ao11 t615.length co11] 25 (0, 0)) (kl BK618.out) hb); replace HB := am (below_step (bs1 GE618.out HB.out) hb); (try clear hb); (try clear hb2); (try clear hk); (try clear hi)))
      go_ret
      exact ⟨by first | rfl | (simp [errW_none, errW_some] <;> rfl) | (simp [*, errW_none, errW_some] <;> rfl), by exact bs1 GE618.out HB.out⟩
     ·rw [if_neg c24] at H
      exact absurd H (by simp)
    ·replace c22 := Bool.eq_false_iff.mpr c22
     subst c22
     have H1 : (laws_FnCountLive.l0 kj4 t619 0 t609 t612 t615) = some r := by rw [if_neg (show ¬ (false = true) by decide)] at H; exact H
     clear H
     have H := H1
     clear H1
     have H' := am H
     clear H
     go_wp2
     go_loopg [4, 5] kj4 (fun kq v4 v5 w' => ∃ (x4_2 : Int) (x5_2 : Int) (x619000_2 : List Int) (x619001_2 : List Int) (x619002_2 : List Int) (u619000 : Value) (u619001 : Value) (u619002 : Value), v4 = .int .i64 x4_2 ∧ v5 = .int .i64 x5_2 ∧ Aside0 (laws_FnCountLive.l0 kq x4_2 x5_2 x619000_2 x619001_2 x619002_2 = some r) ∧ Aside0 (kq ≤ kj4) ∧ Aside0 (Kd.R (Kd.int .i64) 3 w' w.heap.size (fun k_ => some k_ ≠ (u619001 : Value).ownBlock ∧ some k_ ≠ (u619002 : Value).ownBlock) u619000 x619000_2) ∧ Aside0 (Kd.R (Kd.int .i64) 3 w' w.heap.size (fun k_ => some k_ ≠ (u619000 : Value).ownBlock ∧ some k_ ≠ (u619002 : Value).ownBlock) u619001 x619001_2) ∧ Aside0 (Kd.R (Kd.int .i64) 3 w' w.heap.size (fun k_ => some k_ ≠ (u619000 : Value).ownBlock ∧ some k_ ≠ (u619001 : Value).ownBlock) u619002 x619002_2) ∧ Aside0 (w'.heap[gb618]? = some (.cells #[u619000, u619001, u619002] 25 (0, 0))) ∧ Aside0 (Below w.heap.size w w'))
     case atStart => exact ⟨(t619), (0), (t609), (t612), (t615), (.slice Ao8 t609.length co8), (.slice Ao10 t612.length co10), (.slice Ao11 t615.length co11), (by first | rfl | (simp; done) | (simp [*]; done)), (by first | rfl | (simp; done) | (simp [*]; done)), H', ⟨Nat.le_refl _⟩, ⟨rl HO_619000.out⟩, ⟨rl HO_619001.out⟩, ⟨rl HO_619002.out⟩, ⟨kl BK618.out⟩, ⟨by exact bs1 GE618.out HB.out⟩⟩
     case round =>
      clear H'
      try clear c1
      try clear c2
      try clear c2b0
      try clear c2b1
      try clear p2
      try clear c6
      try clear c14
      try clear c14b0
      try clear c14b1
      try clear c22
      try clear c24
      try clear c24b0
      try clear c24b1
      try clear c25
      try clear c26
      try clear hcz16_0
      try clear hcz16_1
      try clear hcz16_2
      try clear hcz18_0
      try clear hcz18_1
      try clear hcz18_2
      try clear hcz20_0
      try clear hcz20_1
      try clear hcz20_2
      try clear hcz25_0
      try clear hcz25_1
      try clear hcz25_2
      try clear hcz9_0
      try clear hcz9_1
      try clear hcz9_2
      try clear hfz16_0
      try clear hfz16_1
      try clear hfz16_2
      try clear hfz18_0
      try clear hfz18_1
      try clear hfz18_2
      try clear hfz20_0
      try clear hfz20_1
      try clear hfz20_2
      try clear hfz25_0
      try clear hfz25_1
      try clear hfz25_2
      try clear hfz9_0
      try clear hfz9_1
      try clear hfz9_2
      try clear p2
      obtain ⟨x4_2, x5_2, x619000_2, x619001_2, x619002_2, u619000, u619001, u619002, rfl, rfl, HA, HK2, HO_619000, HO_619001, HO_619002, BK618, HB⟩ := hrel
      cases gk with
      | zero => exact absurd HA.out (by simp [laws_FnCountLive.l0])
      | succ k2 =>
       have H := HA.out
       clear HA
       simp only [laws_FnCountLive.l0] at H
       by_cases c27 : x5_2 < (x619002_2.length : Int)
       ·rw [if_pos c27] at H
        have c27b0 : decide (x5_2 < (x619002_2.length : Int)) = true := decide_eq_true c27
        clear c27
        replace H := Option.bind_eq_some_iff.mp H
        obtain ⟨⟨t623, t626, t629, t632⟩, A280, H⟩ := H
        replace H : ((impl_CountLive.f k2 t623 t626 t629).bind fun t634 => (if t632 = true then (if t634 > x4_2 then (none) else (laws_FnCountLive.l0 k2 t634 (wrap64 (x5_2 + 1)) t623 t626 t629)) else (none))) = some r := H
        have A28 := am A280
        clear A280
        replace H := Option.bind_eq_some_iff.mp H
        obtain ⟨t634, A290, H⟩ := H
        replace H : (if t632 = true then (if t634 > x4_2 then (none) else (laws_FnCountLive.l0 k2 t634 (wrap64 (x5_2 + 1)) t623 t626 t629)) else (none)) = some r := H
        have A29 := am A290
        clear A290
        by_cases c30 : t632 = true
        ·subst c30
         have H1 : (if t634 > x4_2 then (none) else (laws_FnCountLive.l0 k2 t634 (wrap64 (x5_2 + 1)) t623 t626 t629)) = some r := by rw [if_pos rfl] at H; exact H
         clear H
         have H := H1
         clear H1
         by_cases c31 : t634 > x4_2
         ·rw [if_pos c31] at H
          exact absurd H (by simp)
         ·rw [if_neg c31] at H
          have c31b0 : decide (x4_2 < t634) = false := decide_eq_false c31
          clear c31
          have H' := am H
          clear H
          have hcz32_0 : wr.cell? ⟨gb618, 0, none⟩ = some (u619000) := (blk_cell BK618.out 0).trans rfl
          have hcz32_1 : wr.cell? ⟨gb618, 1, none⟩ = some (u619001) := (blk_cell BK618.out 1).trans rfl
          have hcz32_2 : wr.cell? ⟨gb618, 2, none⟩ = some (u619002) := (blk_cell BK618.out 2).trans rfl
          have hfz32_0 := blk_frozen BK618.out 0
          have hfz32_1 := blk_frozen BK618.out 1
          have hfz32_2 := blk_frozen BK618.out 2
          obtain ⟨Ao33, co33, eo33⟩ := Kd.R_slice HO_619002.out
          subst eo33
          obtain ⟨Ao34, co34, eo34⟩ := Kd.R_slice HO_619000.out
          subst eo34
          obtain ⟨Ao35, co35, eo35⟩ := Kd.R_slice HO_619001.out
          subst eo35
          go_wp2_with (first | ((with_reducible refine gate_callee (f := 14) rfl ?_); refine goesL_ (some 43) rfl rfl Try.func14 (by kernel_rfl) rfl #[.agg #[.slice Ao34 x619000_2.length co34, .slice Ao35 x619001_2.length co35, .slice Ao33 x619002_2.length co33], .int .i64 x5_2, .int .i64 (-1)] rfl (by (try simp only [List.map_toArray, List.map_cons, List.map_nil]); first | done | rfl | (simp only [List.length_drop, List.length_take]; rfl)) ?_; (with_reducible refine (impl_PutRoot.calls k2 _ _ x619000_2 _ _ x619001_2 _ _ x619002_2 x5_2 (-1) t623 t626 t629 true _ ?side1 ?side2 ?side3 ?side4 ?side5 ?side6 A28.out).mono ?_); (case side1 => exact cl ((Kd.R_reads' HO_619000.out).2.2)); (case side2 => exact (Kd.R_reads' HO_619000.out).2.1); (case side3 => exact cl ((Kd.R_reads' HO_619001.out).2.2)); (case side4 => exact (Kd.R_reads' HO_619001.out).2.1); (case side5 => exact cl ((Kd.R_reads' HO_619002.out).2.2)); (case side6 => exact (Kd.R_reads' HO_619002.out).2.1); rintro e w36 ⟨v624, v627, v630, rfl, ho0, ho1, ho2, hb⟩; refine ⟨_, rfl, ?_⟩; have HO625 := am (Kd.R_lower (Kd.R_new' (Kd.R_new' (Kd.R_new' ho0 (Kd.R_lt (rl HO_619000.out))) (Kd.R_lt (rl HO_619001.out))) (Kd.R_lt (rl HO_619002.out))) (below_size (bs1 GE618.out HB.out))); have HO628 := am (Kd.R_lower (Kd.R_new' (Kd.R_new' (Kd.R_new' ho1 (Kd.R_lt (rl HO_619000.out))) (Kd.R_lt (rl HO_619001.out))) (Kd.R_lt (rl HO_619002.out))) (below_size (bs1 GE618.out HB.out))); have HO631 := am (Kd.R_lower (Kd.R_new' (Kd.R_new' (Kd.R_new' ho2 (Kd.R_lt (rl HO_619000.out))) (Kd.R_lt (rl HO_619001.out))) (Kd.R_lt (rl HO_619002.out))) (below_size (bs1 GE618.out HB.out))); replace HO_619000 := am (Kd.R_mono (Kd.R_told (Kd.R_told (Kd.R_told (Kd.R_old (rl HO_619000.out) hb) (Kd.R_base ho0)) (Kd.R_base ho1)) (Kd.R_base ho2)) (fun _ h_ => h_.1)); replace HO_619001 := am (Kd.R_mono (Kd.R_told (Kd.R_told (Kd.R_told (Kd.R_old (rl HO_619001.out) hb) (Kd.R_base ho0)) (Kd.R_base ho1)) (Kd.R_base ho2)) (fun _ h_ => h_.1)); replace HO_619002 := am (Kd.R_mono (Kd.R_told (Kd.R_told (Kd.R_told (Kd.R_old (rl HO_619002.out) hb) (Kd.R_base ho0)) (Kd.R_base ho1)) (Kd.R_base ho2)) (fun _ h_ => h_.1)); replace BK618 := am (blk_below (g := gb618) (o := .cells #[.slice Ao34 x619000_2.length co34, .slice Ao35 x619001_2.length co35, .slice Ao33 x619002_2.length co33] 25 (0, 0)) (kl BK618.out) hb); replace HB := am (below_step (bs1 GE618.out HB.out) hb); (try clear hb); (try clear hb2); (try clear hk); (try clear hi); (try clear ho0); (try clear ho1); (try clear ho2)) | ((with_reducible refine gate_dst (N := 6) rfl ?_); refine box_event ?hg (N := 6) ?hd (cs := #[.slice none 0 0, .slice none 0 0, .slice none 0 0]) (t := 25) ?hr ?_; (case hd => rfl); (case hg => rfl); (case hr => first | (go_simp; done) | (go_simp; rfl)); intro gb633 hg w37 hbox hb; replace HO_619000 := am (Kd.R_below (rl HO_619000.out) hb); replace HO_619001 := am (Kd.R_below (rl HO_619001.out) hb); replace HO_619002 := am (Kd.R_below (rl HO_619002.out) hb); replace HO625 := am (Kd.R_below (rl HO625.out) hb); replace HO628 := am (Kd.R_below (rl HO628.out) hb); replace HO631 := am (Kd.R_below (rl HO631.out) hb); have BK633 := am (hbox); have GW633 := am ((by rw [hg]; exact (below_size (bs1 GE618.out HB.out)) : w.heap.size ≤ gb633)); have GE633 := am ((by rw [hg]; exact (below_size (bs1 GE618.out HB.out)) : w.heap.size ≤ gb633)); replace HB := am (below_step (bs1 GE618.out HB.out) hb); have NB618_633 := am ((by rw [hg]; exact Nat.ne_of_lt (blk_lt (g := gb618) (o := .cells #[.slice Ao34 x619000_2.length co34, .slice Ao35 x619001_2.length co35, .slice Ao33 x619002_2.length co33] 25 (0, 0)) (kl BK618.out)) : gb618 ≠ gb633)); have NB633_618 := am ((by rw [hg]; exact Nat.ne_of_gt (blk_lt (g := gb618) (o := .cells #[.slice Ao34 x619000_2.length co34, .slice Ao35 x619001_2.length co35, .slice Ao33 x619002_2.length co33] 25 (0, 0)) (kl BK618.out)) : gb633 ≠ gb618)); replace BK618 := am (blk_below (g := gb618) (o := .cells #[.slice Ao34 x619000_2.length co34, .slice Ao35 x619001_2.length co35, .slice Ao33 x619002_2.length co33] 25 (0, 0)) (kl BK618.out) hb); clear hb hbox hg; obtain ⟨Ao38, co38, eo38⟩ := Kd.R_slice HO625.out; subst eo38; have hnb39 := NB633_618.out; have hnc39 := NB618_633.out; have hcz40_0 : w37.cell? ⟨gb633, 0, none⟩ = some (.slice none 0 0) := (blk_cell BK633.out 0).trans rfl; have hcz40_1 : w37.cell? ⟨gb633, 1, none⟩ = some (.slice none 0 0) := (blk_cell BK633.out 1).trans rfl; have hcz40_2 : w37.cell? ⟨gb633, 2, none⟩ = some (.slice none 0 0) := (blk_cell BK633.out 2).trans rfl; have hfz40_0 := blk_frozen BK633.out 0; have hfz40_1 := blk_frozen BK633.out 1; have hfz40_2 := blk_frozen BK633.out 2; obtain ⟨Ao41, co41, eo41⟩ := Kd.R_slice HO628.out; subst eo41; obtain ⟨Ao42, co42, eo42⟩ := Kd.R_slice HO631.out; subst eo42) | ((with_reducible refine gate_callee (f := 24) rfl ?_); refine goesL_ (some 47) rfl rfl Try.func24 (by kernel_rfl) rfl #[.agg #[.slice Ao38 t623.length co38, .slice Ao41 t626.length co41, .slice Ao42 t629.length co42]] rfl (by (try simp only [List.map_toArray, List.map_cons, List.map_nil]); first | done | rfl | (simp only [List.length_drop, List.length_take]; rfl)) ?_; (with_reducible refine (impl_CountLive.calls k2 _ _ t623 _ _ t626 _ _ t629 t634 _ ?side1 ?side2 ?side3 ?side4 ?side5 ?side6 A29.out).mono ?_); (case side1 => exact (Kd.R_reads' (rf1 BK633.out HO625.out)).2.2); (case side2 => exact (Kd.R_reads' HO625.out).2.1); (case side3 => exact (Kd.R_reads' (rf1 BK633.out HO628.out)).2.2); (case side4 => exact (Kd.R_reads' HO628.out).2.1); (case side5 => exact (Kd.R_reads' (rf1 BK633.out HO631.out)).2.2); (case side6 => exact (Kd.R_reads' HO631.out).2.1); rintro e w43 ⟨rfl, hb⟩; refine ⟨_, rfl, ?_⟩; replace HO_619000 := am (Kd.R_below (rf1 BK633.out HO_619000.out) hb); replace HO_619001 := am (Kd.R_below (rf1 BK633.out HO_619001.out) hb); replace HO_619002 := am (Kd.R_below (rf1 BK633.out HO_619002.out) hb); replace HO625 := am (Kd.R_below (rf1 BK633.out HO625.out) hb); replace HO628 := am (Kd.R_below (rf1 BK633.out HO628.out) hb); replace HO631 := am (Kd.R_below (rf1 BK633.out HO631.out) hb); replace BK618 := am (blk_below (g := gb618) (o := .cells #[.slice Ao34 x619000_2.length co34, .slice Ao35 x619001_2.length co35, .slice Ao33 x619002_2.length co33] 25 (0, 0)) (kf1 NB618_633.out BK618.out) hb); replace BK633 := am (blk_below (g := gb633) (o := .cells #[.slice Ao38 t623.length co38, .slice Ao41 t626.length co41, .slice Ao42 t629.length co42] 25 (0, 0)) (kp3 (kf0 BK633.out)) hb); replace HB := am (below_step (bs2 GE618.out GE633.out HB.out) hb); (try clear hb); (try clear hb2); (try clear hk); (try clear hi); have hcz44_0 : w43.cell? ⟨gb633, 0, none⟩ = some (.slice Ao38 t623.length co38) := (blk_cell BK633.out 0).trans rfl; have hcz44_1 : w43.cell? ⟨gb633, 1, none⟩ = some (.slice Ao41 t626.length co41) := (blk_cell BK633.out 1).trans rfl; have hcz44_2 : w43.cell? ⟨gb633, 2, none⟩ = some (.slice Ao42 t629.length co42) := (blk_cell BK633.out 2).trans rfl; have hfz44_0 := blk_frozen BK633.out 0; have hfz44_1 := blk_frozen BK633.out 1; have hfz44_2 := blk_frozen BK633.out 2; have hcz45_0 : w43.cell? ⟨gb618, 0, none⟩ = some (.slice Ao34 x619000_2.length co34) := (blk_cell BK618.out 0).trans rfl; have hcz45_1 : w43.cell? ⟨gb618, 1, none⟩ = some (.slice Ao35 x619001_2.length co35) := (blk_cell BK618.out 1).trans rfl; have hcz45_2 : w43.cell? ⟨gb618, 2, none⟩ = some (.slice Ao33 x619002_2.length co33) := (blk_cell BK618.out 2).trans rfl; have hfz45_0 := blk_frozen BK618.out 0; have hfz45_1 := blk_frozen BK618.out 1; have hfz45_2 := blk_frozen BK618.out 2))
          go_roundg k2
          case measure => have := HJ4.out; have := HK2.out; omega
          case rel => exact ⟨(t634), (wrap64 (x5_2 + 1)), (t623), (t626), (t629), (.slice Ao38 t623.length co38), (.slice Ao41 t626.length co41), (.slice Ao42 t629.length co42), (by first | rfl | (simp; done) | (simp [*]; done)), (by first | rfl | (simp; done) | (simp [*]; done)), H', ⟨by have := HJ4.out; have := HK2.out; omega⟩, ⟨rl (Kd.R_mono (Kd.R_far (p := ⟨gb618, 2, none⟩) (Kd.R_far (p := ⟨gb618, 1, none⟩) (Kd.R_far (p := ⟨gb618, 0, none⟩) (Kd.R_types HO625.out BK618.out (by decide)) (fun _ hk => hk.2) (.slice Ao38 t623.length co38)) (fun _ hk => hk.2) (.slice Ao41 t626.length co41)) (fun _ hk => hk.2) (.slice Ao42 t629.length co42)) (fun _ hk => by first | exact ⟨hk.1.1.1.1.1, hk.1.1.1.1.2⟩ | (simp only [ne_eq] at hk ⊢; simp only [hk, not_false_eq_true, and_self])))⟩, ⟨rl (Kd.R_mono (Kd.R_far (p := ⟨gb618, 2, none⟩) (Kd.R_far (p := ⟨gb618, 1, none⟩) (Kd.R_far (p := ⟨gb618, 0, none⟩) (Kd.R_types HO628.out BK618.out (by decide)) (fun _ hk => hk.2) (.slice Ao38 t623.length co38)) (fun _ hk => hk.2) (.slice Ao41 t626.length co41)) (fun _ hk => hk.2) (.slice Ao42 t629.length co42)) (fun _ hk => by first | exact ⟨hk.1.1.1.1.1, hk.1.1.1.1.2⟩ | (simp only [ne_eq] at hk ⊢; simp only [hk, not_false_eq_true, and_self])))⟩, ⟨rl (Kd.R_mono (Kd.R_far (p := ⟨gb618, 2, none⟩) (Kd.R_far (p := ⟨gb618, 1, none⟩) (Kd.R_far (p := ⟨gb618, 0, none⟩) (Kd.R_types HO631.out BK618.out (by decide)) (fun _ hk => hk.2) (.slice Ao38 t623.length co38)) (fun _ hk => hk.2) (.slice Ao41 t626.length co41)) (fun _ hk => hk.2) (.slice Ao42 t629.length co42)) (fun _ hk => by first | exact ⟨hk.1.1.1.1.1, hk.1.1.1.1.2⟩ | (simp only [ne_eq] at hk ⊢; simp only [hk, not_false_eq_true, and_self])))⟩, ⟨kp3 (kf0 BK618.out)⟩, ⟨by exact bs2 GE618.out GE633.out HB.out⟩⟩
        ·replace c30 := Bool.eq_false_iff.mpr c30
         subst c30
         have H1 : (none) = some r := by rw [if_neg (show ¬ (false = true) by decide)] at H; exact H
         clear H
         have H := H1
         clear H1
         exact absurd H (by simp)
       ·rw [if_neg c27] at H
        have c27b0 : decide (x5_2 < (x619002_2.length : Int)) = false := decide_eq_false c27
        clear c27
        obtain rfl := Option.some.inj H
        have hcz46_0 : wr.cell? ⟨gb618, 0, none⟩ = some (u619000) := (blk_cell BK618.out 0).trans rfl
        have hcz46_1 : wr.cell? ⟨gb618, 1, none⟩ = some (u619001) := (blk_cell BK618.out 1).trans rfl
        have hcz46_2 : wr.cell? ⟨gb618, 2, none⟩ = some (u619002) := (blk_cell BK618.out 2).trans rfl
        have hfz46_0 := blk_frozen BK618.out 0
        have hfz46_1 := blk_frozen BK618.out 1
        have hfz46_2 := blk_frozen BK618.out 2
        obtain ⟨Ao47, co47, eo47⟩ := Kd.R_slice HO_619002.out
        subst eo47
        go_wp2
        go_ret
        exact ⟨by first | rfl | (simp [errW_none, errW_some] <;> rfl) | (simp [*, errW_none, errW_some] <;> rfl), by exact bs1 GE618.out HB.out⟩

/-- THE ONE PURE STATEMENT of laws_FnCountLive: yours. -/
def laws_FnCountLive.Pure : Prop := ∀ (l0 : List Int), l0.length ≤ maxLen → l0.length * 1 ≤ 140737488351232 → (∀ x ∈ l0, (Lit.int .u8 x).wf = true) → ∃ k, laws_FnCountLive.f k l0 = some true
theorem laws_FnCountLive.walk (P : laws_FnCountLive.Pure) (a0 : Option Addr) (len0 cap0 : Nat) (z0 : List Int) (w : World) (w0 : (a0 = none ∧ len0 = 0 ∧ cap0 = 0 ∧ z0 = []) ∨ ∃ x, a0 = some x ∧ len0 ≤ cap0 ∧ cap0 ≤ maxLen ∧ z0.length = cap0 ∧ (∀ i, i < z0.length → w.cell? (x.add i) = some (.int .u8 (z0.getD i 0))) ∧ ∀ n ∈ z0, (Lit.int .u8 n).wf = true) (y0 : len0 * 1 ≤ 140737488351232) :
  Calls Try.prog 6 #[.slice a0 len0 cap0] w fun e w' => e = .returned (.bool true) ∧ Below w.heap.size w w' := by
 obtain ⟨l0, rfl, hr0, hm0, hw0, hc0⟩ := ReadsInt.ofRowC w0
 obtain ⟨k, h⟩ := P l0 hm0 y0 hw0
 refine (laws_FnCountLive.calls k _ _ l0 true w (Kd.C_of_reads (d := (0 : Int)) (h1 := fun _ => rfl) hr0) hc0 h).mono ?_
 rintro e w' ⟨rfl, hd⟩
 exact ⟨rfl, hd⟩

end Go.Proofs.Ytghgpinhghhlgaa.A
