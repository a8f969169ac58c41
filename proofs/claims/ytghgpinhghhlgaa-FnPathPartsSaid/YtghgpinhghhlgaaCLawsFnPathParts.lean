/- Contracts of functions of the given program (CLawsFnPathParts). No conditions beyond those stated. -/
import Derived.Test.YtghgpinhghhlgaaA0
import Derived.Test.YtghgpinhghhlgaaAImplDistanceOf
import Derived.Test.YtghgpinhghhlgaaAImplPathTo
import Derived.Test.YtghgpinhghhlgaaALawsCcInts
import Derived.Test.YtghgpinhghhlgaaASpecDrawPathTo
import Derived.Test.YtghgpinhghhlgaaASpecPathTo
import Derived.Test.YtghgpinhghhlgaaA0
namespace Go.Proofs.Ytghgpinhghhlgaa.A
open Go.RowKit Go.Proofs.YtghgpinhghhlgaaW.PrintWords Go.Proofs.YtghgpinhghhlgaaW.PrintLast Go.Proofs.YtghgpinhghhlgaaW.PrintMore
attribute [local go_sem] max2_int min2_int max_two min_two max_three min_three max_four min_four   -- for this text's walks alone
set_option linter.unusedVariables false
set_option linter.unusedSimpArgs false

/-! ### laws_FnPathParts -/
mutual
def laws_FnPathParts.j0 : Nat → List Int → Bool → List Int → Bool → Bool → List Int → List Int → List Int → Option (Bool)
 | 0, _, _, _, _, _, _, _, _ => none
 | k + 1, x5, x6, x7, x8, x44, x795000, x795001, x795002 => if x44 = true then ((laws_ccInts.f k x5 x7).bind fun t804 => (if t804 = true then (some (x6 == x8)) else (none))) else (laws_FnPathParts.l0 k x5 0 x795000 x795001 x795002)
def laws_FnPathParts.l0 : Nat → List Int → Int → List Int → List Int → List Int → Option (Bool)
 | 0, _, _, _, _, _ => none
 | k + 1, x5, x9, x795000, x795001, x795002 => if x9 < (x5.length : Int) then (if 0 ≤ x9 then ((impl_DistanceOf.f k x795000 x795001 x795002 (rd x5 x9)).bind fun bt806 => (if bt806.2 = true then (if bt806.1 = (wrap64 (x9 + 1)) then (laws_FnPathParts.l0 k x5 (wrap64 (x9 + 1)) x795000 x795001 x795002) else (none)) else (none))) else (none)) else (some (decide ((x5.length : Int) > 0)))
end
def laws_FnPathParts.f (k : Nat) (l0 : List Int) : Option (Bool) := if (l0.length : Int) > 1048576 then (some true) else ((spec_DrawPathTo.f k l0).bind fun bt784 => ((impl_PathTo.f k bt784.1 bt784.2.1 bt784.2.2.1 bt784.2.2.2).bind fun bt795 => ((spec_PathTo.f k bt784.1 bt784.2.1 bt784.2.2.1 bt784.2.2.2).bind fun bt799 => ((laws_ccInts.f k bt795.1 bt799.1).bind fun t803 => (if t803 = true then (if (bt795.2 != bt799.2) = true then (laws_FnPathParts.j0 k bt795.1 bt795.2 bt799.1 bt799.2 true bt784.1 bt784.2.1 bt784.2.2.1) else (laws_FnPathParts.j0 k bt795.1 bt795.2 bt799.1 bt799.2 (!bt795.2) bt784.1 bt784.2.1 bt784.2.2.1)) else (laws_FnPathParts.j0 k bt795.1 bt795.2 bt799.1 bt799.2 true bt784.1 bt784.2.1 bt784.2.2.1))))))
theorem laws_FnPathParts.mono_l : ∀ k, (∀ y0 y1 y2 y3 y4 y5 y6 y7, LeO (laws_FnPathParts.j0 k y0 y1 y2 y3 y4 y5 y6 y7) (laws_FnPathParts.j0 (k + 1) y0 y1 y2 y3 y4 y5 y6 y7)) ∧ (∀ y0 y1 y2 y3 y4, LeO (laws_FnPathParts.l0 k y0 y1 y2 y3 y4) (laws_FnPathParts.l0 (k + 1) y0 y1 y2 y3 y4))
 | 0 => ⟨fun _ _ _ _ _ _ _ _ r h => by simp [laws_FnPathParts.j0] at h, fun _ _ _ _ _ r h => by simp [laws_FnPathParts.l0] at h⟩
 | k + 1 => by
  obtain ⟨ih0, ih1⟩ := laws_FnPathParts.mono_l k
  refine ⟨?_, ?_⟩
  ·intro y0 y1 y2 y3 y4 y5 y6 y7
   unfold laws_FnPathParts.j0
   repeat' first
   | (with_reducible exact ih0 _ _ _ _ _ _ _ _)
   | (with_reducible exact ih1 _ _ _ _ _)
   | (with_reducible exact impl_DistanceOf.mono _ _ _ _ _)
   | (with_reducible exact impl_PathTo.mono _ _ _ _ _)
   | (with_reducible exact laws_ccInts.mono _ _ _)
   | (with_reducible exact spec_DrawPathTo.mono _ _)
   | (with_reducible exact spec_PathTo.mono _ _ _ _ _)
   | (with_reducible exact LeO.refl _)
   | (with_reducible exact LeO.none _)
   | (with_reducible refine LeO.ite ?_ ?_)
   | (with_reducible refine LeO.bind ?_ (fun _ => ?_))
   | exact ih0 _ _ _ _ _ _ _ _
   | exact ih1 _ _ _ _ _
   | exact impl_DistanceOf.mono _ _ _ _ _
   | exact impl_PathTo.mono _ _ _ _ _
   | exact laws_ccInts.mono _ _ _
   | exact spec_DrawPathTo.mono _ _
   | exact spec_PathTo.mono _ _ _ _ _
   | exact LeO.none _
   | refine LeO.ite ?_ ?_
   | refine LeO.bind ?_ (fun _ => ?_)
  ·intro y0 y1 y2 y3 y4
   unfold laws_FnPathParts.l0
   repeat' first
   | (with_reducible exact ih0 _ _ _ _ _ _ _ _)
   | (with_reducible exact ih1 _ _ _ _ _)
   | (with_reducible exact impl_DistanceOf.mono _ _ _ _ _)
   | (with_reducible exact impl_PathTo.mono _ _ _ _ _)
   | (with_reducible exact laws_ccInts.mono _ _ _)
   | (with_reducible exact spec_DrawPathTo.mono _ _)
   | (with_reducible exact spec_PathTo.mono _ _ _ _ _)
   | (with_reducible exact LeO.refl _)
   | (with_reducible exact LeO.none _)
   | (with_reducible refine LeO.ite ?_ ?_)
   | (with_reducible refine LeO.bind ?_ (fun _ => ?_))
   | exact ih0 _ _ _ _ _ _ _ _
   | exact ih1 _ _ _ _ _
   | exact impl_DistanceOf.mono _ _ _ _ _
   | exact impl_PathTo.mono _ _ _ _ _
   | exact laws_ccInts.mono _ _ _
   | exact spec_DrawPathTo.mono _ _
   | exact spec_PathTo.mono _ _ _ _ _
   | exact LeO.none _
   | refine LeO.ite ?_ ?_
   | refine LeO.bind ?_ (fun _ => ?_)
theorem laws_FnPathParts.mono : ∀ a0 k, LeO (laws_FnPathParts.f k a0) (laws_FnPathParts.f (k + 1) a0) := by
 intro a0 k
 obtain ⟨ih0, ih1⟩ := laws_FnPathParts.mono_l k
 unfold laws_FnPathParts.f
 repeat' first
   | (with_reducible exact ih0 _ _ _ _ _ _ _ _)
   | (with_reducible exact ih1 _ _ _ _ _)
   | (with_reducible exact impl_DistanceOf.mono _ _ _ _ _)
   | (with_reducible exact impl_PathTo.mono _ _ _ _ _)
   | (with_reducible exact laws_ccInts.mono _ _ _)
   | (with_reducible exact spec_DrawPathTo.mono _ _)
   | (with_reducible exact spec_PathTo.mono _ _ _ _ _)
   | (with_reducible exact LeO.refl _)
   | (with_reducible exact LeO.none _)
   | (with_reducible refine LeO.ite ?_ ?_)
   | (with_reducible refine LeO.bind ?_ (fun _ => ?_))
   | exact ih0 _ _ _ _ _ _ _ _
   | exact ih1 _ _ _ _ _
   | exact impl_DistanceOf.mono _ _ _ _ _
   | exact impl_PathTo.mono _ _ _ _ _
   | exact laws_ccInts.mono _ _ _
   | exact spec_DrawPathTo.mono _ _
   | exact spec_PathTo.mono _ _ _ _ _
   | exact LeO.none _
   | refine LeO.ite ?_ ?_
   | refine LeO.bind ?_ (fun _ => ?_)
def laws_FnPathParts.T11 : Bool × List (List Nat × List Nat) := (true, [([], []), ([], []), ([], []), ([1, 2], [1, 2]), ([3], [3]), ([0, 4], [0, 4]), ([5], [5]), ([6], [6]), ([6], [6]), ([7, 5, 0, 1, 2, 3, 4, 5, 6, 7], [7]), ([8, 9, 0, 1, 2, 3, 4, 5, 6, 7, 8, 9], [8])])
def laws_FnPathParts.B11 : List Nat := [0, 0, 0, 6, 14, 31, 63, 127, 127, 255, 1023]
theorem laws_FnPathParts.tab11 : rtab .any (opsOf Try.f8 11) = laws_FnPathParts.T11 := by kernel_rfl
theorem laws_FnPathParts.bits11 : waitsOk laws_FnPathParts.T11.2 laws_FnPathParts.B11 = true := by kernel_rfl
set_option maxHeartbeats 8000000 in
set_option maxRecDepth 100000 in
theorem laws_FnPathParts.calls (k : Nat) (A0 : Option Addr) (c0 : Nat) (l0 : List Int) (r : Bool) (w : World) (hr0 : Kd.C (Kd.int .u8) w A0 l0.length l0) (hc0 : l0.length ≤ c0) (h : laws_FnPathParts.f k l0 = some r) :
  Calls Try.prog 8 #[.slice A0 l0.length c0] w fun e w' => e = .returned (.bool r) ∧ Below w.heap.size w w' := by
 have hu25 := Try.underlying25
 have HR0 := am hr0
 have HC0 := am hc0
 clear hr0 hc0
 have HB := am (Below.refl w.heap.size w)
 have H : (if (l0.length : Int) > 1048576 then (some true) else ((spec_DrawPathTo.f k l0).bind fun bt784 => ((impl_PathTo.f k bt784.1 bt784.2.1 bt784.2.2.1 bt784.2.2.2).bind fun bt795 => ((spec_PathTo.f k bt784.1 bt784.2.1 bt784.2.2.1 bt784.2.2.2).bind fun bt799 => ((laws_ccInts.f k bt795.1 bt799.1).bind fun t803 => (if t803 = true then (if (bt795.2 != bt799.2) = true then (laws_FnPathParts.j0 k bt795.1 bt795.2 bt799.1 bt799.2 true bt784.1 bt784.2.1 bt784.2.2.1) else (laws_FnPathParts.j0 k bt795.1 bt795.2 bt799.1 bt799.2 (!bt795.2) bt784.1 bt784.2.1 bt784.2.2.1)) else (laws_FnPathParts.j0 k bt795.1 bt795.2 bt799.1 bt799.2 true bt784.1 bt784.2.1 bt784.2.2.1))))))) = some r := h
 clear h
 by_cases c2 : (l0.length : Int) > 1048576
 ·rw [if_pos c2] at H
  have c2b0 : decide (1048576 < (l0.length : Int)) = true := decide_eq_true c2
  have c2b1 : decide (1048576 < l0.length) = true := decide_eq_true (by omega)
  clear c2
  obtain rfl := Option.some.inj H
  go_enter Try.func8, Try.ntmps8
  go_wp2
  go_ret
  exact ⟨by first | rfl | (simp [errW_none, errW_some] <;> rfl) | (simp [*, errW_none, errW_some] <;> rfl), by exact bs0 HB.out⟩
 ·rw [if_neg c2] at H
  have c2b0 : decide (1048576 < (l0.length : Int)) = false := decide_eq_false c2
  have c2b1 : decide (1048576 < l0.length) = false := decide_eq_false (by omega)
  clear c2
  replace H := Option.bind_eq_some_iff.mp H
  obtain ⟨⟨t784, t787, t790, t793⟩, A30, H⟩ := H
  replace H : ((impl_PathTo.f k t784 t787 t790 t793).bind fun bt795 => ((spec_PathTo.f k t784 t787 t790 t793).bind fun bt799 => ((laws_ccInts.f k bt795.1 bt799.1).bind fun t803 => (if t803 = true then (if (bt795.2 != bt799.2) = true then (laws_FnPathParts.j0 k bt795.1 bt795.2 bt799.1 bt799.2 true t784 t787 t790) else (laws_FnPathParts.j0 k bt795.1 bt795.2 bt799.1 bt799.2 (!bt795.2) t784 t787 t790)) else (laws_FnPathParts.j0 k bt795.1 bt795.2 bt799.1 bt799.2 true t784 t787 t790))))) = some r := H
  have A3 := am A30
  clear A30
  replace H := Option.bind_eq_some_iff.mp H
  obtain ⟨⟨t795, t798⟩, A40, H⟩ := H
  replace H : ((spec_PathTo.f k t784 t787 t790 t793).bind fun bt799 => ((laws_ccInts.f k t795 bt799.1).bind fun t803 => (if t803 = true then (if (t798 != bt799.2) = true then (laws_FnPathParts.j0 k t795 t798 bt799.1 bt799.2 true t784 t787 t790) else (laws_FnPathParts.j0 k t795 t798 bt799.1 bt799.2 (!t798) t784 t787 t790)) else (laws_FnPathParts.j0 k t795 t798 bt799.1 bt799.2 true t784 t787 t790)))) = some r := H
  have A4 := am A40
  clear A40
  replace H := Option.bind_eq_some_iff.mp H
  obtain ⟨⟨t799, t802⟩, A50, H⟩ := H
  replace H : ((laws_ccInts.f k t795 t799).bind fun t803 => (if t803 = true then (if (t798 != t802) = true then (laws_FnPathParts.j0 k t795 t798 t799 t802 true t784 t787 t790) else (laws_FnPathParts.j0 k t795 t798 t799 t802 (!t798) t784 t787 t790)) else (laws_FnPathParts.j0 k t795 t798 t799 t802 true t784 t787 t790))) = some r := H
  have A5 := am A50
  clear A50
  have HC6 := am H
  clear H
  go_enter Try.func8, Try.ntmps8
  go_upto_region 6 with (first | ((with_reducible refine gate_callee (f := 29) rfl ?_); refine goesL_ (some 17) rfl rfl Try.func29 (by kernel_rfl) rfl #[.slice A0 l0.length c0] rfl (by (try simp only [List.map_toArray, List.map_cons, List.map_nil]); first | done | rfl | (simp only [List.length_drop, List.length_take]; rfl)) ?_; (with_reducible refine (spec_DrawPathTo.calls k _ _ l0 t784 t787 t790 t793 _ ?side1 ?side2 A3.out).mono ?_); (case side1 => exact cl (HR0.out)); (case side2 => exact HC0.out); rintro e w7 ⟨v785, v788, v791, rfl, ho0, ho1, ho2, hb⟩; refine ⟨_, rfl, ?_⟩; have HO786 := am (Kd.R_lower ho0 (below_size (bl HB.out))); have HO789 := am (Kd.R_lower ho1 (below_size (bl HB.out))); have HO792 := am (Kd.R_lower ho2 (below_size (bl HB.out))); replace HB := am (below_step (bl HB.out) hb); (try clear hb); (try clear hb2); (try clear hk); (try clear hi); (try clear ho0); (try clear ho1); (try clear ho2)) | ((with_reducible refine gate_dst (N := 3) rfl ?_); refine box_event ?hg (N := 3) ?hd (cs := #[.slice none 0 0, .slice none 0 0, .slice none 0 0]) (t := 25) ?hr ?_; (case hd => rfl); (case hg => rfl); (case hr => first | (go_simp; done) | (go_simp; rfl)); intro gb794 hg w8 hbox hb; replace HO786 := am (Kd.R_below (rl HO786.out) hb); replace HO789 := am (Kd.R_below (rl HO789.out) hb); replace HO792 := am (Kd.R_below (rl HO792.out) hb); have BK794 := am (hbox); have GW794 := am ((by rw [hg]; exact (below_size (bl HB.out)) : w.heap.size ≤ gb794)); have GE794 := am ((by rw [hg]; exact (below_size (bl HB.out)) : w.heap.size ≤ gb794)); replace HB := am (below_step (bl HB.out) hb); clear hb hbox hg; obtain ⟨Ao9, co9, eo9⟩ := Kd.R_slice HO786.out; subst eo9; have hcz10_0 : w8.cell? ⟨gb794, 0, none⟩ = some (.slice none 0 0) := (blk_cell BK794.out 0).trans rfl; have hcz10_1 : w8.cell? ⟨gb794, 1, none⟩ = some (.slice none 0 0) := (blk_cell BK794.out 1).trans rfl; have hcz10_2 : w8.cell? ⟨gb794, 2, none⟩ = some (.slice none 0 0) := (blk_cell BK794.out 2).trans rfl; have hfz10_0 := blk_frozen BK794.out 0; have hfz10_1 := blk_frozen BK794.out 1; have hfz10_2 := blk_frozen BK794.out 2; obtain ⟨Ao11, co11, eo11⟩ := Kd.R_slice HO789.out; subst eo11; obtain ⟨Ao12, co12, eo12⟩ := Kd.R_slice HO792.out; subst eo12) | ((with_reducible refine gate_callee (f := 28) rfl ?_); refine goesL_ (some 23) rfl rfl Try.func28 (by kernel_rfl) rfl #[.agg #[.slice Ao9 t784.length co9, .slice Ao11 t787.length co11, .slice Ao12 t790.length co12], .int .i64 t793] rfl (by (try simp only [List.map_toArray, List.map_cons, List.map_nil]); first | done | rfl | (simp only [List.length_drop, List.length_take]; rfl)) ?_; (with_reducible refine (impl_PathTo.calls k _ _ t784 _ _ t787 _ _ t790 t793 t795 t798 _ ?side1 ?side2 ?side3 ?side4 ?side5 ?side6 A4.out).mono ?_); (case side1 => exact (Kd.R_reads' (rf1 BK794.out HO786.out)).2.2); (case side2 => exact (Kd.R_reads' HO786.out).2.1); (case side3 => exact (Kd.R_reads' (rf1 BK794.out HO789.out)).2.2); (case side4 => exact (Kd.R_reads' HO789.out).2.1); (case side5 => exact (Kd.R_reads' (rf1 BK794.out HO792.out)).2.2); (case side6 => exact (Kd.R_reads' HO792.out).2.1); rintro e w13 ⟨v796, rfl, ho0, hb⟩; refine ⟨_, rfl, ?_⟩; have HO797 := am (Kd.R_lower (Kd.R_new' (Kd.R_new' (Kd.R_new' ho0 (Kd.R_lt (rf1 BK794.out HO786.out))) (Kd.R_lt (rf1 BK794.out HO789.out))) (Kd.R_lt (rf1 BK794.out HO792.out))) (below_size (bs1 GE794.out HB.out))); replace HO786 := am (Kd.R_elder' (rf1 BK794.out HO786.out) (Kd.R_base ho0) hb); replace HO789 := am (Kd.R_elder' (rf1 BK794.out HO789.out) (Kd.R_base ho0) hb); replace HO792 := am (Kd.R_elder' (rf1 BK794.out HO792.out) (Kd.R_base ho0) hb); replace BK794 := am (blk_below (g := gb794) (o := .cells #[.slice Ao9 t784.length co9, .slice Ao11 t787.length co11, .slice Ao12 t790.length co12] 25 (0, 0)) (kp3 (kf0 BK794.out)) hb); replace HB := am (below_step (bs1 GE794.out HB.out) hb); (try clear hb); (try clear hb2); (try clear hk); (try clear hi); (try clear ho0); have hcz14_0 : w13.cell? ⟨gb794, 0, none⟩ = some (.slice Ao9 t784.length co9) := (blk_cell BK794.out 0).trans rfl; have hcz14_1 : w13.cell? ⟨gb794, 1, none⟩ = some (.slice Ao11 t787.length co11) := (blk_cell BK794.out 1).trans rfl; have hcz14_2 : w13.cell? ⟨gb794, 2, none⟩ = some (.slice Ao12 t790.length co12) := (blk_cell BK794.out 2).trans rfl; have hfz14_0 := blk_frozen BK794.out 0; have hfz14_1 := blk_frozen BK794.out 1; have hfz14_2 := blk_frozen BK794.out 2) | ((with_reducible refine gate_callee (f := 30) rfl ?_); refine goesL_ (some 29) rfl rfl Try.func30 (by kernel_rfl) rfl #[.agg #[.slice Ao9 t784.length co9, .slice Ao11 t787.length co11, .slice Ao12 t790.length co12], .int .i64 t793] rfl (by (try simp only [List.map_toArray, List.map_cons, List.map_nil]); first | done | rfl | (simp only [List.length_drop, List.length_take]; rfl)) ?_; (with_reducible refine (spec_PathTo.calls k _ _ t784 _ _ t787 _ _ t790 t793 t799 t802 _ ?side1 ?side2 ?side3 ?side4 ?side5 ?side6 A5.out).mono ?_); (case side1 => exact cl ((Kd.R_reads' HO786.out).2.2)); (case side2 => exact (Kd.R_reads' HO786.out).2.1); (case side3 => exact cl ((Kd.R_reads' HO789.out).2.2)); (case side4 => exact (Kd.R_reads' HO789.out).2.1); (case side5 => exact cl ((Kd.R_reads' HO792.out).2.2)); (case side6 => exact (Kd.R_reads' HO792.out).2.1); rintro e w15 ⟨v800, rfl, ho0, hb⟩; refine ⟨_, rfl, ?_⟩; have HO801 := am (Kd.R_lower (Kd.R_new' (Kd.R_new' (Kd.R_new' (Kd.R_new' ho0 (Kd.R_lt (rl HO786.out))) (Kd.R_lt (rl HO789.out))) (Kd.R_lt (rl HO792.out))) (Kd.R_lt (rl HO797.out))) (below_size (bs1 GE794.out HB.out))); replace HO786 := am (Kd.R_elder' (rl HO786.out) (Kd.R_base ho0) hb); replace HO789 := am (Kd.R_elder' (rl HO789.out) (Kd.R_base ho0) hb); replace HO792 := am (Kd.R_elder' (rl HO792.out) (Kd.R_base ho0) hb); replace HO797 := am (Kd.R_elder' (rl HO797.out) (Kd.R_base ho0) hb); replace BK794 := am (blk_below (g := gb794) (o := .cells #[.slice Ao9 t784.length co9, .slice Ao11 t787.length co11, .slice Ao12 t790.length co12] 25 (0, 0)) (kl BK794.out) hb); replace HB := am (below_step (bs1 GE794.out HB.out) hb); (try clear hb); (try clear hb2); (try clear hk); (try clear hi); (try clear ho0)))
  (try simp only [Act.put, List.setIfInBounds_toArray, List.set_cons_zero, List.set_cons_succ])
  go_cut [44] (fun v44 wc => ∃ (kq : Nat) (x44_5 : Bool), v44 = .bool x44_5 ∧ Aside0 (laws_FnPathParts.j0 kq t795 t798 t799 t802 x44_5 t784 t787 t790 = some r) ∧ Aside0 (kq ≤ k) ∧ Aside0 (Kd.R (Kd.int .i64) 3 wc w.heap.size (fun k_ => some k_ ≠ (v800 : Value).ownBlock ∧ some k_ ≠ ((.slice Ao9 t784.length co9) : Value).ownBlock ∧ some k_ ≠ ((.slice Ao11 t787.length co11) : Value).ownBlock ∧ some k_ ≠ ((.slice Ao12 t790.length co12) : Value).ownBlock) v796 t795) ∧ Aside0 (Kd.R (Kd.int .i64) 3 wc w.heap.size (fun k_ => some k_ ≠ (v796 : Value).ownBlock ∧ some k_ ≠ ((.slice Ao9 t784.length co9) : Value).ownBlock ∧ some k_ ≠ ((.slice Ao11 t787.length co11) : Value).ownBlock ∧ some k_ ≠ ((.slice Ao12 t790.length co12) : Value).ownBlock) v800 t799) ∧ Aside0 (Kd.R (Kd.int .i64) 3 wc w.heap.size (fun k_ => some k_ ≠ (v796 : Value).ownBlock ∧ some k_ ≠ (v800 : Value).ownBlock ∧ some k_ ≠ ((.slice Ao11 t787.length co11) : Value).ownBlock ∧ some k_ ≠ ((.slice Ao12 t790.length co12) : Value).ownBlock) (.slice Ao9 t784.length co9) t784) ∧ Aside0 (Kd.R (Kd.int .i64) 3 wc w.heap.size (fun k_ => some k_ ≠ (v796 : Value).ownBlock ∧ some k_ ≠ (v800 : Value).ownBlock ∧ some k_ ≠ ((.slice Ao9 t784.length co9) : Value).ownBlock ∧ some k_ ≠ ((.slice Ao12 t790.length co12) : Value).ownBlock) (.slice Ao11 t787.length co11) t787) ∧ Aside0 (Kd.R (Kd.int .i64) 3 wc w.heap.size (fun k_ => some k_ ≠ (v796 : Value).ownBlock ∧ some k_ ≠ (v800 : Value).ownBlock ∧ some k_ ≠ ((.slice Ao9 t784.length co9) : Value).ownBlock ∧ some k_ ≠ ((.slice Ao11 t787.length co11) : Value).ownBlock) (.slice Ao12 t790.length co12) t790) ∧ Aside0 (wc.heap[gb794]? = some (.cells #[(.slice Ao9 t784.length co9), (.slice Ao11 t787.length co11), (.slice Ao12 t790.length co12)] 25 (0, 0))) ∧ Aside0 (Below w.heap.size w wc))
  case first =>
   have H := HC6.out
   clear HC6
   replace H := Option.bind_eq_some_iff.mp H
   obtain ⟨t803, A160, H⟩ := H
   replace H : (if t803 = true then (if (t798 != t802) = true then (laws_FnPathParts.j0 k t795 t798 t799 t802 true t784 t787 t790) else (laws_FnPathParts.j0 k t795 t798 t799 t802 (!t798) t784 t787 t790)) else (laws_FnPathParts.j0 k t795 t798 t799 t802 true t784 t787 t790)) = some r := H
   have A16 := am A160
   clear A160
   by_cases c17 : t803 = true
   ·subst c17
    have H1 : (if (t798 != t802) = true then (laws_FnPathParts.j0 k t795 t798 t799 t802 true t784 t787 t790) else (laws_FnPathParts.j0 k t795 t798 t799 t802 (!t798) t784 t787 t790)) = some r := by rw [if_pos rfl] at H; exact H
    clear H
    have H := H1
    clear H1
    by_cases c18 : (t798 != t802) = true
    ·rw [if_pos c18] at H
     have c18b0 : (t798 != t802) = true := c18
     (try (have c18b1 : decide (t798 = t802) = false := by simpa using c18))
     (try (have c18b2 : (t798 == t802) = false := by simpa using c18))
     (try (have c18b3 : ¬ (t798 = t802) := by simpa using c18))
     clear c18
     (first | rw [c18b0] | (simp only [i64_w, i32_w]; rw [c18b0]) | skip)
     have H' := am H
     clear H
     obtain ⟨Ao19, co19, eo19⟩ := Kd.R_slice HO797.out
     subst eo19
     obtain ⟨Ao20, co20, eo20⟩ := Kd.R_slice HO801.out
     subst eo20
     go_wp2_with (first | ((with_reducible refine gate_callee (f := 19) rfl ?_); refine goesL_ (some 34) rfl rfl Try.func19 (by kernel_rfl) rfl #[.slice Ao19 t795.length co19, .slice Ao20 t799.length co20] rfl (by (try simp only [List.map_toArray, List.map_cons, List.map_nil]); first | done | rfl | (simp only [List.length_drop, List.length_take]; rfl)) ?_; (with_reducible refine (laws_ccInts.calls k _ _ t795 _ _ t799 true _ ?side1 ?side2 ?side3 ?side4 A16.out).mono ?_); (case side1 => exact cl ((Kd.R_reads' HO797.out).2.2)); (case side2 => exact (Kd.R_reads' HO797.out).2.1); (case side3 => exact cl ((Kd.R_reads' HO801.out).2.2)); (case side4 => exact (Kd.R_reads' HO801.out).2.1); rintro e w' ⟨rfl, ⟨nd, rfl⟩⟩; refine ⟨_, rfl, ?_⟩))
     go_meet
     case rel => exact ⟨_, (true), (by first | rfl | (simp; done) | (simp [*]; done)), H', ⟨by first | omega | exact Nat.le_refl _⟩, ⟨rl (Kd.R_mono HO797.out (fun _ hk => by first | exact ⟨hk.2, ⟨hk.1.1.1.2, ⟨hk.1.1.2, hk.1.2⟩⟩⟩ | (simp only [ne_eq] at hk ⊢; simp only [hk, not_false_eq_true, and_self])))⟩, ⟨rl (Kd.R_mono HO801.out (fun _ hk => by first | exact ⟨hk.2, ⟨hk.1.1.1.2, ⟨hk.1.1.2, hk.1.2⟩⟩⟩ | (simp only [ne_eq] at hk ⊢; simp only [hk, not_false_eq_true, and_self])))⟩, ⟨rl (Kd.R_mono HO786.out (fun _ hk => by first | exact ⟨hk.1.2, ⟨hk.2, ⟨hk.1.1.1, hk.1.1.2⟩⟩⟩ | (simp only [ne_eq] at hk ⊢; simp only [hk, not_false_eq_true, and_self])))⟩, ⟨rl (Kd.R_mono HO789.out (fun _ hk => by first | exact ⟨hk.1.2, ⟨hk.2, ⟨hk.1.1.1, hk.1.1.2⟩⟩⟩ | (simp only [ne_eq] at hk ⊢; simp only [hk, not_false_eq_true, and_self])))⟩, ⟨rl (Kd.R_mono HO792.out (fun _ hk => by first | exact ⟨hk.1.2, ⟨hk.2, ⟨hk.1.1.1, hk.1.1.2⟩⟩⟩ | (simp only [ne_eq] at hk ⊢; simp only [hk, not_false_eq_true, and_self])))⟩, ⟨kl BK794.out⟩, ⟨by exact bs1 GE794.out HB.out⟩⟩
    ·rw [if_neg c18] at H
     have c18b0 : (t798 != t802) = false := by simpa using c18
     (try (have c18b1 : decide (t798 = t802) = true := by simpa using c18))
     (try (have c18b2 : (t798 == t802) = true := by simpa using c18))
     clear c18
     (first | rw [c18b0] | (simp only [i64_w, i32_w]; rw [c18b0]) | skip)
     have H' := am H
     clear H
     obtain ⟨Ao21, co21, eo21⟩ := Kd.R_slice HO797.out
     subst eo21
     obtain ⟨Ao22, co22, eo22⟩ := Kd.R_slice HO801.out
     subst eo22
     go_wp2_with (first | ((with_reducible refine gate_callee (f := 19) rfl ?_); refine goesL_ (some 34) rfl rfl Try.func19 (by kernel_rfl) rfl #[.slice Ao21 t795.length co21, .slice Ao22 t799.length co22] rfl (by (try simp only [List.map_toArray, List.map_cons, List.map_nil]); first | done | rfl | (simp only [List.length_drop, List.length_take]; rfl)) ?_; (with_reducible refine (laws_ccInts.calls k _ _ t795 _ _ t799 true _ ?side1 ?side2 ?side3 ?side4 A16.out).mono ?_); (case side1 => exact cl ((Kd.R_reads' HO797.out).2.2)); (case side2 => exact (Kd.R_reads' HO797.out).2.1); (case side3 => exact cl ((Kd.R_reads' HO801.out).2.2)); (case side4 => exact (Kd.R_reads' HO801.out).2.1); rintro e w' ⟨rfl, ⟨nd, rfl⟩⟩; refine ⟨_, rfl, ?_⟩))
     go_meet
     case rel => exact ⟨_, (!t798), (by first | rfl | (simp; done) | (simp [*]; done)), H', ⟨by first | omega | exact Nat.le_refl _⟩, ⟨rl (Kd.R_mono HO797.out (fun _ hk => by first | exact ⟨hk.2, ⟨hk.1.1.1.2, ⟨hk.1.1.2, hk.1.2⟩⟩⟩ | (simp only [ne_eq] at hk ⊢; simp only [hk, not_false_eq_true, and_self])))⟩, ⟨rl (Kd.R_mono HO801.out (fun _ hk => by first | exact ⟨hk.2, ⟨hk.1.1.1.2, ⟨hk.1.1.2, hk.1.2⟩⟩⟩ | (simp only [ne_eq] at hk ⊢; simp only [hk, not_false_eq_true, and_self])))⟩, ⟨rl (Kd.R_mono HO786.out (fun _ hk => by first | exact ⟨hk.1.2, ⟨hk.2, ⟨hk.1.1.1, hk.1.1.2⟩⟩⟩ | (simp only [ne_eq] at hk ⊢; simp only [hk, not_false_eq_true, and_self])))⟩, ⟨rl (Kd.R_mono HO789.out (fun _ hk => by first | exact ⟨hk.1.2, ⟨hk.2, ⟨hk.1.1.1, hk.1.1.2⟩⟩⟩ | (simp only [ne_eq] at hk ⊢; simp only [hk, not_false_eq_true, and_self])))⟩, ⟨rl (Kd.R_mono HO792.out (fun _ hk => by first | exact ⟨hk.1.2, ⟨hk.2, ⟨hk.1.1.1, hk.1.1.2⟩⟩⟩ | (simp only [ne_eq] at hk ⊢; simp only [hk, not_false_eq_true, and_self])))⟩, ⟨kl BK794.out⟩, ⟨by exact bs1 GE794.out HB.out⟩⟩
   ·replace c17 := Bool.eq_false_iff.mpr c17
    subst c17
    have H1 : (laws_FnPathParts.j0 k t795 t798 t799 t802 true t784 t787 t790) = some r := by rw [if_neg (show ¬ (false = true) by decide)] at H; exact H
    clear H
    have H := H1
    clear H1
    have H' := am H
    clear H
    obtain ⟨Ao23, co23, eo23⟩ := Kd.R_slice HO797.out
    subst eo23
    obtain ⟨Ao24, co24, eo24⟩ := Kd.R_slice HO801.out
    subst eo24
    go_wp2_with (first | ((with_reducible refine gate_callee (f := 19) rfl ?_); refine goesL_ (some 34) rfl rfl Try.func19 (by kernel_rfl) rfl #[.slice Ao23 t795.length co23, .slice Ao24 t799.length co24] rfl (by (try simp only [List.map_toArray, List.map_cons, List.map_nil]); first | done | rfl | (simp only [List.length_drop, List.length_take]; rfl)) ?_; (with_reducible refine (laws_ccInts.calls k _ _ t795 _ _ t799 false _ ?side1 ?side2 ?side3 ?side4 A16.out).mono ?_); (case side1 => exact cl ((Kd.R_reads' HO797.out).2.2)); (case side2 => exact (Kd.R_reads' HO797.out).2.1); (case side3 => exact cl ((Kd.R_reads' HO801.out).2.2)); (case side4 => exact (Kd.R_reads' HO801.out).2.1); rintro e w' ⟨rfl, ⟨nd, rfl⟩⟩; refine ⟨_, rfl, ?_⟩))
    go_meet
    case rel => exact ⟨_, (true), (by first | rfl | (simp; done) | (simp [*]; done)), H', ⟨by first | omega | exact Nat.le_refl _⟩, ⟨rl (Kd.R_mono HO797.out (fun _ hk => by first | exact ⟨hk.2, ⟨hk.1.1.1.2, ⟨hk.1.1.2, hk.1.2⟩⟩⟩ | (simp only [ne_eq] at hk ⊢; simp only [hk, not_false_eq_true, and_self])))⟩, ⟨rl (Kd.R_mono HO801.out (fun _ hk => by first | exact ⟨hk.2, ⟨hk.1.1.1.2, ⟨hk.1.1.2, hk.1.2⟩⟩⟩ | (simp only [ne_eq] at hk ⊢; simp only [hk, not_false_eq_true, and_self])))⟩, ⟨rl (Kd.R_mono HO786.out (fun _ hk => by first | exact ⟨hk.1.2, ⟨hk.2, ⟨hk.1.1.1, hk.1.1.2⟩⟩⟩ | (simp only [ne_eq] at hk ⊢; simp only [hk, not_false_eq_true, and_self])))⟩, ⟨rl (Kd.R_mono HO789.out (fun _ hk => by first | exact ⟨hk.1.2, ⟨hk.2, ⟨hk.1.1.1, hk.1.1.2⟩⟩⟩ | (simp only [ne_eq] at hk ⊢; simp only [hk, not_false_eq_true, and_self])))⟩, ⟨rl (Kd.R_mono HO792.out (fun _ hk => by first | exact ⟨hk.1.2, ⟨hk.2, ⟨hk.1.1.1, hk.1.1.2⟩⟩⟩ | (simp only [ne_eq] at hk ⊢; simp only [hk, not_false_eq_true, and_self])))⟩, ⟨kl BK794.out⟩, ⟨by exact bs1 GE794.out HB.out⟩⟩
  case rest =>
   clear HC6
   try clear c1
   try clear c2
   try clear c2b0
   try clear c2b1
   try clear p2
   try clear c3
   try clear c8
   try clear c17
   try clear c18
   try clear c18b0
   try clear c18b1
   try clear c18b2
   try clear c19
   try clear hcz10_0
   try clear hcz10_1
   try clear hcz10_2
   try clear hcz14_0
   try clear hcz14_1
   try clear hcz14_2
   try clear hfz10_0
   try clear hfz10_1
   try clear hfz10_2
   try clear hfz14_0
   try clear hfz14_1
   try clear hfz14_2
   obtain ⟨kq, x44_5, rfl, HA, HJ5, HO_5, HO_7, HO_795000, HO_795001, HO_795002, BK794, HB⟩ := hcut
   cases kq with
   | zero => exact absurd HA.out (by simp [laws_FnPathParts.j0])
   | succ kj5 =>
    have H := HA.out
    clear HA
    simp only [laws_FnPathParts.j0] at H
    by_cases c25 : x44_5 = true
    ·subst c25
     have H1 : ((laws_ccInts.f kj5 t795 t799).bind fun t804 => (if t804 = true then (some (t798 == t802)) else (none))) = some r := by rw [if_pos rfl] at H; exact H
     clear H
     have H := H1
     clear H1
     replace H := Option.bind_eq_some_iff.mp H
     obtain ⟨t804, A260, H⟩ := H
     replace H : (if t804 = true then (some (t798 == t802)) else (none)) = some r := H
     have A26 := am A260
     clear A260
     by_cases c27 : t804 = true
     ·subst c27
      have H1 : (some (t798 == t802)) = some r := by rw [if_pos rfl] at H; exact H
      clear H
      have H := H1
      clear H1
      obtain rfl := Option.some.inj H
      obtain ⟨Ao28, co28, eo28⟩ := Kd.R_slice HO_5.out
      subst eo28
      obtain ⟨Ao29, co29, eo29⟩ := Kd.R_slice HO_7.out
      subst eo29
      go_wp2_with (first | ((with_reducible refine gate_callee (f := 19) rfl ?_); refine goesL_ (some 47) rfl rfl Try.func19 (by kernel_rfl) rfl #[.slice Ao28 t795.length co28, .slice Ao29 t799.length co29] rfl (by (try simp only [List.map_toArray, List.map_cons, List.map_nil]); first | done | rfl | (simp only [List.length_drop, List.length_take]; rfl)) ?_; (with_reducible refine (laws_ccInts.calls kj5 _ _ t795 _ _ t799 true _ ?side1 ?side2 ?side3 ?side4 A26.out).mono ?_); (case side1 => exact cl ((Kd.R_reads' HO_5.out).2.2)); (case side2 => exact (Kd.R_reads' HO_5.out).2.1); (case side3 => exact cl ((Kd.R_reads' HO_7.out).2.2)); (case side4 => exact (Kd.R_reads' HO_7.out).2.1); rintro e w' ⟨rfl, ⟨nd, rfl⟩⟩; refine ⟨_, rfl, ?_⟩))
      go_ret
      exact ⟨by first | rfl | (simp [errW_none, errW_some] <;> rfl) | (simp [*, errW_none, errW_some] <;> rfl), by exact bs1 GE794.out HB.out⟩
     ·replace c27 := Bool.eq_false_iff.mpr c27
      subst c27
      have H1 : (none) = some r := by rw [if_neg (show ¬ (false = true) by decide)] at H; exact H
      clear H
      have H := H1
      clear H1
      exact absurd H (by simp)
    ·replace c25 := Bool.eq_false_iff.mpr c25
     subst c25
     have H1 : (laws_FnPathParts.l0 kj5 t795 0 t784 t787 t790) = some r := by rw [if_neg (show ¬ (false = true) by decide)] at H; exact H
     clear H
     have H := H1
     clear H1
     have H' := am H
     clear H
     go_wp2
     go_loopg [9] kj5 (fun kq v9 w' => ∃ (x9_2 : Int), v9 = .int .i64 x9_2 ∧ Aside0 (laws_FnPathParts.l0 kq t795 x9_2 t784 t787 t790 = some r) ∧ Aside0 (kq ≤ kj5) ∧ Aside0 (Kd.R (Kd.int .i64) 3 w' w.heap.size (fun k_ => some k_ ≠ ((.slice Ao9 t784.length co9) : Value).ownBlock ∧ some k_ ≠ ((.slice Ao11 t787.length co11) : Value).ownBlock ∧ some k_ ≠ ((.slice Ao12 t790.length co12) : Value).ownBlock) v796 t795) ∧ Aside0 (Kd.R (Kd.int .i64) 3 w' w.heap.size (fun k_ => some k_ ≠ (v796 : Value).ownBlock ∧ some k_ ≠ ((.slice Ao11 t787.length co11) : Value).ownBlock ∧ some k_ ≠ ((.slice Ao12 t790.length co12) : Value).ownBlock) (.slice Ao9 t784.length co9) t784) ∧ Aside0 (Kd.R (Kd.int .i64) 3 w' w.heap.size (fun k_ => some k_ ≠ (v796 : Value).ownBlock ∧ some k_ ≠ ((.slice Ao9 t784.length co9) : Value).ownBlock ∧ some k_ ≠ ((.slice Ao12 t790.length co12) : Value).ownBlock) (.slice Ao11 t787.length co11) t787) ∧ Aside0 (Kd.R (Kd.int .i64) 3 w' w.heap.size (fun k_ => some k_ ≠ (v796 : Value).ownBlock ∧ some k_ ≠ ((.slice Ao9 t784.length co9) : Value).ownBlock ∧ some k_ ≠ ((.slice Ao11 t787.length co11) : Value).ownBlock) (.slice Ao12 t790.length co12) t790) ∧ Aside0 (w'.heap[gb794]? = some (.cells #[(.slice Ao9 t784.length co9), (.slice Ao11 t787.length co11), (.slice Ao12 t790.length co12)] 25 (0, 0))) ∧ Aside0 (Below w.heap.size w w'))
     case atStart => exact ⟨(0), (by first | rfl | (simp; done) | (simp [*]; done)), H', ⟨Nat.le_refl _⟩, ⟨rl (Kd.R_mono HO_5.out (fun _ hk => by first | exact ⟨hk.2.1, ⟨hk.2.2.1, hk.2.2.2⟩⟩ | (simp only [ne_eq] at hk ⊢; simp only [hk, not_false_eq_true, and_self])))⟩, ⟨rl (Kd.R_mono HO_795000.out (fun _ hk => by first | exact ⟨hk.1, ⟨hk.2.2.1, hk.2.2.2⟩⟩ | (simp only [ne_eq] at hk ⊢; simp only [hk, not_false_eq_true, and_self])))⟩, ⟨rl (Kd.R_mono HO_795001.out (fun _ hk => by first | exact ⟨hk.1, ⟨hk.2.2.1, hk.2.2.2⟩⟩ | (simp only [ne_eq] at hk ⊢; simp only [hk, not_false_eq_true, and_self])))⟩, ⟨rl (Kd.R_mono HO_795002.out (fun _ hk => by first | exact ⟨hk.1, ⟨hk.2.2.1, hk.2.2.2⟩⟩ | (simp only [ne_eq] at hk ⊢; simp only [hk, not_false_eq_true, and_self])))⟩, ⟨kl BK794.out⟩, ⟨by exact bs1 GE794.out HB.out⟩⟩
     case round =>
      clear H'
      try clear c1
      try clear c2
      try clear c2b0
      try clear c2b1
      try clear p2
      try clear c3
      try clear c8
      try clear c17
      try clear c18
      try clear c18b0
      try clear c18b1
      try clear c18b2
      try clear c19
      try clear c25
      try clear c27
      try clear c28
      try clear c29
      try clear hcz10_0
      try clear hcz10_1
      try clear hcz10_2
      try clear hcz14_0
      try clear hcz14_1
      try clear hcz14_2
      try clear hfz10_0
      try clear hfz10_1
      try clear hfz10_2
      try clear hfz14_0
      try clear hfz14_1
      try clear hfz14_2
      try clear p2
      obtain ⟨x9_2, rfl, HA, HK2, HO_5, HO_795000, HO_795001, HO_795002, BK794, HB⟩ := hrel
      cases gk with
      | zero => exact absurd HA.out (by simp [laws_FnPathParts.l0])
      | succ k2 =>
       have H := HA.out
       clear HA
       simp only [laws_FnPathParts.l0] at H
       by_cases c30 : x9_2 < (t795.length : Int)
       ·rw [if_pos c30] at H
        have c30b0 : decide (x9_2 < (t795.length : Int)) = true := decide_eq_true c30
        clear c30
        by_cases c31 : 0 ≤ x9_2
        ·rw [if_pos c31] at H
         have c31b0 : decide (0 ≤ x9_2) = true := decide_eq_true c31
         clear c31
         replace H := Option.bind_eq_some_iff.mp H
         obtain ⟨⟨t806, t807⟩, A320, H⟩ := H
         replace H : (if t807 = true then (if t806 = (wrap64 (x9_2 + 1)) then (laws_FnPathParts.l0 k2 t795 (wrap64 (x9_2 + 1)) t784 t787 t790) else (none)) else (none)) = some r := H
         have A32 := am A320
         clear A320
         by_cases c33 : t807 = true
         ·subst c33
          have H1 : (if t806 = (wrap64 (x9_2 + 1)) then (laws_FnPathParts.l0 k2 t795 (wrap64 (x9_2 + 1)) t784 t787 t790) else (none)) = some r := by rw [if_pos rfl] at H; exact H
          clear H
          have H := H1
          clear H1
          by_cases c34 : t806 = (wrap64 (x9_2 + 1))
          ·rw [if_pos c34] at H
           have c34b0 : (t806 == (wrap64 (x9_2 + 1))) = true := beq_iff_eq.mpr c34
           have c34b1 : (t806 != (wrap64 (x9_2 + 1))) = false := bne_eq_false_iff_eq.mpr c34
           clear c34
           have H' := am H
           clear H
           obtain ⟨Ao35, co35, eo35⟩ := Kd.R_slice HO_5.out
           subst eo35
           try go_wp2
           replace HO_5 := am (Kd.R_drew HO_5.out)
           replace HO_795000 := am (Kd.R_drew HO_795000.out)
           replace HO_795001 := am (Kd.R_drew HO_795001.out)
           replace HO_795002 := am (Kd.R_drew HO_795002.out)
           replace BK794 := am (blk_drew BK794.out)
           replace HB := am (below_drew1 HB.out)
           have p805 : 0 ≤ (x9_2 : Int) := of_decide_eq_true (by first | (with_reducible assumption) | assumption)
           have q805 : x9_2 < (t795.length : Int) := of_decide_eq_true (by first | (with_reducible assumption) | assumption)
           obtain ⟨ad805, e805, hx805_0⟩ := Kd.at_int (Kd.R_reads' HO_5.out).2.2 x9_2 p805 q805
           cases e805
           replace p805 := eq_true p805
           replace q805 := eq_true q805
           refine start_ (n := 11) (S := fun w' => w'.cell? ⟨gb794, 0, none⟩ = some (.slice Ao9 t784.length co9) ∧ w'.cell? ⟨gb794, 1, none⟩ = some (.slice Ao11 t787.length co11) ∧ w'.cell? ⟨gb794, 2, none⟩ = some (.slice Ao12 t790.length co12) ∧ w'.cell? (ad805.add (x9_2).toNat) = some (.int .i64 (rd t795 x9_2))) (ds := []) #[false, false, false, false, false, false, false, false, false, false, false] (by kernel_rfl) rfl rfl ⟨(blk_cell BK794.out 0).trans rfl, (blk_cell BK794.out 1).trans rfl, (blk_cell BK794.out 2).trans rfl, hx805_0⟩ (fun hHeld => ?_); refine with_tabW laws_FnPathParts.tab11 laws_FnPathParts.bits11 (fun HT_ HW_ => ?_)
           generalize wr.drew = w36 at HO_5 HO_795000 HO_795001 HO_795002 BK794 HB hx805_0 hHeld ⊢
           refine pure_ (i := 1) (N := some 61) (v := ?_) (a' := ?_) #[false, true, false, false, false, false, false, false, false, false, false] rfl rfl (any_of HT_.out (by kernel_rfl)) (fun _ _ _ h => h) (Or.inl ⟨by rfl, ?_⟩) ?_ ?_
           rotate_left
           ·intro w'
            go_simp
            with_reducible rfl
           rotate_left
           ·simp only [Act.put, List.setIfInBounds_toArray, List.set_cons_zero, List.set_cons_succ, i64_w, i32_w]
            rfl
           refine pure_ (i := 2) (N := some 62) (v := ?_) (a' := ?_) #[false, true, true, false, false, false, false, false, false, false, false] rfl rfl (any_of HT_.out (by kernel_rfl)) (fun _ _ _ h => h) (Or.inl ⟨by rfl, ?_⟩) ?_ ?_
           rotate_left
           ·intro w'
            go_simp
            with_reducible rfl
           rotate_left
           ·simp only [Act.put, List.setIfInBounds_toArray, List.set_cons_zero, List.set_cons_succ, i64_w, i32_w]
            rfl
           refine pure_ (i := 3) (N := some 63) (v := ?_) (a' := ?_) #[false, true, true, true, false, false, false, false, false, false, false] rfl rfl (any_of HT_.out (by kernel_rfl)) (fun _ _ _ h => h) (Or.inl ⟨by rfl, ?_⟩) ?_ ?_
           rotate_left
           ·intro w'
            go_simp
            with_reducible rfl
           rotate_left
           ·simp only [Act.put, List.setIfInBounds_toArray, List.set_cons_zero, List.set_cons_succ, i64_w, i32_w]
            rfl
           refine take_ (i := 0) (N := some 60) (v := ?_) (a' := ?_) #[true, true, true, true, false, false, false, false, false, false, false] rfl rfl (take_ofW HT_.out HW_.out (by kernel_rfl)) (fun _ _ _ h => h) (Or.inl ⟨by rfl, ?_⟩) hHeld ?_ ?_
           rotate_left
           ·rintro w' ⟨s0, s1, s2, s3⟩
            go_simp
            with_reducible rfl
           rotate_left
           ·simp only [Act.put, List.setIfInBounds_toArray, List.set_cons_zero, List.set_cons_succ, i64_w, i32_w]
            rfl
           refine take_ (i := 4) (N := some 64) (v := ?_) (a' := ?_) #[true, true, true, true, true, false, false, false, false, false, false] rfl rfl (take_ofW HT_.out HW_.out (by kernel_rfl)) (fun _ _ _ h => h) (Or.inl ⟨by rfl, ?_⟩) hHeld ?_ ?_
           rotate_left
           ·rintro w' ⟨s0, s1, s2, s3⟩
            go_simp
            with_reducible rfl
           rotate_left
           ·simp only [Act.put, List.setIfInBounds_toArray, List.set_cons_zero, List.set_cons_succ, i64_w, i32_w]
            rfl
           refine one_ (i := 5) (N := some 65) #[true, true, true, true, true, true, false, false, false, false, false] rfl rfl (one_of HT_.out (by kernel_rfl)) (by decide) (fun K hK => ?_)
           refine goes_ Try.func27 (by kernel_rfl) rfl #[.agg #[.slice Ao9 t784.length co9, .slice Ao11 t787.length co11, .slice Ao12 t790.length co12], .int .i64 (rd t795 x9_2)] (by rfl) rfl rfl (by (try simp only [List.map_toArray, List.map_cons, List.map_nil]); first | done | rfl | (simp only [List.length_drop, List.length_take]; rfl)) ?_
           with_reducible refine (impl_DistanceOf.calls k2 _ _ t784 _ _ t787 _ _ t790 (rd t795 x9_2) t806 true _ ?side1 ?side2 ?side3 ?side4 ?side5 ?side6 A32.out).mono ?_
           (case side1 => exact cl ((Kd.R_reads' HO_795000.out).2.2))
           (case side2 => exact (Kd.R_reads' HO_795000.out).2.1)
           (case side3 => exact cl ((Kd.R_reads' HO_795001.out).2.2))
           (case side4 => exact (Kd.R_reads' HO_795001.out).2.1)
           (case side5 => exact cl ((Kd.R_reads' HO_795002.out).2.2))
           (case side6 => exact (Kd.R_reads' HO_795002.out).2.1)
           rintro e w37 ⟨rfl, hb⟩
           have HS3_ := (hb.cell (World.block_lt_of_cell? _ _ (hHeld.2.2.2))).trans (hHeld.2.2.2)
           refine ⟨_, rfl, ?_⟩
           replace HO_5 := am (Kd.R_below (rl HO_5.out) hb)
           replace HO_795000 := am (Kd.R_below (rl HO_795000.out) hb)
           replace HO_795001 := am (Kd.R_below (rl HO_795001.out) hb)
           replace HO_795002 := am (Kd.R_below (rl HO_795002.out) hb)
           replace BK794 := am (blk_below (g := gb794) (o := .cells #[.slice Ao9 t784.length co9, .slice Ao11 t787.length co11, .slice Ao12 t790.length co12] 25 (0, 0)) (kl BK794.out) hb)
           replace HB := am (below_step (bs1 GE794.out HB.out) hb)
           (try clear hb)
           (try clear hb2)
           (try clear hk)
           (try clear hi)
           refine hK.out _ _ ⟨(blk_cell BK794.out 0).trans rfl, (blk_cell BK794.out 1).trans rfl, (blk_cell BK794.out 2).trans rfl, HS3_⟩ (fun hHeld => ?_)
           clear hK K
           refine norm_ (a' := ?_) ?_ ?_
           rotate_left
           ·show Act.put _ (some 65) _ = _
            simp only [Act.put, List.setIfInBounds_toArray, List.set_cons_zero, List.set_cons_succ, i64_w, i32_w]
            rfl
           refine pure_ (i := 6) (N := some 59) (v := ?_) (a' := ?_) #[true, true, true, true, true, true, true, false, false, false, false] rfl rfl (any_of HT_.out (by kernel_rfl)) (fun _ _ _ h => h) (Or.inl ⟨by rfl, ?_⟩) ?_ ?_
           rotate_left
           ·intro w'
            go_simp
            with_reducible rfl
           rotate_left
           ·simp only [Act.put, List.setIfInBounds_toArray, List.set_cons_zero, List.set_cons_succ, i64_w, i32_w]
            rfl
           refine pure_ (i := 7) (N := some 66) (v := ?_) (a' := ?_) #[true, true, true, true, true, true, true, true, false, false, false] rfl rfl (any_of HT_.out (by kernel_rfl)) (fun _ _ _ h => h) (Or.inl ⟨by rfl, ?_⟩) ?_ ?_
           rotate_left
           ·intro w'
            go_simp
            with_reducible rfl
           rotate_left
           ·simp only [Act.put, List.setIfInBounds_toArray, List.set_cons_zero, List.set_cons_succ, i64_w, i32_w]
            rfl
           refine pure_ (i := 8) (N := some 67) (v := ?_) (a' := ?_) #[true, true, true, true, true, true, true, true, true, false, false] rfl rfl (any_of HT_.out (by kernel_rfl)) (fun _ _ _ h => h) (Or.inl ⟨by rfl, ?_⟩) ?_ ?_
           rotate_left
           ·intro w'
            go_simp
            with_reducible rfl
           rotate_left
           ·simp only [Act.put, List.setIfInBounds_toArray, List.set_cons_zero, List.set_cons_succ, i64_w, i32_w]
            rfl
           refine pure_ (i := 9) (N := some 10) (v := ?_) (a' := ?_) #[true, true, true, true, true, true, true, true, true, true, false] rfl rfl (any_of HT_.out (by kernel_rfl)) (fun _ _ _ h => h) (Or.inl ⟨by rfl, ?_⟩) ?_ ?_
           rotate_left
           ·intro w'
            go_simp
            with_reducible rfl
           rotate_left
           ·simp only [Act.put, List.setIfInBounds_toArray, List.set_cons_zero, List.set_cons_succ, i64_w, i32_w]
            rfl
           refine pure_ (i := 10) (N := some 11) (v := ?_) (a' := ?_) #[true, true, true, true, true, true, true, true, true, true, true] rfl rfl (any_of HT_.out (by kernel_rfl)) (fun _ _ _ h => h) (Or.inl ⟨by rfl, ?_⟩) ?_ ?_
           rotate_left
           ·intro w'
            go_simp
            with_reducible rfl
           rotate_left
           ·simp only [Act.put, List.setIfInBounds_toArray, List.set_cons_zero, List.set_cons_succ, i64_w, i32_w]
            rfl
           refine done_ (done_of HT_.out (by kernel_rfl)) ?_
           try go_wp2
           go_roundg k2
           case measure => have := HJ5.out; have := HK2.out; omega
           case rel => exact ⟨(wrap64 (x9_2 + 1)), (by first | rfl | (simp; done) | (simp [*]; done)), H', ⟨by have := HJ5.out; have := HK2.out; omega⟩, ⟨rl HO_5.out⟩, ⟨rl HO_795000.out⟩, ⟨rl HO_795001.out⟩, ⟨rl HO_795002.out⟩, ⟨kl BK794.out⟩, ⟨by exact bs1 GE794.out HB.out⟩⟩
          ·rw [if_neg c34] at H
           exact absurd H (by simp)
         ·replace c33 := Bool.eq_false_iff.mpr c33
          subst c33
          have H1 : (none) = some r := by rw [if_neg (show ¬ (false = true) by decide)] at H; exact H
          clear H
          have H := H1
          clear H1
          exact absurd H (by simp)
        ·rw [if_neg c31] at H
         exact absurd H (by simp)
       ·rw [if_neg c30] at H
        have c30b0 : decide (x9_2 < (t795.length : Int)) = false := decide_eq_false c30
        clear c30
        obtain rfl := Option.some.inj H
        obtain ⟨Ao38, co38, eo38⟩ := Kd.R_slice HO_5.out
        subst eo38
        go_wp2
        go_ret
        exact ⟨by first | rfl | (simp [errW_none, errW_some] <;> rfl) | (simp [*, errW_none, errW_some] <;> rfl), by exact bs1 GE794.out HB.out⟩

/-- THE ONE PURE STATEMENT of laws_FnPathParts: yours. -/
def laws_FnPathParts.Pure : Prop := ∀ (l0 : List Int), l0.length ≤ maxLen → l0.length * 1 ≤ 140737488351232 → (∀ x ∈ l0, (Lit.int .u8 x).wf = true) → ∃ k, laws_FnPathParts.f k l0 = some true
theorem laws_FnPathParts.walk (P : laws_FnPathParts.Pure) (a0 : Option Addr) (len0 cap0 : Nat) (z0 : List Int) (w : World) (w0 : (a0 = none ∧ len0 = 0 ∧ cap0 = 0 ∧ z0 = []) ∨ ∃ x, a0 = some x ∧ len0 ≤ cap0 ∧ cap0 ≤ maxLen ∧ z0.length = cap0 ∧ (∀ i, i < z0.length → w.cell? (x.add i) = some (.int .u8 (z0.getD i 0))) ∧ ∀ n ∈ z0, (Lit.int .u8 n).wf = true) (y0 : len0 * 1 ≤ 140737488351232) :
  Calls Try.prog 8 #[.slice a0 len0 cap0] w fun e w' => e = .returned (.bool true) ∧ Below w.heap.size w w' := by
 obtain ⟨l0, rfl, hr0, hm0, hw0, hc0⟩ := ReadsInt.ofRowC w0
 obtain ⟨k, h⟩ := P l0 hm0 y0 hw0
 refine (laws_FnPathParts.calls k _ _ l0 true w (Kd.C_of_reads (d := (0 : Int)) (h1 := fun _ => rfl) hr0) hc0 h).mono ?_
 rintro e w' ⟨rfl, hd⟩
 exact ⟨rfl, hd⟩

end Go.Proofs.Ytghgpinhghhlgaa.A
