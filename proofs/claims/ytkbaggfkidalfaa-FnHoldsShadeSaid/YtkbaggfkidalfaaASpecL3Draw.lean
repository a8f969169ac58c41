/- Contracts of functions of the given program (ASpecL3Draw). No conditions beyond those stated. -/
import Derived.Test.YtkbaggfkidalfaaA0
import Derived.Test.YtkbaggfkidalfaaASpecL13RdPick
import Derived.Test.YtkbaggfkidalfaaASpecL1Draw
import Derived.Test.YtkbaggfkidalfaaASpecMarkStep
import Derived.Test.YtkbaggfkidalfaaASpecNewColored
import Derived.Test.YtkbaggfkidalfaaASpecShadeRoots
import Derived.Test.YtkbaggfkidalfaaAState
import Derived.Test.YtkbaggfkidalfaaA0
namespace Go.Proofs.Ytkbaggfkidalfaa.A
open Go.RowKit Go.Proofs.YtkbaggfkidalfaaW.PrintWords Go.Proofs.YtkbaggfkidalfaaW.PrintLast Go.Proofs.YtkbaggfkidalfaaW.PrintMore
attribute [local go_sem] max2_int min2_int max_two min_two max_three min_three max_four min_four   -- for this text's walks alone
set_option linter.unusedVariables false
set_option linter.unusedSimpArgs false

/-! ### spec_l3Draw -/
mutual
def spec_l3Draw.l0 : Nat → Int → List Int → Int → List Int → List Int → List Int → List Int → Option (List Int × List Int × List Int × List Int × Int)
 | 0, _, _, _, _, _, _, _ => none
 | k + 1, x5, x1000, x1001, x716000, x716001, x716002, x716003 => if x5 < (x716003.length : Int) then ((spec_l13Rd_pick.f k x1000 x1001 3).bind fun bt718 => (if 0 ≤ x5 then (spec_l3Draw.l0 k (wrap64 (x5 + 1)) x1000 bt718.2 x716000 x716001 x716002 (x716003.set (x5 : Int).toNat bt718.1)) else (none))) else (some (x716000, x716001, x716002, x716003, x1001))
def spec_l3Draw.l1 : Nat → Int → List Int → Int → List Int → List Int → List Int → List Int → Option (List Int × List Int × List Int × List Int × Int)
 | 0, _, _, _, _, _, _, _ => none
 | k + 1, x6, x1000, x1001, x716000, x716001, x716002, x716003 => if x6 > 0 then ((spec_MarkStep.f k x716000 x716001 x716002 x716003).bind fun bt736 => (spec_l3Draw.l1 k (wrap64 (x6 - 1)) x1000 x1001 bt736.1 bt736.2.1 bt736.2.2.1 bt736.2.2.2.1)) else (some (x716000, x716001, x716002, x716003, x1001))
end
def spec_l3Draw.f (k : Nat) (s0_0 : List Int) (s0_1 : Int) : Option (List Int × List Int × List Int × List Int × Int) := (spec_l1Draw.f k s0_0 s0_1).bind fun bt692 => ((spec_NewColored.f k bt692.1 bt692.2.1 bt692.2.2.1).bind fun bt702 => ((spec_l13Rd_pick.f k s0_0 bt692.2.2.2 3).bind fun bt716 => (if bt716.1 = 0 then (spec_l3Draw.l0 k 0 s0_0 bt716.2 bt702.1 bt702.2.1 bt702.2.2.1 bt702.2.2.2.1) else ((spec_ShadeRoots.f k bt702.1 bt702.2.1 bt702.2.2.1 bt702.2.2.2.1).bind fun bt721 => ((spec_l13Rd_pick.f k s0_0 bt716.2 4).bind fun bt734 => (spec_l3Draw.l1 k bt734.1 s0_0 bt734.2 bt721.1 bt721.2.1 bt721.2.2.1 bt721.2.2.2.1))))))
theorem spec_l3Draw.mono_l : ∀ k, (∀ y0 y1 y2 y3 y4 y5 y6, LeO (spec_l3Draw.l0 k y0 y1 y2 y3 y4 y5 y6) (spec_l3Draw.l0 (k + 1) y0 y1 y2 y3 y4 y5 y6)) ∧ (∀ y0 y1 y2 y3 y4 y5 y6, LeO (spec_l3Draw.l1 k y0 y1 y2 y3 y4 y5 y6) (spec_l3Draw.l1 (k + 1) y0 y1 y2 y3 y4 y5 y6))
 | 0 => ⟨fun _ _ _ _ _ _ _ r h => by simp [spec_l3Draw.l0] at h, fun _ _ _ _ _ _ _ r h => by simp [spec_l3Draw.l1] at h⟩
 | k + 1 => by
  obtain ⟨ih0, ih1⟩ := spec_l3Draw.mono_l k
  refine ⟨?_, ?_⟩
  ·intro y0 y1 y2 y3 y4 y5 y6
   unfold spec_l3Draw.l0
   repeat' first
   | (with_reducible exact ih0 _ _ _ _ _ _ _)
   | (with_reducible exact ih1 _ _ _ _ _ _ _)
   | (with_reducible exact spec_MarkStep.mono _ _ _ _ _)
   | (with_reducible exact spec_NewColored.mono _ _ _ _)
   | (with_reducible exact spec_ShadeRoots.mono _ _ _ _ _)
   | (with_reducible exact spec_l13Rd_pick.mono _ _ _ _)
   | (with_reducible exact spec_l1Draw.mono _ _ _)
   | (with_reducible exact LeO.refl _)
   | (with_reducible exact LeO.none _)
   | (with_reducible refine LeO.ite ?_ ?_)
   | (with_reducible refine LeO.bind ?_ (fun _ => ?_))
   | exact ih0 _ _ _ _ _ _ _
   | exact ih1 _ _ _ _ _ _ _
   | exact spec_MarkStep.mono _ _ _ _ _
   | exact spec_NewColored.mono _ _ _ _
   | exact spec_ShadeRoots.mono _ _ _ _ _
   | exact spec_l13Rd_pick.mono _ _ _ _
   | exact spec_l1Draw.mono _ _ _
   | exact LeO.none _
   | refine LeO.ite ?_ ?_
   | refine LeO.bind ?_ (fun _ => ?_)
  ·intro y0 y1 y2 y3 y4 y5 y6
   unfold spec_l3Draw.l1
   repeat' first
   | (with_reducible exact ih0 _ _ _ _ _ _ _)
   | (with_reducible exact ih1 _ _ _ _ _ _ _)
   | (with_reducible exact spec_MarkStep.mono _ _ _ _ _)
   | (with_reducible exact spec_NewColored.mono _ _ _ _)
   | (with_reducible exact spec_ShadeRoots.mono _ _ _ _ _)
   | (with_reducible exact spec_l13Rd_pick.mono _ _ _ _)
   | (with_reducible exact spec_l1Draw.mono _ _ _)
   | (with_reducible exact LeO.refl _)
   | (with_reducible exact LeO.none _)
   | (with_reducible refine LeO.ite ?_ ?_)
   | (with_reducible refine LeO.bind ?_ (fun _ => ?_))
   | exact ih0 _ _ _ _ _ _ _
   | exact ih1 _ _ _ _ _ _ _
   | exact spec_MarkStep.mono _ _ _ _ _
   | exact spec_NewColored.mono _ _ _ _
   | exact spec_ShadeRoots.mono _ _ _ _ _
   | exact spec_l13Rd_pick.mono _ _ _ _
   | exact spec_l1Draw.mono _ _ _
   | exact LeO.none _
   | refine LeO.ite ?_ ?_
   | refine LeO.bind ?_ (fun _ => ?_)
theorem spec_l3Draw.mono : ∀ a0 a1 k, LeO (spec_l3Draw.f k a0 a1) (spec_l3Draw.f (k + 1) a0 a1) := by
 intro a0 a1 k
 obtain ⟨ih0, ih1⟩ := spec_l3Draw.mono_l k
 unfold spec_l3Draw.f
 repeat' first
   | (with_reducible exact ih0 _ _ _ _ _ _ _)
   | (with_reducible exact ih1 _ _ _ _ _ _ _)
   | (with_reducible exact spec_MarkStep.mono _ _ _ _ _)
   | (with_reducible exact spec_NewColored.mono _ _ _ _)
   | (with_reducible exact spec_ShadeRoots.mono _ _ _ _ _)
   | (with_reducible exact spec_l13Rd_pick.mono _ _ _ _)
   | (with_reducible exact spec_l1Draw.mono _ _ _)
   | (with_reducible exact LeO.refl _)
   | (with_reducible exact LeO.none _)
   | (with_reducible refine LeO.ite ?_ ?_)
   | (with_reducible refine LeO.bind ?_ (fun _ => ?_))
   | exact ih0 _ _ _ _ _ _ _
   | exact ih1 _ _ _ _ _ _ _
   | exact spec_MarkStep.mono _ _ _ _ _
   | exact spec_NewColored.mono _ _ _ _
   | exact spec_ShadeRoots.mono _ _ _ _ _
   | exact spec_l13Rd_pick.mono _ _ _ _
   | exact spec_l1Draw.mono _ _ _
   | exact LeO.none _
   | refine LeO.ite ?_ ?_
   | refine LeO.bind ?_ (fun _ => ?_)
set_option maxHeartbeats 8000000 in
set_option maxRecDepth 100000 in
theorem spec_l3Draw.calls (k : Nat) (g : Nat) (s0_0 : List Int) (s0_1 : Int) (r1 : List Int) (r2 : List Int) (r3 : List Int) (r4 : List Int) (r5 : Int) (w0 w : World) (hI : IsS84 w0 w g s0_0 s0_1) (hB : Below w0.heap.size w0 w) (h : spec_l3Draw.f k s0_0 s0_1 = some (r1, r2, r3, r4, r5)) :
  Calls Try.prog 73 #[.pointer (some ⟨g, 0, none⟩)] w fun e w' => ∃ v0_ v1_ v2_ v3_ : Value, e = .returned (.agg #[v0_, v1_, v2_, v3_]) ∧ Kd.R (Kd.int .i64) 3 w' w.heap.size (fun k_ => some k_ ≠ (v1_ : Value).ownBlock ∧ some k_ ≠ (v2_ : Value).ownBlock ∧ some k_ ≠ (v3_ : Value).ownBlock) v0_ r1 ∧ Kd.R (Kd.int .i64) 3 w' w.heap.size (fun k_ => some k_ ≠ (v0_ : Value).ownBlock ∧ some k_ ≠ (v2_ : Value).ownBlock ∧ some k_ ≠ (v3_ : Value).ownBlock) v1_ r2 ∧ Kd.R (Kd.int .i64) 3 w' w.heap.size (fun k_ => some k_ ≠ (v0_ : Value).ownBlock ∧ some k_ ≠ (v1_ : Value).ownBlock ∧ some k_ ≠ (v3_ : Value).ownBlock) v2_ r3 ∧ Kd.R (Kd.int .i64) 3 w' w.heap.size (fun k_ => some k_ ≠ (v0_ : Value).ownBlock ∧ some k_ ≠ (v1_ : Value).ownBlock ∧ some k_ ≠ (v2_ : Value).ownBlock) v3_ r4 ∧ IsS84 w0 w' g s0_0 r5 ∧ Below w0.heap.size w0 w' ∧ KeepBut w w' g none := by
 have hu30 := Try.underlying30
 have HI0 := am hI
 have HK := am (KeepBut.refl w g none)
 have HL := am hB.size
 clear hI
 have HW0 := am hB.size
 have HB := am hB
 clear hB
 have H : ((spec_l1Draw.f k s0_0 s0_1).bind fun bt692 => ((spec_NewColored.f k bt692.1 bt692.2.1 bt692.2.2.1).bind fun bt702 => ((spec_l13Rd_pick.f k s0_0 bt692.2.2.2 3).bind fun bt716 => (if bt716.1 = 0 then (spec_l3Draw.l0 k 0 s0_0 bt716.2 bt702.1 bt702.2.1 bt702.2.2.1 bt702.2.2.2.1) else ((spec_ShadeRoots.f k bt702.1 bt702.2.1 bt702.2.2.1 bt702.2.2.2.1).bind fun bt721 => ((spec_l13Rd_pick.f k s0_0 bt716.2 4).bind fun bt734 => (spec_l3Draw.l1 k bt734.1 s0_0 bt734.2 bt721.1 bt721.2.1 bt721.2.2.1 bt721.2.2.2.1))))))) = some (r1, r2, r3, r4, r5) := h
 clear h
 replace H := Option.bind_eq_some_iff.mp H
 obtain ⟨⟨t692, t695, t698, t701⟩, A20, H⟩ := H
 replace H : ((spec_NewColored.f k t692 t695 t698).bind fun bt702 => ((spec_l13Rd_pick.f k s0_0 t701 3).bind fun bt716 => (if bt716.1 = 0 then (spec_l3Draw.l0 k 0 s0_0 bt716.2 bt702.1 bt702.2.1 bt702.2.2.1 bt702.2.2.2.1) else ((spec_ShadeRoots.f k bt702.1 bt702.2.1 bt702.2.2.1 bt702.2.2.2.1).bind fun bt721 => ((spec_l13Rd_pick.f k s0_0 bt716.2 4).bind fun bt734 => (spec_l3Draw.l1 k bt734.1 s0_0 bt734.2 bt721.1 bt721.2.1 bt721.2.2.1 bt721.2.2.2.1)))))) = some (r1, r2, r3, r4, r5) := H
 have A2 := am A20
 clear A20
 replace H := Option.bind_eq_some_iff.mp H
 obtain ⟨⟨t702, t705, t708, t711, t714⟩, A30, H⟩ := H
 replace H : ((spec_l13Rd_pick.f k s0_0 t701 3).bind fun bt716 => (if bt716.1 = 0 then (spec_l3Draw.l0 k 0 s0_0 bt716.2 t702 t705 t708 t711) else ((spec_ShadeRoots.f k t702 t705 t708 t711).bind fun bt721 => ((spec_l13Rd_pick.f k s0_0 bt716.2 4).bind fun bt734 => (spec_l3Draw.l1 k bt734.1 s0_0 bt734.2 bt721.1 bt721.2.1 bt721.2.2.1 bt721.2.2.2.1))))) = some (r1, r2, r3, r4, r5) := H
 have A3 := am A30
 clear A30
 replace H := Option.bind_eq_some_iff.mp H
 obtain ⟨⟨t716, t717⟩, A40, H⟩ := H
 replace H : (if t716 = 0 then (spec_l3Draw.l0 k 0 s0_0 t717 t702 t705 t708 t711) else ((spec_ShadeRoots.f k t702 t705 t708 t711).bind fun bt721 => ((spec_l13Rd_pick.f k s0_0 t717 4).bind fun bt734 => (spec_l3Draw.l1 k bt734.1 s0_0 bt734.2 bt721.1 bt721.2.1 bt721.2.2.1 bt721.2.2.2.1)))) = some (r1, r2, r3, r4, r5) := H
 have A4 := am A40
 clear A40
 by_cases c5 : t716 = 0
 ·rw [if_pos c5] at H
  have c5b0 : (t716 == 0) = true := beq_iff_eq.mpr c5
  have c5b1 : (t716 != 0) = false := bne_eq_false_iff_eq.mpr c5
  clear c5
  have H' := am H
  clear H
  go_enter Try.func73, Try.ntmps73
  go_wp2_with (first | ((with_reducible refine gate_dst (N := 2) rfl ?_); refine box_event ?hg (N := 2) ?hd (cs := #[.slice none 0 0, .slice none 0 0, .slice none 0 0, .slice none 0 0]) (t := 30) ?hr ?_; (case hd => rfl); (case hg => rfl); (case hr => first | (go_simp; done) | (go_simp; rfl)); intro gb691 hg w6 hbox hb; replace HB := am (below_step (bs1 (IsS84.ge HI0.out) HB.out) hb); have BK691 := am (hbox); have GW691 := am ((by rw [hg]; exact (keep_size (w := w) (g := g) (row := none) (ks0 HK.out)) : w.heap.size ≤ gb691)); have GE691 := am ((Nat.le_trans HW0.out (by rw [hg]; exact (keep_size (w := w) (g := g) (row := none) (ks0 HK.out)) : w.heap.size ≤ gb691) : w0.heap.size ≤ gb691)); replace HK := am (KeepBut.trans (ks0 HK.out) (KeepBut.of_below hb g none) (.inl rfl)); have NB0_691 := am ((by rw [hg]; exact Nat.ne_of_lt (IsS84.lt (show IsS84 w0 _ g s0_0 s0_1 from by exact is84_0 HI0.out)) : g ≠ gb691)); have NB691_0 := am ((by rw [hg]; exact Nat.ne_of_gt (IsS84.lt (show IsS84 w0 _ g s0_0 s0_1 from by exact is84_0 HI0.out)) : gb691 ≠ g)); replace HI0 := am (IsS84.below (is84_0 HI0.out) hb); clear hb hbox hg) | ((with_reducible refine gate_callee (f := 86) rfl ?_); refine gL (some 9) rfl rfl Try.func86 (by kernel_rfl) rfl #[.pointer (some ⟨g, 0, none⟩)] rfl ?_; (with_reducible refine (spec_l1Draw.calls k g s0_0 s0_1 t692 t695 t698 t701 w0 _ ?side1 ?side2 A2.out).mono ?_); (case side1 => exact is84_1 NB0_691.out HI0.out); (case side2 => exact bs2 (IsS84.ge HI0.out) GE691.out HB.out); rintro e w7 ⟨v693, v696, v699, rfl, ho0, ho1, ho2, hi, hb, hk⟩; refine ⟨_, rfl, ?_⟩; replace BK691 := kb hk BK691 NB691_0; have HO694 := am (Kd.R_lower ho0 (keep_size (w := w) (g := g) (row := none) (ks1 GW691.out HK.out))); have HO697 := am (Kd.R_lower ho1 (keep_size (w := w) (g := g) (row := none) (ks1 GW691.out HK.out))); have HO700 := am (Kd.R_lower ho2 (keep_size (w := w) (g := g) (row := none) (ks1 GW691.out HK.out))); replace HK := am (KeepBut.trans (ks1 GW691.out HK.out) hk (.inl rfl)); replace HB := am (hb); replace HI0 := am (hi); (try clear hb hk hi ho0 ho1 ho2); obtain ⟨Ao8, co8, eo8⟩ := Kd.R_slice HO694.out; subst eo8; obtain ⟨Ao9, co9, eo9⟩ := Kd.R_slice HO697.out; subst eo9; obtain ⟨Ao10, co10, eo10⟩ := Kd.R_slice HO700.out; subst eo10) | ((with_reducible refine gate_callee (f := 45) rfl ?_); refine gL (some 10) rfl rfl Try.func45 (by kernel_rfl) rfl #[.agg #[.slice Ao8 t692.length co8, .slice Ao9 t695.length co9, .slice Ao10 t698.length co10]] rfl ?_; (with_reducible refine (spec_NewColored.calls k _ _ t692 _ _ t695 _ _ t698 t702 t705 t708 t711 t714 _ ?side1 ?side2 ?side3 ?side4 ?side5 ?side6 A3.out).mono ?_); (case side1 => exact cl ((Kd.R_reads' HO694.out).2.2)); (case side2 => exact sc HO694); (case side3 => exact cl ((Kd.R_reads' HO697.out).2.2)); (case side4 => exact sc HO697); (case side5 => exact cl ((Kd.R_reads' HO700.out).2.2)); (case side6 => exact sc HO700); rintro e w11 ⟨v703, v706, v709, v712, rfl, ho0, ho1, ho2, ho3, hb⟩; refine ⟨_, rfl, ?_⟩; have HO704 := am (Kd.R_lower (Kd.R_new' (Kd.R_new' (Kd.R_new' ho0 (Kd.R_lt (rl HO694.out))) (Kd.R_lt (rl HO697.out))) (Kd.R_lt (rl HO700.out))) (keep_size (w := w) (g := g) (row := none) (ks1 GW691.out HK.out))); have HO707 := am (Kd.R_lower (Kd.R_new' (Kd.R_new' (Kd.R_new' ho1 (Kd.R_lt (rl HO694.out))) (Kd.R_lt (rl HO697.out))) (Kd.R_lt (rl HO700.out))) (keep_size (w := w) (g := g) (row := none) (ks1 GW691.out HK.out))); have HO710 := am (Kd.R_lower (Kd.R_new' (Kd.R_new' (Kd.R_new' ho2 (Kd.R_lt (rl HO694.out))) (Kd.R_lt (rl HO697.out))) (Kd.R_lt (rl HO700.out))) (keep_size (w := w) (g := g) (row := none) (ks1 GW691.out HK.out))); have HO713 := am (Kd.R_lower (Kd.R_new' (Kd.R_new' (Kd.R_new' ho3 (Kd.R_lt (rl HO694.out))) (Kd.R_lt (rl HO697.out))) (Kd.R_lt (rl HO700.out))) (keep_size (w := w) (g := g) (row := none) (ks1 GW691.out HK.out))); replace HO694 := td4 (rl HO694.out) hb ho0 ho1 ho2 ho3; replace HO697 := td4 (rl HO697.out) hb ho0 ho1 ho2 ho3; replace HO700 := td4 (rl HO700.out) hb ho0 ho1 ho2 ho3; replace BK691 := bb BK691 hb; replace HK := am (KeepBut.trans (ks1 GW691.out HK.out) (KeepBut.of_below hb g none) (.inl rfl)); replace HB := am (below_step (bs2 (IsS84.ge HI0.out) GE691.out HB.out) hb); replace HI0 := am (IsS84.below (is84_1 NB0_691.out HI0.out) hb); (try clear hb ho0 ho1 ho2 ho3)) | ((with_reducible refine gate_dst (N := 3) rfl ?_); refine box_event ?hg (N := 3) ?hd (cs := #[.slice none 0 0, .slice none 0 0, .slice none 0 0, .slice none 0 0]) (t := 30) ?hr ?_; (case hd => rfl); (case hg => rfl); (case hr => first | (go_simp; done) | (go_simp; rfl)); intro gb715 hg w12 hbox hb; replace HO694 := rb HO694 hb; replace HO697 := rb HO697 hb; replace HO700 := rb HO700 hb; replace HO704 := rb HO704 hb; replace HO707 := rb HO707 hb; replace HO710 := rb HO710 hb; replace HO713 := rb HO713 hb; replace HB := am (below_step (bs2 (IsS84.ge HI0.out) GE691.out HB.out) hb); have BK715 := am (hbox); have GW715 := am ((by rw [hg]; exact (keep_size (w := w) (g := g) (row := none) (ks1 GW691.out HK.out)) : w.heap.size ≤ gb715)); have GE715 := am ((Nat.le_trans HW0.out (by rw [hg]; exact (keep_size (w := w) (g := g) (row := none) (ks1 GW691.out HK.out)) : w.heap.size ≤ gb715) : w0.heap.size ≤ gb715)); replace HK := am (KeepBut.trans (ks1 GW691.out HK.out) (KeepBut.of_below hb g none) (.inl rfl)); have NB691_715 := nb BK691 hg; have NB715_691 := nc BK691 hg; replace BK691 := bb BK691 hb; have NB0_715 := am ((by rw [hg]; exact Nat.ne_of_lt (IsS84.lt (show IsS84 w0 _ g s0_0 t701 from by exact is84_1 NB0_691.out HI0.out)) : g ≠ gb715)); have NB715_0 := am ((by rw [hg]; exact Nat.ne_of_gt (IsS84.lt (show IsS84 w0 _ g s0_0 t701 from by exact is84_1 NB0_691.out HI0.out)) : gb715 ≠ g)); replace HI0 := am (IsS84.below (is84_1 NB0_691.out HI0.out) hb); clear hb hbox hg; obtain ⟨Ao13, co13, eo13⟩ := Kd.R_slice HO704.out; subst eo13; have hnb14 := NB715_691.out; have hnc14 := NB691_715.out; have hnb15 := NB715_0.out; have hnc15 := NB0_715.out; obtain ⟨hcz16_0, hcz16_1, hcz16_2, hcz16_3, hfz16_0, hfz16_1, hfz16_2, hfz16_3⟩ := cf4 BK715; obtain ⟨Ao17, co17, eo17⟩ := Kd.R_slice HO707.out; subst eo17; obtain ⟨Ao18, co18, eo18⟩ := Kd.R_slice HO710.out; subst eo18; obtain ⟨Ao19, co19, eo19⟩ := Kd.R_slice HO713.out; subst eo19) | ((with_reducible refine gate_callee (f := 74) rfl ?_); refine gL (some 14) rfl rfl Try.func74 (by kernel_rfl) rfl #[.pointer (some ⟨g, 0, none⟩), .int .i64 3] rfl ?_; (with_reducible refine (spec_l13Rd_pick.calls k g s0_0 t701 3 t716 t717 w0 _ ?side1 ?side2 A4.out).mono ?_); (case side1 => exact is84_2 NB0_691.out NB0_715.out HI0.out); (case side2 => exact bs3 (IsS84.ge HI0.out) GE691.out GE715.out HB.out); rintro e w20 ⟨rfl, hi, hb, hk⟩; refine ⟨_, rfl, ?_⟩; replace BK691 := am (KeepBut.blk hk (g' := gb691) (o := .cells #[.slice none 0 0, .slice none 0 0, .slice none 0 0, .slice none 0 0] 30 (0, 0)) (kf1 NB691_715.out BK691.out) NB691_0.out (by simp)); replace HO694 := am (Kd.R_mono (Kd.R_keep (IsS84.apart (show IsS84 w0 _ g s0_0 t701 from by exact is84_2 NB0_691.out NB0_715.out HI0.out) (rg BK715 HO694) (by decide)) hk (fun _ h => h.2)) (fun _ h => h.1)); replace HO697 := am (Kd.R_mono (Kd.R_keep (IsS84.apart (show IsS84 w0 _ g s0_0 t701 from by exact is84_2 NB0_691.out NB0_715.out HI0.out) (rg BK715 HO697) (by decide)) hk (fun _ h => h.2)) (fun _ h => h.1)); replace HO700 := am (Kd.R_mono (Kd.R_keep (IsS84.apart (show IsS84 w0 _ g s0_0 t701 from by exact is84_2 NB0_691.out NB0_715.out HI0.out) (rg BK715 HO700) (by decide)) hk (fun _ h => h.2)) (fun _ h => h.1)); replace HO704 := am (Kd.R_mono (Kd.R_keep (IsS84.apart (show IsS84 w0 _ g s0_0 t701 from by exact is84_2 NB0_691.out NB0_715.out HI0.out) (rg BK715 HO704) (by decide)) hk (fun _ h => h.2)) (fun _ h => h.1)); replace HO707 := am (Kd.R_mono (Kd.R_keep (IsS84.apart (show IsS84 w0 _ g s0_0 t701 from by exact is84_2 NB0_691.out NB0_715.out HI0.out) (rg BK715 HO707) (by decide)) hk (fun _ h => h.2)) (fun _ h => h.1)); replace HO710 := am (Kd.R_mono (Kd.R_keep (IsS84.apart (show IsS84 w0 _ g s0_0 t701 from by exact is84_2 NB0_691.out NB0_715.out HI0.out) (rg BK715 HO710) (by decide)) hk (fun _ h => h.2)) (fun _ h => h.1)); replace HO713 := am (Kd.R_mono (Kd.R_keep (IsS84.apart (show IsS84 w0 _ g s0_0 t701 from by exact is84_2 NB0_691.out NB0_715.out HI0.out) (rg BK715 HO713) (by decide)) hk (fun _ h => h.2)) (fun _ h => h.1)); replace BK715 := am (KeepBut.blk hk (g' := gb715) (o := .cells #[.slice Ao13 t702.length co13, .slice Ao17 t705.length co17, .slice Ao18 t708.length co18, .slice Ao19 t711.length co19] 30 (0, 0)) (kp4 (kf0 BK715.out)) NB715_0.out (by simp)); replace HK := am (KeepBut.trans (ks2 GW691.out GW715.out HK.out) hk (.inl rfl)); replace HB := am (hb); replace HI0 := am (hi); (try clear hb hk hi)))
  go_loopg [5] k (fun kq v5 w' => ∃ (x5_1 : Int) (x1001_1 : Int) (x716000_1 : List Int) (x716001_1 : List Int) (x716002_1 : List Int) (x716003_1 : List Int) (u716000 : Value) (u716001 : Value) (u716002 : Value) (u716003 : Value), v5 = .int .i64 x5_1 ∧ Aside0 (spec_l3Draw.l0 kq x5_1 s0_0 x1001_1 x716000_1 x716001_1 x716002_1 x716003_1 = some (r1, r2, r3, r4, r5)) ∧ Aside0 (kq ≤ k) ∧ Aside0 (Kd.R (Kd.int .i64) 3 w' w.heap.size (fun k_ => some k_ ≠ (u716001 : Value).ownBlock ∧ some k_ ≠ (u716002 : Value).ownBlock ∧ some k_ ≠ (u716003 : Value).ownBlock) u716000 x716000_1) ∧ Aside0 (Kd.R (Kd.int .i64) 3 w' w.heap.size (fun k_ => some k_ ≠ (u716000 : Value).ownBlock ∧ some k_ ≠ (u716002 : Value).ownBlock ∧ some k_ ≠ (u716003 : Value).ownBlock) u716001 x716001_1) ∧ Aside0 (Kd.R (Kd.int .i64) 3 w' w.heap.size (fun k_ => some k_ ≠ (u716000 : Value).ownBlock ∧ some k_ ≠ (u716001 : Value).ownBlock ∧ some k_ ≠ (u716003 : Value).ownBlock) u716002 x716002_1) ∧ Aside0 (Kd.R (Kd.int .i64) 3 w' w.heap.size (fun k_ => some k_ ≠ (u716000 : Value).ownBlock ∧ some k_ ≠ (u716001 : Value).ownBlock ∧ some k_ ≠ (u716002 : Value).ownBlock) u716003 x716003_1) ∧ Aside0 (w'.heap[gb691]? = some (.cells #[(.slice none 0 0), (.slice none 0 0), (.slice none 0 0), (.slice none 0 0)] 30 (0, 0))) ∧ Aside0 (w'.heap[gb715]? = some (.cells #[u716000, u716001, u716002, u716003] 30 (0, 0))) ∧ Aside0 (IsS84 w0 w' g s0_0 x1001_1) ∧ Aside0 (KeepBut w w' g none) ∧ Aside0 (Below w0.heap.size w0 w'))
  case atStart => exact ⟨(0), (t717), (t702), (t705), (t708), (t711), (.slice Ao13 t702.length co13), (.slice Ao17 t705.length co17), (.slice Ao18 t708.length co18), (.slice Ao19 t711.length co19), (by first | rfl | (simp; done) | (simp [*]; done)), H', ⟨Nat.le_refl _⟩, ⟨rl (Kd.R_mono HO704.out (fun _ hk => by first | exact ⟨hk.1.1.1.1, ⟨hk.1.1.1.2.1, hk.1.1.1.2.2⟩⟩ | (simp only [ne_eq] at hk ⊢; simp only [hk, not_false_eq_true, and_self])))⟩, ⟨rl (Kd.R_mono HO707.out (fun _ hk => by first | exact ⟨hk.1.1.1.1, ⟨hk.1.1.1.2.1, hk.1.1.1.2.2⟩⟩ | (simp only [ne_eq] at hk ⊢; simp only [hk, not_false_eq_true, and_self])))⟩, ⟨rl (Kd.R_mono HO710.out (fun _ hk => by first | exact ⟨hk.1.1.1.1, ⟨hk.1.1.1.2.1, hk.1.1.1.2.2⟩⟩ | (simp only [ne_eq] at hk ⊢; simp only [hk, not_false_eq_true, and_self])))⟩, ⟨rl (Kd.R_mono HO713.out (fun _ hk => by first | exact ⟨hk.1.1.1.1, ⟨hk.1.1.1.2.1, hk.1.1.1.2.2⟩⟩ | (simp only [ne_eq] at hk ⊢; simp only [hk, not_false_eq_true, and_self])))⟩, ⟨kl BK691.out⟩, ⟨kl BK715.out⟩, ⟨by exact is84_2 NB0_691.out NB0_715.out HI0.out⟩, ⟨by exact ks2 GW691.out GW715.out HK.out⟩, ⟨by exact bs3 (IsS84.ge HI0.out) GE691.out GE715.out HB.out⟩⟩
  case round =>
   clear H'
   try clear c1
   try clear p2
   try clear c4
   try clear c5
   try clear c5b0
   try clear c5b1
   try clear c7
   try clear c8
   try clear c14
   try clear c15
   obtain ⟨x5_1, x1001_1, x716000_1, x716001_1, x716002_1, x716003_1, u716000, u716001, u716002, u716003, rfl, HA, HK1, HO_716000, HO_716001, HO_716002, HO_716003, BK691, BK715, HI0, HK, HB⟩ := hrel
   cases gk with
   | zero => exact absurd HA.out (by simp [spec_l3Draw.l0])
   | succ k1 =>
    have H := HA.out
    clear HA
    simp only [spec_l3Draw.l0] at H
    by_cases c21 : x5_1 < (x716003_1.length : Int)
    ·rw [if_pos c21] at H
     have c21b0 : decide (x5_1 < (x716003_1.length : Int)) = true := decide_eq_true c21
     clear c21
     replace H := Option.bind_eq_some_iff.mp H
     obtain ⟨⟨t718, t719⟩, A220, H⟩ := H
     replace H : (if 0 ≤ x5_1 then (spec_l3Draw.l0 k1 (wrap64 (x5_1 + 1)) s0_0 t719 x716000_1 x716001_1 x716002_1 (x716003_1.set (x5_1 : Int).toNat t718)) else (none)) = some (r1, r2, r3, r4, r5) := H
     have A22 := am A220
     clear A220
     by_cases c23 : 0 ≤ x5_1
     ·rw [if_pos c23] at H
      have c23b0 : decide (0 ≤ x5_1) = true := decide_eq_true c23
      clear c23
      obtain ⟨y720, hy720⟩ : ∃ y_ : List Int, y_ = (x716003_1.set (x5_1 : Int).toNat t718) := ⟨_, rfl⟩
      replace H : (spec_l3Draw.l0 k1 (wrap64 (x5_1 + 1)) s0_0 t719 x716000_1 x716001_1 x716002_1 y720) = some (r1, r2, r3, r4, r5) := by first | (rw [hy720]; with_reducible exact H) | (have H2_ := (Option.bind_some _ _).symm.trans H; rw [hy720]; with_reducible exact H2_) | (have H2_ := (Option.bind_some _ _).symm.trans H; with_reducible exact H2_) | with_reducible exact H | (rw [hy720]; exact H) | exact H
      have Ny720 := am hy720
      clear hy720
      have H' := am H
      clear H
      have hnb25 := NB715_691.out
      have hnc25 := NB691_715.out
      have hnb26 := NB715_0.out
      have hnc26 := NB0_715.out
      obtain ⟨hcz27_0, hcz27_1, hcz27_2, hcz27_3, hfz27_0, hfz27_1, hfz27_2, hfz27_3⟩ := cf4 BK715
      obtain ⟨Ao28, co28, eo28⟩ := Kd.R_slice HO_716003.out
      subst eo28
      try go_wp2
      replace HO_716000 := am (Kd.R_drew HO_716000.out)
      replace HO_716001 := am (Kd.R_drew HO_716001.out)
      replace HO_716002 := am (Kd.R_drew HO_716002.out)
      replace HO_716003 := am (Kd.R_drew HO_716003.out)
      replace BK691 := am (blk_drew BK691.out)
      replace BK715 := am (blk_drew BK715.out)
      replace HI0 := am (IsS84.drew HI0.out)
      replace HK := am (keep_drew HK.out)
      replace HB := am (below_drew1 HB.out)
      refine start_ (n := 7) (S := fun w' => w'.cell? ⟨gb715, 0, none⟩ = some (u716000) ∧ w'.cell? ⟨gb715, 1, none⟩ = some (u716001) ∧ w'.cell? ⟨gb715, 2, none⟩ = some (u716002) ∧ w'.cell? ⟨gb715, 3, none⟩ = some (.slice Ao28 x716003_1.length co28)) (ds := [6]) #[false, false, false, false, false, false, false] (by kernel_rfl) rfl rfl ⟨(blk_cell BK715.out 0).trans rfl, (blk_cell BK715.out 1).trans rfl, (blk_cell BK715.out 2).trans rfl, (blk_cell BK715.out 3).trans rfl⟩ (fun hHeld => ?_)
      generalize wr.drew = w29 at HO_716000 HO_716001 HO_716002 HO_716003 BK691 BK715 HI0 HK HB hHeld ⊢
      refine pure_ (i := 0) (N := some 23) (v := ?_) (a' := ?_) #[true, false, false, false, false, false, false] rfl rfl (by kernel_rfl) (fun _ _ _ h => h) (Or.inl ⟨by rfl, ?_⟩) ?_ ?_
      rotate_left
      ·intro w'
       go_simp
       with_reducible rfl
      rotate_left
      ·simp only [Act.put, List.setIfInBounds_toArray, List.set_cons_zero, List.set_cons_succ, i64_w, i32_w]
       rfl
      refine pure_ (i := 2) (N := some 25) (v := ?_) (a' := ?_) #[true, false, true, false, false, false, false] rfl rfl (by kernel_rfl) (fun _ _ _ h => h) (Or.inl ⟨by rfl, ?_⟩) ?_ ?_
      rotate_left
      ·intro w'
       go_simp
       with_reducible rfl
      rotate_left
      ·simp only [Act.put, List.setIfInBounds_toArray, List.set_cons_zero, List.set_cons_succ, i64_w, i32_w]
       rfl
      refine pure_ (i := 3) (N := some 26) (v := ?_) (a' := ?_) #[true, false, true, true, false, false, false] rfl rfl (by kernel_rfl) (fun _ _ _ h => h) (Or.inl ⟨by rfl, ?_⟩) ?_ ?_
      rotate_left
      ·intro w'
       go_simp
       with_reducible rfl
      rotate_left
      ·simp only [Act.put, List.setIfInBounds_toArray, List.set_cons_zero, List.set_cons_succ, i64_w, i32_w]
       rfl
      refine take_ (i := 1) (N := some 24) (v := ?_) (a' := ?_) #[true, true, true, true, false, false, false] rfl rfl (by kernel_rfl) (fun _ _ _ h => h) (Or.inl ⟨by rfl, ?_⟩) hHeld ?_ ?_
      rotate_left
      ·rintro w' ⟨s0, s1, s2, s3⟩
       go_simp
       with_reducible rfl
      rotate_left
      ·simp only [Act.put, List.setIfInBounds_toArray, List.set_cons_zero, List.set_cons_succ, i64_w, i32_w]
       rfl
      refine one_ (i := 4) (N := some 27) #[true, true, true, true, true, false, false] rfl rfl (by kernel_rfl) (by decide) (fun K hK => ?_)
      refine goes_ Try.func74 (by kernel_rfl) rfl #[.pointer (some ⟨g, 0, none⟩), .int .i64 3] (by rfl) rfl rfl (by (try simp only [List.map_toArray, List.map_cons, List.map_nil]); first | done | rfl | (simp only [List.length_drop, List.length_take]; rfl)) ?_
      with_reducible refine (spec_l13Rd_pick.calls k1 g s0_0 x1001_1 3 t718 t719 w0 _ ?side1 ?side2 A22.out).mono ?_
      (case side1 => exact is84_2 NB0_691.out NB0_715.out HI0.out)
      (case side2 => exact bs3 (IsS84.ge HI0.out) GE691.out GE715.out HB.out)
      rintro e w30 ⟨rfl, hi, hb, hk⟩
      refine ⟨_, rfl, ?_⟩
      replace HO_716000 := am (Kd.R_mono (Kd.R_keep (IsS84.apart (show IsS84 w0 _ g s0_0 x1001_1 from by exact is84_2 NB0_691.out NB0_715.out HI0.out) (rl HO_716000.out) (by decide)) hk (fun _ h => h.2)) (fun _ h => h.1))
      replace HO_716001 := am (Kd.R_mono (Kd.R_keep (IsS84.apart (show IsS84 w0 _ g s0_0 x1001_1 from by exact is84_2 NB0_691.out NB0_715.out HI0.out) (rl HO_716001.out) (by decide)) hk (fun _ h => h.2)) (fun _ h => h.1))
      replace HO_716002 := am (Kd.R_mono (Kd.R_keep (IsS84.apart (show IsS84 w0 _ g s0_0 x1001_1 from by exact is84_2 NB0_691.out NB0_715.out HI0.out) (rl HO_716002.out) (by decide)) hk (fun _ h => h.2)) (fun _ h => h.1))
      replace HO_716003 := am (Kd.R_mono (Kd.R_keep (IsS84.apart (show IsS84 w0 _ g s0_0 x1001_1 from by exact is84_2 NB0_691.out NB0_715.out HI0.out) (rl HO_716003.out) (by decide)) hk (fun _ h => h.2)) (fun _ h => h.1))
      replace BK691 := kb hk BK691 NB691_0
      replace BK715 := kb hk BK715 NB715_0
      replace HK := am (KeepBut.trans (ks2 GW691.out GW715.out HK.out) hk (.inl rfl))
      replace HB := am (hb)
      replace HI0 := am (hi)
      (try clear hb hk hi)
      have p24 : 0 ≤ (x5_1 : Int) := of_decide_eq_true (by first | (with_reducible assumption) | assumption)
      have q24 : (x5_1 : Int) < ((x716003_1.length : Int) : Int) := of_decide_eq_true (by first | (with_reducible assumption) | assumption)
      obtain ⟨go24, co24, eo24, gb24, gl24, cl24, HG24⟩ := Kd.R_form HO_716003.out (by first | omega | (have hz_ := (Kd.R_reads' HO_716003.out).1; omega))
      (first | cases eo24 | (injection eo24 with ea_ en_ ec_; (first | subst ea_ | (injection ea_ with ea_; subst ea_)); subst ec_; clear en_))
      have GB24 := am gb24
      have GG24 := am HG24
      clear gb24 gl24 HG24
      obtain ⟨hx24_0, hf24_0⟩ := Kd.R_celln 0 HO_716003.out (x5_1 : Int) p24 q24
      replace p24 := eq_true p24
      replace q24 := eq_true q24
      have HN0_go24 := am (show g ≠ go24 from by have h_ := IsS84.own_ne HI0.out HO_716003.out (by decide); intro e_; exact h_ (by rw [e_]; rfl))
      have HP31 := Kd.R_putn HO_716003.out (x5_1 : Int) t718
      rw [← Ny720.out] at HP31
      have HQ31 := am HP31
      clear HP31
      refine hK.out _ _ ⟨(blk_cell BK715.out 0).trans rfl, (blk_cell BK715.out 1).trans rfl, (blk_cell BK715.out 2).trans rfl, (blk_cell BK715.out 3).trans rfl⟩ (fun hHeld => ?_)
      clear hK K
      refine norm_ (a' := ?_) ?_ ?_
      rotate_left
      ·show Act.put _ (some 27) _ = _
       simp only [Act.put, List.setIfInBounds_toArray, List.set_cons_zero, List.set_cons_succ, i64_w, i32_w]
       rfl
      refine pure_ (i := 5) (N := some 28) (v := ?_) (a' := ?_) #[true, true, true, true, true, true, false] rfl rfl (by kernel_rfl) (fun _ _ _ h => h) (Or.inl ⟨by rfl, ?_⟩) ?_ ?_
      rotate_left
      ·intro w'
       go_simp
       with_reducible rfl
      rotate_left
      ·simp only [Act.put, List.setIfInBounds_toArray, List.set_cons_zero, List.set_cons_succ, i64_w, i32_w]
       rfl
      refine last_ (i := 6) (N := none) #[true, true, true, true, true, true, true] rfl rfl (by kernel_rfl) (by decide) (fun K hK => ?_)
      refine skip_ (w1 := ?_) (by rfl) rfl ?_ ?_
      rotate_left
      ·go_simp
       rfl
      refine hK.out _ _ ?_
      clear hK K
      refine done_ (by kernel_rfl) ?_
      try go_wp2
      go_roundg k1
      case measure => have := HK1.out; omega
      case rel => exact ⟨(wrap64 (x5_1 + 1)), (t719), (x716000_1), (x716001_1), (x716002_1), (y720), (u716000), (u716001), (u716002), (.slice (some ⟨go24, 0, none⟩) x716003_1.length co28), (by first | rfl | (simp; done) | (simp [*]; done)), H', ⟨by have := HK1.out; omega⟩, ⟨rl (Kd.R_mono (Kd.R_far (p := ⟨go24, (x5_1 : Int).toNat, none⟩) (Kd.R_mono HO_716000.out (fun k_ hk => (⟨hk, fun e_ => hk.2.2 (by rw [e_]; rfl)⟩ : _ ∧ k_ ≠ go24))) (fun _ hk => hk.2) (.int .i64 t718)) (fun _ hk => by first | exact ⟨hk.1.1, ⟨hk.1.2.1, hk.1.2.2⟩⟩ | (simp only [ne_eq] at hk ⊢; simp only [hk, not_false_eq_true, and_self])))⟩, ⟨rl (Kd.R_mono (Kd.R_far (p := ⟨go24, (x5_1 : Int).toNat, none⟩) (Kd.R_mono HO_716001.out (fun k_ hk => (⟨hk, fun e_ => hk.2.2 (by rw [e_]; rfl)⟩ : _ ∧ k_ ≠ go24))) (fun _ hk => hk.2) (.int .i64 t718)) (fun _ hk => by first | exact ⟨hk.1.1, ⟨hk.1.2.1, hk.1.2.2⟩⟩ | (simp only [ne_eq] at hk ⊢; simp only [hk, not_false_eq_true, and_self])))⟩, ⟨rl (Kd.R_mono (Kd.R_far (p := ⟨go24, (x5_1 : Int).toNat, none⟩) (Kd.R_mono HO_716002.out (fun k_ hk => (⟨hk, fun e_ => hk.2.2 (by rw [e_]; rfl)⟩ : _ ∧ k_ ≠ go24))) (fun _ hk => hk.2) (.int .i64 t718)) (fun _ hk => by first | exact ⟨hk.1.1, ⟨hk.1.2.1, hk.1.2.2⟩⟩ | (simp only [ne_eq] at hk ⊢; simp only [hk, not_false_eq_true, and_self])))⟩, ⟨rl HQ31.out⟩, ⟨by (with_reducible repeat (first | refine blk_drewN ?_ _ | refine blk_drew ?_ | refine blk_alloc ?_ _)); refine blk_far ?_ (by have h_ := Kd.R_ne HO_716003.out BK691.out (by decide); intro e_; exact h_ (by rw [e_]; rfl)) _; (with_reducible repeat (first | refine blk_drewN ?_ _ | refine blk_drew ?_ | refine blk_alloc ?_ _)); exact BK691.out⟩, ⟨by (with_reducible repeat (first | refine blk_drewN ?_ _ | refine blk_drew ?_ | refine blk_alloc ?_ _)); refine blk_far ?_ (by have h_ := Kd.R_ne HO_716003.out BK715.out (by decide); intro e_; exact h_ (by rw [e_]; rfl)) _; (with_reducible repeat (first | refine blk_drewN ?_ _ | refine blk_drew ?_ | refine blk_alloc ?_ _)); exact BK715.out⟩, ⟨by exact is84_3 HN0_go24.out NB0_691.out NB0_715.out HI0.out⟩, ⟨by exact ks3 GB24.out GW691.out GW715.out HK.out⟩, ⟨by repeat (first | (with_reducible first | exact HB.out | apply below_alloc | apply pw_below_drewN | apply below_drew1 | refine below_set ?_ (Nat.le_trans HL.out GB24.out) | refine below_set ?_ (IsS84.ge HI0.out) | refine below_set ?_ GE691.out | refine below_set ?_ GE715.out) | exact HB.out)⟩⟩
     ·rw [if_neg c23] at H
      exact absurd H (by simp)
    ·rw [if_neg c21] at H
     have c21b0 : decide (x5_1 < (x716003_1.length : Int)) = false := decide_eq_false c21
     clear c21
     simp only [Option.some.injEq, Prod.mk.injEq] at H
     obtain ⟨rfl, rfl, rfl, rfl, rfl⟩ := H
     have hnb32 := NB715_691.out
     have hnc32 := NB691_715.out
     have hnb33 := NB715_0.out
     have hnc33 := NB0_715.out
     obtain ⟨hcz34_0, hcz34_1, hcz34_2, hcz34_3, hfz34_0, hfz34_1, hfz34_2, hfz34_3⟩ := cf4 BK715
     obtain ⟨Ao35, co35, eo35⟩ := Kd.R_slice HO_716003.out
     subst eo35
     obtain ⟨Ao36, co36, eo36⟩ := Kd.R_slice HO_716000.out
     subst eo36
     have hnb37 := NB691_0.out
     have hnc37 := NB0_691.out
     obtain ⟨hcz38_0, hcz38_1, hcz38_2, hcz38_3, hfz38_0, hfz38_1, hfz38_2, hfz38_3⟩ := cf4 BK691
     obtain ⟨Ao39, co39, eo39⟩ := Kd.R_slice HO_716001.out
     subst eo39
     obtain ⟨Ao40, co40, eo40⟩ := Kd.R_slice HO_716002.out
     subst eo40
     go_wp2
     refine bodyPost_ret (results_cell_row rfl _ _ gb691 30 #[.slice Ao36 x716000_1.length co36, .slice Ao39 x716001_1.length co39, .slice Ao40 x716002_1.length co40, .slice Ao35 x716003_1.length co35] (0, 0) _ rfl (kp4 (kf0 BK691.out)) Try.underlying30 rfl (by kernel_rfl)) rfl ?_
     exact ⟨_, _, _, _, by first | rfl | (simp [errW_none, errW_some] <;> rfl) | (simp [*, errW_none, errW_some] <;> rfl), by exact ro (rg BK691 HO_716000), by exact ro (rg BK691 HO_716001), by exact ro (rg BK691 HO_716002), by exact ro (rg BK691 HO_716003), by exact is84_2 NB0_691.out NB0_715.out HI0.out, by exact bs3 (IsS84.ge HI0.out) GE691.out GE715.out HB.out, by exact ks2 GW691.out GW715.out HK.out⟩
 ·rw [if_neg c5] at H
  have c5b0 : (t716 == 0) = false := beq_eq_false_iff_ne.mpr c5
  have c5b1 : (t716 != 0) = true := bne_iff_ne.mpr c5
  replace H := Option.bind_eq_some_iff.mp H
  obtain ⟨⟨t721, t724, t727, t730, t733⟩, A410, H⟩ := H
  replace H : ((spec_l13Rd_pick.f k s0_0 t717 4).bind fun bt734 => (spec_l3Draw.l1 k bt734.1 s0_0 bt734.2 t721 t724 t727 t730)) = some (r1, r2, r3, r4, r5) := H
  have A41 := am A410
  clear A410
  replace H := Option.bind_eq_some_iff.mp H
  obtain ⟨⟨t734, t735⟩, A420, H⟩ := H
  replace H : (spec_l3Draw.l1 k t734 s0_0 t735 t721 t724 t727 t730) = some (r1, r2, r3, r4, r5) := H
  have A42 := am A420
  clear A420
  have H' := am H
  clear H
  go_enter Try.func73, Try.ntmps73
  go_wp2_with (first | ((with_reducible refine gate_dst (N := 2) rfl ?_); refine box_event ?hg (N := 2) ?hd (cs := #[.slice none 0 0, .slice none 0 0, .slice none 0 0, .slice none 0 0]) (t := 30) ?hr ?_; (case hd => rfl); (case hg => rfl); (case hr => first | (go_simp; done) | (go_simp; rfl)); intro gb691 hg w43 hbox hb; replace HB := am (below_step (bs1 (IsS84.ge HI0.out) HB.out) hb); have BK691 := am (hbox); have GW691 := am ((by rw [hg]; exact (keep_size (w := w) (g := g) (row := none) (ks0 HK.out)) : w.heap.size ≤ gb691)); have GE691 := am ((Nat.le_trans HW0.out (by rw [hg]; exact (keep_size (w := w) (g := g) (row := none) (ks0 HK.out)) : w.heap.size ≤ gb691) : w0.heap.size ≤ gb691)); replace HK := am (KeepBut.trans (ks0 HK.out) (KeepBut.of_below hb g none) (.inl rfl)); have NB0_691 := am ((by rw [hg]; exact Nat.ne_of_lt (IsS84.lt (show IsS84 w0 _ g s0_0 s0_1 from by exact is84_0 HI0.out)) : g ≠ gb691)); have NB691_0 := am ((by rw [hg]; exact Nat.ne_of_gt (IsS84.lt (show IsS84 w0 _ g s0_0 s0_1 from by exact is84_0 HI0.out)) : gb691 ≠ g)); replace HI0 := am (IsS84.below (is84_0 HI0.out) hb); clear hb hbox hg) | ((with_reducible refine gate_callee (f := 86) rfl ?_); refine gL (some 9) rfl rfl Try.func86 (by kernel_rfl) rfl #[.pointer (some ⟨g, 0, none⟩)] rfl ?_; (with_reducible refine (spec_l1Draw.calls k g s0_0 s0_1 t692 t695 t698 t701 w0 _ ?side1 ?side2 A2.out).mono ?_); (case side1 => exact is84_1 NB0_691.out HI0.out); (case side2 => exact bs2 (IsS84.ge HI0.out) GE691.out HB.out); rintro e w44 ⟨v693, v696, v699, rfl, ho0, ho1, ho2, hi, hb, hk⟩; refine ⟨_, rfl, ?_⟩; replace BK691 := kb hk BK691 NB691_0; have HO694 := am (Kd.R_lower ho0 (keep_size (w := w) (g := g) (row := none) (ks1 GW691.out HK.out))); have HO697 := am (Kd.R_lower ho1 (keep_size (w := w) (g := g) (row := none) (ks1 GW691.out HK.out))); have HO700 := am (Kd.R_lower ho2 (keep_size (w := w) (g := g) (row := none) (ks1 GW691.out HK.out))); replace HK := am (KeepBut.trans (ks1 GW691.out HK.out) hk (.inl rfl)); replace HB := am (hb); replace HI0 := am (hi); (try clear hb hk hi ho0 ho1 ho2); obtain ⟨Ao45, co45, eo45⟩ := Kd.R_slice HO694.out; subst eo45; obtain ⟨Ao46, co46, eo46⟩ := Kd.R_slice HO697.out; subst eo46; obtain ⟨Ao47, co47, eo47⟩ := Kd.R_slice HO700.out; subst eo47) | ((with_reducible refine gate_callee (f := 45) rfl ?_); refine gL (some 10) rfl rfl Try.func45 (by kernel_rfl) rfl #[.agg #[.slice Ao45 t692.length co45, .slice Ao46 t695.length co46, .slice Ao47 t698.length co47]] rfl ?_; (with_reducible refine (spec_NewColored.calls k _ _ t692 _ _ t695 _ _ t698 t702 t705 t708 t711 t714 _ ?side1 ?side2 ?side3 ?side4 ?side5 ?side6 A3.out).mono ?_); (case side1 => exact cl ((Kd.R_reads' HO694.out).2.2)); (case side2 => exact sc HO694); (case side3 => exact cl ((Kd.R_reads' HO697.out).2.2)); (case side4 => exact sc HO697); (case side5 => exact cl ((Kd.R_reads' HO700.out).2.2)); (case side6 => exact sc HO700); rintro e w48 ⟨v703, v706, v709, v712, rfl, ho0, ho1, ho2, ho3, hb⟩; refine ⟨_, rfl, ?_⟩; have HO704 := am (Kd.R_lower (Kd.R_new' (Kd.R_new' (Kd.R_new' ho0 (Kd.R_lt (rl HO694.out))) (Kd.R_lt (rl HO697.out))) (Kd.R_lt (rl HO700.out))) (keep_size (w := w) (g := g) (row := none) (ks1 GW691.out HK.out))); have HO707 := am (Kd.R_lower (Kd.R_new' (Kd.R_new' (Kd.R_new' ho1 (Kd.R_lt (rl HO694.out))) (Kd.R_lt (rl HO697.out))) (Kd.R_lt (rl HO700.out))) (keep_size (w := w) (g := g) (row := none) (ks1 GW691.out HK.out))); have HO710 := am (Kd.R_lower (Kd.R_new' (Kd.R_new' (Kd.R_new' ho2 (Kd.R_lt (rl HO694.out))) (Kd.R_lt (rl HO697.out))) (Kd.R_lt (rl HO700.out))) (keep_size (w := w) (g := g) (row := none) (ks1 GW691.out HK.out))); have HO713 := am (Kd.R_lower (Kd.R_new' (Kd.R_new' (Kd.R_new' ho3 (Kd.R_lt (rl HO694.out))) (Kd.R_lt (rl HO697.out))) (Kd.R_lt (rl HO700.out))) (keep_size (w := w) (g := g) (row := none) (ks1 GW691.out HK.out))); replace HO694 := td4 (rl HO694.out) hb ho0 ho1 ho2 ho3; replace HO697 := td4 (rl HO697.out) hb ho0 ho1 ho2 ho3; replace HO700 := td4 (rl HO700.out) hb ho0 ho1 ho2 ho3; replace BK691 := bb BK691 hb; replace HK := am (KeepBut.trans (ks1 GW691.out HK.out) (KeepBut.of_below hb g none) (.inl rfl)); replace HB := am (below_step (bs2 (IsS84.ge HI0.out) GE691.out HB.out) hb); replace HI0 := am (IsS84.below (is84_1 NB0_691.out HI0.out) hb); (try clear hb ho0 ho1 ho2 ho3)) | ((with_reducible refine gate_dst (N := 3) rfl ?_); refine box_event ?hg (N := 3) ?hd (cs := #[.slice none 0 0, .slice none 0 0, .slice none 0 0, .slice none 0 0]) (t := 30) ?hr ?_; (case hd => rfl); (case hg => rfl); (case hr => first | (go_simp; done) | (go_simp; rfl)); intro gb715 hg w49 hbox hb; replace HO694 := rb HO694 hb; replace HO697 := rb HO697 hb; replace HO700 := rb HO700 hb; replace HO704 := rb HO704 hb; replace HO707 := rb HO707 hb; replace HO710 := rb HO710 hb; replace HO713 := rb HO713 hb; replace HB := am (below_step (bs2 (IsS84.ge HI0.out) GE691.out HB.out) hb); have BK715 := am (hbox); have GW715 := am ((by rw [hg]; exact (keep_size (w := w) (g := g) (row := none) (ks1 GW691.out HK.out)) : w.heap.size ≤ gb715)); have GE715 := am ((Nat.le_trans HW0.out (by rw [hg]; exact (keep_size (w := w) (g := g) (row := none) (ks1 GW691.out HK.out)) : w.heap.size ≤ gb715) : w0.heap.size ≤ gb715)); replace HK := am (KeepBut.trans (ks1 GW691.out HK.out) (KeepBut.of_below hb g none) (.inl rfl)); have NB691_715 := nb BK691 hg; have NB715_691 := nc BK691 hg; replace BK691 := bb BK691 hb; have NB0_715 := am ((by rw [hg]; exact Nat.ne_of_lt (IsS84.lt (show IsS84 w0 _ g s0_0 t701 from by exact is84_1 NB0_691.out HI0.out)) : g ≠ gb715)); have NB715_0 := am ((by rw [hg]; exact Nat.ne_of_gt (IsS84.lt (show IsS84 w0 _ g s0_0 t701 from by exact is84_1 NB0_691.out HI0.out)) : gb715 ≠ g)); replace HI0 := am (IsS84.below (is84_1 NB0_691.out HI0.out) hb); clear hb hbox hg; obtain ⟨Ao50, co50, eo50⟩ := Kd.R_slice HO704.out; subst eo50; have hnb51 := NB715_691.out; have hnc51 := NB691_715.out; have hnb52 := NB715_0.out; have hnc52 := NB0_715.out; obtain ⟨hcz53_0, hcz53_1, hcz53_2, hcz53_3, hfz53_0, hfz53_1, hfz53_2, hfz53_3⟩ := cf4 BK715; obtain ⟨Ao54, co54, eo54⟩ := Kd.R_slice HO707.out; subst eo54; obtain ⟨Ao55, co55, eo55⟩ := Kd.R_slice HO710.out; subst eo55; obtain ⟨Ao56, co56, eo56⟩ := Kd.R_slice HO713.out; subst eo56) | ((with_reducible refine gate_callee (f := 74) rfl ?_); refine gL (some 14) rfl rfl Try.func74 (by kernel_rfl) rfl #[.pointer (some ⟨g, 0, none⟩), .int .i64 3] rfl ?_; (with_reducible refine (spec_l13Rd_pick.calls k g s0_0 t701 3 t716 t717 w0 _ ?side1 ?side2 A4.out).mono ?_); (case side1 => exact is84_2 NB0_691.out NB0_715.out HI0.out); (case side2 => exact bs3 (IsS84.ge HI0.out) GE691.out GE715.out HB.out); rintro e w57 ⟨rfl, hi, hb, hk⟩; refine ⟨_, rfl, ?_⟩; replace BK691 := am (KeepBut.blk hk (g' := gb691) (o := .cells #[.slice none 0 0, .slice none 0 0, .slice none 0 0, .slice none 0 0] 30 (0, 0)) (kf1 NB691_715.out BK691.out) NB691_0.out (by simp)); replace HO694 := am (Kd.R_mono (Kd.R_keep (IsS84.apart (show IsS84 w0 _ g s0_0 t701 from by exact is84_2 NB0_691.out NB0_715.out HI0.out) (rg BK715 HO694) (by decide)) hk (fun _ h => h.2)) (fun _ h => h.1)); replace HO697 := am (Kd.R_mono (Kd.R_keep (IsS84.apart (show IsS84 w0 _ g s0_0 t701 from by exact is84_2 NB0_691.out NB0_715.out HI0.out) (rg BK715 HO697) (by decide)) hk (fun _ h => h.2)) (fun _ h => h.1)); replace HO700 := am (Kd.R_mono (Kd.R_keep (IsS84.apart (show IsS84 w0 _ g s0_0 t701 from by exact is84_2 NB0_691.out NB0_715.out HI0.out) (rg BK715 HO700) (by decide)) hk (fun _ h => h.2)) (fun _ h => h.1)); replace HO704 := am (Kd.R_mono (Kd.R_keep (IsS84.apart (show IsS84 w0 _ g s0_0 t701 from by exact is84_2 NB0_691.out NB0_715.out HI0.out) (rg BK715 HO704) (by decide)) hk (fun _ h => h.2)) (fun _ h => h.1)); replace HO707 := am (Kd.R_mono (Kd.R_keep (IsS84.apart (show IsS84 w0 _ g s0_0 t701 from by exact is84_2 NB0_691.out NB0_715.out HI0.out) (rg BK715 HO707) (by decide)) hk (fun _ h => h.2)) (fun _ h => h.1)); replace HO710 := am (Kd.R_mono (Kd.R_keep (IsS84.apart (show IsS84 w0 _ g s0_0 t701 from by exact is84_2 NB0_691.out NB0_715.out HI0.out) (rg BK715 HO710) (by decide)) hk (fun _ h => h.2)) (fun _ h => h.1)); replace HO713 := am (Kd.R_mono (Kd.R_keep (IsS84.apart (show IsS84 w0 _ g s0_0 t701 from by exact is84_2 NB0_691.out NB0_715.out HI0.out) (rg BK715 HO713) (by decide)) hk (fun _ h => h.2)) (fun _ h => h.1)); replace BK715 := am (KeepBut.blk hk (g' := gb715) (o := .cells #[.slice Ao50 t702.length co50, .slice Ao54 t705.length co54, .slice Ao55 t708.length co55, .slice Ao56 t711.length co56] 30 (0, 0)) (kp4 (kf0 BK715.out)) NB715_0.out (by simp)); replace HK := am (KeepBut.trans (ks2 GW691.out GW715.out HK.out) hk (.inl rfl)); replace HB := am (hb); replace HI0 := am (hi); (try clear hb hk hi); obtain ⟨hcz58_0, hcz58_1, hcz58_2, hcz58_3, hfz58_0, hfz58_1, hfz58_2, hfz58_3⟩ := cf4 BK715) | ((with_reducible refine gate_callee (f := 24) rfl ?_); refine gL (some 32) rfl rfl Try.func24 (by kernel_rfl) rfl #[.agg #[.slice Ao50 t702.length co50, .slice Ao54 t705.length co54, .slice Ao55 t708.length co55, .slice Ao56 t711.length co56]] rfl ?_; (with_reducible refine (spec_ShadeRoots.calls k _ _ t702 _ _ t705 _ _ t708 _ _ t711 t721 t724 t727 t730 t733 _ ?side1 ?side2 ?side3 ?side4 ?side5 ?side6 ?side7 ?side8 A41.out).mono ?_); (case side1 => exact cl ((Kd.R_reads' HO704.out).2.2)); (case side2 => exact sc HO704); (case side3 => exact cl ((Kd.R_reads' HO707.out).2.2)); (case side4 => exact sc HO707); (case side5 => exact cl ((Kd.R_reads' HO710.out).2.2)); (case side6 => exact sc HO710); (case side7 => exact cl ((Kd.R_reads' HO713.out).2.2)); (case side8 => exact sc HO713); rintro e w59 ⟨v722, v725, v728, v731, rfl, ho0, ho1, ho2, ho3, hb⟩; refine ⟨_, rfl, ?_⟩; have HO723 := am (Kd.R_lower (Kd.R_new' (Kd.R_new' (Kd.R_new' (Kd.R_new' (Kd.R_new' (Kd.R_new' (Kd.R_new' ho0 (Kd.R_lt (rl HO694.out))) (Kd.R_lt (rl HO697.out))) (Kd.R_lt (rl HO700.out))) (Kd.R_lt (rl HO704.out))) (Kd.R_lt (rl HO707.out))) (Kd.R_lt (rl HO710.out))) (Kd.R_lt (rl HO713.out))) (keep_size (w := w) (g := g) (row := none) (ks2 GW691.out GW715.out HK.out))); have HO726 := am (Kd.R_lower (Kd.R_new' (Kd.R_new' (Kd.R_new' (Kd.R_new' (Kd.R_new' (Kd.R_new' (Kd.R_new' ho1 (Kd.R_lt (rl HO694.out))) (Kd.R_lt (rl HO697.out))) (Kd.R_lt (rl HO700.out))) (Kd.R_lt (rl HO704.out))) (Kd.R_lt (rl HO707.out))) (Kd.R_lt (rl HO710.out))) (Kd.R_lt (rl HO713.out))) (keep_size (w := w) (g := g) (row := none) (ks2 GW691.out GW715.out HK.out))); have HO729 := am (Kd.R_lower (Kd.R_new' (Kd.R_new' (Kd.R_new' (Kd.R_new' (Kd.R_new' (Kd.R_new' (Kd.R_new' ho2 (Kd.R_lt (rl HO694.out))) (Kd.R_lt (rl HO697.out))) (Kd.R_lt (rl HO700.out))) (Kd.R_lt (rl HO704.out))) (Kd.R_lt (rl HO707.out))) (Kd.R_lt (rl HO710.out))) (Kd.R_lt (rl HO713.out))) (keep_size (w := w) (g := g) (row := none) (ks2 GW691.out GW715.out HK.out))); have HO732 := am (Kd.R_lower (Kd.R_new' (Kd.R_new' (Kd.R_new' (Kd.R_new' (Kd.R_new' (Kd.R_new' (Kd.R_new' ho3 (Kd.R_lt (rl HO694.out))) (Kd.R_lt (rl HO697.out))) (Kd.R_lt (rl HO700.out))) (Kd.R_lt (rl HO704.out))) (Kd.R_lt (rl HO707.out))) (Kd.R_lt (rl HO710.out))) (Kd.R_lt (rl HO713.out))) (keep_size (w := w) (g := g) (row := none) (ks2 GW691.out GW715.out HK.out))); replace HO694 := td4 (rl HO694.out) hb ho0 ho1 ho2 ho3; replace HO697 := td4 (rl HO697.out) hb ho0 ho1 ho2 ho3; replace HO700 := td4 (rl HO700.out) hb ho0 ho1 ho2 ho3; replace HO704 := td4 (rl HO704.out) hb ho0 ho1 ho2 ho3; replace HO707 := td4 (rl HO707.out) hb ho0 ho1 ho2 ho3; replace HO710 := td4 (rl HO710.out) hb ho0 ho1 ho2 ho3; replace HO713 := td4 (rl HO713.out) hb ho0 ho1 ho2 ho3; replace BK691 := bb BK691 hb; replace BK715 := bb BK715 hb; replace HK := am (KeepBut.trans (ks2 GW691.out GW715.out HK.out) (KeepBut.of_below hb g none) (.inl rfl)); replace HB := am (below_step (bs3 (IsS84.ge HI0.out) GE691.out GE715.out HB.out) hb); replace HI0 := am (IsS84.below (is84_2 NB0_691.out NB0_715.out HI0.out) hb); (try clear hb ho0 ho1 ho2 ho3); obtain ⟨Ao60, co60, eo60⟩ := Kd.R_slice HO723.out; subst eo60; obtain ⟨hcz61_0, hcz61_1, hcz61_2, hcz61_3, hfz61_0, hfz61_1, hfz61_2, hfz61_3⟩ := cf4 BK715; obtain ⟨Ao62, co62, eo62⟩ := Kd.R_slice HO726.out; subst eo62; obtain ⟨Ao63, co63, eo63⟩ := Kd.R_slice HO729.out; subst eo63; obtain ⟨Ao64, co64, eo64⟩ := Kd.R_slice HO732.out; subst eo64) | ((with_reducible refine gate_callee (f := 74) rfl ?_); refine gL (some 36) rfl rfl Try.func74 (by kernel_rfl) rfl #[.pointer (some ⟨g, 0, none⟩), .int .i64 4] rfl ?_; (with_reducible refine (spec_l13Rd_pick.calls k g s0_0 t717 4 t734 t735 w0 _ ?side1 ?side2 A42.out).mono ?_); (case side1 => exact is84_2 NB0_691.out NB0_715.out HI0.out); (case side2 => exact bs3 (IsS84.ge HI0.out) GE691.out GE715.out HB.out); rintro e w65 ⟨rfl, hi, hb, hk⟩; refine ⟨_, rfl, ?_⟩; replace BK691 := am (KeepBut.blk hk (g' := gb691) (o := .cells #[.slice none 0 0, .slice none 0 0, .slice none 0 0, .slice none 0 0] 30 (0, 0)) (kf1 NB691_715.out BK691.out) NB691_0.out (by simp)); replace HO694 := am (Kd.R_mono (Kd.R_keep (IsS84.apart (show IsS84 w0 _ g s0_0 t717 from by exact is84_2 NB0_691.out NB0_715.out HI0.out) (rg BK715 HO694) (by decide)) hk (fun _ h => h.2)) (fun _ h => h.1)); replace HO697 := am (Kd.R_mono (Kd.R_keep (IsS84.apart (show IsS84 w0 _ g s0_0 t717 from by exact is84_2 NB0_691.out NB0_715.out HI0.out) (rg BK715 HO697) (by decide)) hk (fun _ h => h.2)) (fun _ h => h.1)); replace HO700 := am (Kd.R_mono (Kd.R_keep (IsS84.apart (show IsS84 w0 _ g s0_0 t717 from by exact is84_2 NB0_691.out NB0_715.out HI0.out) (rg BK715 HO700) (by decide)) hk (fun _ h => h.2)) (fun _ h => h.1)); replace HO704 := am (Kd.R_mono (Kd.R_keep (IsS84.apart (show IsS84 w0 _ g s0_0 t717 from by exact is84_2 NB0_691.out NB0_715.out HI0.out) (rg BK715 HO704) (by decide)) hk (fun _ h => h.2)) (fun _ h => h.1)); replace HO707 := am (Kd.R_mono (Kd.R_keep (IsS84.apart (show IsS84 w0 _ g s0_0 t717 from by exact is84_2 NB0_691.out NB0_715.out HI0.out) (rg BK715 HO707) (by decide)) hk (fun _ h => h.2)) (fun _ h => h.1)); replace HO710 := am (Kd.R_mono (Kd.R_keep (IsS84.apart (show IsS84 w0 _ g s0_0 t717 from by exact is84_2 NB0_691.out NB0_715.out HI0.out) (rg BK715 HO710) (by decide)) hk (fun _ h => h.2)) (fun _ h => h.1)); replace HO713 := am (Kd.R_mono (Kd.R_keep (IsS84.apart (show IsS84 w0 _ g s0_0 t717 from by exact is84_2 NB0_691.out NB0_715.out HI0.out) (rg BK715 HO713) (by decide)) hk (fun _ h => h.2)) (fun _ h => h.1)); replace HO723 := am (Kd.R_mono (Kd.R_keep (IsS84.apart (show IsS84 w0 _ g s0_0 t717 from by exact is84_2 NB0_691.out NB0_715.out HI0.out) (rg BK715 HO723) (by decide)) hk (fun _ h => h.2)) (fun _ h => h.1)); replace HO726 := am (Kd.R_mono (Kd.R_keep (IsS84.apart (show IsS84 w0 _ g s0_0 t717 from by exact is84_2 NB0_691.out NB0_715.out HI0.out) (rg BK715 HO726) (by decide)) hk (fun _ h => h.2)) (fun _ h => h.1)); replace HO729 := am (Kd.R_mono (Kd.R_keep (IsS84.apart (show IsS84 w0 _ g s0_0 t717 from by exact is84_2 NB0_691.out NB0_715.out HI0.out) (rg BK715 HO729) (by decide)) hk (fun _ h => h.2)) (fun _ h => h.1)); replace HO732 := am (Kd.R_mono (Kd.R_keep (IsS84.apart (show IsS84 w0 _ g s0_0 t717 from by exact is84_2 NB0_691.out NB0_715.out HI0.out) (rg BK715 HO732) (by decide)) hk (fun _ h => h.2)) (fun _ h => h.1)); replace BK715 := am (KeepBut.blk hk (g' := gb715) (o := .cells #[.slice Ao60 t721.length co60, .slice Ao62 t724.length co62, .slice Ao63 t727.length co63, .slice Ao64 t730.length co64] 30 (0, 0)) (kp4 (kf0 BK715.out)) NB715_0.out (by simp)); replace HK := am (KeepBut.trans (ks2 GW691.out GW715.out HK.out) hk (.inl rfl)); replace HB := am (hb); replace HI0 := am (hi); (try clear hb hk hi)))
  go_loopg [6] k (fun kq v6 w' => ∃ (x6_1 : Int) (x716000_1 : List Int) (x716001_1 : List Int) (x716002_1 : List Int) (x716003_1 : List Int) (u716000 : Value) (u716001 : Value) (u716002 : Value) (u716003 : Value), v6 = .int .i64 x6_1 ∧ Aside0 (spec_l3Draw.l1 kq x6_1 s0_0 t735 x716000_1 x716001_1 x716002_1 x716003_1 = some (r1, r2, r3, r4, r5)) ∧ Aside0 (kq ≤ k) ∧ Aside0 (Kd.R (Kd.int .i64) 3 w' w.heap.size (fun k_ => some k_ ≠ (u716001 : Value).ownBlock ∧ some k_ ≠ (u716002 : Value).ownBlock ∧ some k_ ≠ (u716003 : Value).ownBlock) u716000 x716000_1) ∧ Aside0 (Kd.R (Kd.int .i64) 3 w' w.heap.size (fun k_ => some k_ ≠ (u716000 : Value).ownBlock ∧ some k_ ≠ (u716002 : Value).ownBlock ∧ some k_ ≠ (u716003 : Value).ownBlock) u716001 x716001_1) ∧ Aside0 (Kd.R (Kd.int .i64) 3 w' w.heap.size (fun k_ => some k_ ≠ (u716000 : Value).ownBlock ∧ some k_ ≠ (u716001 : Value).ownBlock ∧ some k_ ≠ (u716003 : Value).ownBlock) u716002 x716002_1) ∧ Aside0 (Kd.R (Kd.int .i64) 3 w' w.heap.size (fun k_ => some k_ ≠ (u716000 : Value).ownBlock ∧ some k_ ≠ (u716001 : Value).ownBlock ∧ some k_ ≠ (u716002 : Value).ownBlock) u716003 x716003_1) ∧ Aside0 (w'.heap[gb691]? = some (.cells #[(.slice none 0 0), (.slice none 0 0), (.slice none 0 0), (.slice none 0 0)] 30 (0, 0))) ∧ Aside0 (w'.heap[gb715]? = some (.cells #[u716000, u716001, u716002, u716003] 30 (0, 0))) ∧ Aside0 (IsS84 w0 w' g s0_0 t735) ∧ Aside0 (KeepBut w w' g none) ∧ Aside0 (Below w0.heap.size w0 w'))
  case atStart => exact ⟨(t734), (t721), (t724), (t727), (t730), (.slice Ao60 t721.length co60), (.slice Ao62 t724.length co62), (.slice Ao63 t727.length co63), (.slice Ao64 t730.length co64), (by first | rfl | (simp; done) | (simp [*]; done)), H', ⟨Nat.le_refl _⟩, ⟨rl (Kd.R_mono HO723.out (fun _ hk => by simp only [ne_eq] at hk ⊢; simp only [hk, not_false_eq_true, and_self]))⟩, ⟨rl (Kd.R_mono HO726.out (fun _ hk => by simp only [ne_eq] at hk ⊢; simp only [hk, not_false_eq_true, and_self]))⟩, ⟨rl (Kd.R_mono HO729.out (fun _ hk => by simp only [ne_eq] at hk ⊢; simp only [hk, not_false_eq_true, and_self]))⟩, ⟨rl (Kd.R_mono HO732.out (fun _ hk => by simp only [ne_eq] at hk ⊢; simp only [hk, not_false_eq_true, and_self]))⟩, ⟨kl BK691.out⟩, ⟨kl BK715.out⟩, ⟨by exact is84_2 NB0_691.out NB0_715.out HI0.out⟩, ⟨by exact ks2 GW691.out GW715.out HK.out⟩, ⟨by exact bs3 (IsS84.ge HI0.out) GE691.out GE715.out HB.out⟩⟩
  case round =>
   clear H'
   try clear c1
   try clear c2
   try clear p2
   try clear q2
   try clear hx2
   try clear hf2
   try clear c3
   try clear c4
   try clear c5
   try clear c5b0
   try clear c5b1
   try clear p6
   try clear c7
   try clear c8
   try clear c14
   try clear c15
   try clear c21
   try clear c21b0
   try clear c23
   try clear c23b0
   try clear c24
   try clear p24
   try clear q24
   try clear hx24
   try clear hf24
   try clear c25
   try clear c26
   try clear c32
   try clear c33
   try clear c37
   try clear c45
   try clear c51
   try clear c52
   try clear p64
   try clear hx24_0
   try clear p2
   try clear p24
   try clear q24
   obtain ⟨x6_1, x716000_1, x716001_1, x716002_1, x716003_1, u716000, u716001, u716002, u716003, rfl, HA, HK1, HO_716000, HO_716001, HO_716002, HO_716003, BK691, BK715, HI0, HK, HB⟩ := hrel
   cases gk with
   | zero => exact absurd HA.out (by simp [spec_l3Draw.l1])
   | succ k1 =>
    have H := HA.out
    clear HA
    simp only [spec_l3Draw.l1] at H
    by_cases c66 : x6_1 > 0
    ·rw [if_pos c66] at H
     have c66b0 : decide (0 < x6_1) = true := decide_eq_true c66
     clear c66
     replace H := Option.bind_eq_some_iff.mp H
     obtain ⟨⟨t736, t739, t742, t745, t748, t749⟩, A670, H⟩ := H
     replace H : (spec_l3Draw.l1 k1 (wrap64 (x6_1 - 1)) s0_0 t735 t736 t739 t742 t745) = some (r1, r2, r3, r4, r5) := H
     have A67 := am A670
     clear A670
     have H' := am H
     clear H
     have hnb68 := NB715_691.out
     have hnc68 := NB691_715.out
     have hnb69 := NB715_0.out
     have hnc69 := NB0_715.out
     obtain ⟨hcz70_0, hcz70_1, hcz70_2, hcz70_3, hfz70_0, hfz70_1, hfz70_2, hfz70_3⟩ := cf4 BK715
     obtain ⟨Ao71, co71, eo71⟩ := Kd.R_slice HO_716000.out
     subst eo71
     obtain ⟨Ao72, co72, eo72⟩ := Kd.R_slice HO_716001.out
     subst eo72
     obtain ⟨Ao73, co73, eo73⟩ := Kd.R_slice HO_716002.out
     subst eo73
     obtain ⟨Ao74, co74, eo74⟩ := Kd.R_slice HO_716003.out
     subst eo74
     go_wp2_with (first | ((with_reducible refine gate_callee (f := 42) rfl ?_); refine gL (some 43) rfl rfl Try.func42 (by kernel_rfl) rfl #[.agg #[.slice Ao71 x716000_1.length co71, .slice Ao72 x716001_1.length co72, .slice Ao73 x716002_1.length co73, .slice Ao74 x716003_1.length co74]] rfl ?_; (with_reducible refine (spec_MarkStep.calls k1 _ _ x716000_1 _ _ x716001_1 _ _ x716002_1 _ _ x716003_1 t736 t739 t742 t745 t748 t749 _ ?side1 ?side2 ?side3 ?side4 ?side5 ?side6 ?side7 ?side8 A67.out).mono ?_); (case side1 => exact cl ((Kd.R_reads' HO_716000.out).2.2)); (case side2 => exact sc HO_716000); (case side3 => exact cl ((Kd.R_reads' HO_716001.out).2.2)); (case side4 => exact sc HO_716001); (case side5 => exact cl ((Kd.R_reads' HO_716002.out).2.2)); (case side6 => exact sc HO_716002); (case side7 => exact cl ((Kd.R_reads' HO_716003.out).2.2)); (case side8 => exact sc HO_716003); rintro e w75 ⟨v737, v740, v743, v746, rfl, ho0, ho1, ho2, ho3, hb⟩; refine ⟨_, rfl, ?_⟩; have HO738 := am (Kd.R_lower (Kd.R_new' (Kd.R_new' (Kd.R_new' (Kd.R_new' ho0 (Kd.R_lt (rl HO_716000.out))) (Kd.R_lt (rl HO_716001.out))) (Kd.R_lt (rl HO_716002.out))) (Kd.R_lt (rl HO_716003.out))) (keep_size (w := w) (g := g) (row := none) (ks2 GW691.out GW715.out HK.out))); have HO741 := am (Kd.R_lower (Kd.R_new' (Kd.R_new' (Kd.R_new' (Kd.R_new' ho1 (Kd.R_lt (rl HO_716000.out))) (Kd.R_lt (rl HO_716001.out))) (Kd.R_lt (rl HO_716002.out))) (Kd.R_lt (rl HO_716003.out))) (keep_size (w := w) (g := g) (row := none) (ks2 GW691.out GW715.out HK.out))); have HO744 := am (Kd.R_lower (Kd.R_new' (Kd.R_new' (Kd.R_new' (Kd.R_new' ho2 (Kd.R_lt (rl HO_716000.out))) (Kd.R_lt (rl HO_716001.out))) (Kd.R_lt (rl HO_716002.out))) (Kd.R_lt (rl HO_716003.out))) (keep_size (w := w) (g := g) (row := none) (ks2 GW691.out GW715.out HK.out))); have HO747 := am (Kd.R_lower (Kd.R_new' (Kd.R_new' (Kd.R_new' (Kd.R_new' ho3 (Kd.R_lt (rl HO_716000.out))) (Kd.R_lt (rl HO_716001.out))) (Kd.R_lt (rl HO_716002.out))) (Kd.R_lt (rl HO_716003.out))) (keep_size (w := w) (g := g) (row := none) (ks2 GW691.out GW715.out HK.out))); replace HO_716000 := td4 (rl HO_716000.out) hb ho0 ho1 ho2 ho3; replace HO_716001 := td4 (rl HO_716001.out) hb ho0 ho1 ho2 ho3; replace HO_716002 := td4 (rl HO_716002.out) hb ho0 ho1 ho2 ho3; replace HO_716003 := td4 (rl HO_716003.out) hb ho0 ho1 ho2 ho3; replace BK691 := bb BK691 hb; replace BK715 := bb BK715 hb; replace HK := am (KeepBut.trans (ks2 GW691.out GW715.out HK.out) (KeepBut.of_below hb g none) (.inl rfl)); replace HB := am (below_step (bs3 (IsS84.ge HI0.out) GE691.out GE715.out HB.out) hb); replace HI0 := am (IsS84.below (is84_2 NB0_691.out NB0_715.out HI0.out) hb); (try clear hb ho0 ho1 ho2 ho3); obtain ⟨Ao76, co76, eo76⟩ := Kd.R_slice HO738.out; subst eo76; obtain ⟨hcz77_0, hcz77_1, hcz77_2, hcz77_3, hfz77_0, hfz77_1, hfz77_2, hfz77_3⟩ := cf4 BK715; obtain ⟨Ao78, co78, eo78⟩ := Kd.R_slice HO741.out; subst eo78; obtain ⟨Ao79, co79, eo79⟩ := Kd.R_slice HO744.out; subst eo79; obtain ⟨Ao80, co80, eo80⟩ := Kd.R_slice HO747.out; subst eo80))
     go_roundg k1
     case measure => have := HK1.out; omega
     case rel => exact ⟨(wrap64 (x6_1 - 1)), (t736), (t739), (t742), (t745), (.slice Ao76 t736.length co76), (.slice Ao78 t739.length co78), (.slice Ao79 t742.length co79), (.slice Ao80 t745.length co80), (by first | rfl | (simp; done) | (simp [*]; done)), H', ⟨by have := HK1.out; omega⟩, ⟨rl (Kd.R_mono (Kd.R_far (p := ⟨gb715, 3, none⟩) (Kd.R_far (p := ⟨gb715, 2, none⟩) (Kd.R_far (p := ⟨gb715, 1, none⟩) (Kd.R_far (p := ⟨gb715, 0, none⟩) (Kd.R_types HO738.out BK715.out (by decide)) (fun _ hk => hk.2) (.slice Ao76 t736.length co76)) (fun _ hk => hk.2) (.slice Ao78 t739.length co78)) (fun _ hk => hk.2) (.slice Ao79 t742.length co79)) (fun _ hk => hk.2) (.slice Ao80 t745.length co80)) (fun _ hk => by simp only [ne_eq] at hk ⊢; simp only [hk, not_false_eq_true, and_self]))⟩, ⟨rl (Kd.R_mono (Kd.R_far (p := ⟨gb715, 3, none⟩) (Kd.R_far (p := ⟨gb715, 2, none⟩) (Kd.R_far (p := ⟨gb715, 1, none⟩) (Kd.R_far (p := ⟨gb715, 0, none⟩) (Kd.R_types HO741.out BK715.out (by decide)) (fun _ hk => hk.2) (.slice Ao76 t736.length co76)) (fun _ hk => hk.2) (.slice Ao78 t739.length co78)) (fun _ hk => hk.2) (.slice Ao79 t742.length co79)) (fun _ hk => hk.2) (.slice Ao80 t745.length co80)) (fun _ hk => by simp only [ne_eq] at hk ⊢; simp only [hk, not_false_eq_true, and_self]))⟩, ⟨rl (Kd.R_mono (Kd.R_far (p := ⟨gb715, 3, none⟩) (Kd.R_far (p := ⟨gb715, 2, none⟩) (Kd.R_far (p := ⟨gb715, 1, none⟩) (Kd.R_far (p := ⟨gb715, 0, none⟩) (Kd.R_types HO744.out BK715.out (by decide)) (fun _ hk => hk.2) (.slice Ao76 t736.length co76)) (fun _ hk => hk.2) (.slice Ao78 t739.length co78)) (fun _ hk => hk.2) (.slice Ao79 t742.length co79)) (fun _ hk => hk.2) (.slice Ao80 t745.length co80)) (fun _ hk => by simp only [ne_eq] at hk ⊢; simp only [hk, not_false_eq_true, and_self]))⟩, ⟨rl (Kd.R_mono (Kd.R_far (p := ⟨gb715, 3, none⟩) (Kd.R_far (p := ⟨gb715, 2, none⟩) (Kd.R_far (p := ⟨gb715, 1, none⟩) (Kd.R_far (p := ⟨gb715, 0, none⟩) (Kd.R_types HO747.out BK715.out (by decide)) (fun _ hk => hk.2) (.slice Ao76 t736.length co76)) (fun _ hk => hk.2) (.slice Ao78 t739.length co78)) (fun _ hk => hk.2) (.slice Ao79 t742.length co79)) (fun _ hk => hk.2) (.slice Ao80 t745.length co80)) (fun _ hk => by simp only [ne_eq] at hk ⊢; simp only [hk, not_false_eq_true, and_self]))⟩, ⟨kf1 NB691_715.out BK691.out⟩, ⟨kp4 (kf0 BK715.out)⟩, ⟨by exact is84_2 NB0_691.out NB0_715.out HI0.out⟩, ⟨by exact ks2 GW691.out GW715.out HK.out⟩, ⟨by exact bs3 (IsS84.ge HI0.out) GE691.out GE715.out HB.out⟩⟩
    ·rw [if_neg c66] at H
     have c66b0 : decide (0 < x6_1) = false := decide_eq_false c66
     clear c66
     simp only [Option.some.injEq, Prod.mk.injEq] at H
     obtain ⟨rfl, rfl, rfl, rfl, rfl⟩ := H
     have hnb81 := NB715_691.out
     have hnc81 := NB691_715.out
     have hnb82 := NB715_0.out
     have hnc82 := NB0_715.out
     obtain ⟨hcz83_0, hcz83_1, hcz83_2, hcz83_3, hfz83_0, hfz83_1, hfz83_2, hfz83_3⟩ := cf4 BK715
     obtain ⟨Ao84, co84, eo84⟩ := Kd.R_slice HO_716000.out
     subst eo84
     have hnb85 := NB691_0.out
     have hnc85 := NB0_691.out
     obtain ⟨hcz86_0, hcz86_1, hcz86_2, hcz86_3, hfz86_0, hfz86_1, hfz86_2, hfz86_3⟩ := cf4 BK691
     obtain ⟨Ao87, co87, eo87⟩ := Kd.R_slice HO_716001.out
     subst eo87
     obtain ⟨Ao88, co88, eo88⟩ := Kd.R_slice HO_716002.out
     subst eo88
     obtain ⟨Ao89, co89, eo89⟩ := Kd.R_slice HO_716003.out
     subst eo89
     go_wp2
     refine bodyPost_ret (results_cell_row rfl _ _ gb691 30 #[.slice Ao84 x716000_1.length co84, .slice Ao87 x716001_1.length co87, .slice Ao88 x716002_1.length co88, .slice Ao89 x716003_1.length co89] (0, 0) _ rfl (kp4 (kf0 BK691.out)) Try.underlying30 rfl (by kernel_rfl)) rfl ?_
     exact ⟨_, _, _, _, by first | rfl | (simp [errW_none, errW_some] <;> rfl) | (simp [*, errW_none, errW_some] <;> rfl), by exact ro (rg BK691 HO_716000), by exact ro (rg BK691 HO_716001), by exact ro (rg BK691 HO_716002), by exact ro (rg BK691 HO_716003), by exact is84_2 NB0_691.out NB0_715.out HI0.out, by exact bs3 (IsS84.ge HI0.out) GE691.out GE715.out HB.out, by exact ks2 GW691.out GW715.out HK.out⟩

end Go.Proofs.Ytkbaggfkidalfaa.A
