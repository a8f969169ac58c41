/- Contracts of functions of the given program (ASpecL3Case). No conditions beyond those stated. -/
import Derived.Test.YtkbaggfkidalfaaA0
import Derived.Test.YtkbaggfkidalfaaASpecL13Open
import Derived.Test.YtkbaggfkidalfaaASpecL3Draw
import Derived.Test.YtkbaggfkidalfaaASpecL3Wrong
import Derived.Test.YtkbaggfkidalfaaAState
import Derived.Test.YtkbaggfkidalfaaA0
namespace Go.Proofs.Ytkbaggfkidalfaa.A
open Go.RowKit Go.Proofs.YtkbaggfkidalfaaW.PrintWords Go.Proofs.YtkbaggfkidalfaaW.PrintLast Go.Proofs.YtkbaggfkidalfaaW.PrintMore
attribute [local go_sem] max2_int min2_int max_two min_two max_three min_three max_four min_four   -- for this text's walks alone
set_option linter.unusedVariables false
set_option linter.unusedSimpArgs false

/-! ### spec_l3Case -/
def spec_l3Case.f (k : Nat) (l0 : List Int) : Option (List Int × List Int × List Int × List Int) := (spec_l13Open.f l0).bind fun bt825 => ((spec_l3Draw.f k bt825.1 bt825.2).bind fun bt828 => ((spec_l3Wrong.f k bt825.1 bt828.2.2.2.2 bt828.1 bt828.2.1 bt828.2.2.1 bt828.2.2.2.1).bind fun bt841 => (some (bt841.1, bt841.2.1, bt841.2.2.1, bt841.2.2.2.1))))
theorem spec_l3Case.mono : ∀ a0 k, LeO (spec_l3Case.f k a0) (spec_l3Case.f (k + 1) a0) := by
 intro a0 k
 unfold spec_l3Case.f
 repeat' first
   | (with_reducible exact spec_l3Draw.mono _ _ _)
   | (with_reducible exact spec_l3Wrong.mono _ _ _ _ _ _ _)
   | (with_reducible exact LeO.refl _)
   | (with_reducible exact LeO.none _)
   | (with_reducible refine LeO.ite ?_ ?_)
   | (with_reducible refine LeO.bind ?_ (fun _ => ?_))
   | exact spec_l3Draw.mono _ _ _
   | exact spec_l3Wrong.mono _ _ _ _ _ _ _
   | exact LeO.none _
   | refine LeO.ite ?_ ?_
   | refine LeO.bind ?_ (fun _ => ?_)
set_option maxHeartbeats 8000000 in
set_option maxRecDepth 100000 in
theorem spec_l3Case.calls (k : Nat) (A0 : Option Addr) (c0 : Nat) (l0 : List Int) (r1 : List Int) (r2 : List Int) (r3 : List Int) (r4 : List Int) (w : World) (hr0 : Kd.C (Kd.int .u8) w A0 l0.length l0) (hc0 : l0.length ≤ c0) (h : spec_l3Case.f k l0 = some (r1, r2, r3, r4)) :
  Calls Try.prog 68 #[.slice A0 l0.length c0] w fun e w' => ∃ v0_ v1_ v2_ v3_ : Value, e = .returned (.agg #[v0_, v1_, v2_, v3_]) ∧ Kd.R (Kd.int .i64) 3 w' w.heap.size (fun k_ => some k_ ≠ (v1_ : Value).ownBlock ∧ some k_ ≠ (v2_ : Value).ownBlock ∧ some k_ ≠ (v3_ : Value).ownBlock) v0_ r1 ∧ Kd.R (Kd.int .i64) 3 w' w.heap.size (fun k_ => some k_ ≠ (v0_ : Value).ownBlock ∧ some k_ ≠ (v2_ : Value).ownBlock ∧ some k_ ≠ (v3_ : Value).ownBlock) v1_ r2 ∧ Kd.R (Kd.int .i64) 3 w' w.heap.size (fun k_ => some k_ ≠ (v0_ : Value).ownBlock ∧ some k_ ≠ (v1_ : Value).ownBlock ∧ some k_ ≠ (v3_ : Value).ownBlock) v2_ r3 ∧ Kd.R (Kd.int .i64) 3 w' w.heap.size (fun k_ => some k_ ≠ (v0_ : Value).ownBlock ∧ some k_ ≠ (v1_ : Value).ownBlock ∧ some k_ ≠ (v2_ : Value).ownBlock) v3_ r4 ∧ Below w.heap.size w w' := by
 have hu30 := Try.underlying30
 have HR0 := am hr0
 have HC0 := am hc0
 clear hr0 hc0
 have HB := am (Below.refl w.heap.size w)
 have H : ((spec_l13Open.f l0).bind fun bt825 => ((spec_l3Draw.f k bt825.1 bt825.2).bind fun bt828 => ((spec_l3Wrong.f k bt825.1 bt828.2.2.2.2 bt828.1 bt828.2.1 bt828.2.2.1 bt828.2.2.2.1).bind fun bt841 => (some (bt841.1, bt841.2.1, bt841.2.2.1, bt841.2.2.2.1))))) = some (r1, r2, r3, r4) := h
 clear h
 replace H := Option.bind_eq_some_iff.mp H
 obtain ⟨⟨t825, t826⟩, A20, H⟩ := H
 replace H : ((spec_l3Draw.f k t825 t826).bind fun bt828 => ((spec_l3Wrong.f k t825 bt828.2.2.2.2 bt828.1 bt828.2.1 bt828.2.2.1 bt828.2.2.2.1).bind fun bt841 => (some (bt841.1, bt841.2.1, bt841.2.2.1, bt841.2.2.2.1)))) = some (r1, r2, r3, r4) := H
 have A2 := am A20
 clear A20
 replace H := Option.bind_eq_some_iff.mp H
 obtain ⟨⟨t828, t831, t834, t837, t840⟩, A30, H⟩ := H
 replace H : ((spec_l3Wrong.f k t825 t840 t828 t831 t834 t837).bind fun bt841 => (some (bt841.1, bt841.2.1, bt841.2.2.1, bt841.2.2.2.1))) = some (r1, r2, r3, r4) := H
 have A3 := am A30
 clear A30
 replace H := Option.bind_eq_some_iff.mp H
 obtain ⟨⟨t841, t844, t847, t850, t853⟩, A40, H⟩ := H
 replace H : (some (t841, t844, t847, t850)) = some (r1, r2, r3, r4) := H
 have A4 := am A40
 clear A40
 simp only [Option.some.injEq, Prod.mk.injEq] at H
 obtain ⟨rfl, rfl, rfl, rfl⟩ := H
 go_enter Try.func68, Try.ntmps68
 go_wp2_with (first | ((with_reducible refine gate_dst (N := 2) rfl ?_); refine box_event ?hg (N := 2) ?hd (cs := #[.slice none 0 0, .slice none 0 0, .slice none 0 0, .slice none 0 0]) (t := 30) ?hr ?_; (case hd => rfl); (case hg => rfl); (case hr => first | (go_simp; done) | (go_simp; rfl)); intro gb824 hg w5 hbox hb; have BK824 := am (hbox); have GW824 := am ((by rw [hg]; exact (below_size (bl HB.out)) : w.heap.size ≤ gb824)); have GE824 := am ((by rw [hg]; exact (below_size (bl HB.out)) : w.heap.size ≤ gb824)); replace HB := am (below_step (bl HB.out) hb); clear hb hbox hg) | ((with_reducible refine gate_callee (f := 69) rfl ?_); refine gL (some 5) rfl rfl Try.func69 (by kernel_rfl) rfl #[.slice A0 l0.length c0] rfl ?_; (with_reducible refine (spec_l13Open.calls _ _ l0 t825 t826 w _ ?side1 ?side2 ?side3 A2.out).mono ?_); (case side1 => exact bs1 GE824.out HB.out); (case side2 => exact HR0.out); (case side3 => exact HC0.out); rintro e w6 ⟨g827, rfl, hi, hb, hb2⟩; refine ⟨_, rfl, ?_⟩; replace HB := am (hb); have HI827 := am (hi); have NB827_824 := am (IsS84.ne_blk hi (blk_below (g := gb824) (o := .cells #[.slice none 0 0, .slice none 0 0, .slice none 0 0, .slice none 0 0] 30 (0, 0)) (kl BK824.out) hb2) (by decide)); have NB824_827 := am (Ne.symm (IsS84.ne_blk hi (blk_below (g := gb824) (o := .cells #[.slice none 0 0, .slice none 0 0, .slice none 0 0, .slice none 0 0] 30 (0, 0)) (kl BK824.out) hb2) (by decide))); replace BK824 := am (blk_below (g := gb824) (o := .cells #[.slice none 0 0, .slice none 0 0, .slice none 0 0, .slice none 0 0] 30 (0, 0)) (kl BK824.out) hb2); (try clear hb hb2 hi)) | ((with_reducible refine gate_callee (f := 73) rfl ?_); refine gL (some 8) rfl rfl Try.func73 (by kernel_rfl) rfl #[.pointer (some ⟨g827, 0, none⟩)] rfl ?_; (with_reducible refine (spec_l3Draw.calls k g827 t825 t826 t828 t831 t834 t837 t840 w _ ?side1 ?side2 A3.out).mono ?_); (case side1 => exact is84_1 NB827_824.out HI827.out); (case side2 => exact bs2 (IsS84.ge HI827.out) GE824.out HB.out); rintro e w7 ⟨v829, v832, v835, v838, rfl, ho0, ho1, ho2, ho3, hi, hb, hk⟩; refine ⟨_, rfl, ?_⟩; replace BK824 := kb hk BK824 NB824_827; have HO830 := ln0 ho0 (bs2 (IsS84.ge HI827.out) GE824.out HB.out); have HO833 := ln0 ho1 (bs2 (IsS84.ge HI827.out) GE824.out HB.out); have HO836 := ln0 ho2 (bs2 (IsS84.ge HI827.out) GE824.out HB.out); have HO839 := ln0 ho3 (bs2 (IsS84.ge HI827.out) GE824.out HB.out); replace HB := am (hb); replace HI827 := am (hi); (try clear hb hk hi ho0 ho1 ho2 ho3); obtain ⟨Ao8, co8, eo8⟩ := Kd.R_slice HO830.out; subst eo8; obtain ⟨Ao9, co9, eo9⟩ := Kd.R_slice HO833.out; subst eo9; obtain ⟨Ao10, co10, eo10⟩ := Kd.R_slice HO836.out; subst eo10; obtain ⟨Ao11, co11, eo11⟩ := Kd.R_slice HO839.out; subst eo11) | ((with_reducible refine gate_callee (f := 75) rfl ?_); refine gL (some 9) rfl rfl Try.func75 (by kernel_rfl) rfl #[.pointer (some ⟨g827, 0, none⟩), .agg #[.slice Ao8 t828.length co8, .slice Ao9 t831.length co9, .slice Ao10 t834.length co10, .slice Ao11 t837.length co11]] rfl ?_; (with_reducible refine (spec_l3Wrong.calls k g827 t825 t840 _ _ t828 _ _ t831 _ _ t834 _ _ t837 t841 t844 t847 t850 t853 w _ ?side1 ?side2 ?side3 ?side4 ?side5 ?side6 ?side7 ?side8 ?side9 ?side10 ?side11 ?side12 ?side13 ?side14 A4.out).mono ?_); (case side1 => exact is84_1 NB827_824.out HI827.out); (case side2 => exact bs2 (IsS84.ge HI827.out) GE824.out HB.out); (case side3 => exact cl ((Kd.R_reads' HO830.out).2.2)); (case side4 => exact sc HO830); (case side5 => exact far_slice (IsS84.own_ne HI827.out HO830.out (by decide))); (case side6 => exact cl ((Kd.R_reads' HO833.out).2.2)); (case side7 => exact sc HO833); (case side8 => exact far_slice (IsS84.own_ne HI827.out HO833.out (by decide))); (case side9 => exact cl ((Kd.R_reads' HO836.out).2.2)); (case side10 => exact sc HO836); (case side11 => exact far_slice (IsS84.own_ne HI827.out HO836.out (by decide))); (case side12 => exact cl ((Kd.R_reads' HO839.out).2.2)); (case side13 => exact sc HO839); (case side14 => exact far_slice (IsS84.own_ne HI827.out HO839.out (by decide))); rintro e w12 ⟨v842, v845, v848, v851, rfl, ho0, ho1, ho2, ho3, hi, hb, hk⟩; refine ⟨_, rfl, ?_⟩; replace BK824 := kb hk BK824 NB824_827; have HO843 := ln4 ho0 (rl HO830.out) (rl HO833.out) (rl HO836.out) (rl HO839.out) (bs2 (IsS84.ge HI827.out) GE824.out HB.out); have HO846 := ln4 ho1 (rl HO830.out) (rl HO833.out) (rl HO836.out) (rl HO839.out) (bs2 (IsS84.ge HI827.out) GE824.out HB.out); have HO849 := ln4 ho2 (rl HO830.out) (rl HO833.out) (rl HO836.out) (rl HO839.out) (bs2 (IsS84.ge HI827.out) GE824.out HB.out); have HO852 := ln4 ho3 (rl HO830.out) (rl HO833.out) (rl HO836.out) (rl HO839.out) (bs2 (IsS84.ge HI827.out) GE824.out HB.out); replace HO830 := am (Kd.R_mono (Kd.R_told (Kd.R_told (Kd.R_told (Kd.R_told (Kd.R_oldK (IsS84.apart (show IsS84 w _ g827 t825 t840 from by exact is84_1 NB827_824.out HI827.out) (rl HO830.out) (by decide)) hk) (Kd.R_base ho0)) (Kd.R_base ho1)) (Kd.R_base ho2)) (Kd.R_base ho3)) (fun _ h_ => h_.1)); replace HO833 := am (Kd.R_mono (Kd.R_told (Kd.R_told (Kd.R_told (Kd.R_told (Kd.R_oldK (IsS84.apart (show IsS84 w _ g827 t825 t840 from by exact is84_1 NB827_824.out HI827.out) (rl HO833.out) (by decide)) hk) (Kd.R_base ho0)) (Kd.R_base ho1)) (Kd.R_base ho2)) (Kd.R_base ho3)) (fun _ h_ => h_.1)); replace HO836 := am (Kd.R_mono (Kd.R_told (Kd.R_told (Kd.R_told (Kd.R_told (Kd.R_oldK (IsS84.apart (show IsS84 w _ g827 t825 t840 from by exact is84_1 NB827_824.out HI827.out) (rl HO836.out) (by decide)) hk) (Kd.R_base ho0)) (Kd.R_base ho1)) (Kd.R_base ho2)) (Kd.R_base ho3)) (fun _ h_ => h_.1)); replace HO839 := am (Kd.R_mono (Kd.R_told (Kd.R_told (Kd.R_told (Kd.R_told (Kd.R_oldK (IsS84.apart (show IsS84 w _ g827 t825 t840 from by exact is84_1 NB827_824.out HI827.out) (rl HO839.out) (by decide)) hk) (Kd.R_base ho0)) (Kd.R_base ho1)) (Kd.R_base ho2)) (Kd.R_base ho3)) (fun _ h_ => h_.1)); replace HB := am (hb); replace HI827 := am (hi); (try clear hb hk hi ho0 ho1 ho2 ho3); obtain ⟨Ao13, co13, eo13⟩ := Kd.R_slice HO843.out; subst eo13; have hnb14 := NB824_827.out; have hnc14 := NB827_824.out; obtain ⟨hcz15_0, hcz15_1, hcz15_2, hcz15_3, hfz15_0, hfz15_1, hfz15_2, hfz15_3⟩ := cf4 BK824; obtain ⟨Ao16, co16, eo16⟩ := Kd.R_slice HO846.out; subst eo16; obtain ⟨Ao17, co17, eo17⟩ := Kd.R_slice HO849.out; subst eo17; obtain ⟨Ao18, co18, eo18⟩ := Kd.R_slice HO852.out; subst eo18))
 refine bodyPost_ret (results_cell_row rfl _ _ gb824 30 #[.slice Ao13 t841.length co13, .slice Ao16 t844.length co16, .slice Ao17 t847.length co17, .slice Ao18 t850.length co18] (0, 0) _ rfl (kp4 (kf0 BK824.out)) Try.underlying30 rfl (by kernel_rfl)) rfl ?_
 exact ⟨_, _, _, _, by first | rfl | (simp [errW_none, errW_some] <;> rfl) | (simp [*, errW_none, errW_some] <;> rfl), by exact ro (rg BK824 HO843), by exact ro (rg BK824 HO846), by exact ro (rg BK824 HO849), by exact ro (rg BK824 HO852), by exact bs2 (IsS84.ge HI827.out) GE824.out HB.out⟩

end Go.Proofs.Ytkbaggfkidalfaa.A
