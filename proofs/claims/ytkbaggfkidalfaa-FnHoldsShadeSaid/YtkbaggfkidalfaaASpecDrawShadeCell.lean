/- Contracts of functions of the given program (ASpecDrawShadeCell). No conditions beyond those stated. -/
import Derived.Test.YtkbaggfkidalfaaA0
import Derived.Test.YtkbaggfkidalfaaASpecL13Open
import Derived.Test.YtkbaggfkidalfaaASpecL13RdNum
import Derived.Test.YtkbaggfkidalfaaASpecL3Case
import Derived.Test.YtkbaggfkidalfaaAState
import Derived.Test.YtkbaggfkidalfaaA0
namespace Go.Proofs.Ytkbaggfkidalfaa.A
open Go.RowKit Go.Proofs.YtkbaggfkidalfaaW.PrintWords Go.Proofs.YtkbaggfkidalfaaW.PrintLast Go.Proofs.YtkbaggfkidalfaaW.PrintMore
attribute [local go_sem] max2_int min2_int max_two min_two max_three min_three max_four min_four   -- for this text's walks alone
set_option linter.unusedVariables false
set_option linter.unusedSimpArgs false

/-! ### spec_DrawShadeCell -/
def spec_DrawShadeCell.f (k : Nat) (l0 : List Int) : Option (List Int × List Int × List Int × List Int × Int) := (spec_l3Case.f k l0).bind fun bt1068 => ((spec_l13Open.f l0).bind fun bt1080 => ((spec_l13Rd_num.f k bt1080.1 bt1080.2 (([0, 1, 2, 3, 8, (-1)] : List Int))).bind fun bt1086 => (some (bt1068.1, bt1068.2.1, bt1068.2.2.1, bt1068.2.2.2, bt1086.1))))
theorem spec_DrawShadeCell.mono : ∀ a0 k, LeO (spec_DrawShadeCell.f k a0) (spec_DrawShadeCell.f (k + 1) a0) := by
 intro a0 k
 unfold spec_DrawShadeCell.f
 repeat' first
   | (with_reducible exact spec_l13Rd_num.mono _ _ _ _)
   | (with_reducible exact spec_l3Case.mono _ _)
   | (with_reducible exact LeO.refl _)
   | (with_reducible exact LeO.none _)
   | (with_reducible refine LeO.ite ?_ ?_)
   | (with_reducible refine LeO.bind ?_ (fun _ => ?_))
   | exact spec_l13Rd_num.mono _ _ _ _
   | exact spec_l3Case.mono _ _
   | exact LeO.none _
   | refine LeO.ite ?_ ?_
   | refine LeO.bind ?_ (fun _ => ?_)
set_option maxHeartbeats 8000000 in
set_option maxRecDepth 100000 in
theorem spec_DrawShadeCell.calls (k : Nat) (A0 : Option Addr) (c0 : Nat) (l0 : List Int) (r1 : List Int) (r2 : List Int) (r3 : List Int) (r4 : List Int) (r5 : Int) (w : World) (hr0 : Kd.C (Kd.int .u8) w A0 l0.length l0) (hc0 : l0.length ≤ c0) (h : spec_DrawShadeCell.f k l0 = some (r1, r2, r3, r4, r5)) :
  Calls Try.prog 37 #[.slice A0 l0.length c0] w fun e w' => ∃ v0_ v1_ v2_ v3_ : Value, e = .returned (.tuple #[.agg #[v0_, v1_, v2_, v3_], .int .i64 r5]) ∧ Kd.R (Kd.int .i64) 3 w' w.heap.size (fun k_ => some k_ ≠ (v1_ : Value).ownBlock ∧ some k_ ≠ (v2_ : Value).ownBlock ∧ some k_ ≠ (v3_ : Value).ownBlock) v0_ r1 ∧ Kd.R (Kd.int .i64) 3 w' w.heap.size (fun k_ => some k_ ≠ (v0_ : Value).ownBlock ∧ some k_ ≠ (v2_ : Value).ownBlock ∧ some k_ ≠ (v3_ : Value).ownBlock) v1_ r2 ∧ Kd.R (Kd.int .i64) 3 w' w.heap.size (fun k_ => some k_ ≠ (v0_ : Value).ownBlock ∧ some k_ ≠ (v1_ : Value).ownBlock ∧ some k_ ≠ (v3_ : Value).ownBlock) v2_ r3 ∧ Kd.R (Kd.int .i64) 3 w' w.heap.size (fun k_ => some k_ ≠ (v0_ : Value).ownBlock ∧ some k_ ≠ (v1_ : Value).ownBlock ∧ some k_ ≠ (v2_ : Value).ownBlock) v3_ r4 ∧ Below w.heap.size w w' := by
 have hu30 := Try.underlying30
 have HR0 := am hr0
 have HC0 := am hc0
 clear hr0 hc0
 have HB := am (Below.refl w.heap.size w)
 have H : ((spec_l3Case.f k l0).bind fun bt1068 => ((spec_l13Open.f l0).bind fun bt1080 => ((spec_l13Rd_num.f k bt1080.1 bt1080.2 (([0, 1, 2, 3, 8, (-1)] : List Int))).bind fun bt1086 => (some (bt1068.1, bt1068.2.1, bt1068.2.2.1, bt1068.2.2.2, bt1086.1))))) = some (r1, r2, r3, r4, r5) := h
 clear h
 replace H := Option.bind_eq_some_iff.mp H
 obtain ⟨⟨t1068, t1071, t1074, t1077⟩, A20, H⟩ := H
 replace H : ((spec_l13Open.f l0).bind fun bt1080 => ((spec_l13Rd_num.f k bt1080.1 bt1080.2 (([0, 1, 2, 3, 8, (-1)] : List Int))).bind fun bt1086 => (some (t1068, t1071, t1074, t1077, bt1086.1)))) = some (r1, r2, r3, r4, r5) := H
 have A2 := am A20
 clear A20
 replace H := Option.bind_eq_some_iff.mp H
 obtain ⟨⟨t1080, t1081⟩, A30, H⟩ := H
 replace H : ((spec_l13Rd_num.f k t1080 t1081 (([0, 1, 2, 3, 8, (-1)] : List Int))).bind fun bt1086 => (some (t1068, t1071, t1074, t1077, bt1086.1))) = some (r1, r2, r3, r4, r5) := H
 have A3 := am A30
 clear A30
 obtain ⟨y1083, hy1083⟩ : ∃ y_ : List Int, y_ = (([0, 1, 2, 3, 8, (-1)] : List Int)) := ⟨_, rfl⟩
 replace H : ((spec_l13Rd_num.f k t1080 t1081 y1083).bind fun bt1086 => (some (t1068, t1071, t1074, t1077, bt1086.1))) = some (r1, r2, r3, r4, r5) := by first | (rw [hy1083]; with_reducible exact H) | (have H2_ := (Option.bind_some _ _).symm.trans H; rw [hy1083]; with_reducible exact H2_) | (have H2_ := (Option.bind_some _ _).symm.trans H; with_reducible exact H2_) | with_reducible exact H | (rw [hy1083]; exact H) | exact H
 have Ny1083 := am hy1083
 clear hy1083
 replace H := Option.bind_eq_some_iff.mp H
 obtain ⟨⟨t1086, t1087⟩, A40, H⟩ := H
 replace H : (some (t1068, t1071, t1074, t1077, t1086)) = some (r1, r2, r3, r4, r5) := H
 have A4 := am A40
 clear A40
 simp only [Option.some.injEq, Prod.mk.injEq] at H
 obtain ⟨rfl, rfl, rfl, rfl, rfl⟩ := H
 go_enter Try.func37, Try.ntmps37
 go_wp2_with (first | ((with_reducible refine gate_dst (N := 2) rfl ?_); refine box_event ?hg (N := 2) ?hd (cs := #[.slice none 0 0, .slice none 0 0, .slice none 0 0, .slice none 0 0]) (t := 30) ?hr ?_; (case hd => rfl); (case hg => rfl); (case hr => first | (go_simp; done) | (go_simp; rfl)); intro gb1067 hg w5 hbox hb; have BK1067 := am (hbox); have GW1067 := am ((by rw [hg]; exact (below_size (bl HB.out)) : w.heap.size ≤ gb1067)); have GE1067 := am ((by rw [hg]; exact (below_size (bl HB.out)) : w.heap.size ≤ gb1067)); replace HB := am (below_step (bl HB.out) hb); clear hb hbox hg) | ((with_reducible refine gate_callee (f := 68) rfl ?_); refine gL (some 5) rfl rfl Try.func68 (by kernel_rfl) rfl #[.slice A0 l0.length c0] rfl ?_; (with_reducible refine (spec_l3Case.calls k _ _ l0 t1068 t1071 t1074 t1077 _ ?side1 ?side2 A2.out).mono ?_); (case side1 => exact ci HR0 HB); (case side2 => exact HC0.out); rintro e w6 ⟨v1069, v1072, v1075, v1078, rfl, ho0, ho1, ho2, ho3, hb⟩; refine ⟨_, rfl, ?_⟩; have HO1070 := ln0 ho0 (bs1 GE1067.out HB.out); have HO1073 := ln0 ho1 (bs1 GE1067.out HB.out); have HO1076 := ln0 ho2 (bs1 GE1067.out HB.out); have HO1079 := ln0 ho3 (bs1 GE1067.out HB.out); replace BK1067 := bb BK1067 hb; replace HB := am (below_step (bs1 GE1067.out HB.out) hb); (try clear hb ho0 ho1 ho2 ho3)) | ((with_reducible refine gate_callee (f := 69) rfl ?_); refine gL (some 7) rfl rfl Try.func69 (by kernel_rfl) rfl #[.slice A0 l0.length c0] rfl ?_; (with_reducible refine (spec_l13Open.calls _ _ l0 t1080 t1081 w _ ?side1 ?side2 ?side3 A3.out).mono ?_); (case side1 => exact bs1 GE1067.out HB.out); (case side2 => exact HR0.out); (case side3 => exact HC0.out); rintro e w7 ⟨g1082, rfl, hi, hb, hb2⟩; refine ⟨_, rfl, ?_⟩; replace HO1070 := am (Kd.R_below (rl HO1070.out) hb2); replace HO1073 := am (Kd.R_below (rl HO1073.out) hb2); replace HO1076 := am (Kd.R_below (rl HO1076.out) hb2); replace HO1079 := am (Kd.R_below (rl HO1079.out) hb2); replace HB := am (hb); have HI1082 := am (hi); have NB1082_1067 := am (IsS84.ne_blk hi (blk_below (g := gb1067) (o := .cells #[.slice none 0 0, .slice none 0 0, .slice none 0 0, .slice none 0 0] 30 (0, 0)) (kl BK1067.out) hb2) (by decide)); have NB1067_1082 := am (Ne.symm (IsS84.ne_blk hi (blk_below (g := gb1067) (o := .cells #[.slice none 0 0, .slice none 0 0, .slice none 0 0, .slice none 0 0] 30 (0, 0)) (kl BK1067.out) hb2) (by decide))); replace BK1067 := am (blk_below (g := gb1067) (o := .cells #[.slice none 0 0, .slice none 0 0, .slice none 0 0, .slice none 0 0] 30 (0, 0)) (kl BK1067.out) hb2); (try clear hb hb2 hi)) | ((with_reducible refine gate_dst (N := 8) rfl ?_); refine Kd.R_lit (Kd.int .i64) _ 3 ?hg (N := 8) ?hd (xs := ([0, 1, 2, 3, 8, (-1)] : List Int)) (inner := [.int .i64 0, .int .i64 1, .int .i64 2, .int .i64 3, .int .i64 8, .int .i64 (-1)]) (ok := fun _ => True) (okp := fun _ => True) ?hr ?hp (fun _ hk => hk) trivial (Below.refl _ _) (Nat.le_refl _) (by simp) ?_; (case hd => rfl); (case hg => rfl); (case hr => first | (go_simp; done) | (go_simp; rfl)); (case hp => exact (Reps.one (show Kd.M (Kd.int .i64) _ _ _ 0 [.int .i64 0] from rfl) (Reps.one (show Kd.M (Kd.int .i64) _ _ _ 1 [.int .i64 1] from rfl) (Reps.one (show Kd.M (Kd.int .i64) _ _ _ 2 [.int .i64 2] from rfl) (Reps.one (show Kd.M (Kd.int .i64) _ _ _ 3 [.int .i64 3] from rfl) (Reps.one (show Kd.M (Kd.int .i64) _ _ _ 8 [.int .i64 8] from rfl) (Reps.one (show Kd.M (Kd.int .i64) _ _ _ (-1) [.int .i64 (-1)] from rfl) (Reps.none _ _)))))))); intro v1084 w8 ho9 hb hg_ hnew_; clear hg_ hnew_; (first | rw [← Ny1083.out] at ho9 | (simp only [Int.reduceToNat] at ho9; rw [← Ny1083.out] at ho9)); have HO1085 := ln4 ho9 (rl HO1070.out) (rl HO1073.out) (rl HO1076.out) (rl HO1079.out) (bs2 (IsS84.ge HI1082.out) GE1067.out HB.out); replace HO1070 := am (Kd.R_elder' (rl HO1070.out) (Kd.R_base ho9) hb); replace HO1073 := am (Kd.R_elder' (rl HO1073.out) (Kd.R_base ho9) hb); replace HO1076 := am (Kd.R_elder' (rl HO1076.out) (Kd.R_base ho9) hb); replace HO1079 := am (Kd.R_elder' (rl HO1079.out) (Kd.R_base ho9) hb); replace BK1067 := bb BK1067 hb; replace HB := am (below_step (bs2 (IsS84.ge HI1082.out) GE1067.out HB.out) hb); replace HI1082 := am (IsS84.below (is84_1 NB1082_1067.out HI1082.out) hb); clear hb ho9; obtain ⟨Ao10, co10, eo10⟩ := Kd.R_slice HO1085.out; subst eo10) | ((with_reducible refine gate_callee (f := 70) rfl ?_); refine gL (some 9) rfl rfl Try.func70 (by kernel_rfl) rfl #[.pointer (some ⟨g1082, 0, none⟩), .slice Ao10 y1083.length co10] rfl ?_; (with_reducible refine (spec_l13Rd_num.calls k g1082 t1080 t1081 _ _ y1083 t1086 t1087 w _ ?side1 ?side2 ?side3 ?side4 ?side5 A4.out).mono ?_); (case side1 => exact is84_1 NB1082_1067.out HI1082.out); (case side2 => exact bs2 (IsS84.ge HI1082.out) GE1067.out HB.out); (case side3 => exact cl ((Kd.R_reads' HO1085.out).2.2)); (case side4 => exact sc HO1085); (case side5 => exact far_slice (IsS84.own_ne HI1082.out HO1085.out (by decide))); rintro e w11 ⟨rfl, hi, hb, hk⟩; refine ⟨_, rfl, ?_⟩; replace BK1067 := kb hk BK1067 NB1067_1082; replace HO1070 := am (Kd.R_mono (Kd.R_keep (IsS84.apart (show IsS84 w _ g1082 t1080 t1081 from by exact is84_1 NB1082_1067.out HI1082.out) (rl HO1070.out) (by decide)) hk (fun _ h => h.2)) (fun _ h => h.1)); replace HO1073 := am (Kd.R_mono (Kd.R_keep (IsS84.apart (show IsS84 w _ g1082 t1080 t1081 from by exact is84_1 NB1082_1067.out HI1082.out) (rl HO1073.out) (by decide)) hk (fun _ h => h.2)) (fun _ h => h.1)); replace HO1076 := am (Kd.R_mono (Kd.R_keep (IsS84.apart (show IsS84 w _ g1082 t1080 t1081 from by exact is84_1 NB1082_1067.out HI1082.out) (rl HO1076.out) (by decide)) hk (fun _ h => h.2)) (fun _ h => h.1)); replace HO1079 := am (Kd.R_mono (Kd.R_keep (IsS84.apart (show IsS84 w _ g1082 t1080 t1081 from by exact is84_1 NB1082_1067.out HI1082.out) (rl HO1079.out) (by decide)) hk (fun _ h => h.2)) (fun _ h => h.1)); replace HO1085 := am (Kd.R_mono (Kd.R_keep (IsS84.apart (show IsS84 w _ g1082 t1080 t1081 from by exact is84_1 NB1082_1067.out HI1082.out) (rl HO1085.out) (by decide)) hk (fun _ h => h.2)) (fun _ h => h.1)); replace HB := am (hb); replace HI1082 := am (hi); (try clear hb hk hi); obtain ⟨Ao12, co12, eo12⟩ := Kd.R_slice HO1070.out; subst eo12; have hnb13 := NB1067_1082.out; have hnc13 := NB1082_1067.out; obtain ⟨hcz14_0, hcz14_1, hcz14_2, hcz14_3, hfz14_0, hfz14_1, hfz14_2, hfz14_3⟩ := cf4 BK1067; obtain ⟨Ao15, co15, eo15⟩ := Kd.R_slice HO1073.out; subst eo15; obtain ⟨Ao16, co16, eo16⟩ := Kd.R_slice HO1076.out; subst eo16; obtain ⟨Ao17, co17, eo17⟩ := Kd.R_slice HO1079.out; subst eo17))
 refine bodyPost_ret (results_ct rfl _ _ gb1067 30 #[.slice Ao12 t1068.length co12, .slice Ao15 t1071.length co15, .slice Ao16 t1074.length co16, .slice Ao17 t1077.length co17] (0, 0) _ rfl (kp4 (kf0 BK1067.out)) Try.underlying30 rfl (by kernel_rfl)) rfl ?_
 exact ⟨_, _, _, _, by first | rfl | (simp [errW_none, errW_some] <;> rfl) | (simp [*, errW_none, errW_some] <;> rfl), by exact ro (rg BK1067 HO1070), by exact ro (rg BK1067 HO1073), by exact ro (rg BK1067 HO1076), by exact ro (rg BK1067 HO1079), by exact bs2 (IsS84.ge HI1082.out) GE1067.out HB.out⟩

end Go.Proofs.Ytkbaggfkidalfaa.A
