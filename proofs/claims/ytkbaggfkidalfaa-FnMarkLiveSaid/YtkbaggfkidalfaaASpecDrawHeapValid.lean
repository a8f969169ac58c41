/- Contracts of functions of the given program (ASpecDrawHeapValid). No conditions beyond those stated. -/
import Derived.Test.YtkbaggfkidalfaaA0
import Derived.Test.YtkbaggfkidalfaaASpecL13Open
import Derived.Test.YtkbaggfkidalfaaASpecL1Draw
import Derived.Test.YtkbaggfkidalfaaASpecL1Wrong
import Derived.Test.YtkbaggfkidalfaaAState
import Derived.Test.YtkbaggfkidalfaaA0
namespace Go.Proofs.Ytkbaggfkidalfaa.A
open Go.RowKit Go.Proofs.YtkbaggfkidalfaaW.PrintWords Go.Proofs.YtkbaggfkidalfaaW.PrintLast Go.Proofs.YtkbaggfkidalfaaW.PrintMore
attribute [local go_sem] max2_int min2_int max_two min_two max_three min_three max_four min_four   -- for this text's walks alone
set_option linter.unusedVariables false
set_option linter.unusedSimpArgs false

/-! ### spec_DrawHeapValid -/
def spec_DrawHeapValid.f (k : Nat) (l0 : List Int) : Option (List Int × List Int × List Int) := (spec_l13Open.f l0).bind fun bt1392 => ((spec_l1Draw.f k bt1392.1 bt1392.2).bind fun bt1395 => ((spec_l1Wrong.f k bt1392.1 bt1395.2.2.2 bt1395.1 bt1395.2.1 bt1395.2.2.1).bind fun bt1405 => (some (bt1405.1, bt1405.2.1, bt1405.2.2.1))))
theorem spec_DrawHeapValid.mono : ∀ a0 k, LeO (spec_DrawHeapValid.f k a0) (spec_DrawHeapValid.f (k + 1) a0) := by
 intro a0 k
 unfold spec_DrawHeapValid.f
 repeat' first
   | (with_reducible exact spec_l1Draw.mono _ _ _)
   | (with_reducible exact spec_l1Wrong.mono _ _ _ _ _ _)
   | (with_reducible exact LeO.refl _)
   | (with_reducible exact LeO.none _)
   | (with_reducible refine LeO.ite ?_ ?_)
   | (with_reducible refine LeO.bind ?_ (fun _ => ?_))
   | exact spec_l1Draw.mono _ _ _
   | exact spec_l1Wrong.mono _ _ _ _ _ _
   | exact LeO.none _
   | refine LeO.ite ?_ ?_
   | refine LeO.bind ?_ (fun _ => ?_)
set_option maxHeartbeats 8000000 in
set_option maxRecDepth 100000 in
theorem spec_DrawHeapValid.calls (k : Nat) (A0 : Option Addr) (c0 : Nat) (l0 : List Int) (r1 : List Int) (r2 : List Int) (r3 : List Int) (w : World) (hr0 : Kd.C (Kd.int .u8) w A0 l0.length l0) (hc0 : l0.length ≤ c0) (h : spec_DrawHeapValid.f k l0 = some (r1, r2, r3)) :
  Calls Try.prog 49 #[.slice A0 l0.length c0] w fun e w' => ∃ v0_ v1_ v2_ : Value, e = .returned (.agg #[v0_, v1_, v2_]) ∧ Kd.R (Kd.int .i64) 3 w' w.heap.size (fun k_ => some k_ ≠ (v1_ : Value).ownBlock ∧ some k_ ≠ (v2_ : Value).ownBlock) v0_ r1 ∧ Kd.R (Kd.int .i64) 3 w' w.heap.size (fun k_ => some k_ ≠ (v0_ : Value).ownBlock ∧ some k_ ≠ (v2_ : Value).ownBlock) v1_ r2 ∧ Kd.R (Kd.int .i64) 3 w' w.heap.size (fun k_ => some k_ ≠ (v0_ : Value).ownBlock ∧ some k_ ≠ (v1_ : Value).ownBlock) v2_ r3 ∧ Below w.heap.size w w' := by
 have hu28 := Try.underlying28
 have HR0 := am hr0
 have HC0 := am hc0
 clear hr0 hc0
 have HB := am (Below.refl w.heap.size w)
 have H : ((spec_l13Open.f l0).bind fun bt1392 => ((spec_l1Draw.f k bt1392.1 bt1392.2).bind fun bt1395 => ((spec_l1Wrong.f k bt1392.1 bt1395.2.2.2 bt1395.1 bt1395.2.1 bt1395.2.2.1).bind fun bt1405 => (some (bt1405.1, bt1405.2.1, bt1405.2.2.1))))) = some (r1, r2, r3) := h
 clear h
 replace H := Option.bind_eq_some_iff.mp H
 obtain ⟨⟨t1392, t1393⟩, A20, H⟩ := H
 replace H : ((spec_l1Draw.f k t1392 t1393).bind fun bt1395 => ((spec_l1Wrong.f k t1392 bt1395.2.2.2 bt1395.1 bt1395.2.1 bt1395.2.2.1).bind fun bt1405 => (some (bt1405.1, bt1405.2.1, bt1405.2.2.1)))) = some (r1, r2, r3) := H
 have A2 := am A20
 clear A20
 replace H := Option.bind_eq_some_iff.mp H
 obtain ⟨⟨t1395, t1398, t1401, t1404⟩, A30, H⟩ := H
 replace H : ((spec_l1Wrong.f k t1392 t1404 t1395 t1398 t1401).bind fun bt1405 => (some (bt1405.1, bt1405.2.1, bt1405.2.2.1))) = some (r1, r2, r3) := H
 have A3 := am A30
 clear A30
 replace H := Option.bind_eq_some_iff.mp H
 obtain ⟨⟨t1405, t1408, t1411, t1414⟩, A40, H⟩ := H
 replace H : (some (t1405, t1408, t1411)) = some (r1, r2, r3) := H
 have A4 := am A40
 clear A40
 simp only [Option.some.injEq, Prod.mk.injEq] at H
 obtain ⟨rfl, rfl, rfl⟩ := H
 go_enter Try.func49, Try.ntmps49
 go_wp2_with (first | ((with_reducible refine gate_dst (N := 2) rfl ?_); refine box_event ?hg (N := 2) ?hd (cs := #[.slice none 0 0, .slice none 0 0, .slice none 0 0]) (t := 28) ?hr ?_; (case hd => rfl); (case hg => rfl); (case hr => first | (go_simp; done) | (go_simp; rfl)); intro gb1391 hg w5 hbox hb; have BK1391 := am (hbox); have GW1391 := am ((by rw [hg]; exact (below_size (bl HB.out)) : w.heap.size ≤ gb1391)); have GE1391 := am ((by rw [hg]; exact (below_size (bl HB.out)) : w.heap.size ≤ gb1391)); replace HB := am (below_step (bl HB.out) hb); clear hb hbox hg) | ((with_reducible refine gate_callee (f := 69) rfl ?_); refine gL (some 5) rfl rfl Try.func69 (by kernel_rfl) rfl #[.slice A0 l0.length c0] rfl ?_; (with_reducible refine (spec_l13Open.calls _ _ l0 t1392 t1393 w _ ?side1 ?side2 ?side3 A2.out).mono ?_); (case side1 => exact bs1 GE1391.out HB.out); (case side2 => exact HR0.out); (case side3 => exact HC0.out); rintro e w6 ⟨g1394, rfl, hi, hb, hb2⟩; refine ⟨_, rfl, ?_⟩; replace HB := am (hb); have HI1394 := am (hi); have NB1394_1391 := am (IsS84.ne_blk hi (blk_below (g := gb1391) (o := .cells #[.slice none 0 0, .slice none 0 0, .slice none 0 0] 28 (0, 0)) (kl BK1391.out) hb2) (by decide)); have NB1391_1394 := am (Ne.symm (IsS84.ne_blk hi (blk_below (g := gb1391) (o := .cells #[.slice none 0 0, .slice none 0 0, .slice none 0 0] 28 (0, 0)) (kl BK1391.out) hb2) (by decide))); replace BK1391 := am (blk_below (g := gb1391) (o := .cells #[.slice none 0 0, .slice none 0 0, .slice none 0 0] 28 (0, 0)) (kl BK1391.out) hb2); (try clear hb hb2 hi)) | ((with_reducible refine gate_callee (f := 86) rfl ?_); refine gL (some 8) rfl rfl Try.func86 (by kernel_rfl) rfl #[.pointer (some ⟨g1394, 0, none⟩)] rfl ?_; (with_reducible refine (spec_l1Draw.calls k g1394 t1392 t1393 t1395 t1398 t1401 t1404 w _ ?side1 ?side2 A3.out).mono ?_); (case side1 => exact is84_1 NB1394_1391.out HI1394.out); (case side2 => exact bs2 (IsS84.ge HI1394.out) GE1391.out HB.out); rintro e w7 ⟨v1396, v1399, v1402, rfl, ho0, ho1, ho2, hi, hb, hk⟩; refine ⟨_, rfl, ?_⟩; replace BK1391 := kb hk BK1391 NB1391_1394; have HO1397 := ln0 ho0 (bs2 (IsS84.ge HI1394.out) GE1391.out HB.out); have HO1400 := ln0 ho1 (bs2 (IsS84.ge HI1394.out) GE1391.out HB.out); have HO1403 := ln0 ho2 (bs2 (IsS84.ge HI1394.out) GE1391.out HB.out); replace HB := am (hb); replace HI1394 := am (hi); (try clear hb hk hi ho0 ho1 ho2); obtain ⟨Ao8, co8, eo8⟩ := Kd.R_slice HO1397.out; subst eo8; obtain ⟨Ao9, co9, eo9⟩ := Kd.R_slice HO1400.out; subst eo9; obtain ⟨Ao10, co10, eo10⟩ := Kd.R_slice HO1403.out; subst eo10) | ((with_reducible refine gate_callee (f := 85) rfl ?_); refine gL (some 9) rfl rfl Try.func85 (by kernel_rfl) rfl #[.pointer (some ⟨g1394, 0, none⟩), .agg #[.slice Ao8 t1395.length co8, .slice Ao9 t1398.length co9, .slice Ao10 t1401.length co10]] rfl ?_; (with_reducible refine (spec_l1Wrong.calls k g1394 t1392 t1404 _ _ t1395 _ _ t1398 _ _ t1401 t1405 t1408 t1411 t1414 w _ ?side1 ?side2 ?side3 ?side4 ?side5 ?side6 ?side7 ?side8 ?side9 ?side10 ?side11 A4.out).mono ?_); (case side1 => exact is84_1 NB1394_1391.out HI1394.out); (case side2 => exact bs2 (IsS84.ge HI1394.out) GE1391.out HB.out); (case side3 => exact cl ((Kd.R_reads' HO1397.out).2.2)); (case side4 => exact sc HO1397); (case side5 => exact far_slice (IsS84.own_ne HI1394.out HO1397.out (by decide))); (case side6 => exact cl ((Kd.R_reads' HO1400.out).2.2)); (case side7 => exact sc HO1400); (case side8 => exact far_slice (IsS84.own_ne HI1394.out HO1400.out (by decide))); (case side9 => exact cl ((Kd.R_reads' HO1403.out).2.2)); (case side10 => exact sc HO1403); (case side11 => exact far_slice (IsS84.own_ne HI1394.out HO1403.out (by decide))); rintro e w11 ⟨v1406, v1409, v1412, rfl, ho0, ho1, ho2, hi, hb, hk⟩; refine ⟨_, rfl, ?_⟩; replace BK1391 := kb hk BK1391 NB1391_1394; have HO1407 := ln3 ho0 (rl HO1397.out) (rl HO1400.out) (rl HO1403.out) (bs2 (IsS84.ge HI1394.out) GE1391.out HB.out); have HO1410 := ln3 ho1 (rl HO1397.out) (rl HO1400.out) (rl HO1403.out) (bs2 (IsS84.ge HI1394.out) GE1391.out HB.out); have HO1413 := ln3 ho2 (rl HO1397.out) (rl HO1400.out) (rl HO1403.out) (bs2 (IsS84.ge HI1394.out) GE1391.out HB.out); replace HO1397 := am (Kd.R_mono (Kd.R_told (Kd.R_told (Kd.R_told (Kd.R_oldK (IsS84.apart (show IsS84 w _ g1394 t1392 t1404 from by exact is84_1 NB1394_1391.out HI1394.out) (rl HO1397.out) (by decide)) hk) (Kd.R_base ho0)) (Kd.R_base ho1)) (Kd.R_base ho2)) (fun _ h_ => h_.1)); replace HO1400 := am (Kd.R_mono (Kd.R_told (Kd.R_told (Kd.R_told (Kd.R_oldK (IsS84.apart (show IsS84 w _ g1394 t1392 t1404 from by exact is84_1 NB1394_1391.out HI1394.out) (rl HO1400.out) (by decide)) hk) (Kd.R_base ho0)) (Kd.R_base ho1)) (Kd.R_base ho2)) (fun _ h_ => h_.1)); replace HO1403 := am (Kd.R_mono (Kd.R_told (Kd.R_told (Kd.R_told (Kd.R_oldK (IsS84.apart (show IsS84 w _ g1394 t1392 t1404 from by exact is84_1 NB1394_1391.out HI1394.out) (rl HO1403.out) (by decide)) hk) (Kd.R_base ho0)) (Kd.R_base ho1)) (Kd.R_base ho2)) (fun _ h_ => h_.1)); replace HB := am (hb); replace HI1394 := am (hi); (try clear hb hk hi ho0 ho1 ho2); obtain ⟨Ao12, co12, eo12⟩ := Kd.R_slice HO1407.out; subst eo12; have hnb13 := NB1391_1394.out; have hnc13 := NB1394_1391.out; obtain ⟨hcz14_0, hcz14_1, hcz14_2, hfz14_0, hfz14_1, hfz14_2⟩ := cf3 BK1391; obtain ⟨Ao15, co15, eo15⟩ := Kd.R_slice HO1410.out; subst eo15; obtain ⟨Ao16, co16, eo16⟩ := Kd.R_slice HO1413.out; subst eo16))
 refine bodyPost_ret (results_cell_row rfl _ _ gb1391 28 #[.slice Ao12 t1405.length co12, .slice Ao15 t1408.length co15, .slice Ao16 t1411.length co16] (0, 0) _ rfl (kp3 (kf0 BK1391.out)) Try.underlying28 rfl (by kernel_rfl)) rfl ?_
 exact ⟨_, _, _, by first | rfl | (simp [errW_none, errW_some] <;> rfl) | (simp [*, errW_none, errW_some] <;> rfl), by exact ro (rg BK1391 HO1407), by exact ro (rg BK1391 HO1410), by exact ro (rg BK1391 HO1413), by exact bs2 (IsS84.ge HI1394.out) GE1391.out HB.out⟩

end Go.Proofs.Ytkbaggfkidalfaa.A
