/- Contracts of functions of the given program (CLawsFnHoldsShade). No conditions beyond those stated. -/
import Derived.Test.YtkbaggfkidalfaaA0
import Derived.Test.YtkbaggfkidalfaaAImplColorHolds
import Derived.Test.YtkbaggfkidalfaaAImplColoredSame
import Derived.Test.YtkbaggfkidalfaaAImplShadeCell
import Derived.Test.YtkbaggfkidalfaaASpecDrawShadeCell
import Derived.Test.YtkbaggfkidalfaaASpecShadeCell
import Derived.Test.YtkbaggfkidalfaaA0
namespace Go.Proofs.Ytkbaggfkidalfaa.A
open Go.RowKit Go.Proofs.YtkbaggfkidalfaaW.PrintWords Go.Proofs.YtkbaggfkidalfaaW.PrintLast Go.Proofs.YtkbaggfkidalfaaW.PrintMore
attribute [local go_sem] max2_int min2_int max_two min_two max_three min_three max_four min_four   -- for this text's walks alone
set_option linter.unusedVariables false
set_option linter.unusedSimpArgs false

/-! ### laws_FnHoldsShade -/
def laws_FnHoldsShade.j0 : Nat → Bool → Bool → Bool → List Int → List Int → List Int → List Int → List Int → List Int → List Int → List Int → List Int → List Int → List Int → List Int → Option (Bool)
 | 0, _, _, _, _, _, _, _, _, _, _, _, _, _, _, _ => none
 | k + 1, x6, x8, x41, x1359000, x1359001, x1359002, x1359003, x1373000, x1373001, x1373002, x1373003, x1387000, x1387001, x1387002, x1387003 => if x41 = true then ((impl_ColoredSame.f k x1373000 x1373001 x1373002 x1373003 x1387000 x1387001 x1387002 x1387003).bind fun t1388 => (if t1388 = true then (some (x6 == x8)) else (none))) else ((impl_ColorHolds.f x1359000 x1359001 x1359002 x1359003).bind fun t1389 => (if t1389 = true then ((impl_ColorHolds.f x1373000 x1373001 x1373002 x1373003).bind fun t1390 => (some t1390)) else (some true)))
def laws_FnHoldsShade.f (k : Nat) (l0 : List Int) : Option (Bool) := if (l0.length : Int) > 1048576 then (some true) else ((spec_DrawShadeCell.f k l0).bind fun bt1345 => ((impl_ShadeCell.f k bt1345.1 bt1345.2.1 bt1345.2.2.1 bt1345.2.2.2.1 bt1345.2.2.2.2).bind fun bt1359 => ((spec_ShadeCell.f k bt1345.1 bt1345.2.1 bt1345.2.2.1 bt1345.2.2.2.1 bt1345.2.2.2.2).bind fun bt1373 => ((impl_ColoredSame.f k bt1359.1 bt1359.2.1 bt1359.2.2.1 bt1359.2.2.2.1 bt1373.1 bt1373.2.1 bt1373.2.2.1 bt1373.2.2.2.1).bind fun t1387 => (if t1387 = true then (if (bt1359.2.2.2.2 != bt1373.2.2.2.2) = true then (laws_FnHoldsShade.j0 k bt1359.2.2.2.2 bt1373.2.2.2.2 true bt1345.1 bt1345.2.1 bt1345.2.2.1 bt1345.2.2.2.1 bt1359.1 bt1359.2.1 bt1359.2.2.1 bt1359.2.2.2.1 bt1373.1 bt1373.2.1 bt1373.2.2.1 bt1373.2.2.2.1) else (laws_FnHoldsShade.j0 k bt1359.2.2.2.2 bt1373.2.2.2.2 (!bt1359.2.2.2.2) bt1345.1 bt1345.2.1 bt1345.2.2.1 bt1345.2.2.2.1 bt1359.1 bt1359.2.1 bt1359.2.2.1 bt1359.2.2.2.1 bt1373.1 bt1373.2.1 bt1373.2.2.1 bt1373.2.2.2.1)) else (laws_FnHoldsShade.j0 k bt1359.2.2.2.2 bt1373.2.2.2.2 true bt1345.1 bt1345.2.1 bt1345.2.2.1 bt1345.2.2.2.1 bt1359.1 bt1359.2.1 bt1359.2.2.1 bt1359.2.2.2.1 bt1373.1 bt1373.2.1 bt1373.2.2.1 bt1373.2.2.2.1))))))
theorem laws_FnHoldsShade.mono_l : ∀ k, (∀ y0 y1 y2 y3 y4 y5 y6 y7 y8 y9 y10 y11 y12 y13 y14, LeO (laws_FnHoldsShade.j0 k y0 y1 y2 y3 y4 y5 y6 y7 y8 y9 y10 y11 y12 y13 y14) (laws_FnHoldsShade.j0 (k + 1) y0 y1 y2 y3 y4 y5 y6 y7 y8 y9 y10 y11 y12 y13 y14))
 | 0 => fun _ _ _ _ _ _ _ _ _ _ _ _ _ _ _ r h => by simp [laws_FnHoldsShade.j0] at h
 | k + 1 => by
  have ih0 := laws_FnHoldsShade.mono_l k
  ·intro y0 y1 y2 y3 y4 y5 y6 y7 y8 y9 y10 y11 y12 y13 y14
   unfold laws_FnHoldsShade.j0
   repeat' first
   | (with_reducible exact ih0 _ _ _ _ _ _ _ _ _ _ _ _ _ _ _)
   | (with_reducible exact impl_ColoredSame.mono _ _ _ _ _ _ _ _ _)
   | (with_reducible exact impl_ShadeCell.mono _ _ _ _ _ _)
   | (with_reducible exact spec_DrawShadeCell.mono _ _)
   | (with_reducible exact spec_ShadeCell.mono _ _ _ _ _ _)
   | (with_reducible exact LeO.refl _)
   | (with_reducible exact LeO.none _)
   | (with_reducible refine LeO.ite ?_ ?_)
   | (with_reducible refine LeO.bind ?_ (fun _ => ?_))
   | exact ih0 _ _ _ _ _ _ _ _ _ _ _ _ _ _ _
   | exact impl_ColoredSame.mono _ _ _ _ _ _ _ _ _
   | exact impl_ShadeCell.mono _ _ _ _ _ _
   | exact spec_DrawShadeCell.mono _ _
   | exact spec_ShadeCell.mono _ _ _ _ _ _
   | exact LeO.none _
   | refine LeO.ite ?_ ?_
   | refine LeO.bind ?_ (fun _ => ?_)
theorem laws_FnHoldsShade.mono : ∀ a0 k, LeO (laws_FnHoldsShade.f k a0) (laws_FnHoldsShade.f (k + 1) a0) := by
 intro a0 k
 have ih0 := laws_FnHoldsShade.mono_l k
 unfold laws_FnHoldsShade.f
 repeat' first
   | (with_reducible exact ih0 _ _ _ _ _ _ _ _ _ _ _ _ _ _ _)
   | (with_reducible exact impl_ColoredSame.mono _ _ _ _ _ _ _ _ _)
   | (with_reducible exact impl_ShadeCell.mono _ _ _ _ _ _)
   | (with_reducible exact spec_DrawShadeCell.mono _ _)
   | (with_reducible exact spec_ShadeCell.mono _ _ _ _ _ _)
   | (with_reducible exact LeO.refl _)
   | (with_reducible exact LeO.none _)
   | (with_reducible refine LeO.ite ?_ ?_)
   | (with_reducible refine LeO.bind ?_ (fun _ => ?_))
   | exact ih0 _ _ _ _ _ _ _ _ _ _ _ _ _ _ _
   | exact impl_ColoredSame.mono _ _ _ _ _ _ _ _ _
   | exact impl_ShadeCell.mono _ _ _ _ _ _
   | exact spec_DrawShadeCell.mono _ _
   | exact spec_ShadeCell.mono _ _ _ _ _ _
   | exact LeO.none _
   | refine LeO.ite ?_ ?_
   | refine LeO.bind ?_ (fun _ => ?_)
set_option maxHeartbeats 8000000 in
set_option maxRecDepth 100000 in
theorem laws_FnHoldsShade.calls (k : Nat) (A0 : Option Addr) (c0 : Nat) (l0 : List Int) (r : Bool) (w : World) (hr0 : Kd.C (Kd.int .u8) w A0 l0.length l0) (hc0 : l0.length ≤ c0) (h : laws_FnHoldsShade.f k l0 = some r) :
  Calls Try.prog 13 #[.slice A0 l0.length c0] w fun e w' => e = .returned (.bool r) ∧ Below w.heap.size w w' := by
 have hu30 := Try.underlying30
 have HR0 := am hr0
 have HC0 := am hc0
 clear hr0 hc0
 have HB := am (Below.refl w.heap.size w)
 have H : (if (l0.length : Int) > 1048576 then (some true) else ((spec_DrawShadeCell.f k l0).bind fun bt1345 => ((impl_ShadeCell.f k bt1345.1 bt1345.2.1 bt1345.2.2.1 bt1345.2.2.2.1 bt1345.2.2.2.2).bind fun bt1359 => ((spec_ShadeCell.f k bt1345.1 bt1345.2.1 bt1345.2.2.1 bt1345.2.2.2.1 bt1345.2.2.2.2).bind fun bt1373 => ((impl_ColoredSame.f k bt1359.1 bt1359.2.1 bt1359.2.2.1 bt1359.2.2.2.1 bt1373.1 bt1373.2.1 bt1373.2.2.1 bt1373.2.2.2.1).bind fun t1387 => (if t1387 = true then (if (bt1359.2.2.2.2 != bt1373.2.2.2.2) = true then (laws_FnHoldsShade.j0 k bt1359.2.2.2.2 bt1373.2.2.2.2 true bt1345.1 bt1345.2.1 bt1345.2.2.1 bt1345.2.2.2.1 bt1359.1 bt1359.2.1 bt1359.2.2.1 bt1359.2.2.2.1 bt1373.1 bt1373.2.1 bt1373.2.2.1 bt1373.2.2.2.1) else (laws_FnHoldsShade.j0 k bt1359.2.2.2.2 bt1373.2.2.2.2 (!bt1359.2.2.2.2) bt1345.1 bt1345.2.1 bt1345.2.2.1 bt1345.2.2.2.1 bt1359.1 bt1359.2.1 bt1359.2.2.1 bt1359.2.2.2.1 bt1373.1 bt1373.2.1 bt1373.2.2.1 bt1373.2.2.2.1)) else (laws_FnHoldsShade.j0 k bt1359.2.2.2.2 bt1373.2.2.2.2 true bt1345.1 bt1345.2.1 bt1345.2.2.1 bt1345.2.2.2.1 bt1359.1 bt1359.2.1 bt1359.2.2.1 bt1359.2.2.2.1 bt1373.1 bt1373.2.1 bt1373.2.2.1 bt1373.2.2.2.1))))))) = some r := h
 clear h
 by_cases c2 : (l0.length : Int) > 1048576
 ·rw [if_pos c2] at H
  have c2b0 : decide (1048576 < (l0.length : Int)) = true := decide_eq_true c2
  have c2b1 : decide (1048576 < l0.length) = true := decide_eq_true (by omega)
  clear c2
  obtain rfl := Option.some.inj H
  go_enter Try.func13, Try.ntmps13
  go_wp2
  go_ret
  exact ⟨by first | rfl | (simp [errW_none, errW_some] <;> rfl) | (simp [*, errW_none, errW_some] <;> rfl), by exact bs0 HB.out⟩
 ·rw [if_neg c2] at H
  have c2b0 : decide (1048576 < (l0.length : Int)) = false := decide_eq_false c2
  have c2b1 : decide (1048576 < l0.length) = false := decide_eq_false (by omega)
  clear c2
  replace H := Option.bind_eq_some_iff.mp H
  obtain ⟨⟨t1345, t1348, t1351, t1354, t1357⟩, A30, H⟩ := H
  replace H : ((impl_ShadeCell.f k t1345 t1348 t1351 t1354 t1357).bind fun bt1359 => ((spec_ShadeCell.f k t1345 t1348 t1351 t1354 t1357).bind fun bt1373 => ((impl_ColoredSame.f k bt1359.1 bt1359.2.1 bt1359.2.2.1 bt1359.2.2.2.1 bt1373.1 bt1373.2.1 bt1373.2.2.1 bt1373.2.2.2.1).bind fun t1387 => (if t1387 = true then (if (bt1359.2.2.2.2 != bt1373.2.2.2.2) = true then (laws_FnHoldsShade.j0 k bt1359.2.2.2.2 bt1373.2.2.2.2 true t1345 t1348 t1351 t1354 bt1359.1 bt1359.2.1 bt1359.2.2.1 bt1359.2.2.2.1 bt1373.1 bt1373.2.1 bt1373.2.2.1 bt1373.2.2.2.1) else (laws_FnHoldsShade.j0 k bt1359.2.2.2.2 bt1373.2.2.2.2 (!bt1359.2.2.2.2) t1345 t1348 t1351 t1354 bt1359.1 bt1359.2.1 bt1359.2.2.1 bt1359.2.2.2.1 bt1373.1 bt1373.2.1 bt1373.2.2.1 bt1373.2.2.2.1)) else (laws_FnHoldsShade.j0 k bt1359.2.2.2.2 bt1373.2.2.2.2 true t1345 t1348 t1351 t1354 bt1359.1 bt1359.2.1 bt1359.2.2.1 bt1359.2.2.2.1 bt1373.1 bt1373.2.1 bt1373.2.2.1 bt1373.2.2.2.1))))) = some r := H
  have A3 := am A30
  clear A30
  replace H := Option.bind_eq_some_iff.mp H
  obtain ⟨⟨t1359, t1362, t1365, t1368, t1371⟩, A40, H⟩ := H
  replace H : ((spec_ShadeCell.f k t1345 t1348 t1351 t1354 t1357).bind fun bt1373 => ((impl_ColoredSame.f k t1359 t1362 t1365 t1368 bt1373.1 bt1373.2.1 bt1373.2.2.1 bt1373.2.2.2.1).bind fun t1387 => (if t1387 = true then (if (t1371 != bt1373.2.2.2.2) = true then (laws_FnHoldsShade.j0 k t1371 bt1373.2.2.2.2 true t1345 t1348 t1351 t1354 t1359 t1362 t1365 t1368 bt1373.1 bt1373.2.1 bt1373.2.2.1 bt1373.2.2.2.1) else (laws_FnHoldsShade.j0 k t1371 bt1373.2.2.2.2 (!t1371) t1345 t1348 t1351 t1354 t1359 t1362 t1365 t1368 bt1373.1 bt1373.2.1 bt1373.2.2.1 bt1373.2.2.2.1)) else (laws_FnHoldsShade.j0 k t1371 bt1373.2.2.2.2 true t1345 t1348 t1351 t1354 t1359 t1362 t1365 t1368 bt1373.1 bt1373.2.1 bt1373.2.2.1 bt1373.2.2.2.1)))) = some r := H
  have A4 := am A40
  clear A40
  replace H := Option.bind_eq_some_iff.mp H
  obtain ⟨⟨t1373, t1376, t1379, t1382, t1385⟩, A50, H⟩ := H
  replace H : ((impl_ColoredSame.f k t1359 t1362 t1365 t1368 t1373 t1376 t1379 t1382).bind fun t1387 => (if t1387 = true then (if (t1371 != t1385) = true then (laws_FnHoldsShade.j0 k t1371 t1385 true t1345 t1348 t1351 t1354 t1359 t1362 t1365 t1368 t1373 t1376 t1379 t1382) else (laws_FnHoldsShade.j0 k t1371 t1385 (!t1371) t1345 t1348 t1351 t1354 t1359 t1362 t1365 t1368 t1373 t1376 t1379 t1382)) else (laws_FnHoldsShade.j0 k t1371 t1385 true t1345 t1348 t1351 t1354 t1359 t1362 t1365 t1368 t1373 t1376 t1379 t1382))) = some r := H
  have A5 := am A50
  clear A50
  have HC6 := am H
  clear H
  go_enter Try.func13, Try.ntmps13
  go_upto_region 6 with (first | ((with_reducible refine gate_callee (f := 37) rfl ?_); refine gL (some 14) rfl rfl Try.func37 (by kernel_rfl) rfl #[.slice A0 l0.length c0] rfl ?_; (with_reducible refine (spec_DrawShadeCell.calls k _ _ l0 t1345 t1348 t1351 t1354 t1357 _ ?side1 ?side2 A3.out).mono ?_); (case side1 => exact cl (HR0.out)); (case side2 => exact HC0.out); rintro e w7 ⟨v1346, v1349, v1352, v1355, rfl, ho0, ho1, ho2, ho3, hb⟩; refine ⟨_, rfl, ?_⟩; have HO1347 := ln0 ho0 (bl HB.out); have HO1350 := ln0 ho1 (bl HB.out); have HO1353 := ln0 ho2 (bl HB.out); have HO1356 := ln0 ho3 (bl HB.out); replace HB := am (below_step (bl HB.out) hb); (try clear hb ho0 ho1 ho2 ho3)) | ((with_reducible refine gate_dst (N := 3) rfl ?_); refine box_event ?hg (N := 3) ?hd (cs := #[.slice none 0 0, .slice none 0 0, .slice none 0 0, .slice none 0 0]) (t := 30) ?hr ?_; (case hd => rfl); (case hg => rfl); (case hr => first | (go_simp; done) | (go_simp; rfl)); intro gb1358 hg w8 hbox hb; replace HO1347 := rb HO1347 hb; replace HO1350 := rb HO1350 hb; replace HO1353 := rb HO1353 hb; replace HO1356 := rb HO1356 hb; have BK1358 := am (hbox); have GW1358 := am ((by rw [hg]; exact (below_size (bl HB.out)) : w.heap.size ≤ gb1358)); have GE1358 := am ((by rw [hg]; exact (below_size (bl HB.out)) : w.heap.size ≤ gb1358)); replace HB := am (below_step (bl HB.out) hb); clear hb hbox hg; obtain ⟨Ao9, co9, eo9⟩ := Kd.R_slice HO1347.out; subst eo9; obtain ⟨hcz10_0, hcz10_1, hcz10_2, hcz10_3, hfz10_0, hfz10_1, hfz10_2, hfz10_3⟩ := cf4 BK1358; obtain ⟨Ao11, co11, eo11⟩ := Kd.R_slice HO1350.out; subst eo11; obtain ⟨Ao12, co12, eo12⟩ := Kd.R_slice HO1353.out; subst eo12; obtain ⟨Ao13, co13, eo13⟩ := Kd.R_slice HO1356.out; subst eo13) | ((with_reducible refine gate_callee (f := 20) rfl ?_); refine gL (some 20) rfl rfl Try.func20 (by kernel_rfl) rfl #[.agg #[.slice Ao9 t1345.length co9, .slice Ao11 t1348.length co11, .slice Ao12 t1351.length co12, .slice Ao13 t1354.length co13], .int .i64 t1357] rfl ?_; (with_reducible refine (impl_ShadeCell.calls k _ _ t1345 _ _ t1348 _ _ t1351 _ _ t1354 t1357 t1359 t1362 t1365 t1368 t1371 _ ?side1 ?side2 ?side3 ?side4 ?side5 ?side6 ?side7 ?side8 A4.out).mono ?_); (case side1 => exact sr (rg BK1358 HO1347)); (case side2 => exact sc HO1347); (case side3 => exact sr (rg BK1358 HO1350)); (case side4 => exact sc HO1350); (case side5 => exact sr (rg BK1358 HO1353)); (case side6 => exact sc HO1353); (case side7 => exact sr (rg BK1358 HO1356)); (case side8 => exact sc HO1356); rintro e w14 ⟨v1360, v1363, v1366, v1369, rfl, ho0, ho1, ho2, ho3, hb⟩; refine ⟨_, rfl, ?_⟩; have HO1361 := ln4 ho0 (rg BK1358 HO1347) (rg BK1358 HO1350) (rg BK1358 HO1353) (rg BK1358 HO1356) (bs1 GE1358.out HB.out); have HO1364 := ln4 ho1 (rg BK1358 HO1347) (rg BK1358 HO1350) (rg BK1358 HO1353) (rg BK1358 HO1356) (bs1 GE1358.out HB.out); have HO1367 := ln4 ho2 (rg BK1358 HO1347) (rg BK1358 HO1350) (rg BK1358 HO1353) (rg BK1358 HO1356) (bs1 GE1358.out HB.out); have HO1370 := ln4 ho3 (rg BK1358 HO1347) (rg BK1358 HO1350) (rg BK1358 HO1353) (rg BK1358 HO1356) (bs1 GE1358.out HB.out); replace HO1347 := td4 (rg BK1358 HO1347) hb ho0 ho1 ho2 ho3; replace HO1350 := td4 (rg BK1358 HO1350) hb ho0 ho1 ho2 ho3; replace HO1353 := td4 (rg BK1358 HO1353) hb ho0 ho1 ho2 ho3; replace HO1356 := td4 (rg BK1358 HO1356) hb ho0 ho1 ho2 ho3; replace BK1358 := bp4 (kf0 BK1358.out) hb; replace HB := am (below_step (bs1 GE1358.out HB.out) hb); (try clear hb ho0 ho1 ho2 ho3)) | ((with_reducible refine gate_dst (N := 5) rfl ?_); refine box_event ?hg (N := 5) ?hd (cs := #[.slice none 0 0, .slice none 0 0, .slice none 0 0, .slice none 0 0]) (t := 30) ?hr ?_; (case hd => rfl); (case hg => rfl); (case hr => first | (go_simp; done) | (go_simp; rfl)); intro gb1372 hg w15 hbox hb; replace HO1347 := rb HO1347 hb; replace HO1350 := rb HO1350 hb; replace HO1353 := rb HO1353 hb; replace HO1356 := rb HO1356 hb; replace HO1361 := rb HO1361 hb; replace HO1364 := rb HO1364 hb; replace HO1367 := rb HO1367 hb; replace HO1370 := rb HO1370 hb; have BK1372 := am (hbox); have GW1372 := am ((by rw [hg]; exact (below_size (bs1 GE1358.out HB.out)) : w.heap.size ≤ gb1372)); have GE1372 := am ((by rw [hg]; exact (below_size (bs1 GE1358.out HB.out)) : w.heap.size ≤ gb1372)); replace HB := am (below_step (bs1 GE1358.out HB.out) hb); have NB1358_1372 := nb BK1358 hg; have NB1372_1358 := nc BK1358 hg; replace BK1358 := bb BK1358 hb; clear hb hbox hg; obtain ⟨Ao16, co16, eo16⟩ := Kd.R_slice HO1361.out; subst eo16; have hnb17 := NB1372_1358.out; have hnc17 := NB1358_1372.out; obtain ⟨hcz18_0, hcz18_1, hcz18_2, hcz18_3, hfz18_0, hfz18_1, hfz18_2, hfz18_3⟩ := cf4 BK1372; obtain ⟨Ao19, co19, eo19⟩ := Kd.R_slice HO1364.out; subst eo19; obtain ⟨Ao20, co20, eo20⟩ := Kd.R_slice HO1367.out; subst eo20; obtain ⟨Ao21, co21, eo21⟩ := Kd.R_slice HO1370.out; subst eo21; obtain ⟨hcz22_0, hcz22_1, hcz22_2, hcz22_3, hfz22_0, hfz22_1, hfz22_2, hfz22_3⟩ := cf4 BK1358) | ((with_reducible refine gate_callee (f := 18) rfl ?_); refine gL (some 26) rfl rfl Try.func18 (by kernel_rfl) rfl #[.agg #[.slice Ao9 t1345.length co9, .slice Ao11 t1348.length co11, .slice Ao12 t1351.length co12, .slice Ao13 t1354.length co13], .int .i64 t1357] rfl ?_; (with_reducible refine (spec_ShadeCell.calls k _ _ t1345 _ _ t1348 _ _ t1351 _ _ t1354 t1357 t1373 t1376 t1379 t1382 t1385 _ ?side1 ?side2 ?side3 ?side4 ?side5 ?side6 ?side7 ?side8 A5.out).mono ?_); (case side1 => exact sr (rg BK1372 HO1347)); (case side2 => exact sc HO1347); (case side3 => exact sr (rg BK1372 HO1350)); (case side4 => exact sc HO1350); (case side5 => exact sr (rg BK1372 HO1353)); (case side6 => exact sc HO1353); (case side7 => exact sr (rg BK1372 HO1356)); (case side8 => exact sc HO1356); rintro e w23 ⟨v1374, v1377, v1380, v1383, rfl, ho0, ho1, ho2, ho3, hb⟩; refine ⟨_, rfl, ?_⟩; have HO1375 := ln8 ho0 (rg BK1372 HO1347) (rg BK1372 HO1350) (rg BK1372 HO1353) (rg BK1372 HO1356) (rg BK1372 HO1361) (rg BK1372 HO1364) (rg BK1372 HO1367) (rg BK1372 HO1370) (bs2 GE1358.out GE1372.out HB.out); have HO1378 := ln8 ho1 (rg BK1372 HO1347) (rg BK1372 HO1350) (rg BK1372 HO1353) (rg BK1372 HO1356) (rg BK1372 HO1361) (rg BK1372 HO1364) (rg BK1372 HO1367) (rg BK1372 HO1370) (bs2 GE1358.out GE1372.out HB.out); have HO1381 := ln8 ho2 (rg BK1372 HO1347) (rg BK1372 HO1350) (rg BK1372 HO1353) (rg BK1372 HO1356) (rg BK1372 HO1361) (rg BK1372 HO1364) (rg BK1372 HO1367) (rg BK1372 HO1370) (bs2 GE1358.out GE1372.out HB.out); have HO1384 := ln8 ho3 (rg BK1372 HO1347) (rg BK1372 HO1350) (rg BK1372 HO1353) (rg BK1372 HO1356) (rg BK1372 HO1361) (rg BK1372 HO1364) (rg BK1372 HO1367) (rg BK1372 HO1370) (bs2 GE1358.out GE1372.out HB.out); replace HO1347 := td4 (rg BK1372 HO1347) hb ho0 ho1 ho2 ho3; replace HO1350 := td4 (rg BK1372 HO1350) hb ho0 ho1 ho2 ho3; replace HO1353 := td4 (rg BK1372 HO1353) hb ho0 ho1 ho2 ho3; replace HO1356 := td4 (rg BK1372 HO1356) hb ho0 ho1 ho2 ho3; replace HO1361 := td4 (rg BK1372 HO1361) hb ho0 ho1 ho2 ho3; replace HO1364 := td4 (rg BK1372 HO1364) hb ho0 ho1 ho2 ho3; replace HO1367 := td4 (rg BK1372 HO1367) hb ho0 ho1 ho2 ho3; replace HO1370 := td4 (rg BK1372 HO1370) hb ho0 ho1 ho2 ho3; replace BK1358 := am (blk_below (g := gb1358) (o := .cells #[.slice Ao9 t1345.length co9, .slice Ao11 t1348.length co11, .slice Ao12 t1351.length co12, .slice Ao13 t1354.length co13] 30 (0, 0)) (kf1 NB1358_1372.out BK1358.out) hb); replace BK1372 := bp4 (kf0 BK1372.out) hb; replace HB := am (below_step (bs2 GE1358.out GE1372.out HB.out) hb); (try clear hb ho0 ho1 ho2 ho3)) | ((with_reducible refine gate_dst (N := 7) rfl ?_); refine box_event ?hg (N := 7) ?hd (cs := #[.slice none 0 0, .slice none 0 0, .slice none 0 0, .slice none 0 0]) (t := 30) ?hr ?_; (case hd => rfl); (case hg => rfl); (case hr => first | (go_simp; done) | (go_simp; rfl)); intro gb1386 hg w24 hbox hb; replace HO1347 := rb HO1347 hb; replace HO1350 := rb HO1350 hb; replace HO1353 := rb HO1353 hb; replace HO1356 := rb HO1356 hb; replace HO1361 := rb HO1361 hb; replace HO1364 := rb HO1364 hb; replace HO1367 := rb HO1367 hb; replace HO1370 := rb HO1370 hb; replace HO1375 := rb HO1375 hb; replace HO1378 := rb HO1378 hb; replace HO1381 := rb HO1381 hb; replace HO1384 := rb HO1384 hb; have BK1386 := am (hbox); have GW1386 := am ((by rw [hg]; exact (below_size (bs2 GE1358.out GE1372.out HB.out)) : w.heap.size ≤ gb1386)); have GE1386 := am ((by rw [hg]; exact (below_size (bs2 GE1358.out GE1372.out HB.out)) : w.heap.size ≤ gb1386)); replace HB := am (below_step (bs2 GE1358.out GE1372.out HB.out) hb); have NB1358_1386 := nb BK1358 hg; have NB1386_1358 := nc BK1358 hg; replace BK1358 := bb BK1358 hb; have NB1372_1386 := nb BK1372 hg; have NB1386_1372 := nc BK1372 hg; replace BK1372 := bb BK1372 hb; clear hb hbox hg; obtain ⟨Ao25, co25, eo25⟩ := Kd.R_slice HO1375.out; subst eo25; have hnb26 := NB1386_1358.out; have hnc26 := NB1358_1386.out; have hnb27 := NB1386_1372.out; have hnc27 := NB1372_1386.out; obtain ⟨hcz28_0, hcz28_1, hcz28_2, hcz28_3, hfz28_0, hfz28_1, hfz28_2, hfz28_3⟩ := cf4 BK1386; obtain ⟨Ao29, co29, eo29⟩ := Kd.R_slice HO1378.out; subst eo29; obtain ⟨Ao30, co30, eo30⟩ := Kd.R_slice HO1381.out; subst eo30; obtain ⟨Ao31, co31, eo31⟩ := Kd.R_slice HO1384.out; subst eo31))
  (try simp only [Act.put, List.setIfInBounds_toArray, List.set_cons_zero, List.set_cons_succ])
  go_cut [41] (fun v41 wc => ∃ (kq : Nat) (x41_5 : Bool), v41 = .bool x41_5 ∧ Aside0 (laws_FnHoldsShade.j0 kq t1371 t1385 x41_5 t1345 t1348 t1351 t1354 t1359 t1362 t1365 t1368 t1373 t1376 t1379 t1382 = some r) ∧ Aside0 (kq ≤ k) ∧ Aside0 (Kd.R (Kd.int .i64) 3 wc w.heap.size (fun k_ => some k_ ≠ ((.slice Ao11 t1348.length co11) : Value).ownBlock ∧ some k_ ≠ ((.slice Ao12 t1351.length co12) : Value).ownBlock ∧ some k_ ≠ ((.slice Ao13 t1354.length co13) : Value).ownBlock ∧ some k_ ≠ ((.slice Ao16 t1359.length co16) : Value).ownBlock ∧ some k_ ≠ ((.slice Ao19 t1362.length co19) : Value).ownBlock ∧ some k_ ≠ ((.slice Ao20 t1365.length co20) : Value).ownBlock ∧ some k_ ≠ ((.slice Ao21 t1368.length co21) : Value).ownBlock ∧ some k_ ≠ ((.slice Ao25 t1373.length co25) : Value).ownBlock ∧ some k_ ≠ ((.slice Ao29 t1376.length co29) : Value).ownBlock ∧ some k_ ≠ ((.slice Ao30 t1379.length co30) : Value).ownBlock ∧ some k_ ≠ ((.slice Ao31 t1382.length co31) : Value).ownBlock) (.slice Ao9 t1345.length co9) t1345) ∧ Aside0 (Kd.R (Kd.int .i64) 3 wc w.heap.size (fun k_ => some k_ ≠ ((.slice Ao9 t1345.length co9) : Value).ownBlock ∧ some k_ ≠ ((.slice Ao12 t1351.length co12) : Value).ownBlock ∧ some k_ ≠ ((.slice Ao13 t1354.length co13) : Value).ownBlock ∧ some k_ ≠ ((.slice Ao16 t1359.length co16) : Value).ownBlock ∧ some k_ ≠ ((.slice Ao19 t1362.length co19) : Value).ownBlock ∧ some k_ ≠ ((.slice Ao20 t1365.length co20) : Value).ownBlock ∧ some k_ ≠ ((.slice Ao21 t1368.length co21) : Value).ownBlock ∧ some k_ ≠ ((.slice Ao25 t1373.length co25) : Value).ownBlock ∧ some k_ ≠ ((.slice Ao29 t1376.length co29) : Value).ownBlock ∧ some k_ ≠ ((.slice Ao30 t1379.length co30) : Value).ownBlock ∧ some k_ ≠ ((.slice Ao31 t1382.length co31) : Value).ownBlock) (.slice Ao11 t1348.length co11) t1348) ∧ Aside0 (Kd.R (Kd.int .i64) 3 wc w.heap.size (fun k_ => some k_ ≠ ((.slice Ao9 t1345.length co9) : Value).ownBlock ∧ some k_ ≠ ((.slice Ao11 t1348.length co11) : Value).ownBlock ∧ some k_ ≠ ((.slice Ao13 t1354.length co13) : Value).ownBlock ∧ some k_ ≠ ((.slice Ao16 t1359.length co16) : Value).ownBlock ∧ some k_ ≠ ((.slice Ao19 t1362.length co19) : Value).ownBlock ∧ some k_ ≠ ((.slice Ao20 t1365.length co20) : Value).ownBlock ∧ some k_ ≠ ((.slice Ao21 t1368.length co21) : Value).ownBlock ∧ some k_ ≠ ((.slice Ao25 t1373.length co25) : Value).ownBlock ∧ some k_ ≠ ((.slice Ao29 t1376.length co29) : Value).ownBlock ∧ some k_ ≠ ((.slice Ao30 t1379.length co30) : Value).ownBlock ∧ some k_ ≠ ((.slice Ao31 t1382.length co31) : Value).ownBlock) (.slice Ao12 t1351.length co12) t1351) ∧ Aside0 (Kd.R (Kd.int .i64) 3 wc w.heap.size (fun k_ => some k_ ≠ ((.slice Ao9 t1345.length co9) : Value).ownBlock ∧ some k_ ≠ ((.slice Ao11 t1348.length co11) : Value).ownBlock ∧ some k_ ≠ ((.slice Ao12 t1351.length co12) : Value).ownBlock ∧ some k_ ≠ ((.slice Ao16 t1359.length co16) : Value).ownBlock ∧ some k_ ≠ ((.slice Ao19 t1362.length co19) : Value).ownBlock ∧ some k_ ≠ ((.slice Ao20 t1365.length co20) : Value).ownBlock ∧ some k_ ≠ ((.slice Ao21 t1368.length co21) : Value).ownBlock ∧ some k_ ≠ ((.slice Ao25 t1373.length co25) : Value).ownBlock ∧ some k_ ≠ ((.slice Ao29 t1376.length co29) : Value).ownBlock ∧ some k_ ≠ ((.slice Ao30 t1379.length co30) : Value).ownBlock ∧ some k_ ≠ ((.slice Ao31 t1382.length co31) : Value).ownBlock) (.slice Ao13 t1354.length co13) t1354) ∧ Aside0 (Kd.R (Kd.int .i64) 3 wc w.heap.size (fun k_ => some k_ ≠ ((.slice Ao9 t1345.length co9) : Value).ownBlock ∧ some k_ ≠ ((.slice Ao11 t1348.length co11) : Value).ownBlock ∧ some k_ ≠ ((.slice Ao12 t1351.length co12) : Value).ownBlock ∧ some k_ ≠ ((.slice Ao13 t1354.length co13) : Value).ownBlock ∧ some k_ ≠ ((.slice Ao19 t1362.length co19) : Value).ownBlock ∧ some k_ ≠ ((.slice Ao20 t1365.length co20) : Value).ownBlock ∧ some k_ ≠ ((.slice Ao21 t1368.length co21) : Value).ownBlock ∧ some k_ ≠ ((.slice Ao25 t1373.length co25) : Value).ownBlock ∧ some k_ ≠ ((.slice Ao29 t1376.length co29) : Value).ownBlock ∧ some k_ ≠ ((.slice Ao30 t1379.length co30) : Value).ownBlock ∧ some k_ ≠ ((.slice Ao31 t1382.length co31) : Value).ownBlock) (.slice Ao16 t1359.length co16) t1359) ∧ Aside0 (Kd.R (Kd.int .i64) 3 wc w.heap.size (fun k_ => some k_ ≠ ((.slice Ao9 t1345.length co9) : Value).ownBlock ∧ some k_ ≠ ((.slice Ao11 t1348.length co11) : Value).ownBlock ∧ some k_ ≠ ((.slice Ao12 t1351.length co12) : Value).ownBlock ∧ some k_ ≠ ((.slice Ao13 t1354.length co13) : Value).ownBlock ∧ some k_ ≠ ((.slice Ao16 t1359.length co16) : Value).ownBlock ∧ some k_ ≠ ((.slice Ao20 t1365.length co20) : Value).ownBlock ∧ some k_ ≠ ((.slice Ao21 t1368.length co21) : Value).ownBlock ∧ some k_ ≠ ((.slice Ao25 t1373.length co25) : Value).ownBlock ∧ some k_ ≠ ((.slice Ao29 t1376.length co29) : Value).ownBlock ∧ some k_ ≠ ((.slice Ao30 t1379.length co30) : Value).ownBlock ∧ some k_ ≠ ((.slice Ao31 t1382.length co31) : Value).ownBlock) (.slice Ao19 t1362.length co19) t1362) ∧ Aside0 (Kd.R (Kd.int .i64) 3 wc w.heap.size (fun k_ => some k_ ≠ ((.slice Ao9 t1345.length co9) : Value).ownBlock ∧ some k_ ≠ ((.slice Ao11 t1348.length co11) : Value).ownBlock ∧ some k_ ≠ ((.slice Ao12 t1351.length co12) : Value).ownBlock ∧ some k_ ≠ ((.slice Ao13 t1354.length co13) : Value).ownBlock ∧ some k_ ≠ ((.slice Ao16 t1359.length co16) : Value).ownBlock ∧ some k_ ≠ ((.slice Ao19 t1362.length co19) : Value).ownBlock ∧ some k_ ≠ ((.slice Ao21 t1368.length co21) : Value).ownBlock ∧ some k_ ≠ ((.slice Ao25 t1373.length co25) : Value).ownBlock ∧ some k_ ≠ ((.slice Ao29 t1376.length co29) : Value).ownBlock ∧ some k_ ≠ ((.slice Ao30 t1379.length co30) : Value).ownBlock ∧ some k_ ≠ ((.slice Ao31 t1382.length co31) : Value).ownBlock) (.slice Ao20 t1365.length co20) t1365) ∧ Aside0 (Kd.R (Kd.int .i64) 3 wc w.heap.size (fun k_ => some k_ ≠ ((.slice Ao9 t1345.length co9) : Value).ownBlock ∧ some k_ ≠ ((.slice Ao11 t1348.length co11) : Value).ownBlock ∧ some k_ ≠ ((.slice Ao12 t1351.length co12) : Value).ownBlock ∧ some k_ ≠ ((.slice Ao13 t1354.length co13) : Value).ownBlock ∧ some k_ ≠ ((.slice Ao16 t1359.length co16) : Value).ownBlock ∧ some k_ ≠ ((.slice Ao19 t1362.length co19) : Value).ownBlock ∧ some k_ ≠ ((.slice Ao20 t1365.length co20) : Value).ownBlock ∧ some k_ ≠ ((.slice Ao25 t1373.length co25) : Value).ownBlock ∧ some k_ ≠ ((.slice Ao29 t1376.length co29) : Value).ownBlock ∧ some k_ ≠ ((.slice Ao30 t1379.length co30) : Value).ownBlock ∧ some k_ ≠ ((.slice Ao31 t1382.length co31) : Value).ownBlock) (.slice Ao21 t1368.length co21) t1368) ∧ Aside0 (Kd.R (Kd.int .i64) 3 wc w.heap.size (fun k_ => some k_ ≠ ((.slice Ao9 t1345.length co9) : Value).ownBlock ∧ some k_ ≠ ((.slice Ao11 t1348.length co11) : Value).ownBlock ∧ some k_ ≠ ((.slice Ao12 t1351.length co12) : Value).ownBlock ∧ some k_ ≠ ((.slice Ao13 t1354.length co13) : Value).ownBlock ∧ some k_ ≠ ((.slice Ao16 t1359.length co16) : Value).ownBlock ∧ some k_ ≠ ((.slice Ao19 t1362.length co19) : Value).ownBlock ∧ some k_ ≠ ((.slice Ao20 t1365.length co20) : Value).ownBlock ∧ some k_ ≠ ((.slice Ao21 t1368.length co21) : Value).ownBlock ∧ some k_ ≠ ((.slice Ao29 t1376.length co29) : Value).ownBlock ∧ some k_ ≠ ((.slice Ao30 t1379.length co30) : Value).ownBlock ∧ some k_ ≠ ((.slice Ao31 t1382.length co31) : Value).ownBlock) (.slice Ao25 t1373.length co25) t1373) ∧ Aside0 (Kd.R (Kd.int .i64) 3 wc w.heap.size (fun k_ => some k_ ≠ ((.slice Ao9 t1345.length co9) : Value).ownBlock ∧ some k_ ≠ ((.slice Ao11 t1348.length co11) : Value).ownBlock ∧ some k_ ≠ ((.slice Ao12 t1351.length co12) : Value).ownBlock ∧ some k_ ≠ ((.slice Ao13 t1354.length co13) : Value).ownBlock ∧ some k_ ≠ ((.slice Ao16 t1359.length co16) : Value).ownBlock ∧ some k_ ≠ ((.slice Ao19 t1362.length co19) : Value).ownBlock ∧ some k_ ≠ ((.slice Ao20 t1365.length co20) : Value).ownBlock ∧ some k_ ≠ ((.slice Ao21 t1368.length co21) : Value).ownBlock ∧ some k_ ≠ ((.slice Ao25 t1373.length co25) : Value).ownBlock ∧ some k_ ≠ ((.slice Ao30 t1379.length co30) : Value).ownBlock ∧ some k_ ≠ ((.slice Ao31 t1382.length co31) : Value).ownBlock) (.slice Ao29 t1376.length co29) t1376) ∧ Aside0 (Kd.R (Kd.int .i64) 3 wc w.heap.size (fun k_ => some k_ ≠ ((.slice Ao9 t1345.length co9) : Value).ownBlock ∧ some k_ ≠ ((.slice Ao11 t1348.length co11) : Value).ownBlock ∧ some k_ ≠ ((.slice Ao12 t1351.length co12) : Value).ownBlock ∧ some k_ ≠ ((.slice Ao13 t1354.length co13) : Value).ownBlock ∧ some k_ ≠ ((.slice Ao16 t1359.length co16) : Value).ownBlock ∧ some k_ ≠ ((.slice Ao19 t1362.length co19) : Value).ownBlock ∧ some k_ ≠ ((.slice Ao20 t1365.length co20) : Value).ownBlock ∧ some k_ ≠ ((.slice Ao21 t1368.length co21) : Value).ownBlock ∧ some k_ ≠ ((.slice Ao25 t1373.length co25) : Value).ownBlock ∧ some k_ ≠ ((.slice Ao29 t1376.length co29) : Value).ownBlock ∧ some k_ ≠ ((.slice Ao31 t1382.length co31) : Value).ownBlock) (.slice Ao30 t1379.length co30) t1379) ∧ Aside0 (Kd.R (Kd.int .i64) 3 wc w.heap.size (fun k_ => some k_ ≠ ((.slice Ao9 t1345.length co9) : Value).ownBlock ∧ some k_ ≠ ((.slice Ao11 t1348.length co11) : Value).ownBlock ∧ some k_ ≠ ((.slice Ao12 t1351.length co12) : Value).ownBlock ∧ some k_ ≠ ((.slice Ao13 t1354.length co13) : Value).ownBlock ∧ some k_ ≠ ((.slice Ao16 t1359.length co16) : Value).ownBlock ∧ some k_ ≠ ((.slice Ao19 t1362.length co19) : Value).ownBlock ∧ some k_ ≠ ((.slice Ao20 t1365.length co20) : Value).ownBlock ∧ some k_ ≠ ((.slice Ao21 t1368.length co21) : Value).ownBlock ∧ some k_ ≠ ((.slice Ao25 t1373.length co25) : Value).ownBlock ∧ some k_ ≠ ((.slice Ao29 t1376.length co29) : Value).ownBlock ∧ some k_ ≠ ((.slice Ao30 t1379.length co30) : Value).ownBlock) (.slice Ao31 t1382.length co31) t1382) ∧ Aside0 (wc.heap[gb1358]? = some (.cells #[(.slice Ao9 t1345.length co9), (.slice Ao11 t1348.length co11), (.slice Ao12 t1351.length co12), (.slice Ao13 t1354.length co13)] 30 (0, 0))) ∧ Aside0 (wc.heap[gb1372]? = some (.cells #[(.slice Ao16 t1359.length co16), (.slice Ao19 t1362.length co19), (.slice Ao20 t1365.length co20), (.slice Ao21 t1368.length co21)] 30 (0, 0))) ∧ Aside0 (wc.heap[gb1386]? = some (.cells #[(.slice Ao25 t1373.length co25), (.slice Ao29 t1376.length co29), (.slice Ao30 t1379.length co30), (.slice Ao31 t1382.length co31)] 30 (0, 0))) ∧ Aside0 (Below w.heap.size w wc))
  case first =>
   have H := HC6.out
   clear HC6
   replace H := Option.bind_eq_some_iff.mp H
   obtain ⟨t1387, A320, H⟩ := H
   replace H : (if t1387 = true then (if (t1371 != t1385) = true then (laws_FnHoldsShade.j0 k t1371 t1385 true t1345 t1348 t1351 t1354 t1359 t1362 t1365 t1368 t1373 t1376 t1379 t1382) else (laws_FnHoldsShade.j0 k t1371 t1385 (!t1371) t1345 t1348 t1351 t1354 t1359 t1362 t1365 t1368 t1373 t1376 t1379 t1382)) else (laws_FnHoldsShade.j0 k t1371 t1385 true t1345 t1348 t1351 t1354 t1359 t1362 t1365 t1368 t1373 t1376 t1379 t1382)) = some r := H
   have A32 := am A320
   clear A320
   by_cases c33 : t1387 = true
   ·subst c33
    have H1 : (if (t1371 != t1385) = true then (laws_FnHoldsShade.j0 k t1371 t1385 true t1345 t1348 t1351 t1354 t1359 t1362 t1365 t1368 t1373 t1376 t1379 t1382) else (laws_FnHoldsShade.j0 k t1371 t1385 (!t1371) t1345 t1348 t1351 t1354 t1359 t1362 t1365 t1368 t1373 t1376 t1379 t1382)) = some r := by rw [if_pos rfl] at H; exact H
    clear H
    have H := H1
    clear H1
    by_cases c34 : (t1371 != t1385) = true
    ·rw [if_pos c34] at H
     have c34b0 : (t1371 != t1385) = true := c34
     (try (have c34b1 : decide (t1371 = t1385) = false := by simpa using c34))
     (try (have c34b2 : (t1371 == t1385) = false := by simpa using c34))
     (try (have c34b3 : ¬ (t1371 = t1385) := by simpa using c34))
     clear c34
     (first | rw [c34b0] | (simp only [i64_w, i32_w]; rw [c34b0]) | skip)
     have H' := am H
     clear H
     have hnb35 := NB1372_1358.out
     have hnc35 := NB1358_1372.out
     have hnb36 := NB1372_1386.out
     have hnc36 := NB1386_1372.out
     obtain ⟨hcz37_0, hcz37_1, hcz37_2, hcz37_3, hfz37_0, hfz37_1, hfz37_2, hfz37_3⟩ := cf4 BK1372
     have hnb38 := NB1386_1358.out
     have hnc38 := NB1358_1386.out
     obtain ⟨hcz39_0, hcz39_1, hcz39_2, hcz39_3, hfz39_0, hfz39_1, hfz39_2, hfz39_3⟩ := cf4 BK1386
     go_wp2_with (first | ((with_reducible refine gate_callee (f := 34) rfl ?_); refine gL (some 31) rfl rfl Try.func34 (by kernel_rfl) rfl #[.agg #[.slice Ao16 t1359.length co16, .slice Ao19 t1362.length co19, .slice Ao20 t1365.length co20, .slice Ao21 t1368.length co21], .agg #[.slice Ao25 t1373.length co25, .slice Ao29 t1376.length co29, .slice Ao30 t1379.length co30, .slice Ao31 t1382.length co31]] rfl ?_; (with_reducible refine (impl_ColoredSame.calls k _ _ t1359 _ _ t1362 _ _ t1365 _ _ t1368 _ _ t1373 _ _ t1376 _ _ t1379 _ _ t1382 true _ ?side1 ?side2 ?side3 ?side4 ?side5 ?side6 ?side7 ?side8 ?side9 ?side10 ?side11 ?side12 ?side13 ?side14 ?side15 ?side16 A32.out).mono ?_); (case side1 => exact sr (rg BK1386 HO1361)); (case side2 => exact sc HO1361); (case side3 => exact sr (rg BK1386 HO1364)); (case side4 => exact sc HO1364); (case side5 => exact sr (rg BK1386 HO1367)); (case side6 => exact sc HO1367); (case side7 => exact sr (rg BK1386 HO1370)); (case side8 => exact sc HO1370); (case side9 => exact sr (rg BK1386 HO1375)); (case side10 => exact sc HO1375); (case side11 => exact sr (rg BK1386 HO1378)); (case side12 => exact sc HO1378); (case side13 => exact sr (rg BK1386 HO1381)); (case side14 => exact sc HO1381); (case side15 => exact sr (rg BK1386 HO1384)); (case side16 => exact sc HO1384); rintro e w40 ⟨rfl, hb⟩; refine ⟨_, rfl, ?_⟩; replace HO1347 := am (Kd.R_below (rg BK1386 HO1347) hb); replace HO1350 := am (Kd.R_below (rg BK1386 HO1350) hb); replace HO1353 := am (Kd.R_below (rg BK1386 HO1353) hb); replace HO1356 := am (Kd.R_below (rg BK1386 HO1356) hb); replace HO1361 := am (Kd.R_below (rg BK1386 HO1361) hb); replace HO1364 := am (Kd.R_below (rg BK1386 HO1364) hb); replace HO1367 := am (Kd.R_below (rg BK1386 HO1367) hb); replace HO1370 := am (Kd.R_below (rg BK1386 HO1370) hb); replace HO1375 := am (Kd.R_below (rg BK1386 HO1375) hb); replace HO1378 := am (Kd.R_below (rg BK1386 HO1378) hb); replace HO1381 := am (Kd.R_below (rg BK1386 HO1381) hb); replace HO1384 := am (Kd.R_below (rg BK1386 HO1384) hb); replace BK1358 := am (blk_below (g := gb1358) (o := .cells #[.slice Ao9 t1345.length co9, .slice Ao11 t1348.length co11, .slice Ao12 t1351.length co12, .slice Ao13 t1354.length co13] 30 (0, 0)) (kf1 NB1358_1386.out BK1358.out) hb); replace BK1372 := am (blk_below (g := gb1372) (o := .cells #[.slice Ao16 t1359.length co16, .slice Ao19 t1362.length co19, .slice Ao20 t1365.length co20, .slice Ao21 t1368.length co21] 30 (0, 0)) (kf1 NB1372_1386.out BK1372.out) hb); replace BK1386 := bp4 (kf0 BK1386.out) hb; replace HB := am (below_step (bs3 GE1358.out GE1372.out GE1386.out HB.out) hb); (try clear hb)))
     go_meet
     case rel => exact ⟨_, (true), (by first | rfl | (simp; done) | (simp [*]; done)), H', ⟨by first | omega | exact Nat.le_refl _⟩, ⟨rl (Kd.R_mono HO1347.out (fun _ hk => by simp only [ne_eq] at hk ⊢; simp only [hk, not_false_eq_true, and_self]))⟩, ⟨rl (Kd.R_mono HO1350.out (fun _ hk => by simp only [ne_eq] at hk ⊢; simp only [hk, not_false_eq_true, and_self]))⟩, ⟨rl (Kd.R_mono HO1353.out (fun _ hk => by simp only [ne_eq] at hk ⊢; simp only [hk, not_false_eq_true, and_self]))⟩, ⟨rl (Kd.R_mono HO1356.out (fun _ hk => by simp only [ne_eq] at hk ⊢; simp only [hk, not_false_eq_true, and_self]))⟩, ⟨rl (Kd.R_mono HO1361.out (fun _ hk => by simp only [ne_eq] at hk ⊢; simp only [hk, not_false_eq_true, and_self]))⟩, ⟨rl (Kd.R_mono HO1364.out (fun _ hk => by simp only [ne_eq] at hk ⊢; simp only [hk, not_false_eq_true, and_self]))⟩, ⟨rl (Kd.R_mono HO1367.out (fun _ hk => by simp only [ne_eq] at hk ⊢; simp only [hk, not_false_eq_true, and_self]))⟩, ⟨rl (Kd.R_mono HO1370.out (fun _ hk => by simp only [ne_eq] at hk ⊢; simp only [hk, not_false_eq_true, and_self]))⟩, ⟨rl (Kd.R_mono HO1375.out (fun _ hk => by simp only [ne_eq] at hk ⊢; simp only [hk, not_false_eq_true, and_self]))⟩, ⟨rl (Kd.R_mono HO1378.out (fun _ hk => by simp only [ne_eq] at hk ⊢; simp only [hk, not_false_eq_true, and_self]))⟩, ⟨rl (Kd.R_mono HO1381.out (fun _ hk => by simp only [ne_eq] at hk ⊢; simp only [hk, not_false_eq_true, and_self]))⟩, ⟨rl (Kd.R_mono HO1384.out (fun _ hk => by simp only [ne_eq] at hk ⊢; simp only [hk, not_false_eq_true, and_self]))⟩, ⟨kl BK1358.out⟩, ⟨kl BK1372.out⟩, ⟨kl BK1386.out⟩, ⟨by exact bs3 GE1358.out GE1372.out GE1386.out HB.out⟩⟩
    ·rw [if_neg c34] at H
     have c34b0 : (t1371 != t1385) = false := by simpa using c34
     (try (have c34b1 : decide (t1371 = t1385) = true := by simpa using c34))
     (try (have c34b2 : (t1371 == t1385) = true := by simpa using c34))
     clear c34
     (first | rw [c34b0] | (simp only [i64_w, i32_w]; rw [c34b0]) | skip)
     have H' := am H
     clear H
     have hnb41 := NB1372_1358.out
     have hnc41 := NB1358_1372.out
     have hnb42 := NB1372_1386.out
     have hnc42 := NB1386_1372.out
     obtain ⟨hcz43_0, hcz43_1, hcz43_2, hcz43_3, hfz43_0, hfz43_1, hfz43_2, hfz43_3⟩ := cf4 BK1372
     have hnb44 := NB1386_1358.out
     have hnc44 := NB1358_1386.out
     obtain ⟨hcz45_0, hcz45_1, hcz45_2, hcz45_3, hfz45_0, hfz45_1, hfz45_2, hfz45_3⟩ := cf4 BK1386
     go_wp2_with (first | ((with_reducible refine gate_callee (f := 34) rfl ?_); refine gL (some 31) rfl rfl Try.func34 (by kernel_rfl) rfl #[.agg #[.slice Ao16 t1359.length co16, .slice Ao19 t1362.length co19, .slice Ao20 t1365.length co20, .slice Ao21 t1368.length co21], .agg #[.slice Ao25 t1373.length co25, .slice Ao29 t1376.length co29, .slice Ao30 t1379.length co30, .slice Ao31 t1382.length co31]] rfl ?_; (with_reducible refine (impl_ColoredSame.calls k _ _ t1359 _ _ t1362 _ _ t1365 _ _ t1368 _ _ t1373 _ _ t1376 _ _ t1379 _ _ t1382 true _ ?side1 ?side2 ?side3 ?side4 ?side5 ?side6 ?side7 ?side8 ?side9 ?side10 ?side11 ?side12 ?side13 ?side14 ?side15 ?side16 A32.out).mono ?_); (case side1 => exact sr (rg BK1386 HO1361)); (case side2 => exact sc HO1361); (case side3 => exact sr (rg BK1386 HO1364)); (case side4 => exact sc HO1364); (case side5 => exact sr (rg BK1386 HO1367)); (case side6 => exact sc HO1367); (case side7 => exact sr (rg BK1386 HO1370)); (case side8 => exact sc HO1370); (case side9 => exact sr (rg BK1386 HO1375)); (case side10 => exact sc HO1375); (case side11 => exact sr (rg BK1386 HO1378)); (case side12 => exact sc HO1378); (case side13 => exact sr (rg BK1386 HO1381)); (case side14 => exact sc HO1381); (case side15 => exact sr (rg BK1386 HO1384)); (case side16 => exact sc HO1384); rintro e w46 ⟨rfl, hb⟩; refine ⟨_, rfl, ?_⟩; replace HO1347 := am (Kd.R_below (rg BK1386 HO1347) hb); replace HO1350 := am (Kd.R_below (rg BK1386 HO1350) hb); replace HO1353 := am (Kd.R_below (rg BK1386 HO1353) hb); replace HO1356 := am (Kd.R_below (rg BK1386 HO1356) hb); replace HO1361 := am (Kd.R_below (rg BK1386 HO1361) hb); replace HO1364 := am (Kd.R_below (rg BK1386 HO1364) hb); replace HO1367 := am (Kd.R_below (rg BK1386 HO1367) hb); replace HO1370 := am (Kd.R_below (rg BK1386 HO1370) hb); replace HO1375 := am (Kd.R_below (rg BK1386 HO1375) hb); replace HO1378 := am (Kd.R_below (rg BK1386 HO1378) hb); replace HO1381 := am (Kd.R_below (rg BK1386 HO1381) hb); replace HO1384 := am (Kd.R_below (rg BK1386 HO1384) hb); replace BK1358 := am (blk_below (g := gb1358) (o := .cells #[.slice Ao9 t1345.length co9, .slice Ao11 t1348.length co11, .slice Ao12 t1351.length co12, .slice Ao13 t1354.length co13] 30 (0, 0)) (kf1 NB1358_1386.out BK1358.out) hb); replace BK1372 := am (blk_below (g := gb1372) (o := .cells #[.slice Ao16 t1359.length co16, .slice Ao19 t1362.length co19, .slice Ao20 t1365.length co20, .slice Ao21 t1368.length co21] 30 (0, 0)) (kf1 NB1372_1386.out BK1372.out) hb); replace BK1386 := bp4 (kf0 BK1386.out) hb; replace HB := am (below_step (bs3 GE1358.out GE1372.out GE1386.out HB.out) hb); (try clear hb)))
     go_meet
     case rel => exact ⟨_, (!t1371), (by first | rfl | (simp; done) | (simp [*]; done)), H', ⟨by first | omega | exact Nat.le_refl _⟩, ⟨rl (Kd.R_mono HO1347.out (fun _ hk => by simp only [ne_eq] at hk ⊢; simp only [hk, not_false_eq_true, and_self]))⟩, ⟨rl (Kd.R_mono HO1350.out (fun _ hk => by simp only [ne_eq] at hk ⊢; simp only [hk, not_false_eq_true, and_self]))⟩, ⟨rl (Kd.R_mono HO1353.out (fun _ hk => by simp only [ne_eq] at hk ⊢; simp only [hk, not_false_eq_true, and_self]))⟩, ⟨rl (Kd.R_mono HO1356.out (fun _ hk => by simp only [ne_eq] at hk ⊢; simp only [hk, not_false_eq_true, and_self]))⟩, ⟨rl (Kd.R_mono HO1361.out (fun _ hk => by simp only [ne_eq] at hk ⊢; simp only [hk, not_false_eq_true, and_self]))⟩, ⟨rl (Kd.R_mono HO1364.out (fun _ hk => by simp only [ne_eq] at hk ⊢; simp only [hk, not_false_eq_true, and_self]))⟩, ⟨rl (Kd.R_mono HO1367.out (fun _ hk => by simp only [ne_eq] at hk ⊢; simp only [hk, not_false_eq_true, and_self]))⟩, ⟨rl (Kd.R_mono HO1370.out (fun _ hk => by simp only [ne_eq] at hk ⊢; simp only [hk, not_false_eq_true, and_self]))⟩, ⟨rl (Kd.R_mono HO1375.out (fun _ hk => by simp only [ne_eq] at hk ⊢; simp only [hk, not_false_eq_true, and_self]))⟩, ⟨rl (Kd.R_mono HO1378.out (fun _ hk => by simp only [ne_eq] at hk ⊢; simp only [hk, not_false_eq_true, and_self]))⟩, ⟨rl (Kd.R_mono HO1381.out (fun _ hk => by simp only [ne_eq] at hk ⊢; simp only [hk, not_false_eq_true, and_self]))⟩, ⟨rl (Kd.R_mono HO1384.out (fun _ hk => by simp only [ne_eq] at hk ⊢; simp only [hk, not_false_eq_true, and_self]))⟩, ⟨kl BK1358.out⟩, ⟨kl BK1372.out⟩, ⟨kl BK1386.out⟩, ⟨by exact bs3 GE1358.out GE1372.out GE1386.out HB.out⟩⟩
   ·replace c33 := Bool.eq_false_iff.mpr c33
    subst c33
    have H1 : (laws_FnHoldsShade.j0 k t1371 t1385 true t1345 t1348 t1351 t1354 t1359 t1362 t1365 t1368 t1373 t1376 t1379 t1382) = some r := by rw [if_neg (show ¬ (false = true) by decide)] at H; exact H
    clear H
    have H := H1
    clear H1
    have H' := am H
    clear H
    have hnb47 := NB1372_1358.out
    have hnc47 := NB1358_1372.out
    have hnb48 := NB1372_1386.out
    have hnc48 := NB1386_1372.out
    obtain ⟨hcz49_0, hcz49_1, hcz49_2, hcz49_3, hfz49_0, hfz49_1, hfz49_2, hfz49_3⟩ := cf4 BK1372
    have hnb50 := NB1386_1358.out
    have hnc50 := NB1358_1386.out
    obtain ⟨hcz51_0, hcz51_1, hcz51_2, hcz51_3, hfz51_0, hfz51_1, hfz51_2, hfz51_3⟩ := cf4 BK1386
    go_wp2_with (first | ((with_reducible refine gate_callee (f := 34) rfl ?_); refine gL (some 31) rfl rfl Try.func34 (by kernel_rfl) rfl #[.agg #[.slice Ao16 t1359.length co16, .slice Ao19 t1362.length co19, .slice Ao20 t1365.length co20, .slice Ao21 t1368.length co21], .agg #[.slice Ao25 t1373.length co25, .slice Ao29 t1376.length co29, .slice Ao30 t1379.length co30, .slice Ao31 t1382.length co31]] rfl ?_; (with_reducible refine (impl_ColoredSame.calls k _ _ t1359 _ _ t1362 _ _ t1365 _ _ t1368 _ _ t1373 _ _ t1376 _ _ t1379 _ _ t1382 false _ ?side1 ?side2 ?side3 ?side4 ?side5 ?side6 ?side7 ?side8 ?side9 ?side10 ?side11 ?side12 ?side13 ?side14 ?side15 ?side16 A32.out).mono ?_); (case side1 => exact sr (rg BK1386 HO1361)); (case side2 => exact sc HO1361); (case side3 => exact sr (rg BK1386 HO1364)); (case side4 => exact sc HO1364); (case side5 => exact sr (rg BK1386 HO1367)); (case side6 => exact sc HO1367); (case side7 => exact sr (rg BK1386 HO1370)); (case side8 => exact sc HO1370); (case side9 => exact sr (rg BK1386 HO1375)); (case side10 => exact sc HO1375); (case side11 => exact sr (rg BK1386 HO1378)); (case side12 => exact sc HO1378); (case side13 => exact sr (rg BK1386 HO1381)); (case side14 => exact sc HO1381); (case side15 => exact sr (rg BK1386 HO1384)); (case side16 => exact sc HO1384); rintro e w52 ⟨rfl, hb⟩; refine ⟨_, rfl, ?_⟩; replace HO1347 := am (Kd.R_below (rg BK1386 HO1347) hb); replace HO1350 := am (Kd.R_below (rg BK1386 HO1350) hb); replace HO1353 := am (Kd.R_below (rg BK1386 HO1353) hb); replace HO1356 := am (Kd.R_below (rg BK1386 HO1356) hb); replace HO1361 := am (Kd.R_below (rg BK1386 HO1361) hb); replace HO1364 := am (Kd.R_below (rg BK1386 HO1364) hb); replace HO1367 := am (Kd.R_below (rg BK1386 HO1367) hb); replace HO1370 := am (Kd.R_below (rg BK1386 HO1370) hb); replace HO1375 := am (Kd.R_below (rg BK1386 HO1375) hb); replace HO1378 := am (Kd.R_below (rg BK1386 HO1378) hb); replace HO1381 := am (Kd.R_below (rg BK1386 HO1381) hb); replace HO1384 := am (Kd.R_below (rg BK1386 HO1384) hb); replace BK1358 := am (blk_below (g := gb1358) (o := .cells #[.slice Ao9 t1345.length co9, .slice Ao11 t1348.length co11, .slice Ao12 t1351.length co12, .slice Ao13 t1354.length co13] 30 (0, 0)) (kf1 NB1358_1386.out BK1358.out) hb); replace BK1372 := am (blk_below (g := gb1372) (o := .cells #[.slice Ao16 t1359.length co16, .slice Ao19 t1362.length co19, .slice Ao20 t1365.length co20, .slice Ao21 t1368.length co21] 30 (0, 0)) (kf1 NB1372_1386.out BK1372.out) hb); replace BK1386 := bp4 (kf0 BK1386.out) hb; replace HB := am (below_step (bs3 GE1358.out GE1372.out GE1386.out HB.out) hb); (try clear hb)))
    go_meet
    case rel => exact ⟨_, (true), (by first | rfl | (simp; done) | (simp [*]; done)), H', ⟨by first | omega | exact Nat.le_refl _⟩, ⟨rl (Kd.R_mono HO1347.out (fun _ hk => by simp only [ne_eq] at hk ⊢; simp only [hk, not_false_eq_true, and_self]))⟩, ⟨rl (Kd.R_mono HO1350.out (fun _ hk => by simp only [ne_eq] at hk ⊢; simp only [hk, not_false_eq_true, and_self]))⟩, ⟨rl (Kd.R_mono HO1353.out (fun _ hk => by simp only [ne_eq] at hk ⊢; simp only [hk, not_false_eq_true, and_self]))⟩, ⟨rl (Kd.R_mono HO1356.out (fun _ hk => by simp only [ne_eq] at hk ⊢; simp only [hk, not_false_eq_true, and_self]))⟩, ⟨rl (Kd.R_mono HO1361.out (fun _ hk => by simp only [ne_eq] at hk ⊢; simp only [hk, not_false_eq_true, and_self]))⟩, ⟨rl (Kd.R_mono HO1364.out (fun _ hk => by simp only [ne_eq] at hk ⊢; simp only [hk, not_false_eq_true, and_self]))⟩, ⟨rl (Kd.R_mono HO1367.out (fun _ hk => by simp only [ne_eq] at hk ⊢; simp only [hk, not_false_eq_true, and_self]))⟩, ⟨rl (Kd.R_mono HO1370.out (fun _ hk => by simp only [ne_eq] at hk ⊢; simp only [hk, not_false_eq_true, and_self]))⟩, ⟨rl (Kd.R_mono HO1375.out (fun _ hk => by simp only [ne_eq] at hk ⊢; simp only [hk, not_false_eq_true, and_self]))⟩, ⟨rl (Kd.R_mono HO1378.out (fun _ hk => by simp only [ne_eq] at hk ⊢; simp only [hk, not_false_eq_true, and_self]))⟩, ⟨rl (Kd.R_mono HO1381.out (fun _ hk => by simp only [ne_eq] at hk ⊢; simp only [hk, not_false_eq_true, and_self]))⟩, ⟨rl (Kd.R_mono HO1384.out (fun _ hk => by simp only [ne_eq] at hk ⊢; simp only [hk, not_false_eq_true, and_self]))⟩, ⟨kl BK1358.out⟩, ⟨kl BK1372.out⟩, ⟨kl BK1386.out⟩, ⟨by exact bs3 GE1358.out GE1372.out GE1386.out HB.out⟩⟩
  case rest =>
   clear HC6
   try clear c1
   try clear c2
   try clear c2b0
   try clear c2b1
   try clear p2
   try clear c3
   try clear c4
   try clear c5
   try clear c13
   try clear c17
   try clear c18
   try clear c20
   try clear c26
   try clear c27
   try clear c33
   try clear c34
   try clear c34b0
   try clear c34b1
   try clear c34b2
   try clear c35
   try clear c36
   try clear c37
   try clear c38
   try clear c41
   try clear c42
   try clear c44
   try clear c47
   try clear c48
   try clear c50
   obtain ⟨kq, x41_5, rfl, HA, HJ5, HO_1359000, HO_1359001, HO_1359002, HO_1359003, HO_1373000, HO_1373001, HO_1373002, HO_1373003, HO_1387000, HO_1387001, HO_1387002, HO_1387003, BK1358, BK1372, BK1386, HB⟩ := hcut
   cases kq with
   | zero => exact absurd HA.out (by simp [laws_FnHoldsShade.j0])
   | succ kj5 =>
    have H := HA.out
    clear HA
    simp only [laws_FnHoldsShade.j0] at H
    by_cases c53 : x41_5 = true
    ·subst c53
     have H1 : ((impl_ColoredSame.f kj5 t1359 t1362 t1365 t1368 t1373 t1376 t1379 t1382).bind fun t1388 => (if t1388 = true then (some (t1371 == t1385)) else (none))) = some r := by rw [if_pos rfl] at H; exact H
     clear H
     have H := H1
     clear H1
     replace H := Option.bind_eq_some_iff.mp H
     obtain ⟨t1388, A540, H⟩ := H
     replace H : (if t1388 = true then (some (t1371 == t1385)) else (none)) = some r := H
     have A54 := am A540
     clear A540
     by_cases c55 : t1388 = true
     ·subst c55
      have H1 : (some (t1371 == t1385)) = some r := by rw [if_pos rfl] at H; exact H
      clear H
      have H := H1
      clear H1
      obtain rfl := Option.some.inj H
      have hnb56 := NB1372_1358.out
      have hnc56 := NB1358_1372.out
      have hnb57 := NB1372_1386.out
      have hnc57 := NB1386_1372.out
      obtain ⟨hcz58_0, hcz58_1, hcz58_2, hcz58_3, hfz58_0, hfz58_1, hfz58_2, hfz58_3⟩ := cf4 BK1372
      have hnb59 := NB1386_1358.out
      have hnc59 := NB1358_1386.out
      obtain ⟨hcz60_0, hcz60_1, hcz60_2, hcz60_3, hfz60_0, hfz60_1, hfz60_2, hfz60_3⟩ := cf4 BK1386
      go_wp2_with (first | ((with_reducible refine gate_callee (f := 34) rfl ?_); refine gL (some 44) rfl rfl Try.func34 (by kernel_rfl) rfl #[.agg #[.slice Ao16 t1359.length co16, .slice Ao19 t1362.length co19, .slice Ao20 t1365.length co20, .slice Ao21 t1368.length co21], .agg #[.slice Ao25 t1373.length co25, .slice Ao29 t1376.length co29, .slice Ao30 t1379.length co30, .slice Ao31 t1382.length co31]] rfl ?_; (with_reducible refine (impl_ColoredSame.calls kj5 _ _ t1359 _ _ t1362 _ _ t1365 _ _ t1368 _ _ t1373 _ _ t1376 _ _ t1379 _ _ t1382 true _ ?side1 ?side2 ?side3 ?side4 ?side5 ?side6 ?side7 ?side8 ?side9 ?side10 ?side11 ?side12 ?side13 ?side14 ?side15 ?side16 A54.out).mono ?_); (case side1 => exact cl ((Kd.R_reads' HO_1373000.out).2.2)); (case side2 => exact sc HO_1373000); (case side3 => exact cl ((Kd.R_reads' HO_1373001.out).2.2)); (case side4 => exact sc HO_1373001); (case side5 => exact cl ((Kd.R_reads' HO_1373002.out).2.2)); (case side6 => exact sc HO_1373002); (case side7 => exact cl ((Kd.R_reads' HO_1373003.out).2.2)); (case side8 => exact sc HO_1373003); (case side9 => exact cl ((Kd.R_reads' HO_1387000.out).2.2)); (case side10 => exact sc HO_1387000); (case side11 => exact cl ((Kd.R_reads' HO_1387001.out).2.2)); (case side12 => exact sc HO_1387001); (case side13 => exact cl ((Kd.R_reads' HO_1387002.out).2.2)); (case side14 => exact sc HO_1387002); (case side15 => exact cl ((Kd.R_reads' HO_1387003.out).2.2)); (case side16 => exact sc HO_1387003); rintro e w61 ⟨rfl, hb⟩; refine ⟨_, rfl, ?_⟩; replace HO_1359000 := rb HO_1359000 hb; replace HO_1359001 := rb HO_1359001 hb; replace HO_1359002 := rb HO_1359002 hb; replace HO_1359003 := rb HO_1359003 hb; replace HO_1373000 := rb HO_1373000 hb; replace HO_1373001 := rb HO_1373001 hb; replace HO_1373002 := rb HO_1373002 hb; replace HO_1373003 := rb HO_1373003 hb; replace HO_1387000 := rb HO_1387000 hb; replace HO_1387001 := rb HO_1387001 hb; replace HO_1387002 := rb HO_1387002 hb; replace HO_1387003 := rb HO_1387003 hb; replace BK1358 := bb BK1358 hb; replace BK1372 := bb BK1372 hb; replace BK1386 := bb BK1386 hb; replace HB := am (below_step (bs3 GE1358.out GE1372.out GE1386.out HB.out) hb); (try clear hb)))
      go_ret
      exact ⟨by first | rfl | (simp [errW_none, errW_some] <;> rfl) | (simp [*, errW_none, errW_some] <;> rfl), by exact bs3 GE1358.out GE1372.out GE1386.out HB.out⟩
     ·replace c55 := Bool.eq_false_iff.mpr c55
      subst c55
      have H1 : (none) = some r := by rw [if_neg (show ¬ (false = true) by decide)] at H; exact H
      clear H
      have H := H1
      clear H1
      exact absurd H (by simp)
    ·replace c53 := Bool.eq_false_iff.mpr c53
     subst c53
     have H1 : ((impl_ColorHolds.f t1345 t1348 t1351 t1354).bind fun t1389 => (if t1389 = true then ((impl_ColorHolds.f t1359 t1362 t1365 t1368).bind fun t1390 => (some t1390)) else (some true))) = some r := by rw [if_neg (show ¬ (false = true) by decide)] at H; exact H
     clear H
     have H := H1
     clear H1
     replace H := Option.bind_eq_some_iff.mp H
     obtain ⟨t1389, A620, H⟩ := H
     replace H : (if t1389 = true then ((impl_ColorHolds.f t1359 t1362 t1365 t1368).bind fun t1390 => (some t1390)) else (some true)) = some r := H
     have A62 := am A620
     clear A620
     by_cases c63 : t1389 = true
     ·subst c63
      have H1 : ((impl_ColorHolds.f t1359 t1362 t1365 t1368).bind fun t1390 => (some t1390)) = some r := by rw [if_pos rfl] at H; exact H
      clear H
      have H := H1
      clear H1
      replace H := Option.bind_eq_some_iff.mp H
      obtain ⟨t1390, A640, H⟩ := H
      replace H : (some t1390) = some r := H
      have A64 := am A640
      clear A640
      obtain rfl := Option.some.inj H
      have hnb65 := NB1358_1372.out
      have hnc65 := NB1372_1358.out
      have hnb66 := NB1358_1386.out
      have hnc66 := NB1386_1358.out
      obtain ⟨hcz67_0, hcz67_1, hcz67_2, hcz67_3, hfz67_0, hfz67_1, hfz67_2, hfz67_3⟩ := cf4 BK1358
      go_wp2_with (first | ((with_reducible refine gate_callee (f := 31) rfl ?_); refine gL (some 51) rfl rfl Try.func31 (by kernel_rfl) rfl #[.agg #[.slice Ao9 t1345.length co9, .slice Ao11 t1348.length co11, .slice Ao12 t1351.length co12, .slice Ao13 t1354.length co13]] rfl ?_; (with_reducible refine (impl_ColorHolds.calls _ _ t1345 _ _ t1348 _ _ t1351 _ _ t1354 true _ ?side1 ?side2 ?side3 ?side4 ?side5 ?side6 ?side7 ?side8 A62.out).mono ?_); (case side1 => exact cl ((Kd.R_reads' HO_1359000.out).2.2)); (case side2 => exact sc HO_1359000); (case side3 => exact cl ((Kd.R_reads' HO_1359001.out).2.2)); (case side4 => exact sc HO_1359001); (case side5 => exact cl ((Kd.R_reads' HO_1359002.out).2.2)); (case side6 => exact sc HO_1359002); (case side7 => exact cl ((Kd.R_reads' HO_1359003.out).2.2)); (case side8 => exact sc HO_1359003); rintro e w68 ⟨rfl, hb⟩; refine ⟨_, rfl, ?_⟩; replace HO_1359000 := rb HO_1359000 hb; replace HO_1359001 := rb HO_1359001 hb; replace HO_1359002 := rb HO_1359002 hb; replace HO_1359003 := rb HO_1359003 hb; replace HO_1373000 := rb HO_1373000 hb; replace HO_1373001 := rb HO_1373001 hb; replace HO_1373002 := rb HO_1373002 hb; replace HO_1373003 := rb HO_1373003 hb; replace HO_1387000 := rb HO_1387000 hb; replace HO_1387001 := rb HO_1387001 hb; replace HO_1387002 := rb HO_1387002 hb; replace HO_1387003 := rb HO_1387003 hb; replace BK1358 := bb BK1358 hb; replace BK1372 := bb BK1372 hb; replace BK1386 := bb BK1386 hb; replace HB := am (below_step (bs3 GE1358.out GE1372.out GE1386.out HB.out) hb); (try clear hb); have hnb69 := NB1372_1386.out; have hnc69 := NB1386_1372.out; obtain ⟨hcz70_0, hcz70_1, hcz70_2, hcz70_3, hfz70_0, hfz70_1, hfz70_2, hfz70_3⟩ := cf4 BK1372) | (go_at_call 31; (with_reducible refine (impl_ColorHolds.calls _ _ t1359 _ _ t1362 _ _ t1365 _ _ t1368 t1390 _ ?side1 ?side2 ?side3 ?side4 ?side5 ?side6 ?side7 ?side8 A64.out).mono ?_); (case side1 => exact cl ((Kd.R_reads' HO_1373000.out).2.2)); (case side2 => exact sc HO_1373000); (case side3 => exact cl ((Kd.R_reads' HO_1373001.out).2.2)); (case side4 => exact sc HO_1373001); (case side5 => exact cl ((Kd.R_reads' HO_1373002.out).2.2)); (case side6 => exact sc HO_1373002); (case side7 => exact cl ((Kd.R_reads' HO_1373003.out).2.2)); (case side8 => exact sc HO_1373003); rintro e w71 ⟨rfl, hb⟩; replace HO_1359000 := rb HO_1359000 hb; replace HO_1359001 := rb HO_1359001 hb; replace HO_1359002 := rb HO_1359002 hb; replace HO_1359003 := rb HO_1359003 hb; replace HO_1373000 := rb HO_1373000 hb; replace HO_1373001 := rb HO_1373001 hb; replace HO_1373002 := rb HO_1373002 hb; replace HO_1373003 := rb HO_1373003 hb; replace HO_1387000 := rb HO_1387000 hb; replace HO_1387001 := rb HO_1387001 hb; replace HO_1387002 := rb HO_1387002 hb; replace HO_1387003 := rb HO_1387003 hb; replace BK1358 := bb BK1358 hb; replace BK1372 := bb BK1372 hb; replace BK1386 := bb BK1386 hb; replace HB := am (below_step (bs3 GE1358.out GE1372.out GE1386.out HB.out) hb); (try clear hb)))
      go_ret
      exact ⟨by first | rfl | (simp [errW_none, errW_some] <;> rfl) | (simp [*, errW_none, errW_some] <;> rfl), by exact bs3 GE1358.out GE1372.out GE1386.out HB.out⟩
     ·replace c63 := Bool.eq_false_iff.mpr c63
      subst c63
      have H1 : (some true) = some r := by rw [if_neg (show ¬ (false = true) by decide)] at H; exact H
      clear H
      have H := H1
      clear H1
      obtain rfl := Option.some.inj H
      have hnb72 := NB1358_1372.out
      have hnc72 := NB1372_1358.out
      have hnb73 := NB1358_1386.out
      have hnc73 := NB1386_1358.out
      obtain ⟨hcz74_0, hcz74_1, hcz74_2, hcz74_3, hfz74_0, hfz74_1, hfz74_2, hfz74_3⟩ := cf4 BK1358
      go_wp2_with (first | ((with_reducible refine gate_callee (f := 31) rfl ?_); refine gL (some 51) rfl rfl Try.func31 (by kernel_rfl) rfl #[.agg #[.slice Ao9 t1345.length co9, .slice Ao11 t1348.length co11, .slice Ao12 t1351.length co12, .slice Ao13 t1354.length co13]] rfl ?_; (with_reducible refine (impl_ColorHolds.calls _ _ t1345 _ _ t1348 _ _ t1351 _ _ t1354 false _ ?side1 ?side2 ?side3 ?side4 ?side5 ?side6 ?side7 ?side8 A62.out).mono ?_); (case side1 => exact cl ((Kd.R_reads' HO_1359000.out).2.2)); (case side2 => exact sc HO_1359000); (case side3 => exact cl ((Kd.R_reads' HO_1359001.out).2.2)); (case side4 => exact sc HO_1359001); (case side5 => exact cl ((Kd.R_reads' HO_1359002.out).2.2)); (case side6 => exact sc HO_1359002); (case side7 => exact cl ((Kd.R_reads' HO_1359003.out).2.2)); (case side8 => exact sc HO_1359003); rintro e w75 ⟨rfl, hb⟩; refine ⟨_, rfl, ?_⟩; replace HO_1359000 := rb HO_1359000 hb; replace HO_1359001 := rb HO_1359001 hb; replace HO_1359002 := rb HO_1359002 hb; replace HO_1359003 := rb HO_1359003 hb; replace HO_1373000 := rb HO_1373000 hb; replace HO_1373001 := rb HO_1373001 hb; replace HO_1373002 := rb HO_1373002 hb; replace HO_1373003 := rb HO_1373003 hb; replace HO_1387000 := rb HO_1387000 hb; replace HO_1387001 := rb HO_1387001 hb; replace HO_1387002 := rb HO_1387002 hb; replace HO_1387003 := rb HO_1387003 hb; replace BK1358 := bb BK1358 hb; replace BK1372 := bb BK1372 hb; replace BK1386 := bb BK1386 hb; replace HB := am (below_step (bs3 GE1358.out GE1372.out GE1386.out HB.out) hb); (try clear hb)))
      go_ret
      exact ⟨by first | rfl | (simp [errW_none, errW_some] <;> rfl) | (simp [*, errW_none, errW_some] <;> rfl), by exact bs3 GE1358.out GE1372.out GE1386.out HB.out⟩

/-- THE ONE PURE STATEMENT of laws_FnHoldsShade: yours. -/
def laws_FnHoldsShade.Pure : Prop := ∀ (l0 : List Int), l0.length ≤ maxLen → l0.length * 1 ≤ 140737488351232 → (∀ x ∈ l0, (Lit.int .u8 x).wf = true) → ∃ k, laws_FnHoldsShade.f k l0 = some true
theorem laws_FnHoldsShade.walk (P : laws_FnHoldsShade.Pure) (a0 : Option Addr) (len0 cap0 : Nat) (z0 : List Int) (w : World) (w0 : (a0 = none ∧ len0 = 0 ∧ cap0 = 0 ∧ z0 = []) ∨ ∃ x, a0 = some x ∧ len0 ≤ cap0 ∧ cap0 ≤ maxLen ∧ z0.length = cap0 ∧ (∀ i, i < z0.length → w.cell? (x.add i) = some (.int .u8 (z0.getD i 0))) ∧ ∀ n ∈ z0, (Lit.int .u8 n).wf = true) (y0 : len0 * 1 ≤ 140737488351232) :
  Calls Try.prog 13 #[.slice a0 len0 cap0] w fun e w' => e = .returned (.bool true) ∧ Below w.heap.size w w' := by
 obtain ⟨l0, rfl, hr0, hm0, hw0, hc0⟩ := ReadsInt.ofRowC w0
 obtain ⟨k, h⟩ := P l0 hm0 y0 hw0
 refine (laws_FnHoldsShade.calls k _ _ l0 true w (Kd.C_of_reads (d := (0 : Int)) (h1 := fun _ => rfl) hr0) hc0 h).mono ?_
 rintro e w' ⟨rfl, hd⟩
 exact ⟨rfl, hd⟩

end Go.Proofs.Ytkbaggfkidalfaa.A
