/- Contracts of functions of the given program (CLawsFnHoldsNew). No conditions beyond those stated. -/
import Derived.Test.YtkbaggfkidalfaaA0
import Derived.Test.YtkbaggfkidalfaaAImplColorHolds
import Derived.Test.YtkbaggfkidalfaaAImplColoredValid
import Derived.Test.YtkbaggfkidalfaaAImplCountColor
import Derived.Test.YtkbaggfkidalfaaAImplShadeCell
import Derived.Test.YtkbaggfkidalfaaASpecColorHolds
import Derived.Test.YtkbaggfkidalfaaASpecDrawColorHolds
import Derived.Test.YtkbaggfkidalfaaA0
namespace Go.Proofs.Ytkbaggfkidalfaa.A
open Go.RowKit Go.Proofs.YtkbaggfkidalfaaW.PrintWords Go.Proofs.YtkbaggfkidalfaaW.PrintLast Go.Proofs.YtkbaggfkidalfaaW.PrintMore
attribute [local go_sem] max2_int min2_int max_two min_two max_three min_three max_four min_four   -- for this text's walks alone
set_option linter.unusedVariables false
set_option linter.unusedSimpArgs false

/-! ### laws_FnHoldsNew -/
mutual
def laws_FnHoldsNew.j0 : Nat → Bool → Bool → List Int → List Int → List Int → List Int → Option (Bool)
 | 0, _, _, _, _, _, _ => none
 | k + 1, x4, x23, x1325000, x1325001, x1325002, x1325003 => if x23 = true then ((spec_ColorHolds.f k x1325000 x1325001 x1325002 x1325003).bind fun t1328 => (some (x4 == t1328))) else (laws_FnHoldsNew.l0 k 0 x1325000 x1325001 x1325002 x1325003)
def laws_FnHoldsNew.l0 : Nat → Int → List Int → List Int → List Int → List Int → Option (Bool)
 | 0, _, _, _, _, _ => none
 | k + 1, x5, x1325000, x1325001, x1325002, x1325003 => if x5 < (x1325000.length : Int) then ((impl_ShadeCell.f k x1325000 x1325001 x1325002 x1325003 x5).bind fun bt1329 => (if bt1329.2.2.2.2 = true then (laws_FnHoldsNew.l0 k (wrap64 (x5 + 1)) bt1329.1 bt1329.2.1 bt1329.2.2.1 bt1329.2.2.2.1) else (none))) else ((impl_ColorHolds.f x1325000 x1325001 x1325002 x1325003).bind fun t1343 => (if t1343 = true then ((impl_CountColor.f k x1325000 x1325001 x1325002 x1325003 0).bind fun t1344 => (some (t1344 == 0))) else (none)))
end
def laws_FnHoldsNew.f (k : Nat) (l0 : List Int) : Option (Bool) := if (l0.length : Int) > 1048576 then (some true) else ((spec_DrawColorHolds.f k l0).bind fun bt1312 => ((impl_ColorHolds.f bt1312.1 bt1312.2.1 bt1312.2.2.1 bt1312.2.2.2).bind fun t1325 => ((spec_ColorHolds.f k bt1312.1 bt1312.2.1 bt1312.2.2.1 bt1312.2.2.2).bind fun t1326 => (if (t1325 != t1326) = true then (laws_FnHoldsNew.j0 k t1325 true bt1312.1 bt1312.2.1 bt1312.2.2.1 bt1312.2.2.2) else ((impl_ColoredValid.f k bt1312.1 bt1312.2.1 bt1312.2.2.1 bt1312.2.2.2).bind fun t1327 => (laws_FnHoldsNew.j0 k t1325 (!t1327) bt1312.1 bt1312.2.1 bt1312.2.2.1 bt1312.2.2.2))))))
theorem laws_FnHoldsNew.mono_l : ∀ k, (∀ y0 y1 y2 y3 y4 y5, LeO (laws_FnHoldsNew.j0 k y0 y1 y2 y3 y4 y5) (laws_FnHoldsNew.j0 (k + 1) y0 y1 y2 y3 y4 y5)) ∧ (∀ y0 y1 y2 y3 y4, LeO (laws_FnHoldsNew.l0 k y0 y1 y2 y3 y4) (laws_FnHoldsNew.l0 (k + 1) y0 y1 y2 y3 y4))
 | 0 => ⟨fun _ _ _ _ _ _ r h => by simp [laws_FnHoldsNew.j0] at h, fun _ _ _ _ _ r h => by simp [laws_FnHoldsNew.l0] at h⟩
 | k + 1 => by
  obtain ⟨ih0, ih1⟩ := laws_FnHoldsNew.mono_l k
  refine ⟨?_, ?_⟩
  ·intro y0 y1 y2 y3 y4 y5
   unfold laws_FnHoldsNew.j0
   repeat' first
   | (with_reducible exact ih0 _ _ _ _ _ _)
   | (with_reducible exact ih1 _ _ _ _ _)
   | (with_reducible exact impl_ColoredValid.mono _ _ _ _ _)
   | (with_reducible exact impl_CountColor.mono _ _ _ _ _ _)
   | (with_reducible exact impl_ShadeCell.mono _ _ _ _ _ _)
   | (with_reducible exact spec_ColorHolds.mono _ _ _ _ _)
   | (with_reducible exact spec_DrawColorHolds.mono _ _)
   | (with_reducible exact LeO.refl _)
   | (with_reducible exact LeO.none _)
   | (with_reducible refine LeO.ite ?_ ?_)
   | (with_reducible refine LeO.bind ?_ (fun _ => ?_))
   | exact ih0 _ _ _ _ _ _
   | exact ih1 _ _ _ _ _
   | exact impl_ColoredValid.mono _ _ _ _ _
   | exact impl_CountColor.mono _ _ _ _ _ _
   | exact impl_ShadeCell.mono _ _ _ _ _ _
   | exact spec_ColorHolds.mono _ _ _ _ _
   | exact spec_DrawColorHolds.mono _ _
   | exact LeO.none _
   | refine LeO.ite ?_ ?_
   | refine LeO.bind ?_ (fun _ => ?_)
  ·intro y0 y1 y2 y3 y4
   unfold laws_FnHoldsNew.l0
   repeat' first
   | (with_reducible exact ih0 _ _ _ _ _ _)
   | (with_reducible exact ih1 _ _ _ _ _)
   | (with_reducible exact impl_ColoredValid.mono _ _ _ _ _)
   | (with_reducible exact impl_CountColor.mono _ _ _ _ _ _)
   | (with_reducible exact impl_ShadeCell.mono _ _ _ _ _ _)
   | (with_reducible exact spec_ColorHolds.mono _ _ _ _ _)
   | (with_reducible exact spec_DrawColorHolds.mono _ _)
   | (with_reducible exact LeO.refl _)
   | (with_reducible exact LeO.none _)
   | (with_reducible refine LeO.ite ?_ ?_)
   | (with_reducible refine LeO.bind ?_ (fun _ => ?_))
   | exact ih0 _ _ _ _ _ _
   | exact ih1 _ _ _ _ _
   | exact impl_ColoredValid.mono _ _ _ _ _
   | exact impl_CountColor.mono _ _ _ _ _ _
   | exact impl_ShadeCell.mono _ _ _ _ _ _
   | exact spec_ColorHolds.mono _ _ _ _ _
   | exact spec_DrawColorHolds.mono _ _
   | exact LeO.none _
   | refine LeO.ite ?_ ?_
   | refine LeO.bind ?_ (fun _ => ?_)
theorem laws_FnHoldsNew.mono : ∀ a0 k, LeO (laws_FnHoldsNew.f k a0) (laws_FnHoldsNew.f (k + 1) a0) := by
 intro a0 k
 obtain ⟨ih0, ih1⟩ := laws_FnHoldsNew.mono_l k
 unfold laws_FnHoldsNew.f
 repeat' first
   | (with_reducible exact ih0 _ _ _ _ _ _)
   | (with_reducible exact ih1 _ _ _ _ _)
   | (with_reducible exact impl_ColoredValid.mono _ _ _ _ _)
   | (with_reducible exact impl_CountColor.mono _ _ _ _ _ _)
   | (with_reducible exact impl_ShadeCell.mono _ _ _ _ _ _)
   | (with_reducible exact spec_ColorHolds.mono _ _ _ _ _)
   | (with_reducible exact spec_DrawColorHolds.mono _ _)
   | (with_reducible exact LeO.refl _)
   | (with_reducible exact LeO.none _)
   | (with_reducible refine LeO.ite ?_ ?_)
   | (with_reducible refine LeO.bind ?_ (fun _ => ?_))
   | exact ih0 _ _ _ _ _ _
   | exact ih1 _ _ _ _ _
   | exact impl_ColoredValid.mono _ _ _ _ _
   | exact impl_CountColor.mono _ _ _ _ _ _
   | exact impl_ShadeCell.mono _ _ _ _ _ _
   | exact spec_ColorHolds.mono _ _ _ _ _
   | exact spec_DrawColorHolds.mono _ _
   | exact LeO.none _
   | refine LeO.ite ?_ ?_
   | refine LeO.bind ?_ (fun _ => ?_)
set_option maxHeartbeats 8000000 in
set_option maxRecDepth 100000 in
theorem laws_FnHoldsNew.calls (k : Nat) (A0 : Option Addr) (c0 : Nat) (l0 : List Int) (r : Bool) (w : World) (hr0 : Kd.C (Kd.int .u8) w A0 l0.length l0) (hc0 : l0.length ≤ c0) (h : laws_FnHoldsNew.f k l0 = some r) :
  Calls Try.prog 12 #[.slice A0 l0.length c0] w fun e w' => e = .returned (.bool r) ∧ Below w.heap.size w w' := by
 have hu30 := Try.underlying30
 have HR0 := am hr0
 have HC0 := am hc0
 clear hr0 hc0
 have HB := am (Below.refl w.heap.size w)
 have H : (if (l0.length : Int) > 1048576 then (some true) else ((spec_DrawColorHolds.f k l0).bind fun bt1312 => ((impl_ColorHolds.f bt1312.1 bt1312.2.1 bt1312.2.2.1 bt1312.2.2.2).bind fun t1325 => ((spec_ColorHolds.f k bt1312.1 bt1312.2.1 bt1312.2.2.1 bt1312.2.2.2).bind fun t1326 => (if (t1325 != t1326) = true then (laws_FnHoldsNew.j0 k t1325 true bt1312.1 bt1312.2.1 bt1312.2.2.1 bt1312.2.2.2) else ((impl_ColoredValid.f k bt1312.1 bt1312.2.1 bt1312.2.2.1 bt1312.2.2.2).bind fun t1327 => (laws_FnHoldsNew.j0 k t1325 (!t1327) bt1312.1 bt1312.2.1 bt1312.2.2.1 bt1312.2.2.2))))))) = some r := h
 clear h
 by_cases c2 : (l0.length : Int) > 1048576
 ·rw [if_pos c2] at H
  have c2b0 : decide (1048576 < (l0.length : Int)) = true := decide_eq_true c2
  have c2b1 : decide (1048576 < l0.length) = true := decide_eq_true (by omega)
  clear c2
  obtain rfl := Option.some.inj H
  go_enter Try.func12, Try.ntmps12
  go_wp2
  go_ret
  exact ⟨by first | rfl | (simp [errW_none, errW_some] <;> rfl) | (simp [*, errW_none, errW_some] <;> rfl), by exact bs0 HB.out⟩
 ·rw [if_neg c2] at H
  have c2b0 : decide (1048576 < (l0.length : Int)) = false := decide_eq_false c2
  have c2b1 : decide (1048576 < l0.length) = false := decide_eq_false (by omega)
  clear c2
  replace H := Option.bind_eq_some_iff.mp H
  obtain ⟨⟨t1312, t1315, t1318, t1321⟩, A30, H⟩ := H
  replace H : ((impl_ColorHolds.f t1312 t1315 t1318 t1321).bind fun t1325 => ((spec_ColorHolds.f k t1312 t1315 t1318 t1321).bind fun t1326 => (if (t1325 != t1326) = true then (laws_FnHoldsNew.j0 k t1325 true t1312 t1315 t1318 t1321) else ((impl_ColoredValid.f k t1312 t1315 t1318 t1321).bind fun t1327 => (laws_FnHoldsNew.j0 k t1325 (!t1327) t1312 t1315 t1318 t1321))))) = some r := H
  have A3 := am A30
  clear A30
  replace H := Option.bind_eq_some_iff.mp H
  obtain ⟨t1325, A40, H⟩ := H
  replace H : ((spec_ColorHolds.f k t1312 t1315 t1318 t1321).bind fun t1326 => (if (t1325 != t1326) = true then (laws_FnHoldsNew.j0 k t1325 true t1312 t1315 t1318 t1321) else ((impl_ColoredValid.f k t1312 t1315 t1318 t1321).bind fun t1327 => (laws_FnHoldsNew.j0 k t1325 (!t1327) t1312 t1315 t1318 t1321)))) = some r := H
  have A4 := am A40
  clear A40
  have HC5 := am H
  clear H
  go_enter Try.func12, Try.ntmps12
  go_upto_region 5 with (first | ((with_reducible refine gate_callee (f := 30) rfl ?_); refine gL (some 12) rfl rfl Try.func30 (by kernel_rfl) rfl #[.slice A0 l0.length c0] rfl ?_; (with_reducible refine (spec_DrawColorHolds.calls k _ _ l0 t1312 t1315 t1318 t1321 _ ?side1 ?side2 A3.out).mono ?_); (case side1 => exact cl (HR0.out)); (case side2 => exact HC0.out); rintro e w6 ⟨v1313, v1316, v1319, v1322, rfl, ho0, ho1, ho2, ho3, hb⟩; refine ⟨_, rfl, ?_⟩; have HO1314 := ln0 ho0 (bl HB.out); have HO1317 := ln0 ho1 (bl HB.out); have HO1320 := ln0 ho2 (bl HB.out); have HO1323 := ln0 ho3 (bl HB.out); replace HB := am (below_step (bl HB.out) hb); (try clear hb ho0 ho1 ho2 ho3)) | ((with_reducible refine gate_dst (N := 3) rfl ?_); refine box_event ?hg (N := 3) ?hd (cs := #[.slice none 0 0, .slice none 0 0, .slice none 0 0, .slice none 0 0]) (t := 30) ?hr ?_; (case hd => rfl); (case hg => rfl); (case hr => first | (go_simp; done) | (go_simp; rfl)); intro gb1324 hg w7 hbox hb; replace HO1314 := rb HO1314 hb; replace HO1317 := rb HO1317 hb; replace HO1320 := rb HO1320 hb; replace HO1323 := rb HO1323 hb; have BK1324 := am (hbox); have GW1324 := am ((by rw [hg]; exact (below_size (bl HB.out)) : w.heap.size ≤ gb1324)); have GE1324 := am ((by rw [hg]; exact (below_size (bl HB.out)) : w.heap.size ≤ gb1324)); replace HB := am (below_step (bl HB.out) hb); clear hb hbox hg; obtain ⟨Ao8, co8, eo8⟩ := Kd.R_slice HO1314.out; subst eo8; obtain ⟨hcz9_0, hcz9_1, hcz9_2, hcz9_3, hfz9_0, hfz9_1, hfz9_2, hfz9_3⟩ := cf4 BK1324; obtain ⟨Ao10, co10, eo10⟩ := Kd.R_slice HO1317.out; subst eo10; obtain ⟨Ao11, co11, eo11⟩ := Kd.R_slice HO1320.out; subst eo11; obtain ⟨Ao12, co12, eo12⟩ := Kd.R_slice HO1323.out; subst eo12) | ((with_reducible refine gate_callee (f := 31) rfl ?_); refine gL (some 14) rfl rfl Try.func31 (by kernel_rfl) rfl #[.agg #[.slice Ao8 t1312.length co8, .slice Ao10 t1315.length co10, .slice Ao11 t1318.length co11, .slice Ao12 t1321.length co12]] rfl ?_; (with_reducible refine (impl_ColorHolds.calls _ _ t1312 _ _ t1315 _ _ t1318 _ _ t1321 t1325 _ ?side1 ?side2 ?side3 ?side4 ?side5 ?side6 ?side7 ?side8 A4.out).mono ?_); (case side1 => exact sr (rg BK1324 HO1314)); (case side2 => exact sc HO1314); (case side3 => exact sr (rg BK1324 HO1317)); (case side4 => exact sc HO1317); (case side5 => exact sr (rg BK1324 HO1320)); (case side6 => exact sc HO1320); (case side7 => exact sr (rg BK1324 HO1323)); (case side8 => exact sc HO1323); rintro e w13 ⟨rfl, hb⟩; refine ⟨_, rfl, ?_⟩; replace HO1314 := am (Kd.R_below (rg BK1324 HO1314) hb); replace HO1317 := am (Kd.R_below (rg BK1324 HO1317) hb); replace HO1320 := am (Kd.R_below (rg BK1324 HO1320) hb); replace HO1323 := am (Kd.R_below (rg BK1324 HO1323) hb); replace BK1324 := bp4 (kf0 BK1324.out) hb; replace HB := am (below_step (bs1 GE1324.out HB.out) hb); (try clear hb)))
  (try simp only [Act.put, List.setIfInBounds_toArray, List.set_cons_zero, List.set_cons_succ])
  go_cut [23] (fun v23 wc => ∃ (kq : Nat) (x23_4 : Bool), v23 = .bool x23_4 ∧ Aside0 (laws_FnHoldsNew.j0 kq t1325 x23_4 t1312 t1315 t1318 t1321 = some r) ∧ Aside0 (kq ≤ k) ∧ Aside0 (Kd.R (Kd.int .i64) 3 wc w.heap.size (fun k_ => some k_ ≠ ((.slice Ao10 t1315.length co10) : Value).ownBlock ∧ some k_ ≠ ((.slice Ao11 t1318.length co11) : Value).ownBlock ∧ some k_ ≠ ((.slice Ao12 t1321.length co12) : Value).ownBlock) (.slice Ao8 t1312.length co8) t1312) ∧ Aside0 (Kd.R (Kd.int .i64) 3 wc w.heap.size (fun k_ => some k_ ≠ ((.slice Ao8 t1312.length co8) : Value).ownBlock ∧ some k_ ≠ ((.slice Ao11 t1318.length co11) : Value).ownBlock ∧ some k_ ≠ ((.slice Ao12 t1321.length co12) : Value).ownBlock) (.slice Ao10 t1315.length co10) t1315) ∧ Aside0 (Kd.R (Kd.int .i64) 3 wc w.heap.size (fun k_ => some k_ ≠ ((.slice Ao8 t1312.length co8) : Value).ownBlock ∧ some k_ ≠ ((.slice Ao10 t1315.length co10) : Value).ownBlock ∧ some k_ ≠ ((.slice Ao12 t1321.length co12) : Value).ownBlock) (.slice Ao11 t1318.length co11) t1318) ∧ Aside0 (Kd.R (Kd.int .i64) 3 wc w.heap.size (fun k_ => some k_ ≠ ((.slice Ao8 t1312.length co8) : Value).ownBlock ∧ some k_ ≠ ((.slice Ao10 t1315.length co10) : Value).ownBlock ∧ some k_ ≠ ((.slice Ao11 t1318.length co11) : Value).ownBlock) (.slice Ao12 t1321.length co12) t1321) ∧ Aside0 (wc.heap[gb1324]? = some (.cells #[(.slice Ao8 t1312.length co8), (.slice Ao10 t1315.length co10), (.slice Ao11 t1318.length co11), (.slice Ao12 t1321.length co12)] 30 (0, 0))) ∧ Aside0 (Below w.heap.size w wc))
  case first =>
   have H := HC5.out
   clear HC5
   replace H := Option.bind_eq_some_iff.mp H
   obtain ⟨t1326, A140, H⟩ := H
   replace H : (if (t1325 != t1326) = true then (laws_FnHoldsNew.j0 k t1325 true t1312 t1315 t1318 t1321) else ((impl_ColoredValid.f k t1312 t1315 t1318 t1321).bind fun t1327 => (laws_FnHoldsNew.j0 k t1325 (!t1327) t1312 t1315 t1318 t1321))) = some r := H
   have A14 := am A140
   clear A140
   by_cases c15 : (t1325 != t1326) = true
   ·rw [if_pos c15] at H
    have c15b0 : (t1325 != t1326) = true := c15
    (try (have c15b1 : decide (t1325 = t1326) = false := by simpa using c15))
    (try (have c15b2 : (t1325 == t1326) = false := by simpa using c15))
    (try (have c15b3 : ¬ (t1325 = t1326) := by simpa using c15))
    clear c15
    (first | rw [c15b0] | (simp only [i64_w, i32_w]; rw [c15b0]) | skip)
    have H' := am H
    clear H
    obtain ⟨hcz16_0, hcz16_1, hcz16_2, hcz16_3, hfz16_0, hfz16_1, hfz16_2, hfz16_3⟩ := cf4 BK1324
    go_wp2_with (first | ((with_reducible refine gate_callee (f := 32) rfl ?_); refine gL (some 17) rfl rfl Try.func32 (by kernel_rfl) rfl #[.agg #[.slice Ao8 t1312.length co8, .slice Ao10 t1315.length co10, .slice Ao11 t1318.length co11, .slice Ao12 t1321.length co12]] rfl ?_; (with_reducible refine (spec_ColorHolds.calls k _ _ t1312 _ _ t1315 _ _ t1318 _ _ t1321 t1326 _ ?side1 ?side2 ?side3 ?side4 ?side5 ?side6 ?side7 ?side8 A14.out).mono ?_); (case side1 => exact cl ((Kd.R_reads' HO1314.out).2.2)); (case side2 => exact sc HO1314); (case side3 => exact cl ((Kd.R_reads' HO1317.out).2.2)); (case side4 => exact sc HO1317); (case side5 => exact cl ((Kd.R_reads' HO1320.out).2.2)); (case side6 => exact sc HO1320); (case side7 => exact cl ((Kd.R_reads' HO1323.out).2.2)); (case side8 => exact sc HO1323); rintro e w17 ⟨rfl, hb⟩; refine ⟨_, rfl, ?_⟩; replace HO1314 := rb HO1314 hb; replace HO1317 := rb HO1317 hb; replace HO1320 := rb HO1320 hb; replace HO1323 := rb HO1323 hb; replace BK1324 := bb BK1324 hb; replace HB := am (below_step (bs1 GE1324.out HB.out) hb); (try clear hb)))
    go_meet
    case rel => exact ⟨_, (true), (by first | rfl | (simp; done) | (simp [*]; done)), H', ⟨by first | omega | exact Nat.le_refl _⟩, ⟨rl HO1314.out⟩, ⟨rl HO1317.out⟩, ⟨rl HO1320.out⟩, ⟨rl HO1323.out⟩, ⟨kl BK1324.out⟩, ⟨by exact bs1 GE1324.out HB.out⟩⟩
   ·rw [if_neg c15] at H
    have c15b0 : (t1325 != t1326) = false := by simpa using c15
    (try (have c15b1 : decide (t1325 = t1326) = true := by simpa using c15))
    (try (have c15b2 : (t1325 == t1326) = true := by simpa using c15))
    clear c15
    (first | rw [c15b0] | (simp only [i64_w, i32_w]; rw [c15b0]) | skip)
    replace H := Option.bind_eq_some_iff.mp H
    obtain ⟨t1327, A180, H⟩ := H
    replace H : (laws_FnHoldsNew.j0 k t1325 (!t1327) t1312 t1315 t1318 t1321) = some r := H
    have A18 := am A180
    clear A180
    have H' := am H
    clear H
    obtain ⟨hcz19_0, hcz19_1, hcz19_2, hcz19_3, hfz19_0, hfz19_1, hfz19_2, hfz19_3⟩ := cf4 BK1324
    go_wp2_with (first | ((with_reducible refine gate_callee (f := 32) rfl ?_); refine gL (some 17) rfl rfl Try.func32 (by kernel_rfl) rfl #[.agg #[.slice Ao8 t1312.length co8, .slice Ao10 t1315.length co10, .slice Ao11 t1318.length co11, .slice Ao12 t1321.length co12]] rfl ?_; (with_reducible refine (spec_ColorHolds.calls k _ _ t1312 _ _ t1315 _ _ t1318 _ _ t1321 t1326 _ ?side1 ?side2 ?side3 ?side4 ?side5 ?side6 ?side7 ?side8 A14.out).mono ?_); (case side1 => exact cl ((Kd.R_reads' HO1314.out).2.2)); (case side2 => exact sc HO1314); (case side3 => exact cl ((Kd.R_reads' HO1317.out).2.2)); (case side4 => exact sc HO1317); (case side5 => exact cl ((Kd.R_reads' HO1320.out).2.2)); (case side6 => exact sc HO1320); (case side7 => exact cl ((Kd.R_reads' HO1323.out).2.2)); (case side8 => exact sc HO1323); rintro e w20 ⟨rfl, hb⟩; refine ⟨_, rfl, ?_⟩; replace HO1314 := rb HO1314 hb; replace HO1317 := rb HO1317 hb; replace HO1320 := rb HO1320 hb; replace HO1323 := rb HO1323 hb; replace BK1324 := bb BK1324 hb; replace HB := am (below_step (bs1 GE1324.out HB.out) hb); (try clear hb); obtain ⟨hcz21_0, hcz21_1, hcz21_2, hcz21_3, hfz21_0, hfz21_1, hfz21_2, hfz21_3⟩ := cf4 BK1324) | (go_at_call 29; (with_reducible refine (impl_ColoredValid.calls k _ _ t1312 _ _ t1315 _ _ t1318 _ _ t1321 t1327 _ ?side1 ?side2 ?side3 ?side4 ?side5 ?side6 ?side7 ?side8 A18.out).mono ?_); (case side1 => exact cl ((Kd.R_reads' HO1314.out).2.2)); (case side2 => exact sc HO1314); (case side3 => exact cl ((Kd.R_reads' HO1317.out).2.2)); (case side4 => exact sc HO1317); (case side5 => exact cl ((Kd.R_reads' HO1320.out).2.2)); (case side6 => exact sc HO1320); (case side7 => exact cl ((Kd.R_reads' HO1323.out).2.2)); (case side8 => exact sc HO1323); rintro e w22 ⟨rfl, hb⟩; replace HO1314 := rb HO1314 hb; replace HO1317 := rb HO1317 hb; replace HO1320 := rb HO1320 hb; replace HO1323 := rb HO1323 hb; replace BK1324 := bb BK1324 hb; replace HB := am (below_step (bs1 GE1324.out HB.out) hb); (try clear hb)))
    go_meet
    case rel => exact ⟨_, (!t1327), (by first | rfl | (simp; done) | (simp [*]; done)), H', ⟨by first | omega | exact Nat.le_refl _⟩, ⟨rl HO1314.out⟩, ⟨rl HO1317.out⟩, ⟨rl HO1320.out⟩, ⟨rl HO1323.out⟩, ⟨kl BK1324.out⟩, ⟨by exact bs1 GE1324.out HB.out⟩⟩
  case rest =>
   clear HC5
   try clear c1
   try clear c2
   try clear c2b0
   try clear c2b1
   try clear p2
   try clear c3
   try clear c12
   try clear c15
   try clear c15b0
   try clear c15b1
   try clear c15b2
   obtain ⟨kq, x23_4, rfl, HA, HJ4, HO_1325000, HO_1325001, HO_1325002, HO_1325003, BK1324, HB⟩ := hcut
   cases kq with
   | zero => exact absurd HA.out (by simp [laws_FnHoldsNew.j0])
   | succ kj4 =>
    have H := HA.out
    clear HA
    simp only [laws_FnHoldsNew.j0] at H
    by_cases c23 : x23_4 = true
    ·subst c23
     have H1 : ((spec_ColorHolds.f kj4 t1312 t1315 t1318 t1321).bind fun t1328 => (some (t1325 == t1328))) = some r := by rw [if_pos rfl] at H; exact H
     clear H
     have H := H1
     clear H1
     replace H := Option.bind_eq_some_iff.mp H
     obtain ⟨t1328, A240, H⟩ := H
     replace H : (some (t1325 == t1328)) = some r := H
     have A24 := am A240
     clear A240
     obtain rfl := Option.some.inj H
     obtain ⟨hcz25_0, hcz25_1, hcz25_2, hcz25_3, hfz25_0, hfz25_1, hfz25_2, hfz25_3⟩ := cf4 BK1324
     go_wp2_with (first | ((with_reducible refine gate_callee (f := 32) rfl ?_); refine gL (some 26) rfl rfl Try.func32 (by kernel_rfl) rfl #[.agg #[.slice Ao8 t1312.length co8, .slice Ao10 t1315.length co10, .slice Ao11 t1318.length co11, .slice Ao12 t1321.length co12]] rfl ?_; (with_reducible refine (spec_ColorHolds.calls kj4 _ _ t1312 _ _ t1315 _ _ t1318 _ _ t1321 t1328 _ ?side1 ?side2 ?side3 ?side4 ?side5 ?side6 ?side7 ?side8 A24.out).mono ?_); (case side1 => exact cl ((Kd.R_reads' HO_1325000.out).2.2)); (case side2 => exact sc HO_1325000); (case side3 => exact cl ((Kd.R_reads' HO_1325001.out).2.2)); (case side4 => exact sc HO_1325001); (case side5 => exact cl ((Kd.R_reads' HO_1325002.out).2.2)); (case side6 => exact sc HO_1325002); (case side7 => exact cl ((Kd.R_reads' HO_1325003.out).2.2)); (case side8 => exact sc HO_1325003); rintro e w26 ⟨rfl, hb⟩; refine ⟨_, rfl, ?_⟩; replace HO_1325000 := rb HO_1325000 hb; replace HO_1325001 := rb HO_1325001 hb; replace HO_1325002 := rb HO_1325002 hb; replace HO_1325003 := rb HO_1325003 hb; replace BK1324 := bb BK1324 hb; replace HB := am (below_step (bs1 GE1324.out HB.out) hb); (try clear hb)))
     go_ret
     exact ⟨by first | rfl | (simp [errW_none, errW_some] <;> rfl) | (simp [*, errW_none, errW_some] <;> rfl), by exact bs1 GE1324.out HB.out⟩
    ·replace c23 := Bool.eq_false_iff.mpr c23
     subst c23
     have H1 : (laws_FnHoldsNew.l0 kj4 0 t1312 t1315 t1318 t1321) = some r := by rw [if_neg (show ¬ (false = true) by decide)] at H; exact H
     clear H
     have H := H1
     clear H1
     have H' := am H
     clear H
     go_wp2
     go_loopg [5] kj4 (fun kq v5 w' => ∃ (x5_2 : Int) (x1325000_2 : List Int) (x1325001_2 : List Int) (x1325002_2 : List Int) (x1325003_2 : List Int) (u1325000 : Value) (u1325001 : Value) (u1325002 : Value) (u1325003 : Value), v5 = .int .i64 x5_2 ∧ Aside0 (laws_FnHoldsNew.l0 kq x5_2 x1325000_2 x1325001_2 x1325002_2 x1325003_2 = some r) ∧ Aside0 (kq ≤ kj4) ∧ Aside0 (Kd.R (Kd.int .i64) 3 w' w.heap.size (fun k_ => some k_ ≠ (u1325001 : Value).ownBlock ∧ some k_ ≠ (u1325002 : Value).ownBlock ∧ some k_ ≠ (u1325003 : Value).ownBlock) u1325000 x1325000_2) ∧ Aside0 (Kd.R (Kd.int .i64) 3 w' w.heap.size (fun k_ => some k_ ≠ (u1325000 : Value).ownBlock ∧ some k_ ≠ (u1325002 : Value).ownBlock ∧ some k_ ≠ (u1325003 : Value).ownBlock) u1325001 x1325001_2) ∧ Aside0 (Kd.R (Kd.int .i64) 3 w' w.heap.size (fun k_ => some k_ ≠ (u1325000 : Value).ownBlock ∧ some k_ ≠ (u1325001 : Value).ownBlock ∧ some k_ ≠ (u1325003 : Value).ownBlock) u1325002 x1325002_2) ∧ Aside0 (Kd.R (Kd.int .i64) 3 w' w.heap.size (fun k_ => some k_ ≠ (u1325000 : Value).ownBlock ∧ some k_ ≠ (u1325001 : Value).ownBlock ∧ some k_ ≠ (u1325002 : Value).ownBlock) u1325003 x1325003_2) ∧ Aside0 (w'.heap[gb1324]? = some (.cells #[u1325000, u1325001, u1325002, u1325003] 30 (0, 0))) ∧ Aside0 (Below w.heap.size w w'))
     case atStart => exact ⟨(0), (t1312), (t1315), (t1318), (t1321), (.slice Ao8 t1312.length co8), (.slice Ao10 t1315.length co10), (.slice Ao11 t1318.length co11), (.slice Ao12 t1321.length co12), (by first | rfl | (simp; done) | (simp [*]; done)), H', ⟨Nat.le_refl _⟩, ⟨rl HO_1325000.out⟩, ⟨rl HO_1325001.out⟩, ⟨rl HO_1325002.out⟩, ⟨rl HO_1325003.out⟩, ⟨kl BK1324.out⟩, ⟨by exact bs1 GE1324.out HB.out⟩⟩
     case round =>
      clear H'
      try clear c1
      try clear c2
      try clear c2b0
      try clear c2b1
      try clear p2
      try clear c3
      try clear c12
      try clear c15
      try clear c15b0
      try clear c15b1
      try clear c15b2
      try clear c23
      try clear p2
      obtain ⟨x5_2, x1325000_2, x1325001_2, x1325002_2, x1325003_2, u1325000, u1325001, u1325002, u1325003, rfl, HA, HK2, HO_1325000, HO_1325001, HO_1325002, HO_1325003, BK1324, HB⟩ := hrel
      cases gk with
      | zero => exact absurd HA.out (by simp [laws_FnHoldsNew.l0])
      | succ k2 =>
       have H := HA.out
       clear HA
       simp only [laws_FnHoldsNew.l0] at H
       by_cases c27 : x5_2 < (x1325000_2.length : Int)
       ·rw [if_pos c27] at H
        have c27b0 : decide (x5_2 < (x1325000_2.length : Int)) = true := decide_eq_true c27
        clear c27
        replace H := Option.bind_eq_some_iff.mp H
        obtain ⟨⟨t1329, t1332, t1335, t1338, t1341⟩, A280, H⟩ := H
        replace H : (if t1341 = true then (laws_FnHoldsNew.l0 k2 (wrap64 (x5_2 + 1)) t1329 t1332 t1335 t1338) else (none)) = some r := H
        have A28 := am A280
        clear A280
        by_cases c29 : t1341 = true
        ·subst c29
         have H1 : (laws_FnHoldsNew.l0 k2 (wrap64 (x5_2 + 1)) t1329 t1332 t1335 t1338) = some r := by rw [if_pos rfl] at H; exact H
         clear H
         have H := H1
         clear H1
         have H' := am H
         clear H
         obtain ⟨hcz30_0, hcz30_1, hcz30_2, hcz30_3, hfz30_0, hfz30_1, hfz30_2, hfz30_3⟩ := cf4 BK1324
         obtain ⟨Ao31, co31, eo31⟩ := Kd.R_slice HO_1325000.out
         subst eo31
         obtain ⟨Ao32, co32, eo32⟩ := Kd.R_slice HO_1325001.out
         subst eo32
         obtain ⟨Ao33, co33, eo33⟩ := Kd.R_slice HO_1325002.out
         subst eo33
         obtain ⟨Ao34, co34, eo34⟩ := Kd.R_slice HO_1325003.out
         subst eo34
         go_wp2_with (first | ((with_reducible refine gate_callee (f := 20) rfl ?_); refine gL (some 39) rfl rfl Try.func20 (by kernel_rfl) rfl #[.agg #[.slice Ao31 x1325000_2.length co31, .slice Ao32 x1325001_2.length co32, .slice Ao33 x1325002_2.length co33, .slice Ao34 x1325003_2.length co34], .int .i64 x5_2] rfl ?_; (with_reducible refine (impl_ShadeCell.calls k2 _ _ x1325000_2 _ _ x1325001_2 _ _ x1325002_2 _ _ x1325003_2 x5_2 t1329 t1332 t1335 t1338 true _ ?side1 ?side2 ?side3 ?side4 ?side5 ?side6 ?side7 ?side8 A28.out).mono ?_); (case side1 => exact cl ((Kd.R_reads' HO_1325000.out).2.2)); (case side2 => exact sc HO_1325000); (case side3 => exact cl ((Kd.R_reads' HO_1325001.out).2.2)); (case side4 => exact sc HO_1325001); (case side5 => exact cl ((Kd.R_reads' HO_1325002.out).2.2)); (case side6 => exact sc HO_1325002); (case side7 => exact cl ((Kd.R_reads' HO_1325003.out).2.2)); (case side8 => exact sc HO_1325003); rintro e w35 ⟨v1330, v1333, v1336, v1339, rfl, ho0, ho1, ho2, ho3, hb⟩; refine ⟨_, rfl, ?_⟩; have HO1331 := ln4 ho0 (rl HO_1325000.out) (rl HO_1325001.out) (rl HO_1325002.out) (rl HO_1325003.out) (bs1 GE1324.out HB.out); have HO1334 := ln4 ho1 (rl HO_1325000.out) (rl HO_1325001.out) (rl HO_1325002.out) (rl HO_1325003.out) (bs1 GE1324.out HB.out); have HO1337 := ln4 ho2 (rl HO_1325000.out) (rl HO_1325001.out) (rl HO_1325002.out) (rl HO_1325003.out) (bs1 GE1324.out HB.out); have HO1340 := ln4 ho3 (rl HO_1325000.out) (rl HO_1325001.out) (rl HO_1325002.out) (rl HO_1325003.out) (bs1 GE1324.out HB.out); replace HO_1325000 := td4 (rl HO_1325000.out) hb ho0 ho1 ho2 ho3; replace HO_1325001 := td4 (rl HO_1325001.out) hb ho0 ho1 ho2 ho3; replace HO_1325002 := td4 (rl HO_1325002.out) hb ho0 ho1 ho2 ho3; replace HO_1325003 := td4 (rl HO_1325003.out) hb ho0 ho1 ho2 ho3; replace BK1324 := bb BK1324 hb; replace HB := am (below_step (bs1 GE1324.out HB.out) hb); (try clear hb ho0 ho1 ho2 ho3)) | ((with_reducible refine gate_dst (N := 6) rfl ?_); refine box_event ?hg (N := 6) ?hd (cs := #[.slice none 0 0, .slice none 0 0, .slice none 0 0, .slice none 0 0]) (t := 30) ?hr ?_; (case hd => rfl); (case hg => rfl); (case hr => first | (go_simp; done) | (go_simp; rfl)); intro gb1342 hg w36 hbox hb; replace HO_1325000 := rb HO_1325000 hb; replace HO_1325001 := rb HO_1325001 hb; replace HO_1325002 := rb HO_1325002 hb; replace HO_1325003 := rb HO_1325003 hb; replace HO1331 := rb HO1331 hb; replace HO1334 := rb HO1334 hb; replace HO1337 := rb HO1337 hb; replace HO1340 := rb HO1340 hb; have BK1342 := am (hbox); have GW1342 := am ((by rw [hg]; exact (below_size (bs1 GE1324.out HB.out)) : w.heap.size ≤ gb1342)); have GE1342 := am ((by rw [hg]; exact (below_size (bs1 GE1324.out HB.out)) : w.heap.size ≤ gb1342)); replace HB := am (below_step (bs1 GE1324.out HB.out) hb); have NB1324_1342 := nb BK1324 hg; have NB1342_1324 := nc BK1324 hg; replace BK1324 := bb BK1324 hb; clear hb hbox hg; obtain ⟨Ao37, co37, eo37⟩ := Kd.R_slice HO1331.out; subst eo37; have hnb38 := NB1342_1324.out; have hnc38 := NB1324_1342.out; obtain ⟨hcz39_0, hcz39_1, hcz39_2, hcz39_3, hfz39_0, hfz39_1, hfz39_2, hfz39_3⟩ := cf4 BK1342; obtain ⟨Ao40, co40, eo40⟩ := Kd.R_slice HO1334.out; subst eo40; obtain ⟨Ao41, co41, eo41⟩ := Kd.R_slice HO1337.out; subst eo41; obtain ⟨Ao42, co42, eo42⟩ := Kd.R_slice HO1340.out; subst eo42; obtain ⟨hcz43_0, hcz43_1, hcz43_2, hcz43_3, hfz43_0, hfz43_1, hfz43_2, hfz43_3⟩ := cf4 BK1324))
         go_roundg k2
         case measure => have := HJ4.out; have := HK2.out; omega
         case rel => exact ⟨(wrap64 (x5_2 + 1)), (t1329), (t1332), (t1335), (t1338), (.slice Ao37 t1329.length co37), (.slice Ao40 t1332.length co40), (.slice Ao41 t1335.length co41), (.slice Ao42 t1338.length co42), (by first | rfl | (simp; done) | (simp [*]; done)), H', ⟨by have := HJ4.out; have := HK2.out; omega⟩, ⟨rl (Kd.R_mono (Kd.R_far (p := ⟨gb1324, 3, none⟩) (Kd.R_far (p := ⟨gb1324, 2, none⟩) (Kd.R_far (p := ⟨gb1324, 1, none⟩) (Kd.R_far (p := ⟨gb1324, 0, none⟩) (Kd.R_far (p := ⟨gb1342, 3, none⟩) (Kd.R_far (p := ⟨gb1342, 2, none⟩) (Kd.R_far (p := ⟨gb1342, 1, none⟩) (Kd.R_far (p := ⟨gb1342, 0, none⟩) (Kd.R_types (Kd.R_types HO1331.out BK1342.out (by decide)) BK1324.out (by decide)) (fun _ hk => by first | exact hk.1.2 | (simp only [ne_eq] at hk ⊢; simp only [hk, not_false_eq_true, and_self])) (.slice Ao37 t1329.length co37)) (fun _ hk => by first | exact hk.1.2 | (simp only [ne_eq] at hk ⊢; simp only [hk, not_false_eq_true, and_self])) (.slice Ao40 t1332.length co40)) (fun _ hk => by first | exact hk.1.2 | (simp only [ne_eq] at hk ⊢; simp only [hk, not_false_eq_true, and_self])) (.slice Ao41 t1335.length co41)) (fun _ hk => by first | exact hk.1.2 | (simp only [ne_eq] at hk ⊢; simp only [hk, not_false_eq_true, and_self])) (.slice Ao42 t1338.length co42)) (fun _ hk => hk.2) (.slice Ao37 t1329.length co37)) (fun _ hk => hk.2) (.slice Ao40 t1332.length co40)) (fun _ hk => hk.2) (.slice Ao41 t1335.length co41)) (fun _ hk => hk.2) (.slice Ao42 t1338.length co42)) (fun _ hk => by simp only [ne_eq] at hk ⊢; simp only [hk, not_false_eq_true, and_self]))⟩, ⟨rl (Kd.R_mono (Kd.R_far (p := ⟨gb1324, 3, none⟩) (Kd.R_far (p := ⟨gb1324, 2, none⟩) (Kd.R_far (p := ⟨gb1324, 1, none⟩) (Kd.R_far (p := ⟨gb1324, 0, none⟩) (Kd.R_far (p := ⟨gb1342, 3, none⟩) (Kd.R_far (p := ⟨gb1342, 2, none⟩) (Kd.R_far (p := ⟨gb1342, 1, none⟩) (Kd.R_far (p := ⟨gb1342, 0, none⟩) (Kd.R_types (Kd.R_types HO1334.out BK1342.out (by decide)) BK1324.out (by decide)) (fun _ hk => by first | exact hk.1.2 | (simp only [ne_eq] at hk ⊢; simp only [hk, not_false_eq_true, and_self])) (.slice Ao37 t1329.length co37)) (fun _ hk => by first | exact hk.1.2 | (simp only [ne_eq] at hk ⊢; simp only [hk, not_false_eq_true, and_self])) (.slice Ao40 t1332.length co40)) (fun _ hk => by first | exact hk.1.2 | (simp only [ne_eq] at hk ⊢; simp only [hk, not_false_eq_true, and_self])) (.slice Ao41 t1335.length co41)) (fun _ hk => by first | exact hk.1.2 | (simp only [ne_eq] at hk ⊢; simp only [hk, not_false_eq_true, and_self])) (.slice Ao42 t1338.length co42)) (fun _ hk => hk.2) (.slice Ao37 t1329.length co37)) (fun _ hk => hk.2) (.slice Ao40 t1332.length co40)) (fun _ hk => hk.2) (.slice Ao41 t1335.length co41)) (fun _ hk => hk.2) (.slice Ao42 t1338.length co42)) (fun _ hk => by simp only [ne_eq] at hk ⊢; simp only [hk, not_false_eq_true, and_self]))⟩, ⟨rl (Kd.R_mono (Kd.R_far (p := ⟨gb1324, 3, none⟩) (Kd.R_far (p := ⟨gb1324, 2, none⟩) (Kd.R_far (p := ⟨gb1324, 1, none⟩) (Kd.R_far (p := ⟨gb1324, 0, none⟩) (Kd.R_far (p := ⟨gb1342, 3, none⟩) (Kd.R_far (p := ⟨gb1342, 2, none⟩) (Kd.R_far (p := ⟨gb1342, 1, none⟩) (Kd.R_far (p := ⟨gb1342, 0, none⟩) (Kd.R_types (Kd.R_types HO1337.out BK1342.out (by decide)) BK1324.out (by decide)) (fun _ hk => by first | exact hk.1.2 | (simp only [ne_eq] at hk ⊢; simp only [hk, not_false_eq_true, and_self])) (.slice Ao37 t1329.length co37)) (fun _ hk => by first | exact hk.1.2 | (simp only [ne_eq] at hk ⊢; simp only [hk, not_false_eq_true, and_self])) (.slice Ao40 t1332.length co40)) (fun _ hk => by first | exact hk.1.2 | (simp only [ne_eq] at hk ⊢; simp only [hk, not_false_eq_true, and_self])) (.slice Ao41 t1335.length co41)) (fun _ hk => by first | exact hk.1.2 | (simp only [ne_eq] at hk ⊢; simp only [hk, not_false_eq_true, and_self])) (.slice Ao42 t1338.length co42)) (fun _ hk => hk.2) (.slice Ao37 t1329.length co37)) (fun _ hk => hk.2) (.slice Ao40 t1332.length co40)) (fun _ hk => hk.2) (.slice Ao41 t1335.length co41)) (fun _ hk => hk.2) (.slice Ao42 t1338.length co42)) (fun _ hk => by simp only [ne_eq] at hk ⊢; simp only [hk, not_false_eq_true, and_self]))⟩, ⟨rl (Kd.R_mono (Kd.R_far (p := ⟨gb1324, 3, none⟩) (Kd.R_far (p := ⟨gb1324, 2, none⟩) (Kd.R_far (p := ⟨gb1324, 1, none⟩) (Kd.R_far (p := ⟨gb1324, 0, none⟩) (Kd.R_far (p := ⟨gb1342, 3, none⟩) (Kd.R_far (p := ⟨gb1342, 2, none⟩) (Kd.R_far (p := ⟨gb1342, 1, none⟩) (Kd.R_far (p := ⟨gb1342, 0, none⟩) (Kd.R_types (Kd.R_types HO1340.out BK1342.out (by decide)) BK1324.out (by decide)) (fun _ hk => by first | exact hk.1.2 | (simp only [ne_eq] at hk ⊢; simp only [hk, not_false_eq_true, and_self])) (.slice Ao37 t1329.length co37)) (fun _ hk => by first | exact hk.1.2 | (simp only [ne_eq] at hk ⊢; simp only [hk, not_false_eq_true, and_self])) (.slice Ao40 t1332.length co40)) (fun _ hk => by first | exact hk.1.2 | (simp only [ne_eq] at hk ⊢; simp only [hk, not_false_eq_true, and_self])) (.slice Ao41 t1335.length co41)) (fun _ hk => by first | exact hk.1.2 | (simp only [ne_eq] at hk ⊢; simp only [hk, not_false_eq_true, and_self])) (.slice Ao42 t1338.length co42)) (fun _ hk => hk.2) (.slice Ao37 t1329.length co37)) (fun _ hk => hk.2) (.slice Ao40 t1332.length co40)) (fun _ hk => hk.2) (.slice Ao41 t1335.length co41)) (fun _ hk => hk.2) (.slice Ao42 t1338.length co42)) (fun _ hk => by simp only [ne_eq] at hk ⊢; simp only [hk, not_false_eq_true, and_self]))⟩, ⟨kp4 (kf1 NB1324_1342.out BK1324.out)⟩, ⟨by exact bs2 GE1324.out GE1342.out HB.out⟩⟩
        ·replace c29 := Bool.eq_false_iff.mpr c29
         subst c29
         have H1 : (none) = some r := by rw [if_neg (show ¬ (false = true) by decide)] at H; exact H
         clear H
         have H := H1
         clear H1
         exact absurd H (by simp)
       ·rw [if_neg c27] at H
        have c27b0 : decide (x5_2 < (x1325000_2.length : Int)) = false := decide_eq_false c27
        clear c27
        replace H := Option.bind_eq_some_iff.mp H
        obtain ⟨t1343, A440, H⟩ := H
        replace H : (if t1343 = true then ((impl_CountColor.f k2 x1325000_2 x1325001_2 x1325002_2 x1325003_2 0).bind fun t1344 => (some (t1344 == 0))) else (none)) = some r := H
        have A44 := am A440
        clear A440
        by_cases c45 : t1343 = true
        ·subst c45
         have H1 : ((impl_CountColor.f k2 x1325000_2 x1325001_2 x1325002_2 x1325003_2 0).bind fun t1344 => (some (t1344 == 0))) = some r := by rw [if_pos rfl] at H; exact H
         clear H
         have H := H1
         clear H1
         replace H := Option.bind_eq_some_iff.mp H
         obtain ⟨t1344, A460, H⟩ := H
         replace H : (some (t1344 == 0)) = some r := H
         have A46 := am A460
         clear A460
         obtain rfl := Option.some.inj H
         obtain ⟨hcz47_0, hcz47_1, hcz47_2, hcz47_3, hfz47_0, hfz47_1, hfz47_2, hfz47_3⟩ := cf4 BK1324
         obtain ⟨Ao48, co48, eo48⟩ := Kd.R_slice HO_1325000.out
         subst eo48
         obtain ⟨Ao49, co49, eo49⟩ := Kd.R_slice HO_1325001.out
         subst eo49
         obtain ⟨Ao50, co50, eo50⟩ := Kd.R_slice HO_1325002.out
         subst eo50
         obtain ⟨Ao51, co51, eo51⟩ := Kd.R_slice HO_1325003.out
         subst eo51
         go_wp2_with (first | ((with_reducible refine gate_callee (f := 31) rfl ?_); refine gL (some 46) rfl rfl Try.func31 (by kernel_rfl) rfl #[.agg #[.slice Ao48 x1325000_2.length co48, .slice Ao49 x1325001_2.length co49, .slice Ao50 x1325002_2.length co50, .slice Ao51 x1325003_2.length co51]] rfl ?_; (with_reducible refine (impl_ColorHolds.calls _ _ x1325000_2 _ _ x1325001_2 _ _ x1325002_2 _ _ x1325003_2 true _ ?side1 ?side2 ?side3 ?side4 ?side5 ?side6 ?side7 ?side8 A44.out).mono ?_); (case side1 => exact cl ((Kd.R_reads' HO_1325000.out).2.2)); (case side2 => exact sc HO_1325000); (case side3 => exact cl ((Kd.R_reads' HO_1325001.out).2.2)); (case side4 => exact sc HO_1325001); (case side5 => exact cl ((Kd.R_reads' HO_1325002.out).2.2)); (case side6 => exact sc HO_1325002); (case side7 => exact cl ((Kd.R_reads' HO_1325003.out).2.2)); (case side8 => exact sc HO_1325003); rintro e w52 ⟨rfl, hb⟩; refine ⟨_, rfl, ?_⟩; replace HO_1325000 := rb HO_1325000 hb; replace HO_1325001 := rb HO_1325001 hb; replace HO_1325002 := rb HO_1325002 hb; replace HO_1325003 := rb HO_1325003 hb; replace BK1324 := bb BK1324 hb; replace HB := am (below_step (bs1 GE1324.out HB.out) hb); (try clear hb); obtain ⟨hcz53_0, hcz53_1, hcz53_2, hcz53_3, hfz53_0, hfz53_1, hfz53_2, hfz53_3⟩ := cf4 BK1324) | (go_at_call 27; (with_reducible refine (impl_CountColor.calls k2 _ _ x1325000_2 _ _ x1325001_2 _ _ x1325002_2 _ _ x1325003_2 0 t1344 _ ?side1 ?side2 ?side3 ?side4 ?side5 ?side6 ?side7 ?side8 A46.out).mono ?_); (case side1 => exact cl ((Kd.R_reads' HO_1325000.out).2.2)); (case side2 => exact sc HO_1325000); (case side3 => exact cl ((Kd.R_reads' HO_1325001.out).2.2)); (case side4 => exact sc HO_1325001); (case side5 => exact cl ((Kd.R_reads' HO_1325002.out).2.2)); (case side6 => exact sc HO_1325002); (case side7 => exact cl ((Kd.R_reads' HO_1325003.out).2.2)); (case side8 => exact sc HO_1325003); rintro e w54 ⟨rfl, hb⟩; replace HO_1325000 := rb HO_1325000 hb; replace HO_1325001 := rb HO_1325001 hb; replace HO_1325002 := rb HO_1325002 hb; replace HO_1325003 := rb HO_1325003 hb; replace BK1324 := bb BK1324 hb; replace HB := am (below_step (bs1 GE1324.out HB.out) hb); (try clear hb)))
         go_ret
         exact ⟨by first | rfl | (simp [errW_none, errW_some] <;> rfl) | (simp [*, errW_none, errW_some] <;> rfl), by exact bs1 GE1324.out HB.out⟩
        ·replace c45 := Bool.eq_false_iff.mpr c45
         subst c45
         have H1 : (none) = some r := by rw [if_neg (show ¬ (false = true) by decide)] at H; exact H
         clear H
         have H := H1
         clear H1
         exact absurd H (by simp)

/-- THE ONE PURE STATEMENT of laws_FnHoldsNew: yours. -/
def laws_FnHoldsNew.Pure : Prop := ∀ (l0 : List Int), l0.length ≤ maxLen → l0.length * 1 ≤ 140737488351232 → (∀ x ∈ l0, (Lit.int .u8 x).wf = true) → ∃ k, laws_FnHoldsNew.f k l0 = some true
theorem laws_FnHoldsNew.walk (P : laws_FnHoldsNew.Pure) (a0 : Option Addr) (len0 cap0 : Nat) (z0 : List Int) (w : World) (w0 : (a0 = none ∧ len0 = 0 ∧ cap0 = 0 ∧ z0 = []) ∨ ∃ x, a0 = some x ∧ len0 ≤ cap0 ∧ cap0 ≤ maxLen ∧ z0.length = cap0 ∧ (∀ i, i < z0.length → w.cell? (x.add i) = some (.int .u8 (z0.getD i 0))) ∧ ∀ n ∈ z0, (Lit.int .u8 n).wf = true) (y0 : len0 * 1 ≤ 140737488351232) :
  Calls Try.prog 12 #[.slice a0 len0 cap0] w fun e w' => e = .returned (.bool true) ∧ Below w.heap.size w w' := by
 obtain ⟨l0, rfl, hr0, hm0, hw0, hc0⟩ := ReadsInt.ofRowC w0
 obtain ⟨k, h⟩ := P l0 hm0 y0 hw0
 refine (laws_FnHoldsNew.calls k _ _ l0 true w (Kd.C_of_reads (d := (0 : Int)) (h1 := fun _ => rfl) hr0) hc0 h).mono ?_
 rintro e w' ⟨rfl, hd⟩
 exact ⟨rfl, hd⟩

end Go.Proofs.Ytkbaggfkidalfaa.A
