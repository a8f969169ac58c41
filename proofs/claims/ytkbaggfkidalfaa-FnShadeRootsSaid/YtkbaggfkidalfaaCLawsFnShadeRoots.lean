/- Contracts of functions of the given program (CLawsFnShadeRoots). No conditions beyond those stated. -/
import Derived.Test.YtkbaggfkidalfaaA0
import Derived.Test.YtkbaggfkidalfaaAImplColoredSame
import Derived.Test.YtkbaggfkidalfaaAImplColoredValid
import Derived.Test.YtkbaggfkidalfaaAImplCountColor
import Derived.Test.YtkbaggfkidalfaaAImplShadeRoots
import Derived.Test.YtkbaggfkidalfaaASpecDrawShadeRoots
import Derived.Test.YtkbaggfkidalfaaASpecShadeRoots
import Derived.Test.YtkbaggfkidalfaaA0
namespace Go.Proofs.Ytkbaggfkidalfaa.A
open Go.RowKit Go.Proofs.YtkbaggfkidalfaaW.PrintWords Go.Proofs.YtkbaggfkidalfaaW.PrintLast Go.Proofs.YtkbaggfkidalfaaW.PrintMore
attribute [local go_sem] max2_int min2_int max_two min_two max_three min_three max_four min_four   -- for this text's walks alone
set_option linter.unusedVariables false
set_option linter.unusedSimpArgs false

/-! ### laws_FnShadeRoots -/
mutual
def laws_FnShadeRoots.j0 : Nat → Bool → Bool → Bool → List Int → List Int → List Int → List Int → List Int → List Int → List Int → List Int → List Int → List Int → List Int → List Int → Option (Bool)
 | 0, _, _, _, _, _, _, _, _, _, _, _, _, _, _, _ => none
 | k + 1, x5, x7, x39, x1176000, x1176001, x1176002, x1176003, x1190000, x1190001, x1190002, x1190003, x1204000, x1204001, x1204002, x1204003 => if x39 = true then ((impl_ColoredSame.f k x1190000 x1190001 x1190002 x1190003 x1204000 x1204001 x1204002 x1204003).bind fun t1205 => (if t1205 = true then (some (x5 == x7)) else (none))) else (laws_FnShadeRoots.l0 k 0 x1176000 x1176001 x1176002 x1176003 x1190000 x1190001 x1190002 x1190003)
def laws_FnShadeRoots.l0 : Nat → Int → List Int → List Int → List Int → List Int → List Int → List Int → List Int → List Int → Option (Bool)
 | 0, _, _, _, _, _, _, _, _, _ => none
 | k + 1, x8, x1176000, x1176001, x1176002, x1176003, x1190000, x1190001, x1190002, x1190003 => if x8 < (x1176002.length : Int) then (if 0 ≤ x8 then (if (rd x1176002 x8) = (-1) then (laws_FnShadeRoots.l0 k (wrap64 (x8 + 1)) x1176000 x1176001 x1176002 x1176003 x1190000 x1190001 x1190002 x1190003) else (if 0 ≤ (rd x1176002 x8) then (if (rd x1176002 x8) < (x1190003.length : Int) then (if (rd x1190003 (rd x1176002 x8)) = 0 then (none) else (laws_FnShadeRoots.l0 k (wrap64 (x8 + 1)) x1176000 x1176001 x1176002 x1176003 x1190000 x1190001 x1190002 x1190003)) else (none)) else (none))) else (none)) else ((impl_ShadeRoots.f k x1190000 x1190001 x1190002 x1190003).bind fun bt1208 => ((impl_ColoredValid.f k x1190000 x1190001 x1190002 x1190003).bind fun t1222 => (if t1222 = true then (if bt1208.2.2.2.2 = true then ((impl_ColoredSame.f k bt1208.1 bt1208.2.1 bt1208.2.2.1 bt1208.2.2.2.1 x1190000 x1190001 x1190002 x1190003).bind fun t1223 => (if t1223 = true then ((impl_CountColor.f k x1190000 x1190001 x1190002 x1190003 2).bind fun t1224 => ((impl_CountColor.f k x1176000 x1176001 x1176002 x1176003 2).bind fun t1225 => (some (t1224 == t1225)))) else (none))) else (none)) else (none))))
end
def laws_FnShadeRoots.f (k : Nat) (l0 : List Int) : Option (Bool) := if (l0.length : Int) > 1048576 then (some true) else ((spec_DrawShadeRoots.f k l0).bind fun bt1163 => ((impl_ShadeRoots.f k bt1163.1 bt1163.2.1 bt1163.2.2.1 bt1163.2.2.2).bind fun bt1176 => ((spec_ShadeRoots.f k bt1163.1 bt1163.2.1 bt1163.2.2.1 bt1163.2.2.2).bind fun bt1190 => ((impl_ColoredSame.f k bt1176.1 bt1176.2.1 bt1176.2.2.1 bt1176.2.2.2.1 bt1190.1 bt1190.2.1 bt1190.2.2.1 bt1190.2.2.2.1).bind fun t1204 => (if t1204 = true then (if (bt1176.2.2.2.2 != bt1190.2.2.2.2) = true then (laws_FnShadeRoots.j0 k bt1176.2.2.2.2 bt1190.2.2.2.2 true bt1163.1 bt1163.2.1 bt1163.2.2.1 bt1163.2.2.2 bt1176.1 bt1176.2.1 bt1176.2.2.1 bt1176.2.2.2.1 bt1190.1 bt1190.2.1 bt1190.2.2.1 bt1190.2.2.2.1) else (laws_FnShadeRoots.j0 k bt1176.2.2.2.2 bt1190.2.2.2.2 (!bt1176.2.2.2.2) bt1163.1 bt1163.2.1 bt1163.2.2.1 bt1163.2.2.2 bt1176.1 bt1176.2.1 bt1176.2.2.1 bt1176.2.2.2.1 bt1190.1 bt1190.2.1 bt1190.2.2.1 bt1190.2.2.2.1)) else (laws_FnShadeRoots.j0 k bt1176.2.2.2.2 bt1190.2.2.2.2 true bt1163.1 bt1163.2.1 bt1163.2.2.1 bt1163.2.2.2 bt1176.1 bt1176.2.1 bt1176.2.2.1 bt1176.2.2.2.1 bt1190.1 bt1190.2.1 bt1190.2.2.1 bt1190.2.2.2.1))))))
theorem laws_FnShadeRoots.mono_l : ∀ k, (∀ y0 y1 y2 y3 y4 y5 y6 y7 y8 y9 y10 y11 y12 y13 y14, LeO (laws_FnShadeRoots.j0 k y0 y1 y2 y3 y4 y5 y6 y7 y8 y9 y10 y11 y12 y13 y14) (laws_FnShadeRoots.j0 (k + 1) y0 y1 y2 y3 y4 y5 y6 y7 y8 y9 y10 y11 y12 y13 y14)) ∧ (∀ y0 y1 y2 y3 y4 y5 y6 y7 y8, LeO (laws_FnShadeRoots.l0 k y0 y1 y2 y3 y4 y5 y6 y7 y8) (laws_FnShadeRoots.l0 (k + 1) y0 y1 y2 y3 y4 y5 y6 y7 y8))
 | 0 => ⟨fun _ _ _ _ _ _ _ _ _ _ _ _ _ _ _ r h => by simp [laws_FnShadeRoots.j0] at h, fun _ _ _ _ _ _ _ _ _ r h => by simp [laws_FnShadeRoots.l0] at h⟩
 | k + 1 => by
  obtain ⟨ih0, ih1⟩ := laws_FnShadeRoots.mono_l k
  refine ⟨?_, ?_⟩
  ·intro y0 y1 y2 y3 y4 y5 y6 y7 y8 y9 y10 y11 y12 y13 y14
   unfold laws_FnShadeRoots.j0
   repeat' first
   | (with_reducible exact ih0 _ _ _ _ _ _ _ _ _ _ _ _ _ _ _)
   | (with_reducible exact ih1 _ _ _ _ _ _ _ _ _)
   | (with_reducible exact impl_ColoredSame.mono _ _ _ _ _ _ _ _ _)
   | (with_reducible exact impl_ColoredValid.mono _ _ _ _ _)
   | (with_reducible exact impl_CountColor.mono _ _ _ _ _ _)
   | (with_reducible exact impl_ShadeRoots.mono _ _ _ _ _)
   | (with_reducible exact spec_DrawShadeRoots.mono _ _)
   | (with_reducible exact spec_ShadeRoots.mono _ _ _ _ _)
   | (with_reducible exact LeO.refl _)
   | (with_reducible exact LeO.none _)
   | (with_reducible refine LeO.ite ?_ ?_)
   | (with_reducible refine LeO.bind ?_ (fun _ => ?_))
   | exact ih0 _ _ _ _ _ _ _ _ _ _ _ _ _ _ _
   | exact ih1 _ _ _ _ _ _ _ _ _
   | exact impl_ColoredSame.mono _ _ _ _ _ _ _ _ _
   | exact impl_ColoredValid.mono _ _ _ _ _
   | exact impl_CountColor.mono _ _ _ _ _ _
   | exact impl_ShadeRoots.mono _ _ _ _ _
   | exact spec_DrawShadeRoots.mono _ _
   | exact spec_ShadeRoots.mono _ _ _ _ _
   | exact LeO.none _
   | refine LeO.ite ?_ ?_
   | refine LeO.bind ?_ (fun _ => ?_)
  ·intro y0 y1 y2 y3 y4 y5 y6 y7 y8
   unfold laws_FnShadeRoots.l0
   repeat' first
   | (with_reducible exact ih0 _ _ _ _ _ _ _ _ _ _ _ _ _ _ _)
   | (with_reducible exact ih1 _ _ _ _ _ _ _ _ _)
   | (with_reducible exact impl_ColoredSame.mono _ _ _ _ _ _ _ _ _)
   | (with_reducible exact impl_ColoredValid.mono _ _ _ _ _)
   | (with_reducible exact impl_CountColor.mono _ _ _ _ _ _)
   | (with_reducible exact impl_ShadeRoots.mono _ _ _ _ _)
   | (with_reducible exact spec_DrawShadeRoots.mono _ _)
   | (with_reducible exact spec_ShadeRoots.mono _ _ _ _ _)
   | (with_reducible exact LeO.refl _)
   | (with_reducible exact LeO.none _)
   | (with_reducible refine LeO.ite ?_ ?_)
   | (with_reducible refine LeO.bind ?_ (fun _ => ?_))
   | exact ih0 _ _ _ _ _ _ _ _ _ _ _ _ _ _ _
   | exact ih1 _ _ _ _ _ _ _ _ _
   | exact impl_ColoredSame.mono _ _ _ _ _ _ _ _ _
   | exact impl_ColoredValid.mono _ _ _ _ _
   | exact impl_CountColor.mono _ _ _ _ _ _
   | exact impl_ShadeRoots.mono _ _ _ _ _
   | exact spec_DrawShadeRoots.mono _ _
   | exact spec_ShadeRoots.mono _ _ _ _ _
   | exact LeO.none _
   | refine LeO.ite ?_ ?_
   | refine LeO.bind ?_ (fun _ => ?_)
theorem laws_FnShadeRoots.mono : ∀ a0 k, LeO (laws_FnShadeRoots.f k a0) (laws_FnShadeRoots.f (k + 1) a0) := by
 intro a0 k
 obtain ⟨ih0, ih1⟩ := laws_FnShadeRoots.mono_l k
 unfold laws_FnShadeRoots.f
 repeat' first
   | (with_reducible exact ih0 _ _ _ _ _ _ _ _ _ _ _ _ _ _ _)
   | (with_reducible exact ih1 _ _ _ _ _ _ _ _ _)
   | (with_reducible exact impl_ColoredSame.mono _ _ _ _ _ _ _ _ _)
   | (with_reducible exact impl_ColoredValid.mono _ _ _ _ _)
   | (with_reducible exact impl_CountColor.mono _ _ _ _ _ _)
   | (with_reducible exact impl_ShadeRoots.mono _ _ _ _ _)
   | (with_reducible exact spec_DrawShadeRoots.mono _ _)
   | (with_reducible exact spec_ShadeRoots.mono _ _ _ _ _)
   | (with_reducible exact LeO.refl _)
   | (with_reducible exact LeO.none _)
   | (with_reducible refine LeO.ite ?_ ?_)
   | (with_reducible refine LeO.bind ?_ (fun _ => ?_))
   | exact ih0 _ _ _ _ _ _ _ _ _ _ _ _ _ _ _
   | exact ih1 _ _ _ _ _ _ _ _ _
   | exact impl_ColoredSame.mono _ _ _ _ _ _ _ _ _
   | exact impl_ColoredValid.mono _ _ _ _ _
   | exact impl_CountColor.mono _ _ _ _ _ _
   | exact impl_ShadeRoots.mono _ _ _ _ _
   | exact spec_DrawShadeRoots.mono _ _
   | exact spec_ShadeRoots.mono _ _ _ _ _
   | exact LeO.none _
   | refine LeO.ite ?_ ?_
   | refine LeO.bind ?_ (fun _ => ?_)
def laws_FnShadeRoots.T15 : Bool × List (List Nat × List Nat) := (true, [([], []), ([0], [0]), ([1, 1], [1]), ([2], [2]), ([2, 3], [2, 3]), ([4, 2], [4]), ([5], [5]), ([5], [5]), ([6, 7, 5, 5], [5, 6, 7]), ([5, 8], [5, 8]), ([9, 8], [9]), ([10], [10]), ([11, 10, 10], [10, 11]), ([10], [10]), ([13, 12, 10], [10, 13]), ([12, 14, 10], [10, 12, 14]), ([10, 15], [10, 15]), ([16, 14, 0, 1, 2, 3, 4, 5, 6, 7, 8, 9, 10, 11, 12, 13, 14, 15, 16], [16])])
def laws_FnShadeRoots.B15 : List Nat := [0, 1, 3, 7, 15, 31, 63, 63, 255, 511, 1023, 2047, 4095, 2047, 16383, 32767, 65535, 131071]
theorem laws_FnShadeRoots.tab15 : rtab .any (opsOf Try.f10 15) = laws_FnShadeRoots.T15 := by kernel_rfl
theorem laws_FnShadeRoots.bits15 : waitsOk laws_FnShadeRoots.T15.2 laws_FnShadeRoots.B15 = true := by kernel_rfl
set_option maxHeartbeats 8000000 in
set_option maxRecDepth 100000 in
theorem laws_FnShadeRoots.calls (k : Nat) (A0 : Option Addr) (c0 : Nat) (l0 : List Int) (r : Bool) (w : World) (hr0 : Kd.C (Kd.int .u8) w A0 l0.length l0) (hc0 : l0.length ≤ c0) (h : laws_FnShadeRoots.f k l0 = some r) :
  Calls Try.prog 10 #[.slice A0 l0.length c0] w fun e w' => e = .returned (.bool r) ∧ Below w.heap.size w w' := by
 have hu30 := Try.underlying30
 have HR0 := am hr0
 have HC0 := am hc0
 clear hr0 hc0
 have HB := am (Below.refl w.heap.size w)
 have H : (if (l0.length : Int) > 1048576 then (some true) else ((spec_DrawShadeRoots.f k l0).bind fun bt1163 => ((impl_ShadeRoots.f k bt1163.1 bt1163.2.1 bt1163.2.2.1 bt1163.2.2.2).bind fun bt1176 => ((spec_ShadeRoots.f k bt1163.1 bt1163.2.1 bt1163.2.2.1 bt1163.2.2.2).bind fun bt1190 => ((impl_ColoredSame.f k bt1176.1 bt1176.2.1 bt1176.2.2.1 bt1176.2.2.2.1 bt1190.1 bt1190.2.1 bt1190.2.2.1 bt1190.2.2.2.1).bind fun t1204 => (if t1204 = true then (if (bt1176.2.2.2.2 != bt1190.2.2.2.2) = true then (laws_FnShadeRoots.j0 k bt1176.2.2.2.2 bt1190.2.2.2.2 true bt1163.1 bt1163.2.1 bt1163.2.2.1 bt1163.2.2.2 bt1176.1 bt1176.2.1 bt1176.2.2.1 bt1176.2.2.2.1 bt1190.1 bt1190.2.1 bt1190.2.2.1 bt1190.2.2.2.1) else (laws_FnShadeRoots.j0 k bt1176.2.2.2.2 bt1190.2.2.2.2 (!bt1176.2.2.2.2) bt1163.1 bt1163.2.1 bt1163.2.2.1 bt1163.2.2.2 bt1176.1 bt1176.2.1 bt1176.2.2.1 bt1176.2.2.2.1 bt1190.1 bt1190.2.1 bt1190.2.2.1 bt1190.2.2.2.1)) else (laws_FnShadeRoots.j0 k bt1176.2.2.2.2 bt1190.2.2.2.2 true bt1163.1 bt1163.2.1 bt1163.2.2.1 bt1163.2.2.2 bt1176.1 bt1176.2.1 bt1176.2.2.1 bt1176.2.2.2.1 bt1190.1 bt1190.2.1 bt1190.2.2.1 bt1190.2.2.2.1))))))) = some r := h
 clear h
 by_cases c2 : (l0.length : Int) > 1048576
 ·rw [if_pos c2] at H
  have c2b0 : decide (1048576 < (l0.length : Int)) = true := decide_eq_true c2
  have c2b1 : decide (1048576 < l0.length) = true := decide_eq_true (by omega)
  clear c2
  obtain rfl := Option.some.inj H
  go_enter Try.func10, Try.ntmps10
  go_wp2
  go_ret
  exact ⟨by first | rfl | (simp [errW_none, errW_some] <;> rfl) | (simp [*, errW_none, errW_some] <;> rfl), by exact bs0 HB.out⟩
 ·rw [if_neg c2] at H
  have c2b0 : decide (1048576 < (l0.length : Int)) = false := decide_eq_false c2
  have c2b1 : decide (1048576 < l0.length) = false := decide_eq_false (by omega)
  clear c2
  replace H := Option.bind_eq_some_iff.mp H
  obtain ⟨⟨t1163, t1166, t1169, t1172⟩, A30, H⟩ := H
  replace H : ((impl_ShadeRoots.f k t1163 t1166 t1169 t1172).bind fun bt1176 => ((spec_ShadeRoots.f k t1163 t1166 t1169 t1172).bind fun bt1190 => ((impl_ColoredSame.f k bt1176.1 bt1176.2.1 bt1176.2.2.1 bt1176.2.2.2.1 bt1190.1 bt1190.2.1 bt1190.2.2.1 bt1190.2.2.2.1).bind fun t1204 => (if t1204 = true then (if (bt1176.2.2.2.2 != bt1190.2.2.2.2) = true then (laws_FnShadeRoots.j0 k bt1176.2.2.2.2 bt1190.2.2.2.2 true t1163 t1166 t1169 t1172 bt1176.1 bt1176.2.1 bt1176.2.2.1 bt1176.2.2.2.1 bt1190.1 bt1190.2.1 bt1190.2.2.1 bt1190.2.2.2.1) else (laws_FnShadeRoots.j0 k bt1176.2.2.2.2 bt1190.2.2.2.2 (!bt1176.2.2.2.2) t1163 t1166 t1169 t1172 bt1176.1 bt1176.2.1 bt1176.2.2.1 bt1176.2.2.2.1 bt1190.1 bt1190.2.1 bt1190.2.2.1 bt1190.2.2.2.1)) else (laws_FnShadeRoots.j0 k bt1176.2.2.2.2 bt1190.2.2.2.2 true t1163 t1166 t1169 t1172 bt1176.1 bt1176.2.1 bt1176.2.2.1 bt1176.2.2.2.1 bt1190.1 bt1190.2.1 bt1190.2.2.1 bt1190.2.2.2.1))))) = some r := H
  have A3 := am A30
  clear A30
  replace H := Option.bind_eq_some_iff.mp H
  obtain ⟨⟨t1176, t1179, t1182, t1185, t1188⟩, A40, H⟩ := H
  replace H : ((spec_ShadeRoots.f k t1163 t1166 t1169 t1172).bind fun bt1190 => ((impl_ColoredSame.f k t1176 t1179 t1182 t1185 bt1190.1 bt1190.2.1 bt1190.2.2.1 bt1190.2.2.2.1).bind fun t1204 => (if t1204 = true then (if (t1188 != bt1190.2.2.2.2) = true then (laws_FnShadeRoots.j0 k t1188 bt1190.2.2.2.2 true t1163 t1166 t1169 t1172 t1176 t1179 t1182 t1185 bt1190.1 bt1190.2.1 bt1190.2.2.1 bt1190.2.2.2.1) else (laws_FnShadeRoots.j0 k t1188 bt1190.2.2.2.2 (!t1188) t1163 t1166 t1169 t1172 t1176 t1179 t1182 t1185 bt1190.1 bt1190.2.1 bt1190.2.2.1 bt1190.2.2.2.1)) else (laws_FnShadeRoots.j0 k t1188 bt1190.2.2.2.2 true t1163 t1166 t1169 t1172 t1176 t1179 t1182 t1185 bt1190.1 bt1190.2.1 bt1190.2.2.1 bt1190.2.2.2.1)))) = some r := H
  have A4 := am A40
  clear A40
  replace H := Option.bind_eq_some_iff.mp H
  obtain ⟨⟨t1190, t1193, t1196, t1199, t1202⟩, A50, H⟩ := H
  replace H : ((impl_ColoredSame.f k t1176 t1179 t1182 t1185 t1190 t1193 t1196 t1199).bind fun t1204 => (if t1204 = true then (if (t1188 != t1202) = true then (laws_FnShadeRoots.j0 k t1188 t1202 true t1163 t1166 t1169 t1172 t1176 t1179 t1182 t1185 t1190 t1193 t1196 t1199) else (laws_FnShadeRoots.j0 k t1188 t1202 (!t1188) t1163 t1166 t1169 t1172 t1176 t1179 t1182 t1185 t1190 t1193 t1196 t1199)) else (laws_FnShadeRoots.j0 k t1188 t1202 true t1163 t1166 t1169 t1172 t1176 t1179 t1182 t1185 t1190 t1193 t1196 t1199))) = some r := H
  have A5 := am A50
  clear A50
  have HC6 := am H
  clear H
  go_enter Try.func10, Try.ntmps10
  go_upto_region 6 with (first | ((with_reducible refine gate_callee (f := 39) rfl ?_); refine gL (some 16) rfl rfl Try.func39 (by kernel_rfl) rfl #[.slice A0 l0.length c0] rfl ?_; (with_reducible refine (spec_DrawShadeRoots.calls k _ _ l0 t1163 t1166 t1169 t1172 _ ?side1 ?side2 A3.out).mono ?_); (case side1 => exact cl (HR0.out)); (case side2 => exact HC0.out); rintro e w7 ⟨v1164, v1167, v1170, v1173, rfl, ho0, ho1, ho2, ho3, hb⟩; refine ⟨_, rfl, ?_⟩; have HO1165 := ln0 ho0 (bl HB.out); have HO1168 := ln0 ho1 (bl HB.out); have HO1171 := ln0 ho2 (bl HB.out); have HO1174 := ln0 ho3 (bl HB.out); replace HB := am (below_step (bl HB.out) hb); (try clear hb ho0 ho1 ho2 ho3)) | ((with_reducible refine gate_dst (N := 3) rfl ?_); refine box_event ?hg (N := 3) ?hd (cs := #[.slice none 0 0, .slice none 0 0, .slice none 0 0, .slice none 0 0]) (t := 30) ?hr ?_; (case hd => rfl); (case hg => rfl); (case hr => first | (go_simp; done) | (go_simp; rfl)); intro gb1175 hg w8 hbox hb; replace HO1165 := rb HO1165 hb; replace HO1168 := rb HO1168 hb; replace HO1171 := rb HO1171 hb; replace HO1174 := rb HO1174 hb; have BK1175 := am (hbox); have GW1175 := am ((by rw [hg]; exact (below_size (bl HB.out)) : w.heap.size ≤ gb1175)); have GE1175 := am ((by rw [hg]; exact (below_size (bl HB.out)) : w.heap.size ≤ gb1175)); replace HB := am (below_step (bl HB.out) hb); clear hb hbox hg; obtain ⟨Ao9, co9, eo9⟩ := Kd.R_slice HO1165.out; subst eo9; obtain ⟨hcz10_0, hcz10_1, hcz10_2, hcz10_3, hfz10_0, hfz10_1, hfz10_2, hfz10_3⟩ := cf4 BK1175; obtain ⟨Ao11, co11, eo11⟩ := Kd.R_slice HO1168.out; subst eo11; obtain ⟨Ao12, co12, eo12⟩ := Kd.R_slice HO1171.out; subst eo12; obtain ⟨Ao13, co13, eo13⟩ := Kd.R_slice HO1174.out; subst eo13) | ((with_reducible refine gate_callee (f := 25) rfl ?_); refine gL (some 19) rfl rfl Try.func25 (by kernel_rfl) rfl #[.agg #[.slice Ao9 t1163.length co9, .slice Ao11 t1166.length co11, .slice Ao12 t1169.length co12, .slice Ao13 t1172.length co13]] rfl ?_; (with_reducible refine (impl_ShadeRoots.calls k _ _ t1163 _ _ t1166 _ _ t1169 _ _ t1172 t1176 t1179 t1182 t1185 t1188 _ ?side1 ?side2 ?side3 ?side4 ?side5 ?side6 ?side7 ?side8 A4.out).mono ?_); (case side1 => exact sr (rg BK1175 HO1165)); (case side2 => exact sc HO1165); (case side3 => exact sr (rg BK1175 HO1168)); (case side4 => exact sc HO1168); (case side5 => exact sr (rg BK1175 HO1171)); (case side6 => exact sc HO1171); (case side7 => exact sr (rg BK1175 HO1174)); (case side8 => exact sc HO1174); rintro e w14 ⟨v1177, v1180, v1183, v1186, rfl, ho0, ho1, ho2, ho3, hb⟩; refine ⟨_, rfl, ?_⟩; have HO1178 := ln4 ho0 (rg BK1175 HO1165) (rg BK1175 HO1168) (rg BK1175 HO1171) (rg BK1175 HO1174) (bs1 GE1175.out HB.out); have HO1181 := ln4 ho1 (rg BK1175 HO1165) (rg BK1175 HO1168) (rg BK1175 HO1171) (rg BK1175 HO1174) (bs1 GE1175.out HB.out); have HO1184 := ln4 ho2 (rg BK1175 HO1165) (rg BK1175 HO1168) (rg BK1175 HO1171) (rg BK1175 HO1174) (bs1 GE1175.out HB.out); have HO1187 := ln4 ho3 (rg BK1175 HO1165) (rg BK1175 HO1168) (rg BK1175 HO1171) (rg BK1175 HO1174) (bs1 GE1175.out HB.out); replace HO1165 := td4 (rg BK1175 HO1165) hb ho0 ho1 ho2 ho3; replace HO1168 := td4 (rg BK1175 HO1168) hb ho0 ho1 ho2 ho3; replace HO1171 := td4 (rg BK1175 HO1171) hb ho0 ho1 ho2 ho3; replace HO1174 := td4 (rg BK1175 HO1174) hb ho0 ho1 ho2 ho3; replace BK1175 := bp4 (kf0 BK1175.out) hb; replace HB := am (below_step (bs1 GE1175.out HB.out) hb); (try clear hb ho0 ho1 ho2 ho3)) | ((with_reducible refine gate_dst (N := 4) rfl ?_); refine box_event ?hg (N := 4) ?hd (cs := #[.slice none 0 0, .slice none 0 0, .slice none 0 0, .slice none 0 0]) (t := 30) ?hr ?_; (case hd => rfl); (case hg => rfl); (case hr => first | (go_simp; done) | (go_simp; rfl)); intro gb1189 hg w15 hbox hb; replace HO1165 := rb HO1165 hb; replace HO1168 := rb HO1168 hb; replace HO1171 := rb HO1171 hb; replace HO1174 := rb HO1174 hb; replace HO1178 := rb HO1178 hb; replace HO1181 := rb HO1181 hb; replace HO1184 := rb HO1184 hb; replace HO1187 := rb HO1187 hb; have BK1189 := am (hbox); have GW1189 := am ((by rw [hg]; exact (below_size (bs1 GE1175.out HB.out)) : w.heap.size ≤ gb1189)); have GE1189 := am ((by rw [hg]; exact (below_size (bs1 GE1175.out HB.out)) : w.heap.size ≤ gb1189)); replace HB := am (below_step (bs1 GE1175.out HB.out) hb); have NB1175_1189 := nb BK1175 hg; have NB1189_1175 := nc BK1175 hg; replace BK1175 := bb BK1175 hb; clear hb hbox hg; obtain ⟨Ao16, co16, eo16⟩ := Kd.R_slice HO1178.out; subst eo16; have hnb17 := NB1189_1175.out; have hnc17 := NB1175_1189.out; obtain ⟨hcz18_0, hcz18_1, hcz18_2, hcz18_3, hfz18_0, hfz18_1, hfz18_2, hfz18_3⟩ := cf4 BK1189; obtain ⟨Ao19, co19, eo19⟩ := Kd.R_slice HO1181.out; subst eo19; obtain ⟨Ao20, co20, eo20⟩ := Kd.R_slice HO1184.out; subst eo20; obtain ⟨Ao21, co21, eo21⟩ := Kd.R_slice HO1187.out; subst eo21; obtain ⟨hcz22_0, hcz22_1, hcz22_2, hcz22_3, hfz22_0, hfz22_1, hfz22_2, hfz22_3⟩ := cf4 BK1175) | ((with_reducible refine gate_callee (f := 24) rfl ?_); refine gL (some 24) rfl rfl Try.func24 (by kernel_rfl) rfl #[.agg #[.slice Ao9 t1163.length co9, .slice Ao11 t1166.length co11, .slice Ao12 t1169.length co12, .slice Ao13 t1172.length co13]] rfl ?_; (with_reducible refine (spec_ShadeRoots.calls k _ _ t1163 _ _ t1166 _ _ t1169 _ _ t1172 t1190 t1193 t1196 t1199 t1202 _ ?side1 ?side2 ?side3 ?side4 ?side5 ?side6 ?side7 ?side8 A5.out).mono ?_); (case side1 => exact sr (rg BK1189 HO1165)); (case side2 => exact sc HO1165); (case side3 => exact sr (rg BK1189 HO1168)); (case side4 => exact sc HO1168); (case side5 => exact sr (rg BK1189 HO1171)); (case side6 => exact sc HO1171); (case side7 => exact sr (rg BK1189 HO1174)); (case side8 => exact sc HO1174); rintro e w23 ⟨v1191, v1194, v1197, v1200, rfl, ho0, ho1, ho2, ho3, hb⟩; refine ⟨_, rfl, ?_⟩; have HO1192 := ln8 ho0 (rg BK1189 HO1165) (rg BK1189 HO1168) (rg BK1189 HO1171) (rg BK1189 HO1174) (rg BK1189 HO1178) (rg BK1189 HO1181) (rg BK1189 HO1184) (rg BK1189 HO1187) (bs2 GE1175.out GE1189.out HB.out); have HO1195 := ln8 ho1 (rg BK1189 HO1165) (rg BK1189 HO1168) (rg BK1189 HO1171) (rg BK1189 HO1174) (rg BK1189 HO1178) (rg BK1189 HO1181) (rg BK1189 HO1184) (rg BK1189 HO1187) (bs2 GE1175.out GE1189.out HB.out); have HO1198 := ln8 ho2 (rg BK1189 HO1165) (rg BK1189 HO1168) (rg BK1189 HO1171) (rg BK1189 HO1174) (rg BK1189 HO1178) (rg BK1189 HO1181) (rg BK1189 HO1184) (rg BK1189 HO1187) (bs2 GE1175.out GE1189.out HB.out); have HO1201 := ln8 ho3 (rg BK1189 HO1165) (rg BK1189 HO1168) (rg BK1189 HO1171) (rg BK1189 HO1174) (rg BK1189 HO1178) (rg BK1189 HO1181) (rg BK1189 HO1184) (rg BK1189 HO1187) (bs2 GE1175.out GE1189.out HB.out); replace HO1165 := td4 (rg BK1189 HO1165) hb ho0 ho1 ho2 ho3; replace HO1168 := td4 (rg BK1189 HO1168) hb ho0 ho1 ho2 ho3; replace HO1171 := td4 (rg BK1189 HO1171) hb ho0 ho1 ho2 ho3; replace HO1174 := td4 (rg BK1189 HO1174) hb ho0 ho1 ho2 ho3; replace HO1178 := td4 (rg BK1189 HO1178) hb ho0 ho1 ho2 ho3; replace HO1181 := td4 (rg BK1189 HO1181) hb ho0 ho1 ho2 ho3; replace HO1184 := td4 (rg BK1189 HO1184) hb ho0 ho1 ho2 ho3; replace HO1187 := td4 (rg BK1189 HO1187) hb ho0 ho1 ho2 ho3; replace BK1175 := am (blk_below (g := gb1175) (o := .cells #[.slice Ao9 t1163.length co9, .slice Ao11 t1166.length co11, .slice Ao12 t1169.length co12, .slice Ao13 t1172.length co13] 30 (0, 0)) (kf1 NB1175_1189.out BK1175.out) hb); replace BK1189 := bp4 (kf0 BK1189.out) hb; replace HB := am (below_step (bs2 GE1175.out GE1189.out HB.out) hb); (try clear hb ho0 ho1 ho2 ho3)) | ((with_reducible refine gate_dst (N := 6) rfl ?_); refine box_event ?hg (N := 6) ?hd (cs := #[.slice none 0 0, .slice none 0 0, .slice none 0 0, .slice none 0 0]) (t := 30) ?hr ?_; (case hd => rfl); (case hg => rfl); (case hr => first | (go_simp; done) | (go_simp; rfl)); intro gb1203 hg w24 hbox hb; replace HO1165 := rb HO1165 hb; replace HO1168 := rb HO1168 hb; replace HO1171 := rb HO1171 hb; replace HO1174 := rb HO1174 hb; replace HO1178 := rb HO1178 hb; replace HO1181 := rb HO1181 hb; replace HO1184 := rb HO1184 hb; replace HO1187 := rb HO1187 hb; replace HO1192 := rb HO1192 hb; replace HO1195 := rb HO1195 hb; replace HO1198 := rb HO1198 hb; replace HO1201 := rb HO1201 hb; have BK1203 := am (hbox); have GW1203 := am ((by rw [hg]; exact (below_size (bs2 GE1175.out GE1189.out HB.out)) : w.heap.size ≤ gb1203)); have GE1203 := am ((by rw [hg]; exact (below_size (bs2 GE1175.out GE1189.out HB.out)) : w.heap.size ≤ gb1203)); replace HB := am (below_step (bs2 GE1175.out GE1189.out HB.out) hb); have NB1175_1203 := nb BK1175 hg; have NB1203_1175 := nc BK1175 hg; replace BK1175 := bb BK1175 hb; have NB1189_1203 := nb BK1189 hg; have NB1203_1189 := nc BK1189 hg; replace BK1189 := bb BK1189 hb; clear hb hbox hg; obtain ⟨Ao25, co25, eo25⟩ := Kd.R_slice HO1192.out; subst eo25; have hnb26 := NB1203_1175.out; have hnc26 := NB1175_1203.out; have hnb27 := NB1203_1189.out; have hnc27 := NB1189_1203.out; obtain ⟨hcz28_0, hcz28_1, hcz28_2, hcz28_3, hfz28_0, hfz28_1, hfz28_2, hfz28_3⟩ := cf4 BK1203; obtain ⟨Ao29, co29, eo29⟩ := Kd.R_slice HO1195.out; subst eo29; obtain ⟨Ao30, co30, eo30⟩ := Kd.R_slice HO1198.out; subst eo30; obtain ⟨Ao31, co31, eo31⟩ := Kd.R_slice HO1201.out; subst eo31))
  (try simp only [Act.put, List.setIfInBounds_toArray, List.set_cons_zero, List.set_cons_succ])
  go_cut [39] (fun v39 wc => ∃ (kq : Nat) (x39_5 : Bool), v39 = .bool x39_5 ∧ Aside0 (laws_FnShadeRoots.j0 kq t1188 t1202 x39_5 t1163 t1166 t1169 t1172 t1176 t1179 t1182 t1185 t1190 t1193 t1196 t1199 = some r) ∧ Aside0 (kq ≤ k) ∧ Aside0 (Kd.R (Kd.int .i64) 3 wc w.heap.size (fun k_ => some k_ ≠ ((.slice Ao11 t1166.length co11) : Value).ownBlock ∧ some k_ ≠ ((.slice Ao12 t1169.length co12) : Value).ownBlock ∧ some k_ ≠ ((.slice Ao13 t1172.length co13) : Value).ownBlock ∧ some k_ ≠ ((.slice Ao16 t1176.length co16) : Value).ownBlock ∧ some k_ ≠ ((.slice Ao19 t1179.length co19) : Value).ownBlock ∧ some k_ ≠ ((.slice Ao20 t1182.length co20) : Value).ownBlock ∧ some k_ ≠ ((.slice Ao21 t1185.length co21) : Value).ownBlock ∧ some k_ ≠ ((.slice Ao25 t1190.length co25) : Value).ownBlock ∧ some k_ ≠ ((.slice Ao29 t1193.length co29) : Value).ownBlock ∧ some k_ ≠ ((.slice Ao30 t1196.length co30) : Value).ownBlock ∧ some k_ ≠ ((.slice Ao31 t1199.length co31) : Value).ownBlock) (.slice Ao9 t1163.length co9) t1163) ∧ Aside0 (Kd.R (Kd.int .i64) 3 wc w.heap.size (fun k_ => some k_ ≠ ((.slice Ao9 t1163.length co9) : Value).ownBlock ∧ some k_ ≠ ((.slice Ao12 t1169.length co12) : Value).ownBlock ∧ some k_ ≠ ((.slice Ao13 t1172.length co13) : Value).ownBlock ∧ some k_ ≠ ((.slice Ao16 t1176.length co16) : Value).ownBlock ∧ some k_ ≠ ((.slice Ao19 t1179.length co19) : Value).ownBlock ∧ some k_ ≠ ((.slice Ao20 t1182.length co20) : Value).ownBlock ∧ some k_ ≠ ((.slice Ao21 t1185.length co21) : Value).ownBlock ∧ some k_ ≠ ((.slice Ao25 t1190.length co25) : Value).ownBlock ∧ some k_ ≠ ((.slice Ao29 t1193.length co29) : Value).ownBlock ∧ some k_ ≠ ((.slice Ao30 t1196.length co30) : Value).ownBlock ∧ some k_ ≠ ((.slice Ao31 t1199.length co31) : Value).ownBlock) (.slice Ao11 t1166.length co11) t1166) ∧ Aside0 (Kd.R (Kd.int .i64) 3 wc w.heap.size (fun k_ => some k_ ≠ ((.slice Ao9 t1163.length co9) : Value).ownBlock ∧ some k_ ≠ ((.slice Ao11 t1166.length co11) : Value).ownBlock ∧ some k_ ≠ ((.slice Ao13 t1172.length co13) : Value).ownBlock ∧ some k_ ≠ ((.slice Ao16 t1176.length co16) : Value).ownBlock ∧ some k_ ≠ ((.slice Ao19 t1179.length co19) : Value).ownBlock ∧ some k_ ≠ ((.slice Ao20 t1182.length co20) : Value).ownBlock ∧ some k_ ≠ ((.slice Ao21 t1185.length co21) : Value).ownBlock ∧ some k_ ≠ ((.slice Ao25 t1190.length co25) : Value).ownBlock ∧ some k_ ≠ ((.slice Ao29 t1193.length co29) : Value).ownBlock ∧ some k_ ≠ ((.slice Ao30 t1196.length co30) : Value).ownBlock ∧ some k_ ≠ ((.slice Ao31 t1199.length co31) : Value).ownBlock) (.slice Ao12 t1169.length co12) t1169) ∧ Aside0 (Kd.R (Kd.int .i64) 3 wc w.heap.size (fun k_ => some k_ ≠ ((.slice Ao9 t1163.length co9) : Value).ownBlock ∧ some k_ ≠ ((.slice Ao11 t1166.length co11) : Value).ownBlock ∧ some k_ ≠ ((.slice Ao12 t1169.length co12) : Value).ownBlock ∧ some k_ ≠ ((.slice Ao16 t1176.length co16) : Value).ownBlock ∧ some k_ ≠ ((.slice Ao19 t1179.length co19) : Value).ownBlock ∧ some k_ ≠ ((.slice Ao20 t1182.length co20) : Value).ownBlock ∧ some k_ ≠ ((.slice Ao21 t1185.length co21) : Value).ownBlock ∧ some k_ ≠ ((.slice Ao25 t1190.length co25) : Value).ownBlock ∧ some k_ ≠ ((.slice Ao29 t1193.length co29) : Value).ownBlock ∧ some k_ ≠ ((.slice Ao30 t1196.length co30) : Value).ownBlock ∧ some k_ ≠ ((.slice Ao31 t1199.length co31) : Value).ownBlock) (.slice Ao13 t1172.length co13) t1172) ∧ Aside0 (Kd.R (Kd.int .i64) 3 wc w.heap.size (fun k_ => some k_ ≠ ((.slice Ao9 t1163.length co9) : Value).ownBlock ∧ some k_ ≠ ((.slice Ao11 t1166.length co11) : Value).ownBlock ∧ some k_ ≠ ((.slice Ao12 t1169.length co12) : Value).ownBlock ∧ some k_ ≠ ((.slice Ao13 t1172.length co13) : Value).ownBlock ∧ some k_ ≠ ((.slice Ao19 t1179.length co19) : Value).ownBlock ∧ some k_ ≠ ((.slice Ao20 t1182.length co20) : Value).ownBlock ∧ some k_ ≠ ((.slice Ao21 t1185.length co21) : Value).ownBlock ∧ some k_ ≠ ((.slice Ao25 t1190.length co25) : Value).ownBlock ∧ some k_ ≠ ((.slice Ao29 t1193.length co29) : Value).ownBlock ∧ some k_ ≠ ((.slice Ao30 t1196.length co30) : Value).ownBlock ∧ some k_ ≠ ((.slice Ao31 t1199.length co31) : Value).ownBlock) (.slice Ao16 t1176.length co16) t1176) ∧ Aside0 (Kd.R (Kd.int .i64) 3 wc w.heap.size (fun k_ => some k_ ≠ ((.slice Ao9 t1163.length co9) : Value).ownBlock ∧ some k_ ≠ ((.slice Ao11 t1166.length co11) : Value).ownBlock ∧ some k_ ≠ ((.slice Ao12 t1169.length co12) : Value).ownBlock ∧ some k_ ≠ ((.slice Ao13 t1172.length co13) : Value).ownBlock ∧ some k_ ≠ ((.slice Ao16 t1176.length co16) : Value).ownBlock ∧ some k_ ≠ ((.slice Ao20 t1182.length co20) : Value).ownBlock ∧ some k_ ≠ ((.slice Ao21 t1185.length co21) : Value).ownBlock ∧ some k_ ≠ ((.slice Ao25 t1190.length co25) : Value).ownBlock ∧ some k_ ≠ ((.slice Ao29 t1193.length co29) : Value).ownBlock ∧ some k_ ≠ ((.slice Ao30 t1196.length co30) : Value).ownBlock ∧ some k_ ≠ ((.slice Ao31 t1199.length co31) : Value).ownBlock) (.slice Ao19 t1179.length co19) t1179) ∧ Aside0 (Kd.R (Kd.int .i64) 3 wc w.heap.size (fun k_ => some k_ ≠ ((.slice Ao9 t1163.length co9) : Value).ownBlock ∧ some k_ ≠ ((.slice Ao11 t1166.length co11) : Value).ownBlock ∧ some k_ ≠ ((.slice Ao12 t1169.length co12) : Value).ownBlock ∧ some k_ ≠ ((.slice Ao13 t1172.length co13) : Value).ownBlock ∧ some k_ ≠ ((.slice Ao16 t1176.length co16) : Value).ownBlock ∧ some k_ ≠ ((.slice Ao19 t1179.length co19) : Value).ownBlock ∧ some k_ ≠ ((.slice Ao21 t1185.length co21) : Value).ownBlock ∧ some k_ ≠ ((.slice Ao25 t1190.length co25) : Value).ownBlock ∧ some k_ ≠ ((.slice Ao29 t1193.length co29) : Value).ownBlock ∧ some k_ ≠ ((.slice Ao30 t1196.length co30) : Value).ownBlock ∧ some k_ ≠ ((.slice Ao31 t1199.length co31) : Value).ownBlock) (.slice Ao20 t1182.length co20) t1182) ∧ Aside0 (Kd.R (Kd.int .i64) 3 wc w.heap.size (fun k_ => some k_ ≠ ((.slice Ao9 t1163.length co9) : Value).ownBlock ∧ some k_ ≠ ((.slice Ao11 t1166.length co11) : Value).ownBlock ∧ some k_ ≠ ((.slice Ao12 t1169.length co12) : Value).ownBlock ∧ some k_ ≠ ((.slice Ao13 t1172.length co13) : Value).ownBlock ∧ some k_ ≠ ((.slice Ao16 t1176.length co16) : Value).ownBlock ∧ some k_ ≠ ((.slice Ao19 t1179.length co19) : Value).ownBlock ∧ some k_ ≠ ((.slice Ao20 t1182.length co20) : Value).ownBlock ∧ some k_ ≠ ((.slice Ao25 t1190.length co25) : Value).ownBlock ∧ some k_ ≠ ((.slice Ao29 t1193.length co29) : Value).ownBlock ∧ some k_ ≠ ((.slice Ao30 t1196.length co30) : Value).ownBlock ∧ some k_ ≠ ((.slice Ao31 t1199.length co31) : Value).ownBlock) (.slice Ao21 t1185.length co21) t1185) ∧ Aside0 (Kd.R (Kd.int .i64) 3 wc w.heap.size (fun k_ => some k_ ≠ ((.slice Ao9 t1163.length co9) : Value).ownBlock ∧ some k_ ≠ ((.slice Ao11 t1166.length co11) : Value).ownBlock ∧ some k_ ≠ ((.slice Ao12 t1169.length co12) : Value).ownBlock ∧ some k_ ≠ ((.slice Ao13 t1172.length co13) : Value).ownBlock ∧ some k_ ≠ ((.slice Ao16 t1176.length co16) : Value).ownBlock ∧ some k_ ≠ ((.slice Ao19 t1179.length co19) : Value).ownBlock ∧ some k_ ≠ ((.slice Ao20 t1182.length co20) : Value).ownBlock ∧ some k_ ≠ ((.slice Ao21 t1185.length co21) : Value).ownBlock ∧ some k_ ≠ ((.slice Ao29 t1193.length co29) : Value).ownBlock ∧ some k_ ≠ ((.slice Ao30 t1196.length co30) : Value).ownBlock ∧ some k_ ≠ ((.slice Ao31 t1199.length co31) : Value).ownBlock) (.slice Ao25 t1190.length co25) t1190) ∧ Aside0 (Kd.R (Kd.int .i64) 3 wc w.heap.size (fun k_ => some k_ ≠ ((.slice Ao9 t1163.length co9) : Value).ownBlock ∧ some k_ ≠ ((.slice Ao11 t1166.length co11) : Value).ownBlock ∧ some k_ ≠ ((.slice Ao12 t1169.length co12) : Value).ownBlock ∧ some k_ ≠ ((.slice Ao13 t1172.length co13) : Value).ownBlock ∧ some k_ ≠ ((.slice Ao16 t1176.length co16) : Value).ownBlock ∧ some k_ ≠ ((.slice Ao19 t1179.length co19) : Value).ownBlock ∧ some k_ ≠ ((.slice Ao20 t1182.length co20) : Value).ownBlock ∧ some k_ ≠ ((.slice Ao21 t1185.length co21) : Value).ownBlock ∧ some k_ ≠ ((.slice Ao25 t1190.length co25) : Value).ownBlock ∧ some k_ ≠ ((.slice Ao30 t1196.length co30) : Value).ownBlock ∧ some k_ ≠ ((.slice Ao31 t1199.length co31) : Value).ownBlock) (.slice Ao29 t1193.length co29) t1193) ∧ Aside0 (Kd.R (Kd.int .i64) 3 wc w.heap.size (fun k_ => some k_ ≠ ((.slice Ao9 t1163.length co9) : Value).ownBlock ∧ some k_ ≠ ((.slice Ao11 t1166.length co11) : Value).ownBlock ∧ some k_ ≠ ((.slice Ao12 t1169.length co12) : Value).ownBlock ∧ some k_ ≠ ((.slice Ao13 t1172.length co13) : Value).ownBlock ∧ some k_ ≠ ((.slice Ao16 t1176.length co16) : Value).ownBlock ∧ some k_ ≠ ((.slice Ao19 t1179.length co19) : Value).ownBlock ∧ some k_ ≠ ((.slice Ao20 t1182.length co20) : Value).ownBlock ∧ some k_ ≠ ((.slice Ao21 t1185.length co21) : Value).ownBlock ∧ some k_ ≠ ((.slice Ao25 t1190.length co25) : Value).ownBlock ∧ some k_ ≠ ((.slice Ao29 t1193.length co29) : Value).ownBlock ∧ some k_ ≠ ((.slice Ao31 t1199.length co31) : Value).ownBlock) (.slice Ao30 t1196.length co30) t1196) ∧ Aside0 (Kd.R (Kd.int .i64) 3 wc w.heap.size (fun k_ => some k_ ≠ ((.slice Ao9 t1163.length co9) : Value).ownBlock ∧ some k_ ≠ ((.slice Ao11 t1166.length co11) : Value).ownBlock ∧ some k_ ≠ ((.slice Ao12 t1169.length co12) : Value).ownBlock ∧ some k_ ≠ ((.slice Ao13 t1172.length co13) : Value).ownBlock ∧ some k_ ≠ ((.slice Ao16 t1176.length co16) : Value).ownBlock ∧ some k_ ≠ ((.slice Ao19 t1179.length co19) : Value).ownBlock ∧ some k_ ≠ ((.slice Ao20 t1182.length co20) : Value).ownBlock ∧ some k_ ≠ ((.slice Ao21 t1185.length co21) : Value).ownBlock ∧ some k_ ≠ ((.slice Ao25 t1190.length co25) : Value).ownBlock ∧ some k_ ≠ ((.slice Ao29 t1193.length co29) : Value).ownBlock ∧ some k_ ≠ ((.slice Ao30 t1196.length co30) : Value).ownBlock) (.slice Ao31 t1199.length co31) t1199) ∧ Aside0 (wc.heap[gb1175]? = some (.cells #[(.slice Ao9 t1163.length co9), (.slice Ao11 t1166.length co11), (.slice Ao12 t1169.length co12), (.slice Ao13 t1172.length co13)] 30 (0, 0))) ∧ Aside0 (wc.heap[gb1189]? = some (.cells #[(.slice Ao16 t1176.length co16), (.slice Ao19 t1179.length co19), (.slice Ao20 t1182.length co20), (.slice Ao21 t1185.length co21)] 30 (0, 0))) ∧ Aside0 (wc.heap[gb1203]? = some (.cells #[(.slice Ao25 t1190.length co25), (.slice Ao29 t1193.length co29), (.slice Ao30 t1196.length co30), (.slice Ao31 t1199.length co31)] 30 (0, 0))) ∧ Aside0 (Below w.heap.size w wc))
  case first =>
   have H := HC6.out
   clear HC6
   replace H := Option.bind_eq_some_iff.mp H
   obtain ⟨t1204, A320, H⟩ := H
   replace H : (if t1204 = true then (if (t1188 != t1202) = true then (laws_FnShadeRoots.j0 k t1188 t1202 true t1163 t1166 t1169 t1172 t1176 t1179 t1182 t1185 t1190 t1193 t1196 t1199) else (laws_FnShadeRoots.j0 k t1188 t1202 (!t1188) t1163 t1166 t1169 t1172 t1176 t1179 t1182 t1185 t1190 t1193 t1196 t1199)) else (laws_FnShadeRoots.j0 k t1188 t1202 true t1163 t1166 t1169 t1172 t1176 t1179 t1182 t1185 t1190 t1193 t1196 t1199)) = some r := H
   have A32 := am A320
   clear A320
   by_cases c33 : t1204 = true
   ·subst c33
    have H1 : (if (t1188 != t1202) = true then (laws_FnShadeRoots.j0 k t1188 t1202 true t1163 t1166 t1169 t1172 t1176 t1179 t1182 t1185 t1190 t1193 t1196 t1199) else (laws_FnShadeRoots.j0 k t1188 t1202 (!t1188) t1163 t1166 t1169 t1172 t1176 t1179 t1182 t1185 t1190 t1193 t1196 t1199)) = some r := by rw [if_pos rfl] at H; exact H
    clear H
    have H := H1
    clear H1
    by_cases c34 : (t1188 != t1202) = true
    ·rw [if_pos c34] at H
     have c34b0 : (t1188 != t1202) = true := c34
     (try (have c34b1 : decide (t1188 = t1202) = false := by simpa using c34))
     (try (have c34b2 : (t1188 == t1202) = false := by simpa using c34))
     (try (have c34b3 : ¬ (t1188 = t1202) := by simpa using c34))
     clear c34
     (first | rw [c34b0] | (simp only [i64_w, i32_w]; rw [c34b0]) | skip)
     have H' := am H
     clear H
     have hnb35 := NB1189_1175.out
     have hnc35 := NB1175_1189.out
     have hnb36 := NB1189_1203.out
     have hnc36 := NB1203_1189.out
     obtain ⟨hcz37_0, hcz37_1, hcz37_2, hcz37_3, hfz37_0, hfz37_1, hfz37_2, hfz37_3⟩ := cf4 BK1189
     have hnb38 := NB1203_1175.out
     have hnc38 := NB1175_1203.out
     obtain ⟨hcz39_0, hcz39_1, hcz39_2, hcz39_3, hfz39_0, hfz39_1, hfz39_2, hfz39_3⟩ := cf4 BK1203
     go_wp2_with (first | ((with_reducible refine gate_callee (f := 34) rfl ?_); refine gL (some 29) rfl rfl Try.func34 (by kernel_rfl) rfl #[.agg #[.slice Ao16 t1176.length co16, .slice Ao19 t1179.length co19, .slice Ao20 t1182.length co20, .slice Ao21 t1185.length co21], .agg #[.slice Ao25 t1190.length co25, .slice Ao29 t1193.length co29, .slice Ao30 t1196.length co30, .slice Ao31 t1199.length co31]] rfl ?_; (with_reducible refine (impl_ColoredSame.calls k _ _ t1176 _ _ t1179 _ _ t1182 _ _ t1185 _ _ t1190 _ _ t1193 _ _ t1196 _ _ t1199 true _ ?side1 ?side2 ?side3 ?side4 ?side5 ?side6 ?side7 ?side8 ?side9 ?side10 ?side11 ?side12 ?side13 ?side14 ?side15 ?side16 A32.out).mono ?_); (case side1 => exact sr (rg BK1203 HO1178)); (case side2 => exact sc HO1178); (case side3 => exact sr (rg BK1203 HO1181)); (case side4 => exact sc HO1181); (case side5 => exact sr (rg BK1203 HO1184)); (case side6 => exact sc HO1184); (case side7 => exact sr (rg BK1203 HO1187)); (case side8 => exact sc HO1187); (case side9 => exact sr (rg BK1203 HO1192)); (case side10 => exact sc HO1192); (case side11 => exact sr (rg BK1203 HO1195)); (case side12 => exact sc HO1195); (case side13 => exact sr (rg BK1203 HO1198)); (case side14 => exact sc HO1198); (case side15 => exact sr (rg BK1203 HO1201)); (case side16 => exact sc HO1201); rintro e w40 ⟨rfl, hb⟩; refine ⟨_, rfl, ?_⟩; replace HO1165 := am (Kd.R_below (rg BK1203 HO1165) hb); replace HO1168 := am (Kd.R_below (rg BK1203 HO1168) hb); replace HO1171 := am (Kd.R_below (rg BK1203 HO1171) hb); replace HO1174 := am (Kd.R_below (rg BK1203 HO1174) hb); replace HO1178 := am (Kd.R_below (rg BK1203 HO1178) hb); replace HO1181 := am (Kd.R_below (rg BK1203 HO1181) hb); replace HO1184 := am (Kd.R_below (rg BK1203 HO1184) hb); replace HO1187 := am (Kd.R_below (rg BK1203 HO1187) hb); replace HO1192 := am (Kd.R_below (rg BK1203 HO1192) hb); replace HO1195 := am (Kd.R_below (rg BK1203 HO1195) hb); replace HO1198 := am (Kd.R_below (rg BK1203 HO1198) hb); replace HO1201 := am (Kd.R_below (rg BK1203 HO1201) hb); replace BK1175 := am (blk_below (g := gb1175) (o := .cells #[.slice Ao9 t1163.length co9, .slice Ao11 t1166.length co11, .slice Ao12 t1169.length co12, .slice Ao13 t1172.length co13] 30 (0, 0)) (kf1 NB1175_1203.out BK1175.out) hb); replace BK1189 := am (blk_below (g := gb1189) (o := .cells #[.slice Ao16 t1176.length co16, .slice Ao19 t1179.length co19, .slice Ao20 t1182.length co20, .slice Ao21 t1185.length co21] 30 (0, 0)) (kf1 NB1189_1203.out BK1189.out) hb); replace BK1203 := bp4 (kf0 BK1203.out) hb; replace HB := am (below_step (bs3 GE1175.out GE1189.out GE1203.out HB.out) hb); (try clear hb)))
     go_meet
     case rel => exact ⟨_, (true), (by first | rfl | (simp; done) | (simp [*]; done)), H', ⟨by first | omega | exact Nat.le_refl _⟩, ⟨rl (Kd.R_mono HO1165.out (fun _ hk => by simp only [ne_eq] at hk ⊢; simp only [hk, not_false_eq_true, and_self]))⟩, ⟨rl (Kd.R_mono HO1168.out (fun _ hk => by simp only [ne_eq] at hk ⊢; simp only [hk, not_false_eq_true, and_self]))⟩, ⟨rl (Kd.R_mono HO1171.out (fun _ hk => by simp only [ne_eq] at hk ⊢; simp only [hk, not_false_eq_true, and_self]))⟩, ⟨rl (Kd.R_mono HO1174.out (fun _ hk => by simp only [ne_eq] at hk ⊢; simp only [hk, not_false_eq_true, and_self]))⟩, ⟨rl (Kd.R_mono HO1178.out (fun _ hk => by simp only [ne_eq] at hk ⊢; simp only [hk, not_false_eq_true, and_self]))⟩, ⟨rl (Kd.R_mono HO1181.out (fun _ hk => by simp only [ne_eq] at hk ⊢; simp only [hk, not_false_eq_true, and_self]))⟩, ⟨rl (Kd.R_mono HO1184.out (fun _ hk => by simp only [ne_eq] at hk ⊢; simp only [hk, not_false_eq_true, and_self]))⟩, ⟨rl (Kd.R_mono HO1187.out (fun _ hk => by simp only [ne_eq] at hk ⊢; simp only [hk, not_false_eq_true, and_self]))⟩, ⟨rl (Kd.R_mono HO1192.out (fun _ hk => by simp only [ne_eq] at hk ⊢; simp only [hk, not_false_eq_true, and_self]))⟩, ⟨rl (Kd.R_mono HO1195.out (fun _ hk => by simp only [ne_eq] at hk ⊢; simp only [hk, not_false_eq_true, and_self]))⟩, ⟨rl (Kd.R_mono HO1198.out (fun _ hk => by simp only [ne_eq] at hk ⊢; simp only [hk, not_false_eq_true, and_self]))⟩, ⟨rl (Kd.R_mono HO1201.out (fun _ hk => by simp only [ne_eq] at hk ⊢; simp only [hk, not_false_eq_true, and_self]))⟩, ⟨kl BK1175.out⟩, ⟨kl BK1189.out⟩, ⟨kl BK1203.out⟩, ⟨by exact bs3 GE1175.out GE1189.out GE1203.out HB.out⟩⟩
    ·rw [if_neg c34] at H
     have c34b0 : (t1188 != t1202) = false := by simpa using c34
     (try (have c34b1 : decide (t1188 = t1202) = true := by simpa using c34))
     (try (have c34b2 : (t1188 == t1202) = true := by simpa using c34))
     clear c34
     (first | rw [c34b0] | (simp only [i64_w, i32_w]; rw [c34b0]) | skip)
     have H' := am H
     clear H
     have hnb41 := NB1189_1175.out
     have hnc41 := NB1175_1189.out
     have hnb42 := NB1189_1203.out
     have hnc42 := NB1203_1189.out
     obtain ⟨hcz43_0, hcz43_1, hcz43_2, hcz43_3, hfz43_0, hfz43_1, hfz43_2, hfz43_3⟩ := cf4 BK1189
     have hnb44 := NB1203_1175.out
     have hnc44 := NB1175_1203.out
     obtain ⟨hcz45_0, hcz45_1, hcz45_2, hcz45_3, hfz45_0, hfz45_1, hfz45_2, hfz45_3⟩ := cf4 BK1203
     go_wp2_with (first | ((with_reducible refine gate_callee (f := 34) rfl ?_); refine gL (some 29) rfl rfl Try.func34 (by kernel_rfl) rfl #[.agg #[.slice Ao16 t1176.length co16, .slice Ao19 t1179.length co19, .slice Ao20 t1182.length co20, .slice Ao21 t1185.length co21], .agg #[.slice Ao25 t1190.length co25, .slice Ao29 t1193.length co29, .slice Ao30 t1196.length co30, .slice Ao31 t1199.length co31]] rfl ?_; (with_reducible refine (impl_ColoredSame.calls k _ _ t1176 _ _ t1179 _ _ t1182 _ _ t1185 _ _ t1190 _ _ t1193 _ _ t1196 _ _ t1199 true _ ?side1 ?side2 ?side3 ?side4 ?side5 ?side6 ?side7 ?side8 ?side9 ?side10 ?side11 ?side12 ?side13 ?side14 ?side15 ?side16 A32.out).mono ?_); (case side1 => exact sr (rg BK1203 HO1178)); (case side2 => exact sc HO1178); (case side3 => exact sr (rg BK1203 HO1181)); (case side4 => exact sc HO1181); (case side5 => exact sr (rg BK1203 HO1184)); (case side6 => exact sc HO1184); (case side7 => exact sr (rg BK1203 HO1187)); (case side8 => exact sc HO1187); (case side9 => exact sr (rg BK1203 HO1192)); (case side10 => exact sc HO1192); (case side11 => exact sr (rg BK1203 HO1195)); (case side12 => exact sc HO1195); (case side13 => exact sr (rg BK1203 HO1198)); (case side14 => exact sc HO1198); (case side15 => exact sr (rg BK1203 HO1201)); (case side16 => exact sc HO1201); rintro e w46 ⟨rfl, hb⟩; refine ⟨_, rfl, ?_⟩; replace HO1165 := am (Kd.R_below (rg BK1203 HO1165) hb); replace HO1168 := am (Kd.R_below (rg BK1203 HO1168) hb); replace HO1171 := am (Kd.R_below (rg BK1203 HO1171) hb); replace HO1174 := am (Kd.R_below (rg BK1203 HO1174) hb); replace HO1178 := am (Kd.R_below (rg BK1203 HO1178) hb); replace HO1181 := am (Kd.R_below (rg BK1203 HO1181) hb); replace HO1184 := am (Kd.R_below (rg BK1203 HO1184) hb); replace HO1187 := am (Kd.R_below (rg BK1203 HO1187) hb); replace HO1192 := am (Kd.R_below (rg BK1203 HO1192) hb); replace HO1195 := am (Kd.R_below (rg BK1203 HO1195) hb); replace HO1198 := am (Kd.R_below (rg BK1203 HO1198) hb); replace HO1201 := am (Kd.R_below (rg BK1203 HO1201) hb); replace BK1175 := am (blk_below (g := gb1175) (o := .cells #[.slice Ao9 t1163.length co9, .slice Ao11 t1166.length co11, .slice Ao12 t1169.length co12, .slice Ao13 t1172.length co13] 30 (0, 0)) (kf1 NB1175_1203.out BK1175.out) hb); replace BK1189 := am (blk_below (g := gb1189) (o := .cells #[.slice Ao16 t1176.length co16, .slice Ao19 t1179.length co19, .slice Ao20 t1182.length co20, .slice Ao21 t1185.length co21] 30 (0, 0)) (kf1 NB1189_1203.out BK1189.out) hb); replace BK1203 := bp4 (kf0 BK1203.out) hb; replace HB := am (below_step (bs3 GE1175.out GE1189.out GE1203.out HB.out) hb); (try clear hb)))
     go_meet
     case rel => exact ⟨_, (!t1188), (by first | rfl | (simp; done) | (simp [*]; done)), H', ⟨by first | omega | exact Nat.le_refl _⟩, ⟨rl (Kd.R_mono HO1165.out (fun _ hk => by simp only [ne_eq] at hk ⊢; simp only [hk, not_false_eq_true, and_self]))⟩, ⟨rl (Kd.R_mono HO1168.out (fun _ hk => by simp only [ne_eq] at hk ⊢; simp only [hk, not_false_eq_true, and_self]))⟩, ⟨rl (Kd.R_mono HO1171.out (fun _ hk => by simp only [ne_eq] at hk ⊢; simp only [hk, not_false_eq_true, and_self]))⟩, ⟨rl (Kd.R_mono HO1174.out (fun _ hk => by simp only [ne_eq] at hk ⊢; simp only [hk, not_false_eq_true, and_self]))⟩, ⟨rl (Kd.R_mono HO1178.out (fun _ hk => by simp only [ne_eq] at hk ⊢; simp only [hk, not_false_eq_true, and_self]))⟩, ⟨rl (Kd.R_mono HO1181.out (fun _ hk => by simp only [ne_eq] at hk ⊢; simp only [hk, not_false_eq_true, and_self]))⟩, ⟨rl (Kd.R_mono HO1184.out (fun _ hk => by simp only [ne_eq] at hk ⊢; simp only [hk, not_false_eq_true, and_self]))⟩, ⟨rl (Kd.R_mono HO1187.out (fun _ hk => by simp only [ne_eq] at hk ⊢; simp only [hk, not_false_eq_true, and_self]))⟩, ⟨rl (Kd.R_mono HO1192.out (fun _ hk => by simp only [ne_eq] at hk ⊢; simp only [hk, not_false_eq_true, and_self]))⟩, ⟨rl (Kd.R_mono HO1195.out (fun _ hk => by simp only [ne_eq] at hk ⊢; simp only [hk, not_false_eq_true, and_self]))⟩, ⟨rl (Kd.R_mono HO1198.out (fun _ hk => by simp only [ne_eq] at hk ⊢; simp only [hk, not_false_eq_true, and_self]))⟩, ⟨rl (Kd.R_mono HO1201.out (fun _ hk => by simp only [ne_eq] at hk ⊢; simp only [hk, not_false_eq_true, and_self]))⟩, ⟨kl BK1175.out⟩, ⟨kl BK1189.out⟩, ⟨kl BK1203.out⟩, ⟨by exact bs3 GE1175.out GE1189.out GE1203.out HB.out⟩⟩
   ·replace c33 := Bool.eq_false_iff.mpr c33
    subst c33
    have H1 : (laws_FnShadeRoots.j0 k t1188 t1202 true t1163 t1166 t1169 t1172 t1176 t1179 t1182 t1185 t1190 t1193 t1196 t1199) = some r := by rw [if_neg (show ¬ (false = true) by decide)] at H; exact H
    clear H
    have H := H1
    clear H1
    have H' := am H
    clear H
    have hnb47 := NB1189_1175.out
    have hnc47 := NB1175_1189.out
    have hnb48 := NB1189_1203.out
    have hnc48 := NB1203_1189.out
    obtain ⟨hcz49_0, hcz49_1, hcz49_2, hcz49_3, hfz49_0, hfz49_1, hfz49_2, hfz49_3⟩ := cf4 BK1189
    have hnb50 := NB1203_1175.out
    have hnc50 := NB1175_1203.out
    obtain ⟨hcz51_0, hcz51_1, hcz51_2, hcz51_3, hfz51_0, hfz51_1, hfz51_2, hfz51_3⟩ := cf4 BK1203
    go_wp2_with (first | ((with_reducible refine gate_callee (f := 34) rfl ?_); refine gL (some 29) rfl rfl Try.func34 (by kernel_rfl) rfl #[.agg #[.slice Ao16 t1176.length co16, .slice Ao19 t1179.length co19, .slice Ao20 t1182.length co20, .slice Ao21 t1185.length co21], .agg #[.slice Ao25 t1190.length co25, .slice Ao29 t1193.length co29, .slice Ao30 t1196.length co30, .slice Ao31 t1199.length co31]] rfl ?_; (with_reducible refine (impl_ColoredSame.calls k _ _ t1176 _ _ t1179 _ _ t1182 _ _ t1185 _ _ t1190 _ _ t1193 _ _ t1196 _ _ t1199 false _ ?side1 ?side2 ?side3 ?side4 ?side5 ?side6 ?side7 ?side8 ?side9 ?side10 ?side11 ?side12 ?side13 ?side14 ?side15 ?side16 A32.out).mono ?_); (case side1 => exact sr (rg BK1203 HO1178)); (case side2 => exact sc HO1178); (case side3 => exact sr (rg BK1203 HO1181)); (case side4 => exact sc HO1181); (case side5 => exact sr (rg BK1203 HO1184)); (case side6 => exact sc HO1184); (case side7 => exact sr (rg BK1203 HO1187)); (case side8 => exact sc HO1187); (case side9 => exact sr (rg BK1203 HO1192)); (case side10 => exact sc HO1192); (case side11 => exact sr (rg BK1203 HO1195)); (case side12 => exact sc HO1195); (case side13 => exact sr (rg BK1203 HO1198)); (case side14 => exact sc HO1198); (case side15 => exact sr (rg BK1203 HO1201)); (case side16 => exact sc HO1201); rintro e w52 ⟨rfl, hb⟩; refine ⟨_, rfl, ?_⟩; replace HO1165 := am (Kd.R_below (rg BK1203 HO1165) hb); replace HO1168 := am (Kd.R_below (rg BK1203 HO1168) hb); replace HO1171 := am (Kd.R_below (rg BK1203 HO1171) hb); replace HO1174 := am (Kd.R_below (rg BK1203 HO1174) hb); replace HO1178 := am (Kd.R_below (rg BK1203 HO1178) hb); replace HO1181 := am (Kd.R_below (rg BK1203 HO1181) hb); replace HO1184 := am (Kd.R_below (rg BK1203 HO1184) hb); replace HO1187 := am (Kd.R_below (rg BK1203 HO1187) hb); replace HO1192 := am (Kd.R_below (rg BK1203 HO1192) hb); replace HO1195 := am (Kd.R_below (rg BK1203 HO1195) hb); replace HO1198 := am (Kd.R_below (rg BK1203 HO1198) hb); replace HO1201 := am (Kd.R_below (rg BK1203 HO1201) hb); replace BK1175 := am (blk_below (g := gb1175) (o := .cells #[.slice Ao9 t1163.length co9, .slice Ao11 t1166.length co11, .slice Ao12 t1169.length co12, .slice Ao13 t1172.length co13] 30 (0, 0)) (kf1 NB1175_1203.out BK1175.out) hb); replace BK1189 := am (blk_below (g := gb1189) (o := .cells #[.slice Ao16 t1176.length co16, .slice Ao19 t1179.length co19, .slice Ao20 t1182.length co20, .slice Ao21 t1185.length co21] 30 (0, 0)) (kf1 NB1189_1203.out BK1189.out) hb); replace BK1203 := bp4 (kf0 BK1203.out) hb; replace HB := am (below_step (bs3 GE1175.out GE1189.out GE1203.out HB.out) hb); (try clear hb)))
    go_meet
    case rel => exact ⟨_, (true), (by first | rfl | (simp; done) | (simp [*]; done)), H', ⟨by first | omega | exact Nat.le_refl _⟩, ⟨rl (Kd.R_mono HO1165.out (fun _ hk => by simp only [ne_eq] at hk ⊢; simp only [hk, not_false_eq_true, and_self]))⟩, ⟨rl (Kd.R_mono HO1168.out (fun _ hk => by simp only [ne_eq] at hk ⊢; simp only [hk, not_false_eq_true, and_self]))⟩, ⟨rl (Kd.R_mono HO1171.out (fun _ hk => by simp only [ne_eq] at hk ⊢; simp only [hk, not_false_eq_true, and_self]))⟩, ⟨rl (Kd.R_mono HO1174.out (fun _ hk => by simp only [ne_eq] at hk ⊢; simp only [hk, not_false_eq_true, and_self]))⟩, ⟨rl (Kd.R_mono HO1178.out (fun _ hk => by simp only [ne_eq] at hk ⊢; simp only [hk, not_false_eq_true, and_self]))⟩, ⟨rl (Kd.R_mono HO1181.out (fun _ hk => by simp only [ne_eq] at hk ⊢; simp only [hk, not_false_eq_true, and_self]))⟩, ⟨rl (Kd.R_mono HO1184.out (fun _ hk => by simp only [ne_eq] at hk ⊢; simp only [hk, not_false_eq_true, and_self]))⟩, ⟨rl (Kd.R_mono HO1187.out (fun _ hk => by simp only [ne_eq] at hk ⊢; simp only [hk, not_false_eq_true, and_self]))⟩, ⟨rl (Kd.R_mono HO1192.out (fun _ hk => by simp only [ne_eq] at hk ⊢; simp only [hk, not_false_eq_true, and_self]))⟩, ⟨rl (Kd.R_mono HO1195.out (fun _ hk => by simp only [ne_eq] at hk ⊢; simp only [hk, not_false_eq_true, and_self]))⟩, ⟨rl (Kd.R_mono HO1198.out (fun _ hk => by simp only [ne_eq] at hk ⊢; simp only [hk, not_false_eq_true, and_self]))⟩, ⟨rl (Kd.R_mono HO1201.out (fun _ hk => by simp only [ne_eq] at hk ⊢; simp only [hk, not_false_eq_true, and_self]))⟩, ⟨kl BK1175.out⟩, ⟨kl BK1189.out⟩, ⟨kl BK1203.out⟩, ⟨by exact bs3 GE1175.out GE1189.out GE1203.out HB.out⟩⟩
  case rest =>
   clear HC6
   try clear c1
   try clear c2
   try clear c2b0
   try clear c2b1
   try clear p2
   try clear c3
   try clear c4
   try clear c5
   try clear c10
   try clear c17
   try clear c24
   try clear c25
   try clear c26
   try clear c27
   try clear c33
   try clear c34
   try clear c34b0
   try clear c34b1
   try clear c34b2
   try clear c35
   try clear c36
   try clear c38
   try clear c39
   try clear c41
   try clear c42
   try clear c44
   try clear c47
   try clear c48
   try clear c50
   obtain ⟨kq, x39_5, rfl, HA, HJ5, HO_1176000, HO_1176001, HO_1176002, HO_1176003, HO_1190000, HO_1190001, HO_1190002, HO_1190003, HO_1204000, HO_1204001, HO_1204002, HO_1204003, BK1175, BK1189, BK1203, HB⟩ := hcut
   cases kq with
   | zero => exact absurd HA.out (by simp [laws_FnShadeRoots.j0])
   | succ kj5 =>
    have H := HA.out
    clear HA
    simp only [laws_FnShadeRoots.j0] at H
    by_cases c53 : x39_5 = true
    ·subst c53
     have H1 : ((impl_ColoredSame.f kj5 t1176 t1179 t1182 t1185 t1190 t1193 t1196 t1199).bind fun t1205 => (if t1205 = true then (some (t1188 == t1202)) else (none))) = some r := by rw [if_pos rfl] at H; exact H
     clear H
     have H := H1
     clear H1
     replace H := Option.bind_eq_some_iff.mp H
     obtain ⟨t1205, A540, H⟩ := H
     replace H : (if t1205 = true then (some (t1188 == t1202)) else (none)) = some r := H
     have A54 := am A540
     clear A540
     by_cases c55 : t1205 = true
     ·subst c55
      have H1 : (some (t1188 == t1202)) = some r := by rw [if_pos rfl] at H; exact H
      clear H
      have H := H1
      clear H1
      obtain rfl := Option.some.inj H
      have hnb56 := NB1189_1175.out
      have hnc56 := NB1175_1189.out
      have hnb57 := NB1189_1203.out
      have hnc57 := NB1203_1189.out
      obtain ⟨hcz58_0, hcz58_1, hcz58_2, hcz58_3, hfz58_0, hfz58_1, hfz58_2, hfz58_3⟩ := cf4 BK1189
      have hnb59 := NB1203_1175.out
      have hnc59 := NB1175_1203.out
      obtain ⟨hcz60_0, hcz60_1, hcz60_2, hcz60_3, hfz60_0, hfz60_1, hfz60_2, hfz60_3⟩ := cf4 BK1203
      go_wp2_with (first | ((with_reducible refine gate_callee (f := 34) rfl ?_); refine gL (some 42) rfl rfl Try.func34 (by kernel_rfl) rfl #[.agg #[.slice Ao16 t1176.length co16, .slice Ao19 t1179.length co19, .slice Ao20 t1182.length co20, .slice Ao21 t1185.length co21], .agg #[.slice Ao25 t1190.length co25, .slice Ao29 t1193.length co29, .slice Ao30 t1196.length co30, .slice Ao31 t1199.length co31]] rfl ?_; (with_reducible refine (impl_ColoredSame.calls kj5 _ _ t1176 _ _ t1179 _ _ t1182 _ _ t1185 _ _ t1190 _ _ t1193 _ _ t1196 _ _ t1199 true _ ?side1 ?side2 ?side3 ?side4 ?side5 ?side6 ?side7 ?side8 ?side9 ?side10 ?side11 ?side12 ?side13 ?side14 ?side15 ?side16 A54.out).mono ?_); (case side1 => exact cl ((Kd.R_reads' HO_1190000.out).2.2)); (case side2 => exact sc HO_1190000); (case side3 => exact cl ((Kd.R_reads' HO_1190001.out).2.2)); (case side4 => exact sc HO_1190001); (case side5 => exact cl ((Kd.R_reads' HO_1190002.out).2.2)); (case side6 => exact sc HO_1190002); (case side7 => exact cl ((Kd.R_reads' HO_1190003.out).2.2)); (case side8 => exact sc HO_1190003); (case side9 => exact cl ((Kd.R_reads' HO_1204000.out).2.2)); (case side10 => exact sc HO_1204000); (case side11 => exact cl ((Kd.R_reads' HO_1204001.out).2.2)); (case side12 => exact sc HO_1204001); (case side13 => exact cl ((Kd.R_reads' HO_1204002.out).2.2)); (case side14 => exact sc HO_1204002); (case side15 => exact cl ((Kd.R_reads' HO_1204003.out).2.2)); (case side16 => exact sc HO_1204003); rintro e w61 ⟨rfl, hb⟩; refine ⟨_, rfl, ?_⟩; replace HO_1176000 := rb HO_1176000 hb; replace HO_1176001 := rb HO_1176001 hb; replace HO_1176002 := rb HO_1176002 hb; replace HO_1176003 := rb HO_1176003 hb; replace HO_1190000 := rb HO_1190000 hb; replace HO_1190001 := rb HO_1190001 hb; replace HO_1190002 := rb HO_1190002 hb; replace HO_1190003 := rb HO_1190003 hb; replace HO_1204000 := rb HO_1204000 hb; replace HO_1204001 := rb HO_1204001 hb; replace HO_1204002 := rb HO_1204002 hb; replace HO_1204003 := rb HO_1204003 hb; replace BK1175 := bb BK1175 hb; replace BK1189 := bb BK1189 hb; replace BK1203 := bb BK1203 hb; replace HB := am (below_step (bs3 GE1175.out GE1189.out GE1203.out HB.out) hb); (try clear hb)))
      go_ret
      exact ⟨by first | rfl | (simp [errW_none, errW_some] <;> rfl) | (simp [*, errW_none, errW_some] <;> rfl), by exact bs3 GE1175.out GE1189.out GE1203.out HB.out⟩
     ·replace c55 := Bool.eq_false_iff.mpr c55
      subst c55
      have H1 : (none) = some r := by rw [if_neg (show ¬ (false = true) by decide)] at H; exact H
      clear H
      have H := H1
      clear H1
      exact absurd H (by simp)
    ·replace c53 := Bool.eq_false_iff.mpr c53
     subst c53
     have H1 : (laws_FnShadeRoots.l0 kj5 0 t1163 t1166 t1169 t1172 t1176 t1179 t1182 t1185) = some r := by rw [if_neg (show ¬ (false = true) by decide)] at H; exact H
     clear H
     have H := H1
     clear H1
     have H' := am H
     clear H
     go_wp2
     go_loopg [8] kj5 (fun kq v8 w' => ∃ (x8_2 : Int), v8 = .int .i64 x8_2 ∧ Aside0 (laws_FnShadeRoots.l0 kq x8_2 t1163 t1166 t1169 t1172 t1176 t1179 t1182 t1185 = some r) ∧ Aside0 (kq ≤ kj5) ∧ Aside0 (Kd.R (Kd.int .i64) 3 w' w.heap.size (fun k_ => some k_ ≠ ((.slice Ao11 t1166.length co11) : Value).ownBlock ∧ some k_ ≠ ((.slice Ao12 t1169.length co12) : Value).ownBlock ∧ some k_ ≠ ((.slice Ao13 t1172.length co13) : Value).ownBlock ∧ some k_ ≠ ((.slice Ao16 t1176.length co16) : Value).ownBlock ∧ some k_ ≠ ((.slice Ao19 t1179.length co19) : Value).ownBlock ∧ some k_ ≠ ((.slice Ao20 t1182.length co20) : Value).ownBlock ∧ some k_ ≠ ((.slice Ao21 t1185.length co21) : Value).ownBlock) (.slice Ao9 t1163.length co9) t1163) ∧ Aside0 (Kd.R (Kd.int .i64) 3 w' w.heap.size (fun k_ => some k_ ≠ ((.slice Ao9 t1163.length co9) : Value).ownBlock ∧ some k_ ≠ ((.slice Ao12 t1169.length co12) : Value).ownBlock ∧ some k_ ≠ ((.slice Ao13 t1172.length co13) : Value).ownBlock ∧ some k_ ≠ ((.slice Ao16 t1176.length co16) : Value).ownBlock ∧ some k_ ≠ ((.slice Ao19 t1179.length co19) : Value).ownBlock ∧ some k_ ≠ ((.slice Ao20 t1182.length co20) : Value).ownBlock ∧ some k_ ≠ ((.slice Ao21 t1185.length co21) : Value).ownBlock) (.slice Ao11 t1166.length co11) t1166) ∧ Aside0 (Kd.R (Kd.int .i64) 3 w' w.heap.size (fun k_ => some k_ ≠ ((.slice Ao9 t1163.length co9) : Value).ownBlock ∧ some k_ ≠ ((.slice Ao11 t1166.length co11) : Value).ownBlock ∧ some k_ ≠ ((.slice Ao13 t1172.length co13) : Value).ownBlock ∧ some k_ ≠ ((.slice Ao16 t1176.length co16) : Value).ownBlock ∧ some k_ ≠ ((.slice Ao19 t1179.length co19) : Value).ownBlock ∧ some k_ ≠ ((.slice Ao20 t1182.length co20) : Value).ownBlock ∧ some k_ ≠ ((.slice Ao21 t1185.length co21) : Value).ownBlock) (.slice Ao12 t1169.length co12) t1169) ∧ Aside0 (Kd.R (Kd.int .i64) 3 w' w.heap.size (fun k_ => some k_ ≠ ((.slice Ao9 t1163.length co9) : Value).ownBlock ∧ some k_ ≠ ((.slice Ao11 t1166.length co11) : Value).ownBlock ∧ some k_ ≠ ((.slice Ao12 t1169.length co12) : Value).ownBlock ∧ some k_ ≠ ((.slice Ao16 t1176.length co16) : Value).ownBlock ∧ some k_ ≠ ((.slice Ao19 t1179.length co19) : Value).ownBlock ∧ some k_ ≠ ((.slice Ao20 t1182.length co20) : Value).ownBlock ∧ some k_ ≠ ((.slice Ao21 t1185.length co21) : Value).ownBlock) (.slice Ao13 t1172.length co13) t1172) ∧ Aside0 (Kd.R (Kd.int .i64) 3 w' w.heap.size (fun k_ => some k_ ≠ ((.slice Ao9 t1163.length co9) : Value).ownBlock ∧ some k_ ≠ ((.slice Ao11 t1166.length co11) : Value).ownBlock ∧ some k_ ≠ ((.slice Ao12 t1169.length co12) : Value).ownBlock ∧ some k_ ≠ ((.slice Ao13 t1172.length co13) : Value).ownBlock ∧ some k_ ≠ ((.slice Ao19 t1179.length co19) : Value).ownBlock ∧ some k_ ≠ ((.slice Ao20 t1182.length co20) : Value).ownBlock ∧ some k_ ≠ ((.slice Ao21 t1185.length co21) : Value).ownBlock) (.slice Ao16 t1176.length co16) t1176) ∧ Aside0 (Kd.R (Kd.int .i64) 3 w' w.heap.size (fun k_ => some k_ ≠ ((.slice Ao9 t1163.length co9) : Value).ownBlock ∧ some k_ ≠ ((.slice Ao11 t1166.length co11) : Value).ownBlock ∧ some k_ ≠ ((.slice Ao12 t1169.length co12) : Value).ownBlock ∧ some k_ ≠ ((.slice Ao13 t1172.length co13) : Value).ownBlock ∧ some k_ ≠ ((.slice Ao16 t1176.length co16) : Value).ownBlock ∧ some k_ ≠ ((.slice Ao20 t1182.length co20) : Value).ownBlock ∧ some k_ ≠ ((.slice Ao21 t1185.length co21) : Value).ownBlock) (.slice Ao19 t1179.length co19) t1179) ∧ Aside0 (Kd.R (Kd.int .i64) 3 w' w.heap.size (fun k_ => some k_ ≠ ((.slice Ao9 t1163.length co9) : Value).ownBlock ∧ some k_ ≠ ((.slice Ao11 t1166.length co11) : Value).ownBlock ∧ some k_ ≠ ((.slice Ao12 t1169.length co12) : Value).ownBlock ∧ some k_ ≠ ((.slice Ao13 t1172.length co13) : Value).ownBlock ∧ some k_ ≠ ((.slice Ao16 t1176.length co16) : Value).ownBlock ∧ some k_ ≠ ((.slice Ao19 t1179.length co19) : Value).ownBlock ∧ some k_ ≠ ((.slice Ao21 t1185.length co21) : Value).ownBlock) (.slice Ao20 t1182.length co20) t1182) ∧ Aside0 (Kd.R (Kd.int .i64) 3 w' w.heap.size (fun k_ => some k_ ≠ ((.slice Ao9 t1163.length co9) : Value).ownBlock ∧ some k_ ≠ ((.slice Ao11 t1166.length co11) : Value).ownBlock ∧ some k_ ≠ ((.slice Ao12 t1169.length co12) : Value).ownBlock ∧ some k_ ≠ ((.slice Ao13 t1172.length co13) : Value).ownBlock ∧ some k_ ≠ ((.slice Ao16 t1176.length co16) : Value).ownBlock ∧ some k_ ≠ ((.slice Ao19 t1179.length co19) : Value).ownBlock ∧ some k_ ≠ ((.slice Ao20 t1182.length co20) : Value).ownBlock) (.slice Ao21 t1185.length co21) t1185) ∧ Aside0 (w'.heap[gb1175]? = some (.cells #[(.slice Ao9 t1163.length co9), (.slice Ao11 t1166.length co11), (.slice Ao12 t1169.length co12), (.slice Ao13 t1172.length co13)] 30 (0, 0))) ∧ Aside0 (w'.heap[gb1189]? = some (.cells #[(.slice Ao16 t1176.length co16), (.slice Ao19 t1179.length co19), (.slice Ao20 t1182.length co20), (.slice Ao21 t1185.length co21)] 30 (0, 0))) ∧ Aside0 (Below w.heap.size w w'))
     case atStart => exact ⟨(0), (by first | rfl | (simp; done) | (simp [*]; done)), H', ⟨Nat.le_refl _⟩, ⟨rl (Kd.R_mono HO_1176000.out (fun _ hk => by simp only [ne_eq] at hk ⊢; simp only [hk, not_false_eq_true, and_self]))⟩, ⟨rl (Kd.R_mono HO_1176001.out (fun _ hk => by simp only [ne_eq] at hk ⊢; simp only [hk, not_false_eq_true, and_self]))⟩, ⟨rl (Kd.R_mono HO_1176002.out (fun _ hk => by simp only [ne_eq] at hk ⊢; simp only [hk, not_false_eq_true, and_self]))⟩, ⟨rl (Kd.R_mono HO_1176003.out (fun _ hk => by simp only [ne_eq] at hk ⊢; simp only [hk, not_false_eq_true, and_self]))⟩, ⟨rl (Kd.R_mono HO_1190000.out (fun _ hk => by simp only [ne_eq] at hk ⊢; simp only [hk, not_false_eq_true, and_self]))⟩, ⟨rl (Kd.R_mono HO_1190001.out (fun _ hk => by simp only [ne_eq] at hk ⊢; simp only [hk, not_false_eq_true, and_self]))⟩, ⟨rl (Kd.R_mono HO_1190002.out (fun _ hk => by simp only [ne_eq] at hk ⊢; simp only [hk, not_false_eq_true, and_self]))⟩, ⟨rl (Kd.R_mono HO_1190003.out (fun _ hk => by simp only [ne_eq] at hk ⊢; simp only [hk, not_false_eq_true, and_self]))⟩, ⟨kl BK1175.out⟩, ⟨kl BK1189.out⟩, ⟨by exact bs3 GE1175.out GE1189.out GE1203.out HB.out⟩⟩
     case round =>
      clear H'
      try clear c1
      try clear c2
      try clear c2b0
      try clear c2b1
      try clear p2
      try clear c3
      try clear c4
      try clear c5
      try clear c10
      try clear c17
      try clear c24
      try clear c25
      try clear c26
      try clear c27
      try clear c33
      try clear c34
      try clear c34b0
      try clear c34b1
      try clear c34b2
      try clear c35
      try clear c36
      try clear c38
      try clear c39
      try clear c41
      try clear c42
      try clear c44
      try clear c47
      try clear c48
      try clear c50
      try clear c53
      try clear c55
      try clear c56
      try clear c57
      try clear c59
      try clear p2
      obtain ⟨x8_2, rfl, HA, HK2, HO_1176000, HO_1176001, HO_1176002, HO_1176003, HO_1190000, HO_1190001, HO_1190002, HO_1190003, BK1175, BK1189, HB⟩ := hrel
      cases gk with
      | zero => exact absurd HA.out (by simp [laws_FnShadeRoots.l0])
      | succ k2 =>
       have H := HA.out
       clear HA
       simp only [laws_FnShadeRoots.l0] at H
       by_cases c62 : x8_2 < (t1169.length : Int)
       ·rw [if_pos c62] at H
        have c62b0 : decide (x8_2 < (t1169.length : Int)) = true := decide_eq_true c62
        clear c62
        by_cases c63 : 0 ≤ x8_2
        ·rw [if_pos c63] at H
         have c63b0 : decide (0 ≤ x8_2) = true := decide_eq_true c63
         clear c63
         by_cases c64 : (rd t1169 x8_2) = (-1)
         ·rw [if_pos c64] at H
          have c64b0 : ((rd t1169 x8_2) == (-1)) = true := beq_iff_eq.mpr c64
          have c64b1 : ((rd t1169 x8_2) != (-1)) = false := bne_eq_false_iff_eq.mpr c64
          clear c64
          have H' := am H
          clear H
          have hnb65 := NB1175_1189.out
          have hnc65 := NB1189_1175.out
          obtain ⟨hcz66_0, hcz66_1, hcz66_2, hcz66_3, hfz66_0, hfz66_1, hfz66_2, hfz66_3⟩ := cf4 BK1175
          have p1206 : 0 ≤ (x8_2 : Int) := of_decide_eq_true (by first | (with_reducible assumption) | assumption)
          have q1206 : x8_2 < (t1169.length : Int) := of_decide_eq_true (by first | (with_reducible assumption) | assumption)
          obtain ⟨ad1206, e1206, hx1206_0⟩ := Kd.at_int (Kd.R_reads' HO_1176002.out).2.2 x8_2 p1206 q1206
          cases e1206
          replace p1206 := eq_true p1206
          replace q1206 := eq_true q1206
          go_wp2
          go_roundg k2
          case measure => have := HJ5.out; have := HK2.out; omega
          case rel => exact ⟨(wrap64 (x8_2 + 1)), (by first | rfl | (simp; done) | (simp [*]; done)), H', ⟨by have := HJ5.out; have := HK2.out; omega⟩, ⟨rl HO_1176000.out⟩, ⟨rl HO_1176001.out⟩, ⟨rl HO_1176002.out⟩, ⟨rl HO_1176003.out⟩, ⟨rl HO_1190000.out⟩, ⟨rl HO_1190001.out⟩, ⟨rl HO_1190002.out⟩, ⟨rl HO_1190003.out⟩, ⟨kl BK1175.out⟩, ⟨kl BK1189.out⟩, ⟨by exact bs2 GE1175.out GE1189.out HB.out⟩⟩
         ·rw [if_neg c64] at H
          have c64b0 : ((rd t1169 x8_2) == (-1)) = false := beq_eq_false_iff_ne.mpr c64
          have c64b1 : ((rd t1169 x8_2) != (-1)) = true := bne_iff_ne.mpr c64
          by_cases c67 : 0 ≤ (rd t1169 x8_2)
          ·rw [if_pos c67] at H
           have c67b0 : decide (0 ≤ (rd t1169 x8_2)) = true := decide_eq_true c67
           clear c67
           by_cases c68 : (rd t1169 x8_2) < (t1185.length : Int)
           ·rw [if_pos c68] at H
            have c68b0 : decide ((rd t1169 x8_2) < (t1185.length : Int)) = true := decide_eq_true c68
            clear c68
            by_cases c69 : (rd t1185 (rd t1169 x8_2)) = 0
            ·rw [if_pos c69] at H
             exact absurd H (by simp)
            ·rw [if_neg c69] at H
             have c69b0 : ((rd t1185 (rd t1169 x8_2)) == 0) = false := beq_eq_false_iff_ne.mpr c69
             have c69b1 : ((rd t1185 (rd t1169 x8_2)) != 0) = true := bne_iff_ne.mpr c69
             have H' := am H
             clear H
             have hnb70 := NB1175_1189.out
             have hnc70 := NB1189_1175.out
             obtain ⟨hcz71_0, hcz71_1, hcz71_2, hcz71_3, hfz71_0, hfz71_1, hfz71_2, hfz71_3⟩ := cf4 BK1175
             have p1206 : 0 ≤ (x8_2 : Int) := of_decide_eq_true (by first | (with_reducible assumption) | assumption)
             have q1206 : x8_2 < (t1169.length : Int) := of_decide_eq_true (by first | (with_reducible assumption) | assumption)
             obtain ⟨ad1206, e1206, hx1206_0⟩ := Kd.at_int (Kd.R_reads' HO_1176002.out).2.2 x8_2 p1206 q1206
             cases e1206
             replace p1206 := eq_true p1206
             replace q1206 := eq_true q1206
             obtain ⟨hcz72_0, hcz72_1, hcz72_2, hcz72_3, hfz72_0, hfz72_1, hfz72_2, hfz72_3⟩ := cf4 BK1189
             have p1207 : 0 ≤ ((rd t1169 x8_2) : Int) := of_decide_eq_true (by first | (with_reducible assumption) | assumption)
             have q1207 : (rd t1169 x8_2) < (t1185.length : Int) := of_decide_eq_true (by first | (with_reducible assumption) | assumption)
             obtain ⟨ad1207, e1207, hx1207_0⟩ := Kd.at_int (Kd.R_reads' HO_1190003.out).2.2 (rd t1169 x8_2) p1207 q1207
             cases e1207
             replace p1207 := eq_true p1207
             replace q1207 := eq_true q1207
             go_wp2
             go_roundg k2
             case measure => have := HJ5.out; have := HK2.out; omega
             case rel => exact ⟨(wrap64 (x8_2 + 1)), (by first | rfl | (simp; done) | (simp [*]; done)), H', ⟨by have := HJ5.out; have := HK2.out; omega⟩, ⟨rl HO_1176000.out⟩, ⟨rl HO_1176001.out⟩, ⟨rl HO_1176002.out⟩, ⟨rl HO_1176003.out⟩, ⟨rl HO_1190000.out⟩, ⟨rl HO_1190001.out⟩, ⟨rl HO_1190002.out⟩, ⟨rl HO_1190003.out⟩, ⟨kl BK1175.out⟩, ⟨kl BK1189.out⟩, ⟨by exact bs2 GE1175.out GE1189.out HB.out⟩⟩
           ·rw [if_neg c68] at H
            exact absurd H (by simp)
          ·rw [if_neg c67] at H
           exact absurd H (by simp)
        ·rw [if_neg c63] at H
         exact absurd H (by simp)
       ·rw [if_neg c62] at H
        have c62b0 : decide (x8_2 < (t1169.length : Int)) = false := decide_eq_false c62
        clear c62
        replace H := Option.bind_eq_some_iff.mp H
        obtain ⟨⟨t1208, t1211, t1214, t1217, t1220⟩, A730, H⟩ := H
        replace H : ((impl_ColoredValid.f k2 t1176 t1179 t1182 t1185).bind fun t1222 => (if t1222 = true then (if t1220 = true then ((impl_ColoredSame.f k2 t1208 t1211 t1214 t1217 t1176 t1179 t1182 t1185).bind fun t1223 => (if t1223 = true then ((impl_CountColor.f k2 t1176 t1179 t1182 t1185 2).bind fun t1224 => ((impl_CountColor.f k2 t1163 t1166 t1169 t1172 2).bind fun t1225 => (some (t1224 == t1225)))) else (none))) else (none)) else (none))) = some r := H
        have A73 := am A730
        clear A730
        replace H := Option.bind_eq_some_iff.mp H
        obtain ⟨t1222, A740, H⟩ := H
        replace H : (if t1222 = true then (if t1220 = true then ((impl_ColoredSame.f k2 t1208 t1211 t1214 t1217 t1176 t1179 t1182 t1185).bind fun t1223 => (if t1223 = true then ((impl_CountColor.f k2 t1176 t1179 t1182 t1185 2).bind fun t1224 => ((impl_CountColor.f k2 t1163 t1166 t1169 t1172 2).bind fun t1225 => (some (t1224 == t1225)))) else (none))) else (none)) else (none)) = some r := H
        have A74 := am A740
        clear A740
        by_cases c75 : t1222 = true
        ·subst c75
         have H1 : (if t1220 = true then ((impl_ColoredSame.f k2 t1208 t1211 t1214 t1217 t1176 t1179 t1182 t1185).bind fun t1223 => (if t1223 = true then ((impl_CountColor.f k2 t1176 t1179 t1182 t1185 2).bind fun t1224 => ((impl_CountColor.f k2 t1163 t1166 t1169 t1172 2).bind fun t1225 => (some (t1224 == t1225)))) else (none))) else (none)) = some r := by rw [if_pos rfl] at H; exact H
         clear H
         have H := H1
         clear H1
         by_cases c76 : t1220 = true
         ·subst c76
          have H1 : ((impl_ColoredSame.f k2 t1208 t1211 t1214 t1217 t1176 t1179 t1182 t1185).bind fun t1223 => (if t1223 = true then ((impl_CountColor.f k2 t1176 t1179 t1182 t1185 2).bind fun t1224 => ((impl_CountColor.f k2 t1163 t1166 t1169 t1172 2).bind fun t1225 => (some (t1224 == t1225)))) else (none))) = some r := by rw [if_pos rfl] at H; exact H
          clear H
          have H := H1
          clear H1
          replace H := Option.bind_eq_some_iff.mp H
          obtain ⟨t1223, A770, H⟩ := H
          replace H : (if t1223 = true then ((impl_CountColor.f k2 t1176 t1179 t1182 t1185 2).bind fun t1224 => ((impl_CountColor.f k2 t1163 t1166 t1169 t1172 2).bind fun t1225 => (some (t1224 == t1225)))) else (none)) = some r := H
          have A77 := am A770
          clear A770
          by_cases c78 : t1223 = true
          ·subst c78
           have H1 : ((impl_CountColor.f k2 t1176 t1179 t1182 t1185 2).bind fun t1224 => ((impl_CountColor.f k2 t1163 t1166 t1169 t1172 2).bind fun t1225 => (some (t1224 == t1225)))) = some r := by rw [if_pos rfl] at H; exact H
           clear H
           have H := H1
           clear H1
           replace H := Option.bind_eq_some_iff.mp H
           obtain ⟨t1224, A790, H⟩ := H
           replace H : ((impl_CountColor.f k2 t1163 t1166 t1169 t1172 2).bind fun t1225 => (some (t1224 == t1225))) = some r := H
           have A79 := am A790
           clear A790
           replace H := Option.bind_eq_some_iff.mp H
           obtain ⟨t1225, A800, H⟩ := H
           replace H : (some (t1224 == t1225)) = some r := H
           have A80 := am A800
           clear A800
           obtain rfl := Option.some.inj H
           have hnb81 := NB1175_1189.out
           have hnc81 := NB1189_1175.out
           obtain ⟨hcz82_0, hcz82_1, hcz82_2, hcz82_3, hfz82_0, hfz82_1, hfz82_2, hfz82_3⟩ := cf4 BK1175
           obtain ⟨hcz83_0, hcz83_1, hcz83_2, hcz83_3, hfz83_0, hfz83_1, hfz83_2, hfz83_3⟩ := cf4 BK1189
           try go_wp2_with (first | ((with_reducible refine gate_callee (f := 25) rfl ?_); refine gL (some 74) rfl rfl Try.func25 (by kernel_rfl) rfl #[.agg #[.slice Ao16 t1176.length co16, .slice Ao19 t1179.length co19, .slice Ao20 t1182.length co20, .slice Ao21 t1185.length co21]] rfl ?_; (with_reducible refine (impl_ShadeRoots.calls k2 _ _ t1176 _ _ t1179 _ _ t1182 _ _ t1185 t1208 t1211 t1214 t1217 true _ ?side1 ?side2 ?side3 ?side4 ?side5 ?side6 ?side7 ?side8 A73.out).mono ?_); (case side1 => exact cl ((Kd.R_reads' HO_1190000.out).2.2)); (case side2 => exact sc HO_1190000); (case side3 => exact cl ((Kd.R_reads' HO_1190001.out).2.2)); (case side4 => exact sc HO_1190001); (case side5 => exact cl ((Kd.R_reads' HO_1190002.out).2.2)); (case side6 => exact sc HO_1190002); (case side7 => exact cl ((Kd.R_reads' HO_1190003.out).2.2)); (case side8 => exact sc HO_1190003); rintro e w84 ⟨v1209, v1212, v1215, v1218, rfl, ho0, ho1, ho2, ho3, hb⟩; refine ⟨_, rfl, ?_⟩; have HO1210 := ln8 ho0 (rl HO_1176000.out) (rl HO_1176001.out) (rl HO_1176002.out) (rl HO_1176003.out) (rl HO_1190000.out) (rl HO_1190001.out) (rl HO_1190002.out) (rl HO_1190003.out) (bs2 GE1175.out GE1189.out HB.out); have HO1213 := ln8 ho1 (rl HO_1176000.out) (rl HO_1176001.out) (rl HO_1176002.out) (rl HO_1176003.out) (rl HO_1190000.out) (rl HO_1190001.out) (rl HO_1190002.out) (rl HO_1190003.out) (bs2 GE1175.out GE1189.out HB.out); have HO1216 := ln8 ho2 (rl HO_1176000.out) (rl HO_1176001.out) (rl HO_1176002.out) (rl HO_1176003.out) (rl HO_1190000.out) (rl HO_1190001.out) (rl HO_1190002.out) (rl HO_1190003.out) (bs2 GE1175.out GE1189.out HB.out); have HO1219 := ln8 ho3 (rl HO_1176000.out) (rl HO_1176001.out) (rl HO_1176002.out) (rl HO_1176003.out) (rl HO_1190000.out) (rl HO_1190001.out) (rl HO_1190002.out) (rl HO_1190003.out) (bs2 GE1175.out GE1189.out HB.out); replace HO_1176000 := td4 (rl HO_1176000.out) hb ho0 ho1 ho2 ho3; replace HO_1176001 := td4 (rl HO_1176001.out) hb ho0 ho1 ho2 ho3; replace HO_1176002 := td4 (rl HO_1176002.out) hb ho0 ho1 ho2 ho3; replace HO_1176003 := td4 (rl HO_1176003.out) hb ho0 ho1 ho2 ho3; replace HO_1190000 := td4 (rl HO_1190000.out) hb ho0 ho1 ho2 ho3; replace HO_1190001 := td4 (rl HO_1190001.out) hb ho0 ho1 ho2 ho3; replace HO_1190002 := td4 (rl HO_1190002.out) hb ho0 ho1 ho2 ho3; replace HO_1190003 := td4 (rl HO_1190003.out) hb ho0 ho1 ho2 ho3; replace BK1175 := bb BK1175 hb; replace BK1189 := bb BK1189 hb; replace HB := am (below_step (bs2 GE1175.out GE1189.out HB.out) hb); (try clear hb ho0 ho1 ho2 ho3)) | ((with_reducible refine gate_dst (N := 10) rfl ?_); refine box_event ?hg (N := 10) ?hd (cs := #[.slice none 0 0, .slice none 0 0, .slice none 0 0, .slice none 0 0]) (t := 30) ?hr ?_; (case hd => rfl); (case hg => rfl); (case hr => first | (go_simp; done) | (go_simp; rfl)); intro gb1221 hg w85 hbox hb; replace HO_1176000 := rb HO_1176000 hb; replace HO_1176001 := rb HO_1176001 hb; replace HO_1176002 := rb HO_1176002 hb; replace HO_1176003 := rb HO_1176003 hb; replace HO_1190000 := rb HO_1190000 hb; replace HO_1190001 := rb HO_1190001 hb; replace HO_1190002 := rb HO_1190002 hb; replace HO_1190003 := rb HO_1190003 hb; replace HO1210 := rb HO1210 hb; replace HO1213 := rb HO1213 hb; replace HO1216 := rb HO1216 hb; replace HO1219 := rb HO1219 hb; have BK1221 := am (hbox); have GW1221 := am ((by rw [hg]; exact (below_size (bs2 GE1175.out GE1189.out HB.out)) : w.heap.size ≤ gb1221)); have GE1221 := am ((by rw [hg]; exact (below_size (bs2 GE1175.out GE1189.out HB.out)) : w.heap.size ≤ gb1221)); replace HB := am (below_step (bs2 GE1175.out GE1189.out HB.out) hb); have NB1175_1221 := nb BK1175 hg; have NB1221_1175 := nc BK1175 hg; replace BK1175 := bb BK1175 hb; have NB1189_1221 := nb BK1189 hg; have NB1221_1189 := nc BK1189 hg; replace BK1189 := bb BK1189 hb; clear hb hbox hg; obtain ⟨Ao86, co86, eo86⟩ := Kd.R_slice HO1210.out; subst eo86; have hnb87 := NB1221_1175.out; have hnc87 := NB1175_1221.out; have hnb88 := NB1221_1189.out; have hnc88 := NB1189_1221.out; obtain ⟨hcz89_0, hcz89_1, hcz89_2, hcz89_3, hfz89_0, hfz89_1, hfz89_2, hfz89_3⟩ := cf4 BK1221; obtain ⟨Ao90, co90, eo90⟩ := Kd.R_slice HO1213.out; subst eo90; obtain ⟨Ao91, co91, eo91⟩ := Kd.R_slice HO1216.out; subst eo91; obtain ⟨Ao92, co92, eo92⟩ := Kd.R_slice HO1219.out; subst eo92))
           have n0_ : Aside0 (Kd.R (Kd.int .i64) 3 ((((w85.setCell ⟨gb1221, 0, none⟩ (.slice Ao86 t1208.length co86)).setCell ⟨gb1221, 1, none⟩ (.slice Ao90 t1211.length co90)).setCell ⟨gb1221, 2, none⟩ (.slice Ao91 t1214.length co91)).setCell ⟨gb1221, 3, none⟩ (.slice Ao92 t1217.length co92)) w.heap.size (fun k_ => some k_ ≠ (.slice Ao11 t1166.length co11 : Value).ownBlock ∧ some k_ ≠ (.slice Ao12 t1169.length co12 : Value).ownBlock ∧ some k_ ≠ (.slice Ao13 t1172.length co13 : Value).ownBlock ∧ some k_ ≠ (.slice Ao16 t1176.length co16 : Value).ownBlock ∧ some k_ ≠ (.slice Ao19 t1179.length co19 : Value).ownBlock ∧ some k_ ≠ (.slice Ao20 t1182.length co20 : Value).ownBlock ∧ some k_ ≠ (.slice Ao21 t1185.length co21 : Value).ownBlock ∧ some k_ ≠ (.slice Ao86 t1208.length co86 : Value).ownBlock ∧ some k_ ≠ (.slice Ao90 t1211.length co90 : Value).ownBlock ∧ some k_ ≠ (.slice Ao91 t1214.length co91 : Value).ownBlock ∧ some k_ ≠ (.slice Ao92 t1217.length co92 : Value).ownBlock) (.slice Ao9 t1163.length co9) t1163) := ⟨rl (Kd.R_mono (Kd.R_far (p := ⟨gb1221, 3, none⟩) (Kd.R_far (p := ⟨gb1221, 2, none⟩) (Kd.R_far (p := ⟨gb1221, 1, none⟩) (Kd.R_far (p := ⟨gb1221, 0, none⟩) (Kd.R_types HO_1176000.out BK1221.out (by decide)) (fun _ hk => hk.2) (.slice Ao86 t1208.length co86)) (fun _ hk => hk.2) (.slice Ao90 t1211.length co90)) (fun _ hk => hk.2) (.slice Ao91 t1214.length co91)) (fun _ hk => hk.2) (.slice Ao92 t1217.length co92)) (fun _ hk => by simp only [ne_eq] at hk ⊢; simp only [hk, not_false_eq_true, and_self]))⟩
           have n1_ : Aside0 (Kd.R (Kd.int .i64) 3 ((((w85.setCell ⟨gb1221, 0, none⟩ (.slice Ao86 t1208.length co86)).setCell ⟨gb1221, 1, none⟩ (.slice Ao90 t1211.length co90)).setCell ⟨gb1221, 2, none⟩ (.slice Ao91 t1214.length co91)).setCell ⟨gb1221, 3, none⟩ (.slice Ao92 t1217.length co92)) w.heap.size (fun k_ => some k_ ≠ (.slice Ao9 t1163.length co9 : Value).ownBlock ∧ some k_ ≠ (.slice Ao12 t1169.length co12 : Value).ownBlock ∧ some k_ ≠ (.slice Ao13 t1172.length co13 : Value).ownBlock ∧ some k_ ≠ (.slice Ao16 t1176.length co16 : Value).ownBlock ∧ some k_ ≠ (.slice Ao19 t1179.length co19 : Value).ownBlock ∧ some k_ ≠ (.slice Ao20 t1182.length co20 : Value).ownBlock ∧ some k_ ≠ (.slice Ao21 t1185.length co21 : Value).ownBlock ∧ some k_ ≠ (.slice Ao86 t1208.length co86 : Value).ownBlock ∧ some k_ ≠ (.slice Ao90 t1211.length co90 : Value).ownBlock ∧ some k_ ≠ (.slice Ao91 t1214.length co91 : Value).ownBlock ∧ some k_ ≠ (.slice Ao92 t1217.length co92 : Value).ownBlock) (.slice Ao11 t1166.length co11) t1166) := ⟨rl (Kd.R_mono (Kd.R_far (p := ⟨gb1221, 3, none⟩) (Kd.R_far (p := ⟨gb1221, 2, none⟩) (Kd.R_far (p := ⟨gb1221, 1, none⟩) (Kd.R_far (p := ⟨gb1221, 0, none⟩) (Kd.R_types HO_1176001.out BK1221.out (by decide)) (fun _ hk => hk.2) (.slice Ao86 t1208.length co86)) (fun _ hk => hk.2) (.slice Ao90 t1211.length co90)) (fun _ hk => hk.2) (.slice Ao91 t1214.length co91)) (fun _ hk => hk.2) (.slice Ao92 t1217.length co92)) (fun _ hk => by simp only [ne_eq] at hk ⊢; simp only [hk, not_false_eq_true, and_self]))⟩
           have n2_ : Aside0 (Kd.R (Kd.int .i64) 3 ((((w85.setCell ⟨gb1221, 0, none⟩ (.slice Ao86 t1208.length co86)).setCell ⟨gb1221, 1, none⟩ (.slice Ao90 t1211.length co90)).setCell ⟨gb1221, 2, none⟩ (.slice Ao91 t1214.length co91)).setCell ⟨gb1221, 3, none⟩ (.slice Ao92 t1217.length co92)) w.heap.size (fun k_ => some k_ ≠ (.slice Ao9 t1163.length co9 : Value).ownBlock ∧ some k_ ≠ (.slice Ao11 t1166.length co11 : Value).ownBlock ∧ some k_ ≠ (.slice Ao13 t1172.length co13 : Value).ownBlock ∧ some k_ ≠ (.slice Ao16 t1176.length co16 : Value).ownBlock ∧ some k_ ≠ (.slice Ao19 t1179.length co19 : Value).ownBlock ∧ some k_ ≠ (.slice Ao20 t1182.length co20 : Value).ownBlock ∧ some k_ ≠ (.slice Ao21 t1185.length co21 : Value).ownBlock ∧ some k_ ≠ (.slice Ao86 t1208.length co86 : Value).ownBlock ∧ some k_ ≠ (.slice Ao90 t1211.length co90 : Value).ownBlock ∧ some k_ ≠ (.slice Ao91 t1214.length co91 : Value).ownBlock ∧ some k_ ≠ (.slice Ao92 t1217.length co92 : Value).ownBlock) (.slice Ao12 t1169.length co12) t1169) := ⟨rl (Kd.R_mono (Kd.R_far (p := ⟨gb1221, 3, none⟩) (Kd.R_far (p := ⟨gb1221, 2, none⟩) (Kd.R_far (p := ⟨gb1221, 1, none⟩) (Kd.R_far (p := ⟨gb1221, 0, none⟩) (Kd.R_types HO_1176002.out BK1221.out (by decide)) (fun _ hk => hk.2) (.slice Ao86 t1208.length co86)) (fun _ hk => hk.2) (.slice Ao90 t1211.length co90)) (fun _ hk => hk.2) (.slice Ao91 t1214.length co91)) (fun _ hk => hk.2) (.slice Ao92 t1217.length co92)) (fun _ hk => by simp only [ne_eq] at hk ⊢; simp only [hk, not_false_eq_true, and_self]))⟩
           have n3_ : Aside0 (Kd.R (Kd.int .i64) 3 ((((w85.setCell ⟨gb1221, 0, none⟩ (.slice Ao86 t1208.length co86)).setCell ⟨gb1221, 1, none⟩ (.slice Ao90 t1211.length co90)).setCell ⟨gb1221, 2, none⟩ (.slice Ao91 t1214.length co91)).setCell ⟨gb1221, 3, none⟩ (.slice Ao92 t1217.length co92)) w.heap.size (fun k_ => some k_ ≠ (.slice Ao9 t1163.length co9 : Value).ownBlock ∧ some k_ ≠ (.slice Ao11 t1166.length co11 : Value).ownBlock ∧ some k_ ≠ (.slice Ao12 t1169.length co12 : Value).ownBlock ∧ some k_ ≠ (.slice Ao16 t1176.length co16 : Value).ownBlock ∧ some k_ ≠ (.slice Ao19 t1179.length co19 : Value).ownBlock ∧ some k_ ≠ (.slice Ao20 t1182.length co20 : Value).ownBlock ∧ some k_ ≠ (.slice Ao21 t1185.length co21 : Value).ownBlock ∧ some k_ ≠ (.slice Ao86 t1208.length co86 : Value).ownBlock ∧ some k_ ≠ (.slice Ao90 t1211.length co90 : Value).ownBlock ∧ some k_ ≠ (.slice Ao91 t1214.length co91 : Value).ownBlock ∧ some k_ ≠ (.slice Ao92 t1217.length co92 : Value).ownBlock) (.slice Ao13 t1172.length co13) t1172) := ⟨rl (Kd.R_mono (Kd.R_far (p := ⟨gb1221, 3, none⟩) (Kd.R_far (p := ⟨gb1221, 2, none⟩) (Kd.R_far (p := ⟨gb1221, 1, none⟩) (Kd.R_far (p := ⟨gb1221, 0, none⟩) (Kd.R_types HO_1176003.out BK1221.out (by decide)) (fun _ hk => hk.2) (.slice Ao86 t1208.length co86)) (fun _ hk => hk.2) (.slice Ao90 t1211.length co90)) (fun _ hk => hk.2) (.slice Ao91 t1214.length co91)) (fun _ hk => hk.2) (.slice Ao92 t1217.length co92)) (fun _ hk => by simp only [ne_eq] at hk ⊢; simp only [hk, not_false_eq_true, and_self]))⟩
           have n4_ : Aside0 (Kd.R (Kd.int .i64) 3 ((((w85.setCell ⟨gb1221, 0, none⟩ (.slice Ao86 t1208.length co86)).setCell ⟨gb1221, 1, none⟩ (.slice Ao90 t1211.length co90)).setCell ⟨gb1221, 2, none⟩ (.slice Ao91 t1214.length co91)).setCell ⟨gb1221, 3, none⟩ (.slice Ao92 t1217.length co92)) w.heap.size (fun k_ => some k_ ≠ (.slice Ao9 t1163.length co9 : Value).ownBlock ∧ some k_ ≠ (.slice Ao11 t1166.length co11 : Value).ownBlock ∧ some k_ ≠ (.slice Ao12 t1169.length co12 : Value).ownBlock ∧ some k_ ≠ (.slice Ao13 t1172.length co13 : Value).ownBlock ∧ some k_ ≠ (.slice Ao19 t1179.length co19 : Value).ownBlock ∧ some k_ ≠ (.slice Ao20 t1182.length co20 : Value).ownBlock ∧ some k_ ≠ (.slice Ao21 t1185.length co21 : Value).ownBlock ∧ some k_ ≠ (.slice Ao86 t1208.length co86 : Value).ownBlock ∧ some k_ ≠ (.slice Ao90 t1211.length co90 : Value).ownBlock ∧ some k_ ≠ (.slice Ao91 t1214.length co91 : Value).ownBlock ∧ some k_ ≠ (.slice Ao92 t1217.length co92 : Value).ownBlock) (.slice Ao16 t1176.length co16) t1176) := ⟨rl (Kd.R_mono (Kd.R_far (p := ⟨gb1221, 3, none⟩) (Kd.R_far (p := ⟨gb1221, 2, none⟩) (Kd.R_far (p := ⟨gb1221, 1, none⟩) (Kd.R_far (p := ⟨gb1221, 0, none⟩) (Kd.R_types HO_1190000.out BK1221.out (by decide)) (fun _ hk => hk.2) (.slice Ao86 t1208.length co86)) (fun _ hk => hk.2) (.slice Ao90 t1211.length co90)) (fun _ hk => hk.2) (.slice Ao91 t1214.length co91)) (fun _ hk => hk.2) (.slice Ao92 t1217.length co92)) (fun _ hk => by simp only [ne_eq] at hk ⊢; simp only [hk, not_false_eq_true, and_self]))⟩
           have n5_ : Aside0 (Kd.R (Kd.int .i64) 3 ((((w85.setCell ⟨gb1221, 0, none⟩ (.slice Ao86 t1208.length co86)).setCell ⟨gb1221, 1, none⟩ (.slice Ao90 t1211.length co90)).setCell ⟨gb1221, 2, none⟩ (.slice Ao91 t1214.length co91)).setCell ⟨gb1221, 3, none⟩ (.slice Ao92 t1217.length co92)) w.heap.size (fun k_ => some k_ ≠ (.slice Ao9 t1163.length co9 : Value).ownBlock ∧ some k_ ≠ (.slice Ao11 t1166.length co11 : Value).ownBlock ∧ some k_ ≠ (.slice Ao12 t1169.length co12 : Value).ownBlock ∧ some k_ ≠ (.slice Ao13 t1172.length co13 : Value).ownBlock ∧ some k_ ≠ (.slice Ao16 t1176.length co16 : Value).ownBlock ∧ some k_ ≠ (.slice Ao20 t1182.length co20 : Value).ownBlock ∧ some k_ ≠ (.slice Ao21 t1185.length co21 : Value).ownBlock ∧ some k_ ≠ (.slice Ao86 t1208.length co86 : Value).ownBlock ∧ some k_ ≠ (.slice Ao90 t1211.length co90 : Value).ownBlock ∧ some k_ ≠ (.slice Ao91 t1214.length co91 : Value).ownBlock ∧ some k_ ≠ (.slice Ao92 t1217.length co92 : Value).ownBlock) (.slice Ao19 t1179.length co19) t1179) := ⟨rl (Kd.R_mono (Kd.R_far (p := ⟨gb1221, 3, none⟩) (Kd.R_far (p := ⟨gb1221, 2, none⟩) (Kd.R_far (p := ⟨gb1221, 1, none⟩) (Kd.R_far (p := ⟨gb1221, 0, none⟩) (Kd.R_types HO_1190001.out BK1221.out (by decide)) (fun _ hk => hk.2) (.slice Ao86 t1208.length co86)) (fun _ hk => hk.2) (.slice Ao90 t1211.length co90)) (fun _ hk => hk.2) (.slice Ao91 t1214.length co91)) (fun _ hk => hk.2) (.slice Ao92 t1217.length co92)) (fun _ hk => by simp only [ne_eq] at hk ⊢; simp only [hk, not_false_eq_true, and_self]))⟩
           have n6_ : Aside0 (Kd.R (Kd.int .i64) 3 ((((w85.setCell ⟨gb1221, 0, none⟩ (.slice Ao86 t1208.length co86)).setCell ⟨gb1221, 1, none⟩ (.slice Ao90 t1211.length co90)).setCell ⟨gb1221, 2, none⟩ (.slice Ao91 t1214.length co91)).setCell ⟨gb1221, 3, none⟩ (.slice Ao92 t1217.length co92)) w.heap.size (fun k_ => some k_ ≠ (.slice Ao9 t1163.length co9 : Value).ownBlock ∧ some k_ ≠ (.slice Ao11 t1166.length co11 : Value).ownBlock ∧ some k_ ≠ (.slice Ao12 t1169.length co12 : Value).ownBlock ∧ some k_ ≠ (.slice Ao13 t1172.length co13 : Value).ownBlock ∧ some k_ ≠ (.slice Ao16 t1176.length co16 : Value).ownBlock ∧ some k_ ≠ (.slice Ao19 t1179.length co19 : Value).ownBlock ∧ some k_ ≠ (.slice Ao21 t1185.length co21 : Value).ownBlock ∧ some k_ ≠ (.slice Ao86 t1208.length co86 : Value).ownBlock ∧ some k_ ≠ (.slice Ao90 t1211.length co90 : Value).ownBlock ∧ some k_ ≠ (.slice Ao91 t1214.length co91 : Value).ownBlock ∧ some k_ ≠ (.slice Ao92 t1217.length co92 : Value).ownBlock) (.slice Ao20 t1182.length co20) t1182) := ⟨rl (Kd.R_mono (Kd.R_far (p := ⟨gb1221, 3, none⟩) (Kd.R_far (p := ⟨gb1221, 2, none⟩) (Kd.R_far (p := ⟨gb1221, 1, none⟩) (Kd.R_far (p := ⟨gb1221, 0, none⟩) (Kd.R_types HO_1190002.out BK1221.out (by decide)) (fun _ hk => hk.2) (.slice Ao86 t1208.length co86)) (fun _ hk => hk.2) (.slice Ao90 t1211.length co90)) (fun _ hk => hk.2) (.slice Ao91 t1214.length co91)) (fun _ hk => hk.2) (.slice Ao92 t1217.length co92)) (fun _ hk => by simp only [ne_eq] at hk ⊢; simp only [hk, not_false_eq_true, and_self]))⟩
           have n7_ : Aside0 (Kd.R (Kd.int .i64) 3 ((((w85.setCell ⟨gb1221, 0, none⟩ (.slice Ao86 t1208.length co86)).setCell ⟨gb1221, 1, none⟩ (.slice Ao90 t1211.length co90)).setCell ⟨gb1221, 2, none⟩ (.slice Ao91 t1214.length co91)).setCell ⟨gb1221, 3, none⟩ (.slice Ao92 t1217.length co92)) w.heap.size (fun k_ => some k_ ≠ (.slice Ao9 t1163.length co9 : Value).ownBlock ∧ some k_ ≠ (.slice Ao11 t1166.length co11 : Value).ownBlock ∧ some k_ ≠ (.slice Ao12 t1169.length co12 : Value).ownBlock ∧ some k_ ≠ (.slice Ao13 t1172.length co13 : Value).ownBlock ∧ some k_ ≠ (.slice Ao16 t1176.length co16 : Value).ownBlock ∧ some k_ ≠ (.slice Ao19 t1179.length co19 : Value).ownBlock ∧ some k_ ≠ (.slice Ao20 t1182.length co20 : Value).ownBlock ∧ some k_ ≠ (.slice Ao86 t1208.length co86 : Value).ownBlock ∧ some k_ ≠ (.slice Ao90 t1211.length co90 : Value).ownBlock ∧ some k_ ≠ (.slice Ao91 t1214.length co91 : Value).ownBlock ∧ some k_ ≠ (.slice Ao92 t1217.length co92 : Value).ownBlock) (.slice Ao21 t1185.length co21) t1185) := ⟨rl (Kd.R_mono (Kd.R_far (p := ⟨gb1221, 3, none⟩) (Kd.R_far (p := ⟨gb1221, 2, none⟩) (Kd.R_far (p := ⟨gb1221, 1, none⟩) (Kd.R_far (p := ⟨gb1221, 0, none⟩) (Kd.R_types HO_1190003.out BK1221.out (by decide)) (fun _ hk => hk.2) (.slice Ao86 t1208.length co86)) (fun _ hk => hk.2) (.slice Ao90 t1211.length co90)) (fun _ hk => hk.2) (.slice Ao91 t1214.length co91)) (fun _ hk => hk.2) (.slice Ao92 t1217.length co92)) (fun _ hk => by simp only [ne_eq] at hk ⊢; simp only [hk, not_false_eq_true, and_self]))⟩
           have n8_ : Aside0 (Kd.R (Kd.int .i64) 3 ((((w85.setCell ⟨gb1221, 0, none⟩ (.slice Ao86 t1208.length co86)).setCell ⟨gb1221, 1, none⟩ (.slice Ao90 t1211.length co90)).setCell ⟨gb1221, 2, none⟩ (.slice Ao91 t1214.length co91)).setCell ⟨gb1221, 3, none⟩ (.slice Ao92 t1217.length co92)) w.heap.size (fun k_ => some k_ ≠ (.slice Ao9 t1163.length co9 : Value).ownBlock ∧ some k_ ≠ (.slice Ao11 t1166.length co11 : Value).ownBlock ∧ some k_ ≠ (.slice Ao12 t1169.length co12 : Value).ownBlock ∧ some k_ ≠ (.slice Ao13 t1172.length co13 : Value).ownBlock ∧ some k_ ≠ (.slice Ao16 t1176.length co16 : Value).ownBlock ∧ some k_ ≠ (.slice Ao19 t1179.length co19 : Value).ownBlock ∧ some k_ ≠ (.slice Ao20 t1182.length co20 : Value).ownBlock ∧ some k_ ≠ (.slice Ao21 t1185.length co21 : Value).ownBlock ∧ some k_ ≠ (.slice Ao90 t1211.length co90 : Value).ownBlock ∧ some k_ ≠ (.slice Ao91 t1214.length co91 : Value).ownBlock ∧ some k_ ≠ (.slice Ao92 t1217.length co92 : Value).ownBlock) (.slice Ao86 t1208.length co86) t1208) := ⟨rl (Kd.R_mono (Kd.R_far (p := ⟨gb1221, 3, none⟩) (Kd.R_far (p := ⟨gb1221, 2, none⟩) (Kd.R_far (p := ⟨gb1221, 1, none⟩) (Kd.R_far (p := ⟨gb1221, 0, none⟩) (Kd.R_types HO1210.out BK1221.out (by decide)) (fun _ hk => hk.2) (.slice Ao86 t1208.length co86)) (fun _ hk => hk.2) (.slice Ao90 t1211.length co90)) (fun _ hk => hk.2) (.slice Ao91 t1214.length co91)) (fun _ hk => hk.2) (.slice Ao92 t1217.length co92)) (fun _ hk => by simp only [ne_eq] at hk ⊢; simp only [hk, not_false_eq_true, and_self]))⟩
           have n9_ : Aside0 (Kd.R (Kd.int .i64) 3 ((((w85.setCell ⟨gb1221, 0, none⟩ (.slice Ao86 t1208.length co86)).setCell ⟨gb1221, 1, none⟩ (.slice Ao90 t1211.length co90)).setCell ⟨gb1221, 2, none⟩ (.slice Ao91 t1214.length co91)).setCell ⟨gb1221, 3, none⟩ (.slice Ao92 t1217.length co92)) w.heap.size (fun k_ => some k_ ≠ (.slice Ao9 t1163.length co9 : Value).ownBlock ∧ some k_ ≠ (.slice Ao11 t1166.length co11 : Value).ownBlock ∧ some k_ ≠ (.slice Ao12 t1169.length co12 : Value).ownBlock ∧ some k_ ≠ (.slice Ao13 t1172.length co13 : Value).ownBlock ∧ some k_ ≠ (.slice Ao16 t1176.length co16 : Value).ownBlock ∧ some k_ ≠ (.slice Ao19 t1179.length co19 : Value).ownBlock ∧ some k_ ≠ (.slice Ao20 t1182.length co20 : Value).ownBlock ∧ some k_ ≠ (.slice Ao21 t1185.length co21 : Value).ownBlock ∧ some k_ ≠ (.slice Ao86 t1208.length co86 : Value).ownBlock ∧ some k_ ≠ (.slice Ao91 t1214.length co91 : Value).ownBlock ∧ some k_ ≠ (.slice Ao92 t1217.length co92 : Value).ownBlock) (.slice Ao90 t1211.length co90) t1211) := ⟨rl (Kd.R_mono (Kd.R_far (p := ⟨gb1221, 3, none⟩) (Kd.R_far (p := ⟨gb1221, 2, none⟩) (Kd.R_far (p := ⟨gb1221, 1, none⟩) (Kd.R_far (p := ⟨gb1221, 0, none⟩) (Kd.R_types HO1213.out BK1221.out (by decide)) (fun _ hk => hk.2) (.slice Ao86 t1208.length co86)) (fun _ hk => hk.2) (.slice Ao90 t1211.length co90)) (fun _ hk => hk.2) (.slice Ao91 t1214.length co91)) (fun _ hk => hk.2) (.slice Ao92 t1217.length co92)) (fun _ hk => by simp only [ne_eq] at hk ⊢; simp only [hk, not_false_eq_true, and_self]))⟩
           have n10_ : Aside0 (Kd.R (Kd.int .i64) 3 ((((w85.setCell ⟨gb1221, 0, none⟩ (.slice Ao86 t1208.length co86)).setCell ⟨gb1221, 1, none⟩ (.slice Ao90 t1211.length co90)).setCell ⟨gb1221, 2, none⟩ (.slice Ao91 t1214.length co91)).setCell ⟨gb1221, 3, none⟩ (.slice Ao92 t1217.length co92)) w.heap.size (fun k_ => some k_ ≠ (.slice Ao9 t1163.length co9 : Value).ownBlock ∧ some k_ ≠ (.slice Ao11 t1166.length co11 : Value).ownBlock ∧ some k_ ≠ (.slice Ao12 t1169.length co12 : Value).ownBlock ∧ some k_ ≠ (.slice Ao13 t1172.length co13 : Value).ownBlock ∧ some k_ ≠ (.slice Ao16 t1176.length co16 : Value).ownBlock ∧ some k_ ≠ (.slice Ao19 t1179.length co19 : Value).ownBlock ∧ some k_ ≠ (.slice Ao20 t1182.length co20 : Value).ownBlock ∧ some k_ ≠ (.slice Ao21 t1185.length co21 : Value).ownBlock ∧ some k_ ≠ (.slice Ao86 t1208.length co86 : Value).ownBlock ∧ some k_ ≠ (.slice Ao90 t1211.length co90 : Value).ownBlock ∧ some k_ ≠ (.slice Ao92 t1217.length co92 : Value).ownBlock) (.slice Ao91 t1214.length co91) t1214) := ⟨rl (Kd.R_mono (Kd.R_far (p := ⟨gb1221, 3, none⟩) (Kd.R_far (p := ⟨gb1221, 2, none⟩) (Kd.R_far (p := ⟨gb1221, 1, none⟩) (Kd.R_far (p := ⟨gb1221, 0, none⟩) (Kd.R_types HO1216.out BK1221.out (by decide)) (fun _ hk => hk.2) (.slice Ao86 t1208.length co86)) (fun _ hk => hk.2) (.slice Ao90 t1211.length co90)) (fun _ hk => hk.2) (.slice Ao91 t1214.length co91)) (fun _ hk => hk.2) (.slice Ao92 t1217.length co92)) (fun _ hk => by simp only [ne_eq] at hk ⊢; simp only [hk, not_false_eq_true, and_self]))⟩
           have n11_ : Aside0 (Kd.R (Kd.int .i64) 3 ((((w85.setCell ⟨gb1221, 0, none⟩ (.slice Ao86 t1208.length co86)).setCell ⟨gb1221, 1, none⟩ (.slice Ao90 t1211.length co90)).setCell ⟨gb1221, 2, none⟩ (.slice Ao91 t1214.length co91)).setCell ⟨gb1221, 3, none⟩ (.slice Ao92 t1217.length co92)) w.heap.size (fun k_ => some k_ ≠ (.slice Ao9 t1163.length co9 : Value).ownBlock ∧ some k_ ≠ (.slice Ao11 t1166.length co11 : Value).ownBlock ∧ some k_ ≠ (.slice Ao12 t1169.length co12 : Value).ownBlock ∧ some k_ ≠ (.slice Ao13 t1172.length co13 : Value).ownBlock ∧ some k_ ≠ (.slice Ao16 t1176.length co16 : Value).ownBlock ∧ some k_ ≠ (.slice Ao19 t1179.length co19 : Value).ownBlock ∧ some k_ ≠ (.slice Ao20 t1182.length co20 : Value).ownBlock ∧ some k_ ≠ (.slice Ao21 t1185.length co21 : Value).ownBlock ∧ some k_ ≠ (.slice Ao86 t1208.length co86 : Value).ownBlock ∧ some k_ ≠ (.slice Ao90 t1211.length co90 : Value).ownBlock ∧ some k_ ≠ (.slice Ao91 t1214.length co91 : Value).ownBlock) (.slice Ao92 t1217.length co92) t1217) := ⟨rl (Kd.R_mono (Kd.R_far (p := ⟨gb1221, 3, none⟩) (Kd.R_far (p := ⟨gb1221, 2, none⟩) (Kd.R_far (p := ⟨gb1221, 1, none⟩) (Kd.R_far (p := ⟨gb1221, 0, none⟩) (Kd.R_types HO1219.out BK1221.out (by decide)) (fun _ hk => hk.2) (.slice Ao86 t1208.length co86)) (fun _ hk => hk.2) (.slice Ao90 t1211.length co90)) (fun _ hk => hk.2) (.slice Ao91 t1214.length co91)) (fun _ hk => hk.2) (.slice Ao92 t1217.length co92)) (fun _ hk => by simp only [ne_eq] at hk ⊢; simp only [hk, not_false_eq_true, and_self]))⟩
           have n12_ : Aside0 (((((w85.setCell ⟨gb1221, 0, none⟩ (.slice Ao86 t1208.length co86)).setCell ⟨gb1221, 1, none⟩ (.slice Ao90 t1211.length co90)).setCell ⟨gb1221, 2, none⟩ (.slice Ao91 t1214.length co91)).setCell ⟨gb1221, 3, none⟩ (.slice Ao92 t1217.length co92)).heap[gb1175]? = some (.cells #[.slice Ao9 t1163.length co9, .slice Ao11 t1166.length co11, .slice Ao12 t1169.length co12, .slice Ao13 t1172.length co13] 30 (0, 0))) := ⟨kf1 NB1175_1221.out BK1175.out⟩
           have n13_ : Aside0 (((((w85.setCell ⟨gb1221, 0, none⟩ (.slice Ao86 t1208.length co86)).setCell ⟨gb1221, 1, none⟩ (.slice Ao90 t1211.length co90)).setCell ⟨gb1221, 2, none⟩ (.slice Ao91 t1214.length co91)).setCell ⟨gb1221, 3, none⟩ (.slice Ao92 t1217.length co92)).heap[gb1189]? = some (.cells #[.slice Ao16 t1176.length co16, .slice Ao19 t1179.length co19, .slice Ao20 t1182.length co20, .slice Ao21 t1185.length co21] 30 (0, 0))) := ⟨kf1 NB1189_1221.out BK1189.out⟩
           have n14_ : Aside0 (((((w85.setCell ⟨gb1221, 0, none⟩ (.slice Ao86 t1208.length co86)).setCell ⟨gb1221, 1, none⟩ (.slice Ao90 t1211.length co90)).setCell ⟨gb1221, 2, none⟩ (.slice Ao91 t1214.length co91)).setCell ⟨gb1221, 3, none⟩ (.slice Ao92 t1217.length co92)).heap[gb1221]? = some (.cells #[.slice Ao86 t1208.length co86, .slice Ao90 t1211.length co90, .slice Ao91 t1214.length co91, .slice Ao92 t1217.length co92] 30 (0, 0))) := ⟨kp4 (kf0 BK1221.out)⟩
           have n15_ : Aside0 (Below w.heap.size w ((((w85.setCell ⟨gb1221, 0, none⟩ (.slice Ao86 t1208.length co86)).setCell ⟨gb1221, 1, none⟩ (.slice Ao90 t1211.length co90)).setCell ⟨gb1221, 2, none⟩ (.slice Ao91 t1214.length co91)).setCell ⟨gb1221, 3, none⟩ (.slice Ao92 t1217.length co92))) := ⟨by exact bs3 GE1175.out GE1189.out GE1221.out HB.out⟩
           (try clear HO_1176000)
           (try clear HO_1176001)
           (try clear HO_1176002)
           (try clear HO_1176003)
           (try clear HO_1190000)
           (try clear HO_1190001)
           (try clear HO_1190002)
           (try clear HO_1190003)
           (try clear HO1210)
           (try clear HO1213)
           (try clear HO1216)
           (try clear HO1219)
           (try clear BK1175)
           (try clear BK1189)
           (try clear BK1221)
           (try clear HB)
           generalize ((((w85.setCell ⟨gb1221, 0, none⟩ (.slice Ao86 t1208.length co86)).setCell ⟨gb1221, 1, none⟩ (.slice Ao90 t1211.length co90)).setCell ⟨gb1221, 2, none⟩ (.slice Ao91 t1214.length co91)).setCell ⟨gb1221, 3, none⟩ (.slice Ao92 t1217.length co92)) = w93 at n0_ n1_ n2_ n3_ n4_ n5_ n6_ n7_ n8_ n9_ n10_ n11_ n12_ n13_ n14_ n15_ ⊢
           have HO_1176000 := n0_
           have HO_1176001 := n1_
           have HO_1176002 := n2_
           have HO_1176003 := n3_
           have HO_1190000 := n4_
           have HO_1190001 := n5_
           have HO_1190002 := n6_
           have HO_1190003 := n7_
           have HO1210 := n8_
           have HO1213 := n9_
           have HO1216 := n10_
           have HO1219 := n11_
           have BK1175 := n12_
           have BK1189 := n13_
           have BK1221 := n14_
           have HB := n15_
           clear n0_ n1_ n2_ n3_ n4_ n5_ n6_ n7_ n8_ n9_ n10_ n11_ n12_ n13_ n14_ n15_
           replace HO_1176000 := am (Kd.R_drew HO_1176000.out)
           replace HO_1176001 := am (Kd.R_drew HO_1176001.out)
           replace HO_1176002 := am (Kd.R_drew HO_1176002.out)
           replace HO_1176003 := am (Kd.R_drew HO_1176003.out)
           replace HO_1190000 := am (Kd.R_drew HO_1190000.out)
           replace HO_1190001 := am (Kd.R_drew HO_1190001.out)
           replace HO_1190002 := am (Kd.R_drew HO_1190002.out)
           replace HO_1190003 := am (Kd.R_drew HO_1190003.out)
           replace HO1210 := am (Kd.R_drew HO1210.out)
           replace HO1213 := am (Kd.R_drew HO1213.out)
           replace HO1216 := am (Kd.R_drew HO1216.out)
           replace HO1219 := am (Kd.R_drew HO1219.out)
           replace BK1175 := am (blk_drew BK1175.out)
           replace BK1189 := am (blk_drew BK1189.out)
           replace BK1221 := am (blk_drew BK1221.out)
           replace HB := am (below_drew1 HB.out)
           refine start_ (n := 18) (S := fun w' => w'.cell? ⟨gb1189, 0, none⟩ = some (.slice Ao16 t1176.length co16) ∧ w'.cell? ⟨gb1189, 1, none⟩ = some (.slice Ao19 t1179.length co19) ∧ w'.cell? ⟨gb1189, 2, none⟩ = some (.slice Ao20 t1182.length co20) ∧ w'.cell? ⟨gb1189, 3, none⟩ = some (.slice Ao21 t1185.length co21) ∧ w'.cell? ⟨gb1221, 0, none⟩ = some (.slice Ao86 t1208.length co86) ∧ w'.cell? ⟨gb1221, 1, none⟩ = some (.slice Ao90 t1211.length co90) ∧ w'.cell? ⟨gb1221, 2, none⟩ = some (.slice Ao91 t1214.length co91) ∧ w'.cell? ⟨gb1221, 3, none⟩ = some (.slice Ao92 t1217.length co92) ∧ w'.cell? ⟨gb1175, 0, none⟩ = some (.slice Ao9 t1163.length co9) ∧ w'.cell? ⟨gb1175, 1, none⟩ = some (.slice Ao11 t1166.length co11) ∧ w'.cell? ⟨gb1175, 2, none⟩ = some (.slice Ao12 t1169.length co12) ∧ w'.cell? ⟨gb1175, 3, none⟩ = some (.slice Ao13 t1172.length co13)) (ds := []) #[false, false, false, false, false, false, false, false, false, false, false, false, false, false, false, false, false, false] (by kernel_rfl) rfl rfl ⟨(blk_cell BK1189.out 0).trans rfl, (blk_cell BK1189.out 1).trans rfl, (blk_cell BK1189.out 2).trans rfl, (blk_cell BK1189.out 3).trans rfl, (blk_cell BK1221.out 0).trans rfl, (blk_cell BK1221.out 1).trans rfl, (blk_cell BK1221.out 2).trans rfl, (blk_cell BK1221.out 3).trans rfl, (blk_cell BK1175.out 0).trans rfl, (blk_cell BK1175.out 1).trans rfl, (blk_cell BK1175.out 2).trans rfl, (blk_cell BK1175.out 3).trans rfl⟩ (fun hHeld => ?_); refine with_tabW laws_FnShadeRoots.tab15 laws_FnShadeRoots.bits15 (fun HT_ HW_ => ?_)
           generalize w93.drew = w94 at HO_1176000 HO_1176001 HO_1176002 HO_1176003 HO_1190000 HO_1190001 HO_1190002 HO_1190003 HO1210 HO1213 HO1216 HO1219 BK1175 BK1189 BK1221 HB hHeld ⊢
           refine take_ (i := 0) (N := some 77) (v := ?_) (a' := ?_) #[true, false, false, false, false, false, false, false, false, false, false, false, false, false, false, false, false, false] rfl rfl (take_ofW HT_.out HW_.out (by kernel_rfl)) (fun _ _ _ h => h) (Or.inl ⟨by rfl, ?_⟩) hHeld ?_ ?_
           rotate_left
           ·rintro w' ⟨s0, s1, s2, s3, s4, s5, s6, s7, s8, s9, s10, s11⟩
            go_simp
            with_reducible rfl
           rotate_left
           ·simp only [Act.put, List.setIfInBounds_toArray, List.set_cons_zero, List.set_cons_succ, i64_w, i32_w]
            rfl
           refine one_ (i := 1) (N := some 78) #[true, true, false, false, false, false, false, false, false, false, false, false, false, false, false, false, false, false] rfl rfl (one_of HT_.out (by kernel_rfl)) (by decide) (fun K hK => ?_)
           refine goes_ Try.func29 (by kernel_rfl) rfl #[.agg #[.slice Ao16 t1176.length co16, .slice Ao19 t1179.length co19, .slice Ao20 t1182.length co20, .slice Ao21 t1185.length co21]] (by rfl) rfl rfl (by (try simp only [List.map_toArray, List.map_cons, List.map_nil]); first | done | rfl | (simp only [List.length_drop, List.length_take]; rfl)) ?_
           with_reducible refine (impl_ColoredValid.calls k2 _ _ t1176 _ _ t1179 _ _ t1182 _ _ t1185 true _ ?side1 ?side2 ?side3 ?side4 ?side5 ?side6 ?side7 ?side8 A74.out).mono ?_
           (case side1 => exact cl ((Kd.R_reads' HO_1190000.out).2.2))
           (case side2 => exact sc HO_1190000)
           (case side3 => exact cl ((Kd.R_reads' HO_1190001.out).2.2))
           (case side4 => exact sc HO_1190001)
           (case side5 => exact cl ((Kd.R_reads' HO_1190002.out).2.2))
           (case side6 => exact sc HO_1190002)
           (case side7 => exact cl ((Kd.R_reads' HO_1190003.out).2.2))
           (case side8 => exact sc HO_1190003)
           rintro e w95 ⟨rfl, hb⟩
           refine ⟨_, rfl, ?_⟩
           replace HO_1176000 := rb HO_1176000 hb
           replace HO_1176001 := rb HO_1176001 hb
           replace HO_1176002 := rb HO_1176002 hb
           replace HO_1176003 := rb HO_1176003 hb
           replace HO_1190000 := rb HO_1190000 hb
           replace HO_1190001 := rb HO_1190001 hb
           replace HO_1190002 := rb HO_1190002 hb
           replace HO_1190003 := rb HO_1190003 hb
           replace HO1210 := rb HO1210 hb
           replace HO1213 := rb HO1213 hb
           replace HO1216 := rb HO1216 hb
           replace HO1219 := rb HO1219 hb
           replace BK1175 := bb BK1175 hb
           replace BK1189 := bb BK1189 hb
           replace BK1221 := bb BK1221 hb
           replace HB := am (below_step (bs3 GE1175.out GE1189.out GE1221.out HB.out) hb)
           (try clear hb)
           refine hK.out _ _ ⟨(blk_cell BK1189.out 0).trans rfl, (blk_cell BK1189.out 1).trans rfl, (blk_cell BK1189.out 2).trans rfl, (blk_cell BK1189.out 3).trans rfl, (blk_cell BK1221.out 0).trans rfl, (blk_cell BK1221.out 1).trans rfl, (blk_cell BK1221.out 2).trans rfl, (blk_cell BK1221.out 3).trans rfl, (blk_cell BK1175.out 0).trans rfl, (blk_cell BK1175.out 1).trans rfl, (blk_cell BK1175.out 2).trans rfl, (blk_cell BK1175.out 3).trans rfl⟩ (fun hHeld => ?_)
           clear hK K
           refine norm_ (a' := ?_) ?_ ?_
           rotate_left
           ·show Act.put _ (some 78) _ = _
            simp only [Act.put, List.setIfInBounds_toArray, List.set_cons_zero, List.set_cons_succ, i64_w, i32_w]
            rfl
           refine pure_ (i := 2) (N := some 79) (v := ?_) (a' := ?_) #[true, true, true, false, false, false, false, false, false, false, false, false, false, false, false, false, false, false] rfl rfl (any_of HT_.out (by kernel_rfl)) (fun _ _ _ h => h) (Or.inl ⟨by rfl, ?_⟩) ?_ ?_
           rotate_left
           ·intro w'
            go_simp
            with_reducible rfl
           rotate_left
           ·simp only [Act.put, List.setIfInBounds_toArray, List.set_cons_zero, List.set_cons_succ, i64_w, i32_w]
            rfl
           refine pure_ (i := 3) (N := some 80) (v := ?_) (a' := ?_) #[true, true, true, true, false, false, false, false, false, false, false, false, false, false, false, false, false, false] rfl rfl (any_of HT_.out (by kernel_rfl)) (fun _ _ _ h => h) (Or.inl ⟨by rfl, ?_⟩) ?_ ?_
           rotate_left
           ·intro w'
            go_simp
            with_reducible rfl
           rotate_left
           ·simp only [Act.put, List.setIfInBounds_toArray, List.set_cons_zero, List.set_cons_succ, i64_w, i32_w]
            rfl
           refine pure_ (i := 4) (N := some 81) (v := ?_) (a' := ?_) #[true, true, true, true, true, false, false, false, false, false, false, false, false, false, false, false, false, false] rfl rfl (any_of HT_.out (by kernel_rfl)) (fun _ _ _ h => h) (Or.inl ⟨by rfl, ?_⟩) ?_ ?_
           rotate_left
           ·intro w'
            go_simp
            with_reducible rfl
           rotate_left
           ·simp only [Act.put, List.setIfInBounds_toArray, List.set_cons_zero, List.set_cons_succ, i64_w, i32_w]
            rfl
           refine pure_ (i := 5) (N := some 82) (v := ?_) (a' := ?_) #[true, true, true, true, true, true, false, false, false, false, false, false, false, false, false, false, false, false] rfl rfl (any_of HT_.out (by kernel_rfl)) (fun _ _ _ h => h) (Or.inl ⟨by rfl, ?_⟩) ?_ ?_
           rotate_left
           ·intro w'
            go_simp
            with_reducible rfl
           rotate_left
           ·simp only [Act.put, List.setIfInBounds_toArray, List.set_cons_zero, List.set_cons_succ, i64_w, i32_w]
            rfl
           refine take_ (i := 6) (N := some 83) (v := ?_) (a' := ?_) #[true, true, true, true, true, true, true, false, false, false, false, false, false, false, false, false, false, false] rfl rfl (take_ofW HT_.out HW_.out (by kernel_rfl)) (fun _ _ _ h => h) (Or.inl ⟨by rfl, ?_⟩) hHeld ?_ ?_
           rotate_left
           ·rintro w' ⟨s0, s1, s2, s3, s4, s5, s6, s7, s8, s9, s10, s11⟩
            go_simp
            with_reducible rfl
           rotate_left
           ·simp only [Act.put, List.setIfInBounds_toArray, List.set_cons_zero, List.set_cons_succ, i64_w, i32_w]
            rfl
           refine take_ (i := 7) (N := some 84) (v := ?_) (a' := ?_) #[true, true, true, true, true, true, true, true, false, false, false, false, false, false, false, false, false, false] rfl rfl (take_ofW HT_.out HW_.out (by kernel_rfl)) (fun _ _ _ h => h) (Or.inl ⟨by rfl, ?_⟩) hHeld ?_ ?_
           rotate_left
           ·rintro w' ⟨s0, s1, s2, s3, s4, s5, s6, s7, s8, s9, s10, s11⟩
            go_simp
            with_reducible rfl
           rotate_left
           ·simp only [Act.put, List.setIfInBounds_toArray, List.set_cons_zero, List.set_cons_succ, i64_w, i32_w]
            rfl
           refine one_ (i := 8) (N := some 85) #[true, true, true, true, true, true, true, true, true, false, false, false, false, false, false, false, false, false] rfl rfl (one_of HT_.out (by kernel_rfl)) (by decide) (fun K hK => ?_)
           refine goes_ Try.func34 (by kernel_rfl) rfl #[.agg #[.slice Ao86 t1208.length co86, .slice Ao90 t1211.length co90, .slice Ao91 t1214.length co91, .slice Ao92 t1217.length co92], .agg #[.slice Ao16 t1176.length co16, .slice Ao19 t1179.length co19, .slice Ao20 t1182.length co20, .slice Ao21 t1185.length co21]] (by rfl) rfl rfl (by (try simp only [List.map_toArray, List.map_cons, List.map_nil]); first | done | rfl | (simp only [List.length_drop, List.length_take]; rfl)) ?_
           with_reducible refine (impl_ColoredSame.calls k2 _ _ t1208 _ _ t1211 _ _ t1214 _ _ t1217 _ _ t1176 _ _ t1179 _ _ t1182 _ _ t1185 true _ ?side1 ?side2 ?side3 ?side4 ?side5 ?side6 ?side7 ?side8 ?side9 ?side10 ?side11 ?side12 ?side13 ?side14 ?side15 ?side16 A77.out).mono ?_
           (case side1 => exact cl ((Kd.R_reads' HO1210.out).2.2))
           (case side2 => exact sc HO1210)
           (case side3 => exact cl ((Kd.R_reads' HO1213.out).2.2))
           (case side4 => exact sc HO1213)
           (case side5 => exact cl ((Kd.R_reads' HO1216.out).2.2))
           (case side6 => exact sc HO1216)
           (case side7 => exact cl ((Kd.R_reads' HO1219.out).2.2))
           (case side8 => exact sc HO1219)
           (case side9 => exact cl ((Kd.R_reads' HO_1190000.out).2.2))
           (case side10 => exact sc HO_1190000)
           (case side11 => exact cl ((Kd.R_reads' HO_1190001.out).2.2))
           (case side12 => exact sc HO_1190001)
           (case side13 => exact cl ((Kd.R_reads' HO_1190002.out).2.2))
           (case side14 => exact sc HO_1190002)
           (case side15 => exact cl ((Kd.R_reads' HO_1190003.out).2.2))
           (case side16 => exact sc HO_1190003)
           rintro e w96 ⟨rfl, hb⟩
           refine ⟨_, rfl, ?_⟩
           replace HO_1176000 := rb HO_1176000 hb
           replace HO_1176001 := rb HO_1176001 hb
           replace HO_1176002 := rb HO_1176002 hb
           replace HO_1176003 := rb HO_1176003 hb
           replace HO_1190000 := rb HO_1190000 hb
           replace HO_1190001 := rb HO_1190001 hb
           replace HO_1190002 := rb HO_1190002 hb
           replace HO_1190003 := rb HO_1190003 hb
           replace HO1210 := rb HO1210 hb
           replace HO1213 := rb HO1213 hb
           replace HO1216 := rb HO1216 hb
           replace HO1219 := rb HO1219 hb
           replace BK1175 := bb BK1175 hb
           replace BK1189 := bb BK1189 hb
           replace BK1221 := bb BK1221 hb
           replace HB := am (below_step (bs3 GE1175.out GE1189.out GE1221.out HB.out) hb)
           (try clear hb)
           refine hK.out _ _ ⟨(blk_cell BK1189.out 0).trans rfl, (blk_cell BK1189.out 1).trans rfl, (blk_cell BK1189.out 2).trans rfl, (blk_cell BK1189.out 3).trans rfl, (blk_cell BK1221.out 0).trans rfl, (blk_cell BK1221.out 1).trans rfl, (blk_cell BK1221.out 2).trans rfl, (blk_cell BK1221.out 3).trans rfl, (blk_cell BK1175.out 0).trans rfl, (blk_cell BK1175.out 1).trans rfl, (blk_cell BK1175.out 2).trans rfl, (blk_cell BK1175.out 3).trans rfl⟩ (fun hHeld => ?_)
           clear hK K
           refine norm_ (a' := ?_) ?_ ?_
           rotate_left
           ·show Act.put _ (some 85) _ = _
            simp only [Act.put, List.setIfInBounds_toArray, List.set_cons_zero, List.set_cons_succ, i64_w, i32_w]
            rfl
           refine pure_ (i := 9) (N := some 86) (v := ?_) (a' := ?_) #[true, true, true, true, true, true, true, true, true, true, false, false, false, false, false, false, false, false] rfl rfl (any_of HT_.out (by kernel_rfl)) (fun _ _ _ h => h) (Or.inl ⟨by rfl, ?_⟩) ?_ ?_
           rotate_left
           ·intro w'
            go_simp
            with_reducible rfl
           rotate_left
           ·simp only [Act.put, List.setIfInBounds_toArray, List.set_cons_zero, List.set_cons_succ, i64_w, i32_w]
            rfl
           refine pure_ (i := 10) (N := some 87) (v := ?_) (a' := ?_) #[true, true, true, true, true, true, true, true, true, true, true, false, false, false, false, false, false, false] rfl rfl (any_of HT_.out (by kernel_rfl)) (fun _ _ _ h => h) (Or.inl ⟨by rfl, ?_⟩) ?_ ?_
           rotate_left
           ·intro w'
            go_simp
            with_reducible rfl
           rotate_left
           ·simp only [Act.put, List.setIfInBounds_toArray, List.set_cons_zero, List.set_cons_succ, i64_w, i32_w]
            rfl
           refine take_ (i := 11) (N := some 88) (v := ?_) (a' := ?_) #[true, true, true, true, true, true, true, true, true, true, true, true, false, false, false, false, false, false] rfl rfl (take_ofW HT_.out HW_.out (by kernel_rfl)) (fun _ _ _ h => h) (Or.inl ⟨by rfl, ?_⟩) hHeld ?_ ?_
           rotate_left
           ·rintro w' ⟨s0, s1, s2, s3, s4, s5, s6, s7, s8, s9, s10, s11⟩
            go_simp
            with_reducible rfl
           rotate_left
           ·simp only [Act.put, List.setIfInBounds_toArray, List.set_cons_zero, List.set_cons_succ, i64_w, i32_w]
            rfl
           refine take_ (i := 13) (N := some 90) (v := ?_) (a' := ?_) #[true, true, true, true, true, true, true, true, true, true, true, true, false, true, false, false, false, false] rfl rfl (take_ofW HT_.out HW_.out (by kernel_rfl)) (fun _ _ _ h => h) (Or.inl ⟨by rfl, ?_⟩) hHeld ?_ ?_
           rotate_left
           ·rintro w' ⟨s0, s1, s2, s3, s4, s5, s6, s7, s8, s9, s10, s11⟩
            go_simp
            with_reducible rfl
           rotate_left
           ·simp only [Act.put, List.setIfInBounds_toArray, List.set_cons_zero, List.set_cons_succ, i64_w, i32_w]
            rfl
           refine one_ (i := 12) (N := some 89) #[true, true, true, true, true, true, true, true, true, true, true, true, true, true, false, false, false, false] rfl rfl (one_of HT_.out (by kernel_rfl)) (by decide) (fun K hK => ?_)
           refine goes_ Try.func27 (by kernel_rfl) rfl #[.agg #[.slice Ao16 t1176.length co16, .slice Ao19 t1179.length co19, .slice Ao20 t1182.length co20, .slice Ao21 t1185.length co21], .int .i64 2] (by rfl) rfl rfl (by (try simp only [List.map_toArray, List.map_cons, List.map_nil]); first | done | rfl | (simp only [List.length_drop, List.length_take]; rfl)) ?_
           with_reducible refine (impl_CountColor.calls k2 _ _ t1176 _ _ t1179 _ _ t1182 _ _ t1185 2 t1224 _ ?side1 ?side2 ?side3 ?side4 ?side5 ?side6 ?side7 ?side8 A79.out).mono ?_
           (case side1 => exact cl ((Kd.R_reads' HO_1190000.out).2.2))
           (case side2 => exact sc HO_1190000)
           (case side3 => exact cl ((Kd.R_reads' HO_1190001.out).2.2))
           (case side4 => exact sc HO_1190001)
           (case side5 => exact cl ((Kd.R_reads' HO_1190002.out).2.2))
           (case side6 => exact sc HO_1190002)
           (case side7 => exact cl ((Kd.R_reads' HO_1190003.out).2.2))
           (case side8 => exact sc HO_1190003)
           rintro e w97 ⟨rfl, hb⟩
           refine ⟨_, rfl, ?_⟩
           replace HO_1176000 := rb HO_1176000 hb
           replace HO_1176001 := rb HO_1176001 hb
           replace HO_1176002 := rb HO_1176002 hb
           replace HO_1176003 := rb HO_1176003 hb
           replace HO_1190000 := rb HO_1190000 hb
           replace HO_1190001 := rb HO_1190001 hb
           replace HO_1190002 := rb HO_1190002 hb
           replace HO_1190003 := rb HO_1190003 hb
           replace HO1210 := rb HO1210 hb
           replace HO1213 := rb HO1213 hb
           replace HO1216 := rb HO1216 hb
           replace HO1219 := rb HO1219 hb
           replace BK1175 := bb BK1175 hb
           replace BK1189 := bb BK1189 hb
           replace BK1221 := bb BK1221 hb
           replace HB := am (below_step (bs3 GE1175.out GE1189.out GE1221.out HB.out) hb)
           (try clear hb)
           refine hK.out _ _ ⟨(blk_cell BK1189.out 0).trans rfl, (blk_cell BK1189.out 1).trans rfl, (blk_cell BK1189.out 2).trans rfl, (blk_cell BK1189.out 3).trans rfl, (blk_cell BK1221.out 0).trans rfl, (blk_cell BK1221.out 1).trans rfl, (blk_cell BK1221.out 2).trans rfl, (blk_cell BK1221.out 3).trans rfl, (blk_cell BK1175.out 0).trans rfl, (blk_cell BK1175.out 1).trans rfl, (blk_cell BK1175.out 2).trans rfl, (blk_cell BK1175.out 3).trans rfl⟩ (fun hHeld => ?_)
           clear hK K
           refine norm_ (a' := ?_) ?_ ?_
           rotate_left
           ·show Act.put _ (some 89) _ = _
            simp only [Act.put, List.setIfInBounds_toArray, List.set_cons_zero, List.set_cons_succ, i64_w, i32_w]
            rfl
           refine one_ (i := 14) (N := some 91) #[true, true, true, true, true, true, true, true, true, true, true, true, true, true, true, false, false, false] rfl rfl (one_of HT_.out (by kernel_rfl)) (by decide) (fun K hK => ?_)
           refine goes_ Try.func27 (by kernel_rfl) rfl #[.agg #[.slice Ao9 t1163.length co9, .slice Ao11 t1166.length co11, .slice Ao12 t1169.length co12, .slice Ao13 t1172.length co13], .int .i64 2] (by rfl) rfl rfl (by (try simp only [List.map_toArray, List.map_cons, List.map_nil]); first | done | rfl | (simp only [List.length_drop, List.length_take]; rfl)) ?_
           with_reducible refine (impl_CountColor.calls k2 _ _ t1163 _ _ t1166 _ _ t1169 _ _ t1172 2 t1225 _ ?side1 ?side2 ?side3 ?side4 ?side5 ?side6 ?side7 ?side8 A80.out).mono ?_
           (case side1 => exact cl ((Kd.R_reads' HO_1176000.out).2.2))
           (case side2 => exact sc HO_1176000)
           (case side3 => exact cl ((Kd.R_reads' HO_1176001.out).2.2))
           (case side4 => exact sc HO_1176001)
           (case side5 => exact cl ((Kd.R_reads' HO_1176002.out).2.2))
           (case side6 => exact sc HO_1176002)
           (case side7 => exact cl ((Kd.R_reads' HO_1176003.out).2.2))
           (case side8 => exact sc HO_1176003)
           rintro e w98 ⟨rfl, hb⟩
           refine ⟨_, rfl, ?_⟩
           replace HO_1176000 := rb HO_1176000 hb
           replace HO_1176001 := rb HO_1176001 hb
           replace HO_1176002 := rb HO_1176002 hb
           replace HO_1176003 := rb HO_1176003 hb
           replace HO_1190000 := rb HO_1190000 hb
           replace HO_1190001 := rb HO_1190001 hb
           replace HO_1190002 := rb HO_1190002 hb
           replace HO_1190003 := rb HO_1190003 hb
           replace HO1210 := rb HO1210 hb
           replace HO1213 := rb HO1213 hb
           replace HO1216 := rb HO1216 hb
           replace HO1219 := rb HO1219 hb
           replace BK1175 := bb BK1175 hb
           replace BK1189 := bb BK1189 hb
           replace BK1221 := bb BK1221 hb
           replace HB := am (below_step (bs3 GE1175.out GE1189.out GE1221.out HB.out) hb)
           (try clear hb)
           refine hK.out _ _ ⟨(blk_cell BK1189.out 0).trans rfl, (blk_cell BK1189.out 1).trans rfl, (blk_cell BK1189.out 2).trans rfl, (blk_cell BK1189.out 3).trans rfl, (blk_cell BK1221.out 0).trans rfl, (blk_cell BK1221.out 1).trans rfl, (blk_cell BK1221.out 2).trans rfl, (blk_cell BK1221.out 3).trans rfl, (blk_cell BK1175.out 0).trans rfl, (blk_cell BK1175.out 1).trans rfl, (blk_cell BK1175.out 2).trans rfl, (blk_cell BK1175.out 3).trans rfl⟩ (fun hHeld => ?_)
           clear hK K
           refine norm_ (a' := ?_) ?_ ?_
           rotate_left
           ·show Act.put _ (some 91) _ = _
            simp only [Act.put, List.setIfInBounds_toArray, List.set_cons_zero, List.set_cons_succ, i64_w, i32_w]
            rfl
           refine pure_ (i := 15) (N := some 92) (v := ?_) (a' := ?_) #[true, true, true, true, true, true, true, true, true, true, true, true, true, true, true, true, false, false] rfl rfl (any_of HT_.out (by kernel_rfl)) (fun _ _ _ h => h) (Or.inl ⟨by rfl, ?_⟩) ?_ ?_
           rotate_left
           ·intro w'
            go_simp
            with_reducible rfl
           rotate_left
           ·simp only [Act.put, List.setIfInBounds_toArray, List.set_cons_zero, List.set_cons_succ, i64_w, i32_w]
            rfl
           refine pure_ (i := 16) (N := some 93) (v := ?_) (a' := ?_) #[true, true, true, true, true, true, true, true, true, true, true, true, true, true, true, true, true, false] rfl rfl (any_of HT_.out (by kernel_rfl)) (fun _ _ _ h => h) (Or.inl ⟨by rfl, ?_⟩) ?_ ?_
           rotate_left
           ·intro w'
            go_simp
            with_reducible rfl
           rotate_left
           ·simp only [Act.put, List.setIfInBounds_toArray, List.set_cons_zero, List.set_cons_succ, i64_w, i32_w]
            rfl
           refine pure_ (i := 17) (N := some 2) (v := ?_) (a' := ?_) #[true, true, true, true, true, true, true, true, true, true, true, true, true, true, true, true, true, true] rfl rfl (any_of HT_.out (by kernel_rfl)) (fun _ _ _ h => h) (Or.inl ⟨by rfl, ?_⟩) ?_ ?_
           rotate_left
           ·intro w'
            go_simp
            with_reducible rfl
           rotate_left
           ·simp only [Act.put, List.setIfInBounds_toArray, List.set_cons_zero, List.set_cons_succ, i64_w, i32_w]
            rfl
           refine done_ (done_of HT_.out (by kernel_rfl)) ?_
           try go_wp2
           go_ret
           exact ⟨by first | rfl | (simp [errW_none, errW_some] <;> rfl) | (simp [*, errW_none, errW_some] <;> rfl), by exact bs3 GE1175.out GE1189.out GE1221.out HB.out⟩
          ·replace c78 := Bool.eq_false_iff.mpr c78
           subst c78
           have H1 : (none) = some r := by rw [if_neg (show ¬ (false = true) by decide)] at H; exact H
           clear H
           have H := H1
           clear H1
           exact absurd H (by simp)
         ·replace c76 := Bool.eq_false_iff.mpr c76
          subst c76
          have H1 : (none) = some r := by rw [if_neg (show ¬ (false = true) by decide)] at H; exact H
          clear H
          have H := H1
          clear H1
          exact absurd H (by simp)
        ·replace c75 := Bool.eq_false_iff.mpr c75
         subst c75
         have H1 : (none) = some r := by rw [if_neg (show ¬ (false = true) by decide)] at H; exact H
         clear H
         have H := H1
         clear H1
         exact absurd H (by simp)

/-- THE ONE PURE STATEMENT of laws_FnShadeRoots: yours. -/
def laws_FnShadeRoots.Pure : Prop := ∀ (l0 : List Int), l0.length ≤ maxLen → l0.length * 1 ≤ 140737488351232 → (∀ x ∈ l0, (Lit.int .u8 x).wf = true) → ∃ k, laws_FnShadeRoots.f k l0 = some true
theorem laws_FnShadeRoots.walk (P : laws_FnShadeRoots.Pure) (a0 : Option Addr) (len0 cap0 : Nat) (z0 : List Int) (w : World) (w0 : (a0 = none ∧ len0 = 0 ∧ cap0 = 0 ∧ z0 = []) ∨ ∃ x, a0 = some x ∧ len0 ≤ cap0 ∧ cap0 ≤ maxLen ∧ z0.length = cap0 ∧ (∀ i, i < z0.length → w.cell? (x.add i) = some (.int .u8 (z0.getD i 0))) ∧ ∀ n ∈ z0, (Lit.int .u8 n).wf = true) (y0 : len0 * 1 ≤ 140737488351232) :
  Calls Try.prog 10 #[.slice a0 len0 cap0] w fun e w' => e = .returned (.bool true) ∧ Below w.heap.size w w' := by
 obtain ⟨l0, rfl, hr0, hm0, hw0, hc0⟩ := ReadsInt.ofRowC w0
 obtain ⟨k, h⟩ := P l0 hm0 y0 hw0
 refine (laws_FnShadeRoots.calls k _ _ l0 true w (Kd.C_of_reads (d := (0 : Int)) (h1 := fun _ => rfl) hr0) hc0 h).mono ?_
 rintro e w' ⟨rfl, hd⟩
 exact ⟨rfl, hd⟩

end Go.Proofs.Ytkbaggfkidalfaa.A
