/- Contracts of functions of the given program (CLawsFnExactParseHeap). No conditions beyond those stated. -/
import Derived.Test.YtomeaapjjmaepaaDoorA0
import Derived.Test.YtomeaapjjmaepaaDoorAImplParseHeap
import Derived.Test.YtomeaapjjmaepaaDoorALawsEqHeap
import Derived.Test.YtomeaapjjmaepaaDoorALawsHeldHeap
import Derived.Test.YtomeaapjjmaepaaDoorALawsMarkHeap
import Derived.Test.YtomeaapjjmaepaaDoorASpecParseHeap
import Derived.Test.YtomeaapjjmaepaaDoorA0
namespace Go.Proofs.YtomeaapjjmaepaaDoor.A
open Go.RowKit Go.Proofs.YtomeaapjjmaepaaDoorW.PrintWords Go.Proofs.YtomeaapjjmaepaaDoorW.PrintLast Go.Proofs.YtomeaapjjmaepaaDoorW.PrintMore
attribute [local go_sem] max2_int min2_int max_two min_two max_three min_three max_four min_four   -- for this text's walks alone
set_option linter.unusedVariables false
set_option linter.unusedSimpArgs false

/-! ### laws_FnExactParseHeap -/
mutual
def laws_FnExactParseHeap.j0 : Nat → ByteArray → Bool → Bool → List Int → List Int → List Int → List Int → List Int → List Int → Option (Bool)
 | 0, _, _, _, _, _, _, _, _, _ => none
 | k + 1, x0, x4, x32, x228000, x228001, x228002, x239000, x239001, x239002 => if x32 = true then (none) else ((laws_markHeap.f k x239000 x239001 x239002 1).bind fun bt240 => ((laws_heldHeap.f k bt240.2.1 bt240.2.2.1 bt240.2.2.2 1).bind fun t244 => (if t244 < 0 then (none) else (if t244 = bt240.1 then ((impl_ParseHeap.f k x0).bind fun bt245 => ((laws_eqHeap.f k bt245.1 bt245.2.1 bt245.2.2.1 x228000 x228001 x228002).bind fun t256 => (if t256 = true then (laws_FnExactParseHeap.j1 k bt240.1 (bt245.2.2.2 != x4) bt240.2.1 bt240.2.2.1 bt240.2.2.2) else (laws_FnExactParseHeap.j1 k bt240.1 true bt240.2.1 bt240.2.2.1 bt240.2.2.2)))) else (none)))))
def laws_FnExactParseHeap.j1 : Nat → Int → Bool → List Int → List Int → List Int → Option (Bool)
 | 0, _, _, _, _, _ => none
 | k + 1, x7, x57, x239000, x239001, x239002 => if x57 = true then (none) else ((laws_heldHeap.f k x239000 x239001 x239002 1).bind fun t257 => (if t257 < 0 then (none) else (if t257 = x7 then (some true) else (none))))
end
def laws_FnExactParseHeap.f (k : Nat) (a0 : ByteArray) : Option (Bool) := if (a0.size : Int) > 1048576 then (some true) else ((spec_ParseHeap.f k a0).bind fun bt217 => ((impl_ParseHeap.f k a0).bind fun bt228 => ((laws_eqHeap.f k bt228.1 bt228.2.1 bt228.2.2.1 bt217.1 bt217.2.1 bt217.2.2.1).bind fun t239 => (if t239 = true then (laws_FnExactParseHeap.j0 k a0 bt217.2.2.2 (bt228.2.2.2 != bt217.2.2.2) bt217.1 bt217.2.1 bt217.2.2.1 bt228.1 bt228.2.1 bt228.2.2.1) else (laws_FnExactParseHeap.j0 k a0 bt217.2.2.2 true bt217.1 bt217.2.1 bt217.2.2.1 bt228.1 bt228.2.1 bt228.2.2.1)))))
theorem laws_FnExactParseHeap.mono_l : ∀ k, (∀ y0 y1 y2 y3 y4 y5 y6 y7 y8, LeO (laws_FnExactParseHeap.j0 k y0 y1 y2 y3 y4 y5 y6 y7 y8) (laws_FnExactParseHeap.j0 (k + 1) y0 y1 y2 y3 y4 y5 y6 y7 y8)) ∧ (∀ y0 y1 y2 y3 y4, LeO (laws_FnExactParseHeap.j1 k y0 y1 y2 y3 y4) (laws_FnExactParseHeap.j1 (k + 1) y0 y1 y2 y3 y4))
 | 0 => ⟨fun _ _ _ _ _ _ _ _ _ r h => by simp [laws_FnExactParseHeap.j0] at h, fun _ _ _ _ _ r h => by simp [laws_FnExactParseHeap.j1] at h⟩
 | k + 1 => by
  obtain ⟨ih0, ih1⟩ := laws_FnExactParseHeap.mono_l k
  refine ⟨?_, ?_⟩
  ·intro y0 y1 y2 y3 y4 y5 y6 y7 y8
   unfold laws_FnExactParseHeap.j0
   repeat' first
   | (with_reducible exact ih0 _ _ _ _ _ _ _ _ _)
   | (with_reducible exact ih1 _ _ _ _ _)
   | (with_reducible exact impl_ParseHeap.mono _ _)
   | (with_reducible exact laws_eqHeap.mono _ _ _ _ _ _ _)
   | (with_reducible exact laws_heldHeap.mono _ _ _ _ _)
   | (with_reducible exact laws_markHeap.mono _ _ _ _ _)
   | (with_reducible exact spec_ParseHeap.mono _ _)
   | (with_reducible exact LeO.refl _)
   | (with_reducible exact LeO.none _)
   | (with_reducible refine LeO.ite ?_ ?_)
   | (with_reducible refine LeO.bind ?_ (fun _ => ?_))
   | exact ih0 _ _ _ _ _ _ _ _ _
   | exact ih1 _ _ _ _ _
   | exact impl_ParseHeap.mono _ _
   | exact laws_eqHeap.mono _ _ _ _ _ _ _
   | exact laws_heldHeap.mono _ _ _ _ _
   | exact laws_markHeap.mono _ _ _ _ _
   | exact spec_ParseHeap.mono _ _
   | exact LeO.none _
   | refine LeO.ite ?_ ?_
   | refine LeO.bind ?_ (fun _ => ?_)
  ·intro y0 y1 y2 y3 y4
   unfold laws_FnExactParseHeap.j1
   repeat' first
   | (with_reducible exact ih0 _ _ _ _ _ _ _ _ _)
   | (with_reducible exact ih1 _ _ _ _ _)
   | (with_reducible exact impl_ParseHeap.mono _ _)
   | (with_reducible exact laws_eqHeap.mono _ _ _ _ _ _ _)
   | (with_reducible exact laws_heldHeap.mono _ _ _ _ _)
   | (with_reducible exact laws_markHeap.mono _ _ _ _ _)
   | (with_reducible exact spec_ParseHeap.mono _ _)
   | (with_reducible exact LeO.refl _)
   | (with_reducible exact LeO.none _)
   | (with_reducible refine LeO.ite ?_ ?_)
   | (with_reducible refine LeO.bind ?_ (fun _ => ?_))
   | exact ih0 _ _ _ _ _ _ _ _ _
   | exact ih1 _ _ _ _ _
   | exact impl_ParseHeap.mono _ _
   | exact laws_eqHeap.mono _ _ _ _ _ _ _
   | exact laws_heldHeap.mono _ _ _ _ _
   | exact laws_markHeap.mono _ _ _ _ _
   | exact spec_ParseHeap.mono _ _
   | exact LeO.none _
   | refine LeO.ite ?_ ?_
   | refine LeO.bind ?_ (fun _ => ?_)
theorem laws_FnExactParseHeap.mono : ∀ a0 k, LeO (laws_FnExactParseHeap.f k a0) (laws_FnExactParseHeap.f (k + 1) a0) := by
 intro a0 k
 obtain ⟨ih0, ih1⟩ := laws_FnExactParseHeap.mono_l k
 unfold laws_FnExactParseHeap.f
 repeat' first
   | (with_reducible exact ih0 _ _ _ _ _ _ _ _ _)
   | (with_reducible exact ih1 _ _ _ _ _)
   | (with_reducible exact impl_ParseHeap.mono _ _)
   | (with_reducible exact laws_eqHeap.mono _ _ _ _ _ _ _)
   | (with_reducible exact laws_heldHeap.mono _ _ _ _ _)
   | (with_reducible exact laws_markHeap.mono _ _ _ _ _)
   | (with_reducible exact spec_ParseHeap.mono _ _)
   | (with_reducible exact LeO.refl _)
   | (with_reducible exact LeO.none _)
   | (with_reducible refine LeO.ite ?_ ?_)
   | (with_reducible refine LeO.bind ?_ (fun _ => ?_))
   | exact ih0 _ _ _ _ _ _ _ _ _
   | exact ih1 _ _ _ _ _
   | exact impl_ParseHeap.mono _ _
   | exact laws_eqHeap.mono _ _ _ _ _ _ _
   | exact laws_heldHeap.mono _ _ _ _ _
   | exact laws_markHeap.mono _ _ _ _ _
   | exact spec_ParseHeap.mono _ _
   | exact LeO.none _
   | refine LeO.ite ?_ ?_
   | refine LeO.bind ?_ (fun _ => ?_)
set_option maxHeartbeats 8000000 in
set_option maxRecDepth 100000 in
theorem laws_FnExactParseHeap.calls (k : Nat) (a0 : ByteArray) (r : Bool) (w : World) (h : laws_FnExactParseHeap.f k a0 = some r) :
  Calls Tryd.prog 3 #[.string a0] w fun e w' => e = .returned (.bool r) ∧ Below w.heap.size w w' := by
 have hu24 := Tryd.underlying24
 have HB := am (Below.refl w.heap.size w)
 have H : (if (a0.size : Int) > 1048576 then (some true) else ((spec_ParseHeap.f k a0).bind fun bt217 => ((impl_ParseHeap.f k a0).bind fun bt228 => ((laws_eqHeap.f k bt228.1 bt228.2.1 bt228.2.2.1 bt217.1 bt217.2.1 bt217.2.2.1).bind fun t239 => (if t239 = true then (laws_FnExactParseHeap.j0 k a0 bt217.2.2.2 (bt228.2.2.2 != bt217.2.2.2) bt217.1 bt217.2.1 bt217.2.2.1 bt228.1 bt228.2.1 bt228.2.2.1) else (laws_FnExactParseHeap.j0 k a0 bt217.2.2.2 true bt217.1 bt217.2.1 bt217.2.2.1 bt228.1 bt228.2.1 bt228.2.2.1)))))) = some r := h
 clear h
 by_cases c2 : (a0.size : Int) > 1048576
 ·rw [if_pos c2] at H
  have c2b0 : decide (1048576 < (a0.size : Int)) = true := decide_eq_true c2
  have c2b1 : decide (1048576 < a0.size) = true := decide_eq_true (by omega)
  clear c2
  obtain rfl := Option.some.inj H
  go_enter Tryd.func3, Tryd.ntmps3
  go_wp2
  go_ret
  exact ⟨by first | rfl | (simp [errW_none, errW_some] <;> rfl) | (simp [*, errW_none, errW_some] <;> rfl), by exact bs0 HB.out⟩
 ·rw [if_neg c2] at H
  have c2b0 : decide (1048576 < (a0.size : Int)) = false := decide_eq_false c2
  have c2b1 : decide (1048576 < a0.size) = false := decide_eq_false (by omega)
  clear c2
  replace H := Option.bind_eq_some_iff.mp H
  obtain ⟨⟨t217, t220, t223, t226⟩, A30, H⟩ := H
  replace H : ((impl_ParseHeap.f k a0).bind fun bt228 => ((laws_eqHeap.f k bt228.1 bt228.2.1 bt228.2.2.1 t217 t220 t223).bind fun t239 => (if t239 = true then (laws_FnExactParseHeap.j0 k a0 t226 (bt228.2.2.2 != t226) t217 t220 t223 bt228.1 bt228.2.1 bt228.2.2.1) else (laws_FnExactParseHeap.j0 k a0 t226 true t217 t220 t223 bt228.1 bt228.2.1 bt228.2.2.1)))) = some r := H
  have A3 := am A30
  clear A30
  replace H := Option.bind_eq_some_iff.mp H
  obtain ⟨⟨t228, t231, t234, t237⟩, A40, H⟩ := H
  replace H : ((laws_eqHeap.f k t228 t231 t234 t217 t220 t223).bind fun t239 => (if t239 = true then (laws_FnExactParseHeap.j0 k a0 t226 (t237 != t226) t217 t220 t223 t228 t231 t234) else (laws_FnExactParseHeap.j0 k a0 t226 true t217 t220 t223 t228 t231 t234))) = some r := H
  have A4 := am A40
  clear A40
  have HC5 := am H
  clear H
  go_enter Tryd.func3, Tryd.ntmps3
  go_upto_region 5 with (first | ((with_reducible refine gate_callee (f := 9) rfl ?_); refine gL (some 16) rfl rfl Tryd.func9 (by kernel_rfl) rfl #[.string a0] rfl ?_; (with_reducible refine (spec_ParseHeap.calls k a0 t217 t220 t223 t226 _ A3.out).mono ?_); rintro e w6 ⟨v218, v221, v224, rfl, ho0, ho1, ho2, hb⟩; refine ⟨_, rfl, ?_⟩; have HO219 := ln0 ho0 (bl HB.out); have HO222 := ln0 ho1 (bl HB.out); have HO225 := ln0 ho2 (bl HB.out); replace HB := am (below_step (bl HB.out) hb); (try clear hb ho0 ho1 ho2)) | ((with_reducible refine gate_dst (N := 3) rfl ?_); refine box_event ?hg (N := 3) ?hd (cs := #[.slice none 0 0, .slice none 0 0, .slice none 0 0]) (t := 24) ?hr ?_; (case hd => rfl); (case hg => rfl); (case hr => first | (go_simp; done) | (go_simp; rfl)); intro gb227 hg w7 hbox hb; replace HO219 := rb HO219 hb; replace HO222 := rb HO222 hb; replace HO225 := rb HO225 hb; have BK227 := am (hbox); have GW227 := am ((by rw [hg]; exact (below_size (bl HB.out)) : w.heap.size ≤ gb227)); have GE227 := am ((by rw [hg]; exact (below_size (bl HB.out)) : w.heap.size ≤ gb227)); replace HB := am (below_step (bl HB.out) hb); clear hb hbox hg; obtain ⟨Ao8, co8, eo8⟩ := Kd.R_slice HO219.out; subst eo8; obtain ⟨hcz9_0, hcz9_1, hcz9_2, hfz9_0, hfz9_1, hfz9_2⟩ := cf3 BK227; obtain ⟨Ao10, co10, eo10⟩ := Kd.R_slice HO222.out; subst eo10; obtain ⟨Ao11, co11, eo11⟩ := Kd.R_slice HO225.out; subst eo11) | ((with_reducible refine gate_callee (f := 10) rfl ?_); refine gL (some 21) rfl rfl Tryd.func10 (by kernel_rfl) rfl #[.string a0] rfl ?_; (with_reducible refine (impl_ParseHeap.calls k a0 t228 t231 t234 t237 _ A4.out).mono ?_); rintro e w12 ⟨v229, v232, v235, rfl, ho0, ho1, ho2, hb⟩; refine ⟨_, rfl, ?_⟩; have HO230 := ln3 ho0 (rg BK227 HO219) (rg BK227 HO222) (rg BK227 HO225) (bs1 GE227.out HB.out); have HO233 := ln3 ho1 (rg BK227 HO219) (rg BK227 HO222) (rg BK227 HO225) (bs1 GE227.out HB.out); have HO236 := ln3 ho2 (rg BK227 HO219) (rg BK227 HO222) (rg BK227 HO225) (bs1 GE227.out HB.out); replace HO219 := td3 (rg BK227 HO219) hb ho0 ho1 ho2; replace HO222 := td3 (rg BK227 HO222) hb ho0 ho1 ho2; replace HO225 := td3 (rg BK227 HO225) hb ho0 ho1 ho2; replace BK227 := bp3 (kf0 BK227.out) hb; replace HB := am (below_step (bs1 GE227.out HB.out) hb); (try clear hb ho0 ho1 ho2)) | ((with_reducible refine gate_dst (N := 5) rfl ?_); refine box_event ?hg (N := 5) ?hd (cs := #[.slice none 0 0, .slice none 0 0, .slice none 0 0]) (t := 24) ?hr ?_; (case hd => rfl); (case hg => rfl); (case hr => first | (go_simp; done) | (go_simp; rfl)); intro gb238 hg w13 hbox hb; replace HO219 := rb HO219 hb; replace HO222 := rb HO222 hb; replace HO225 := rb HO225 hb; replace HO230 := rb HO230 hb; replace HO233 := rb HO233 hb; replace HO236 := rb HO236 hb; have BK238 := am (hbox); have GW238 := am ((by rw [hg]; exact (below_size (bs1 GE227.out HB.out)) : w.heap.size ≤ gb238)); have GE238 := am ((by rw [hg]; exact (below_size (bs1 GE227.out HB.out)) : w.heap.size ≤ gb238)); replace HB := am (below_step (bs1 GE227.out HB.out) hb); have NB227_238 := nb BK227 hg; have NB238_227 := nc BK227 hg; replace BK227 := bb BK227 hb; clear hb hbox hg; obtain ⟨Ao14, co14, eo14⟩ := Kd.R_slice HO230.out; subst eo14; have hnb15 := NB238_227.out; have hnc15 := NB227_238.out; obtain ⟨hcz16_0, hcz16_1, hcz16_2, hfz16_0, hfz16_1, hfz16_2⟩ := cf3 BK238; obtain ⟨Ao17, co17, eo17⟩ := Kd.R_slice HO233.out; subst eo17; obtain ⟨Ao18, co18, eo18⟩ := Kd.R_slice HO236.out; subst eo18))
  (try simp only [Act.put, List.setIfInBounds_toArray, List.set_cons_zero, List.set_cons_succ])
  go_cut [32] (fun v32 wc => ∃ (kq : Nat) (x32_4 : Bool), v32 = .bool x32_4 ∧ Aside0 (laws_FnExactParseHeap.j0 kq a0 t226 x32_4 t217 t220 t223 t228 t231 t234 = some r) ∧ Aside0 (kq ≤ k) ∧ Aside0 (Kd.R (Kd.int .i64) 3 wc w.heap.size (fun k_ => some k_ ≠ ((.slice Ao10 t220.length co10) : Value).ownBlock ∧ some k_ ≠ ((.slice Ao11 t223.length co11) : Value).ownBlock ∧ some k_ ≠ ((.slice Ao14 t228.length co14) : Value).ownBlock ∧ some k_ ≠ ((.slice Ao17 t231.length co17) : Value).ownBlock ∧ some k_ ≠ ((.slice Ao18 t234.length co18) : Value).ownBlock) (.slice Ao8 t217.length co8) t217) ∧ Aside0 (Kd.R (Kd.int .i64) 3 wc w.heap.size (fun k_ => some k_ ≠ ((.slice Ao8 t217.length co8) : Value).ownBlock ∧ some k_ ≠ ((.slice Ao11 t223.length co11) : Value).ownBlock ∧ some k_ ≠ ((.slice Ao14 t228.length co14) : Value).ownBlock ∧ some k_ ≠ ((.slice Ao17 t231.length co17) : Value).ownBlock ∧ some k_ ≠ ((.slice Ao18 t234.length co18) : Value).ownBlock) (.slice Ao10 t220.length co10) t220) ∧ Aside0 (Kd.R (Kd.int .i64) 3 wc w.heap.size (fun k_ => some k_ ≠ ((.slice Ao8 t217.length co8) : Value).ownBlock ∧ some k_ ≠ ((.slice Ao10 t220.length co10) : Value).ownBlock ∧ some k_ ≠ ((.slice Ao14 t228.length co14) : Value).ownBlock ∧ some k_ ≠ ((.slice Ao17 t231.length co17) : Value).ownBlock ∧ some k_ ≠ ((.slice Ao18 t234.length co18) : Value).ownBlock) (.slice Ao11 t223.length co11) t223) ∧ Aside0 (Kd.R (Kd.int .i64) 3 wc w.heap.size (fun k_ => some k_ ≠ ((.slice Ao8 t217.length co8) : Value).ownBlock ∧ some k_ ≠ ((.slice Ao10 t220.length co10) : Value).ownBlock ∧ some k_ ≠ ((.slice Ao11 t223.length co11) : Value).ownBlock ∧ some k_ ≠ ((.slice Ao17 t231.length co17) : Value).ownBlock ∧ some k_ ≠ ((.slice Ao18 t234.length co18) : Value).ownBlock) (.slice Ao14 t228.length co14) t228) ∧ Aside0 (Kd.R (Kd.int .i64) 3 wc w.heap.size (fun k_ => some k_ ≠ ((.slice Ao8 t217.length co8) : Value).ownBlock ∧ some k_ ≠ ((.slice Ao10 t220.length co10) : Value).ownBlock ∧ some k_ ≠ ((.slice Ao11 t223.length co11) : Value).ownBlock ∧ some k_ ≠ ((.slice Ao14 t228.length co14) : Value).ownBlock ∧ some k_ ≠ ((.slice Ao18 t234.length co18) : Value).ownBlock) (.slice Ao17 t231.length co17) t231) ∧ Aside0 (Kd.R (Kd.int .i64) 3 wc w.heap.size (fun k_ => some k_ ≠ ((.slice Ao8 t217.length co8) : Value).ownBlock ∧ some k_ ≠ ((.slice Ao10 t220.length co10) : Value).ownBlock ∧ some k_ ≠ ((.slice Ao11 t223.length co11) : Value).ownBlock ∧ some k_ ≠ ((.slice Ao14 t228.length co14) : Value).ownBlock ∧ some k_ ≠ ((.slice Ao17 t231.length co17) : Value).ownBlock) (.slice Ao18 t234.length co18) t234) ∧ Aside0 (wc.heap[gb227]? = some (.cells #[(.slice Ao8 t217.length co8), (.slice Ao10 t220.length co10), (.slice Ao11 t223.length co11)] 24 (0, 0))) ∧ Aside0 (wc.heap[gb238]? = some (.cells #[(.slice Ao14 t228.length co14), (.slice Ao17 t231.length co17), (.slice Ao18 t234.length co18)] 24 (0, 0))) ∧ Aside0 (Below w.heap.size w wc))
  case first =>
   have H := HC5.out
   clear HC5
   replace H := Option.bind_eq_some_iff.mp H
   obtain ⟨t239, A190, H⟩ := H
   replace H : (if t239 = true then (laws_FnExactParseHeap.j0 k a0 t226 (t237 != t226) t217 t220 t223 t228 t231 t234) else (laws_FnExactParseHeap.j0 k a0 t226 true t217 t220 t223 t228 t231 t234)) = some r := H
   have A19 := am A190
   clear A190
   by_cases c20 : t239 = true
   ·subst c20
    have H1 : (laws_FnExactParseHeap.j0 k a0 t226 (t237 != t226) t217 t220 t223 t228 t231 t234) = some r := by rw [if_pos rfl] at H; exact H
    clear H
    have H := H1
    clear H1
    have H' := am H
    clear H
    have hnb21 := NB238_227.out
    have hnc21 := NB227_238.out
    obtain ⟨hcz22_0, hcz22_1, hcz22_2, hfz22_0, hfz22_1, hfz22_2⟩ := cf3 BK238
    obtain ⟨hcz23_0, hcz23_1, hcz23_2, hfz23_0, hfz23_1, hfz23_2⟩ := cf3 BK227
    go_wp2_with (first | ((with_reducible refine gate_callee (f := 11) rfl ?_); refine gL (some 26) rfl rfl Tryd.func11 (by kernel_rfl) rfl #[.agg #[.slice Ao14 t228.length co14, .slice Ao17 t231.length co17, .slice Ao18 t234.length co18], .agg #[.slice Ao8 t217.length co8, .slice Ao10 t220.length co10, .slice Ao11 t223.length co11]] rfl ?_; (with_reducible refine (laws_eqHeap.calls k _ _ t228 _ _ t231 _ _ t234 _ _ t217 _ _ t220 _ _ t223 true _ ?side1 ?side2 ?side3 ?side4 ?side5 ?side6 ?side7 ?side8 ?side9 ?side10 ?side11 ?side12 A19.out).mono ?_); (case side1 => exact sr (rg BK238 HO230)); (case side2 => exact sc HO230); (case side3 => exact sr (rg BK238 HO233)); (case side4 => exact sc HO233); (case side5 => exact sr (rg BK238 HO236)); (case side6 => exact sc HO236); (case side7 => exact sr (rg BK238 HO219)); (case side8 => exact sc HO219); (case side9 => exact sr (rg BK238 HO222)); (case side10 => exact sc HO222); (case side11 => exact sr (rg BK238 HO225)); (case side12 => exact sc HO225); rintro e w24 ⟨rfl, hb⟩; refine ⟨_, rfl, ?_⟩; replace HO219 := am (Kd.R_below (rg BK238 HO219) hb); replace HO222 := am (Kd.R_below (rg BK238 HO222) hb); replace HO225 := am (Kd.R_below (rg BK238 HO225) hb); replace HO230 := am (Kd.R_below (rg BK238 HO230) hb); replace HO233 := am (Kd.R_below (rg BK238 HO233) hb); replace HO236 := am (Kd.R_below (rg BK238 HO236) hb); replace BK227 := am (blk_below (g := gb227) (o := .cells #[.slice Ao8 t217.length co8, .slice Ao10 t220.length co10, .slice Ao11 t223.length co11] 24 (0, 0)) (kf1 NB227_238.out BK227.out) hb); replace BK238 := bp3 (kf0 BK238.out) hb; replace HB := am (below_step (bs2 GE227.out GE238.out HB.out) hb); (try clear hb)))
    go_meet
    case rel => exact ⟨_, ((t237 != t226)), (by first | rfl | (simp; done) | (simp [*]; done)), H', ⟨by first | omega | exact Nat.le_refl _⟩, ⟨rl (Kd.R_mono HO219.out (fun _ hk => by simp only [ne_eq] at hk ⊢; simp only [hk, not_false_eq_true, and_self]))⟩, ⟨rl (Kd.R_mono HO222.out (fun _ hk => by simp only [ne_eq] at hk ⊢; simp only [hk, not_false_eq_true, and_self]))⟩, ⟨rl (Kd.R_mono HO225.out (fun _ hk => by simp only [ne_eq] at hk ⊢; simp only [hk, not_false_eq_true, and_self]))⟩, ⟨rl (Kd.R_mono HO230.out (fun _ hk => by simp only [ne_eq] at hk ⊢; simp only [hk, not_false_eq_true, and_self]))⟩, ⟨rl (Kd.R_mono HO233.out (fun _ hk => by simp only [ne_eq] at hk ⊢; simp only [hk, not_false_eq_true, and_self]))⟩, ⟨rl (Kd.R_mono HO236.out (fun _ hk => by simp only [ne_eq] at hk ⊢; simp only [hk, not_false_eq_true, and_self]))⟩, ⟨kl BK227.out⟩, ⟨kl BK238.out⟩, ⟨by exact bs2 GE227.out GE238.out HB.out⟩⟩
   ·replace c20 := Bool.eq_false_iff.mpr c20
    subst c20
    have H1 : (laws_FnExactParseHeap.j0 k a0 t226 true t217 t220 t223 t228 t231 t234) = some r := by rw [if_neg (show ¬ (false = true) by decide)] at H; exact H
    clear H
    have H := H1
    clear H1
    have H' := am H
    clear H
    have hnb25 := NB238_227.out
    have hnc25 := NB227_238.out
    obtain ⟨hcz26_0, hcz26_1, hcz26_2, hfz26_0, hfz26_1, hfz26_2⟩ := cf3 BK238
    obtain ⟨hcz27_0, hcz27_1, hcz27_2, hfz27_0, hfz27_1, hfz27_2⟩ := cf3 BK227
    go_wp2_with (first | ((with_reducible refine gate_callee (f := 11) rfl ?_); refine gL (some 26) rfl rfl Tryd.func11 (by kernel_rfl) rfl #[.agg #[.slice Ao14 t228.length co14, .slice Ao17 t231.length co17, .slice Ao18 t234.length co18], .agg #[.slice Ao8 t217.length co8, .slice Ao10 t220.length co10, .slice Ao11 t223.length co11]] rfl ?_; (with_reducible refine (laws_eqHeap.calls k _ _ t228 _ _ t231 _ _ t234 _ _ t217 _ _ t220 _ _ t223 false _ ?side1 ?side2 ?side3 ?side4 ?side5 ?side6 ?side7 ?side8 ?side9 ?side10 ?side11 ?side12 A19.out).mono ?_); (case side1 => exact sr (rg BK238 HO230)); (case side2 => exact sc HO230); (case side3 => exact sr (rg BK238 HO233)); (case side4 => exact sc HO233); (case side5 => exact sr (rg BK238 HO236)); (case side6 => exact sc HO236); (case side7 => exact sr (rg BK238 HO219)); (case side8 => exact sc HO219); (case side9 => exact sr (rg BK238 HO222)); (case side10 => exact sc HO222); (case side11 => exact sr (rg BK238 HO225)); (case side12 => exact sc HO225); rintro e w28 ⟨rfl, hb⟩; refine ⟨_, rfl, ?_⟩; replace HO219 := am (Kd.R_below (rg BK238 HO219) hb); replace HO222 := am (Kd.R_below (rg BK238 HO222) hb); replace HO225 := am (Kd.R_below (rg BK238 HO225) hb); replace HO230 := am (Kd.R_below (rg BK238 HO230) hb); replace HO233 := am (Kd.R_below (rg BK238 HO233) hb); replace HO236 := am (Kd.R_below (rg BK238 HO236) hb); replace BK227 := am (blk_below (g := gb227) (o := .cells #[.slice Ao8 t217.length co8, .slice Ao10 t220.length co10, .slice Ao11 t223.length co11] 24 (0, 0)) (kf1 NB227_238.out BK227.out) hb); replace BK238 := bp3 (kf0 BK238.out) hb; replace HB := am (below_step (bs2 GE227.out GE238.out HB.out) hb); (try clear hb)))
    go_meet
    case rel => exact ⟨_, (true), (by first | rfl | (simp; done) | (simp [*]; done)), H', ⟨by first | omega | exact Nat.le_refl _⟩, ⟨rl (Kd.R_mono HO219.out (fun _ hk => by simp only [ne_eq] at hk ⊢; simp only [hk, not_false_eq_true, and_self]))⟩, ⟨rl (Kd.R_mono HO222.out (fun _ hk => by simp only [ne_eq] at hk ⊢; simp only [hk, not_false_eq_true, and_self]))⟩, ⟨rl (Kd.R_mono HO225.out (fun _ hk => by simp only [ne_eq] at hk ⊢; simp only [hk, not_false_eq_true, and_self]))⟩, ⟨rl (Kd.R_mono HO230.out (fun _ hk => by simp only [ne_eq] at hk ⊢; simp only [hk, not_false_eq_true, and_self]))⟩, ⟨rl (Kd.R_mono HO233.out (fun _ hk => by simp only [ne_eq] at hk ⊢; simp only [hk, not_false_eq_true, and_self]))⟩, ⟨rl (Kd.R_mono HO236.out (fun _ hk => by simp only [ne_eq] at hk ⊢; simp only [hk, not_false_eq_true, and_self]))⟩, ⟨kl BK227.out⟩, ⟨kl BK238.out⟩, ⟨by exact bs2 GE227.out GE238.out HB.out⟩⟩
  case rest =>
   clear HC5
   try clear c1
   try clear c2
   try clear c2b0
   try clear c2b1
   try clear p2
   try clear c3
   try clear c9
   try clear c10
   try clear c11
   try clear c15
   try clear c20
   try clear c21
   try clear c25
   obtain ⟨kq, x32_4, rfl, HA, HJ4, HO_228000, HO_228001, HO_228002, HO_239000, HO_239001, HO_239002, BK227, BK238, HB⟩ := hcut
   cases kq with
   | zero => exact absurd HA.out (by simp [laws_FnExactParseHeap.j0])
   | succ kj4 =>
    have H := HA.out
    clear HA
    simp only [laws_FnExactParseHeap.j0] at H
    by_cases c29 : x32_4 = true
    ·subst c29
     have H1 : (none) = some r := by rw [if_pos rfl] at H; exact H
     clear H
     have H := H1
     clear H1
     exact absurd H (by simp)
    ·replace c29 := Bool.eq_false_iff.mpr c29
     subst c29
     have H1 : ((laws_markHeap.f kj4 t228 t231 t234 1).bind fun bt240 => ((laws_heldHeap.f kj4 bt240.2.1 bt240.2.2.1 bt240.2.2.2 1).bind fun t244 => (if t244 < 0 then (none) else (if t244 = bt240.1 then ((impl_ParseHeap.f kj4 a0).bind fun bt245 => ((laws_eqHeap.f kj4 bt245.1 bt245.2.1 bt245.2.2.1 t217 t220 t223).bind fun t256 => (if t256 = true then (laws_FnExactParseHeap.j1 kj4 bt240.1 (bt245.2.2.2 != t226) bt240.2.1 bt240.2.2.1 bt240.2.2.2) else (laws_FnExactParseHeap.j1 kj4 bt240.1 true bt240.2.1 bt240.2.2.1 bt240.2.2.2)))) else (none))))) = some r := by rw [if_neg (show ¬ (false = true) by decide)] at H; exact H
     clear H
     have H := H1
     clear H1
     replace H := Option.bind_eq_some_iff.mp H
     obtain ⟨⟨t240, t241, t242, t243⟩, A300, H⟩ := H
     replace H : ((laws_heldHeap.f kj4 t241 t242 t243 1).bind fun t244 => (if t244 < 0 then (none) else (if t244 = t240 then ((impl_ParseHeap.f kj4 a0).bind fun bt245 => ((laws_eqHeap.f kj4 bt245.1 bt245.2.1 bt245.2.2.1 t217 t220 t223).bind fun t256 => (if t256 = true then (laws_FnExactParseHeap.j1 kj4 t240 (bt245.2.2.2 != t226) t241 t242 t243) else (laws_FnExactParseHeap.j1 kj4 t240 true t241 t242 t243)))) else (none)))) = some r := H
     have A30 := am A300
     clear A300
     replace H := Option.bind_eq_some_iff.mp H
     obtain ⟨t244, A310, H⟩ := H
     replace H : (if t244 < 0 then (none) else (if t244 = t240 then ((impl_ParseHeap.f kj4 a0).bind fun bt245 => ((laws_eqHeap.f kj4 bt245.1 bt245.2.1 bt245.2.2.1 t217 t220 t223).bind fun t256 => (if t256 = true then (laws_FnExactParseHeap.j1 kj4 t240 (bt245.2.2.2 != t226) t241 t242 t243) else (laws_FnExactParseHeap.j1 kj4 t240 true t241 t242 t243)))) else (none))) = some r := H
     have A31 := am A310
     clear A310
     by_cases c32 : t244 < 0
     ·rw [if_pos c32] at H
      exact absurd H (by simp)
     ·rw [if_neg c32] at H
      have c32b0 : decide (t244 < 0) = false := decide_eq_false c32
      clear c32
      by_cases c33 : t244 = t240
      ·rw [if_pos c33] at H
       have c33b0 : (t244 == t240) = true := beq_iff_eq.mpr c33
       have c33b1 : (t244 != t240) = false := bne_eq_false_iff_eq.mpr c33
       clear c33
       replace H := Option.bind_eq_some_iff.mp H
       obtain ⟨⟨t245, t248, t251, t254⟩, A340, H⟩ := H
       replace H : ((laws_eqHeap.f kj4 t245 t248 t251 t217 t220 t223).bind fun t256 => (if t256 = true then (laws_FnExactParseHeap.j1 kj4 t240 (t254 != t226) t241 t242 t243) else (laws_FnExactParseHeap.j1 kj4 t240 true t241 t242 t243))) = some r := H
       have A34 := am A340
       clear A340
       have HC35 := am H
       clear H
       have hnb36 := NB238_227.out
       have hnc36 := NB227_238.out
       obtain ⟨hcz37_0, hcz37_1, hcz37_2, hfz37_0, hfz37_1, hfz37_2⟩ := cf3 BK238
       go_upto_region 16 with (first | ((with_reducible refine gate_callee (f := 12) rfl ?_); refine gL (some 35) rfl rfl Tryd.func12 (by kernel_rfl) rfl #[.agg #[.slice Ao14 t228.length co14, .slice Ao17 t231.length co17, .slice Ao18 t234.length co18], .int .i64 1] rfl ?_; (with_reducible refine (laws_markHeap.calls kj4 (fun k_ => some k_ = (.slice Ao14 t228.length co14 : Value).ownBlock) (.slice Ao14 t228.length co14) t228 (fun k_ => some k_ = (.slice Ao17 t231.length co17 : Value).ownBlock) (.slice Ao17 t231.length co17) t231 (fun k_ => some k_ = (.slice Ao18 t234.length co18 : Value).ownBlock) (.slice Ao18 t234.length co18) t234 1 t240 t241 t242 t243 w _ ?side1 ?side2 ?side3 ?side4 ?side5 ?side6 ?side7 ?side8 ?side9 ?side10 A30.out).mono ?_); (case side1 => exact bs2 GE227.out GE238.out HB.out); (case side2 => exact Kd.R_tight rfl HO_239000.out); (case side3 => exact fun k_ e_ => by have z_ := HO_239000.out.1 k_ e_.symm; simp only [ne_eq] at z_; simp only [z_, not_false_eq_true]); (case side4 => exact fun k_ e_ => by have z_ := HO_239000.out.1 k_ e_.symm; simp only [ne_eq] at z_; simp only [z_, not_false_eq_true]); (case side5 => exact Kd.R_tight rfl HO_239001.out); (case side6 => exact fun k_ e_ => by have z_ := HO_239001.out.1 k_ e_.symm; simp only [ne_eq] at z_; simp only [z_, not_false_eq_true]); (case side7 => exact fun k_ e_ => by have z_ := HO_239001.out.1 k_ e_.symm; simp only [ne_eq] at z_; simp only [z_, not_false_eq_true]); (case side8 => exact Kd.R_tight rfl HO_239002.out); (case side9 => exact fun k_ e_ => by have z_ := HO_239002.out.1 k_ e_.symm; simp only [ne_eq] at z_; simp only [z_, not_false_eq_true]); (case side10 => exact fun k_ e_ => by have z_ := HO_239002.out.1 k_ e_.symm; simp only [ne_eq] at z_; simp only [z_, not_false_eq_true]); rintro e w38 ⟨rfl, hy0, hy1, hy2, hb, hkp⟩; refine ⟨_, rfl, ?_⟩; replace HO_228000 := am (Kd.R_kept (HO_228000.out) hkp (fun k_ hk_ hs_ => by simp only [ne_eq] at hk_; simp only [hk_, or_self] at hs_)); replace HO_228001 := am (Kd.R_kept (HO_228001.out) hkp (fun k_ hk_ hs_ => by simp only [ne_eq] at hk_; simp only [hk_, or_self] at hs_)); replace HO_228002 := am (Kd.R_kept (HO_228002.out) hkp (fun k_ hk_ hs_ => by simp only [ne_eq] at hk_; simp only [hk_, or_self] at hs_)); replace BK227 := am (blk_kept (kl BK227.out) hkp (fun hs_ => Or.elim hs_ (fun e_ => (fun e_ => (Kd.R_ne HO_239000.out BK227.out (by decide)) e_) e_) (fun e_ => Or.elim e_ (fun e_ => (fun e_ => (Kd.R_ne HO_239001.out BK227.out (by decide)) e_) e_) (fun e_ => (fun e_ => (Kd.R_ne HO_239002.out BK227.out (by decide)) e_) e_)))); replace BK238 := am (blk_kept (kl BK238.out) hkp (fun hs_ => Or.elim hs_ (fun e_ => (fun e_ => (Kd.R_ne HO_239000.out BK238.out (by decide)) e_) e_) (fun e_ => Or.elim e_ (fun e_ => (fun e_ => (Kd.R_ne HO_239001.out BK238.out (by decide)) e_) e_) (fun e_ => (fun e_ => (Kd.R_ne HO_239002.out BK238.out (by decide)) e_) e_)))); replace HO_239000 := am (Kd.R_reok rfl hy0 (fun k_ e_ => HO_239000.out.1 k_ e_)); replace HO_239001 := am (Kd.R_reok rfl hy1 (fun k_ e_ => HO_239001.out.1 k_ e_)); replace HO_239002 := am (Kd.R_reok rfl hy2 (fun k_ e_ => HO_239002.out.1 k_ e_)); replace HB := am (hb); (try clear hb hkp hy0 hy1 hy2); obtain ⟨hcz39_0, hcz39_1, hcz39_2, hfz39_0, hfz39_1, hfz39_2⟩ := cf3 BK238) | ((with_reducible refine gate_callee (f := 13) rfl ?_); refine goesL_ (some 38) rfl rfl Tryd.func13 (by kernel_rfl) rfl #[.agg #[.slice Ao14 t241.length co14, .slice Ao17 t242.length co17, .slice Ao18 t243.length co18], .int .i64 1] rfl (by (try simp only [List.map_toArray, List.map_cons, List.map_nil]); first | done | (rw [show t241.length = t228.length from (Kd.R_reads' HO_239000.out).1.symm, show t242.length = t231.length from (Kd.R_reads' HO_239001.out).1.symm, show t243.length = t234.length from (Kd.R_reads' HO_239002.out).1.symm] <;> rfl) | rfl | (simp only [List.length_drop, List.length_take]; rfl)) ?_; (with_reducible refine (laws_heldHeap.calls kj4 _ _ t241 _ _ t242 _ _ t243 1 t244 _ ?side1 ?side2 ?side3 ?side4 ?side5 ?side6 A31.out).mono ?_); (case side1 => exact cl ((Kd.R_reads' HO_239000.out).2.2)); (case side2 => rw [show t241.length = t228.length from (Kd.R_reads' HO_239000.out).1.symm]; exact sc HO_239000); (case side3 => exact cl ((Kd.R_reads' HO_239001.out).2.2)); (case side4 => rw [show t242.length = t231.length from (Kd.R_reads' HO_239001.out).1.symm]; exact sc HO_239001); (case side5 => exact cl ((Kd.R_reads' HO_239002.out).2.2)); (case side6 => rw [show t243.length = t234.length from (Kd.R_reads' HO_239002.out).1.symm]; exact sc HO_239002); rintro e w40 ⟨rfl, hb⟩; refine ⟨_, rfl, ?_⟩; replace HO_228000 := rb HO_228000 hb; replace HO_228001 := rb HO_228001 hb; replace HO_228002 := rb HO_228002 hb; replace HO_239000 := rb HO_239000 hb; replace HO_239001 := rb HO_239001 hb; replace HO_239002 := rb HO_239002 hb; replace BK227 := bb BK227 hb; replace BK238 := bb BK238 hb; replace HB := am (below_step (bs2 GE227.out GE238.out HB.out) hb); (try clear hb)) | ((with_reducible refine gate_callee (f := 10) rfl ?_); refine gL (some 46) rfl rfl Tryd.func10 (by kernel_rfl) rfl #[.string a0] rfl ?_; (with_reducible refine (impl_ParseHeap.calls kj4 a0 t245 t248 t251 t254 _ A34.out).mono ?_); rintro e w41 ⟨v246, v249, v252, rfl, ho0, ho1, ho2, hb⟩; refine ⟨_, rfl, ?_⟩; have HO247 := ln6 ho0 (rl HO_228000.out) (rl HO_228001.out) (rl HO_228002.out) (rl HO_239000.out) (rl HO_239001.out) (rl HO_239002.out) (bs2 GE227.out GE238.out HB.out); have HO250 := ln6 ho1 (rl HO_228000.out) (rl HO_228001.out) (rl HO_228002.out) (rl HO_239000.out) (rl HO_239001.out) (rl HO_239002.out) (bs2 GE227.out GE238.out HB.out); have HO253 := ln6 ho2 (rl HO_228000.out) (rl HO_228001.out) (rl HO_228002.out) (rl HO_239000.out) (rl HO_239001.out) (rl HO_239002.out) (bs2 GE227.out GE238.out HB.out); replace HO_228000 := td3 (rl HO_228000.out) hb ho0 ho1 ho2; replace HO_228001 := td3 (rl HO_228001.out) hb ho0 ho1 ho2; replace HO_228002 := td3 (rl HO_228002.out) hb ho0 ho1 ho2; replace HO_239000 := td3 (rl HO_239000.out) hb ho0 ho1 ho2; replace HO_239001 := td3 (rl HO_239001.out) hb ho0 ho1 ho2; replace HO_239002 := td3 (rl HO_239002.out) hb ho0 ho1 ho2; replace BK227 := bb BK227 hb; replace BK238 := bb BK238 hb; replace HB := am (below_step (bs2 GE227.out GE238.out HB.out) hb); (try clear hb ho0 ho1 ho2)) | ((with_reducible refine gate_dst (N := 9) rfl ?_); refine box_event ?hg (N := 9) ?hd (cs := #[.slice none 0 0, .slice none 0 0, .slice none 0 0]) (t := 24) ?hr ?_; (case hd => rfl); (case hg => rfl); (case hr => first | (go_simp; done) | (go_simp; rfl)); intro gb255 hg w42 hbox hb; replace HO_228000 := rb HO_228000 hb; replace HO_228001 := rb HO_228001 hb; replace HO_228002 := rb HO_228002 hb; replace HO_239000 := rb HO_239000 hb; replace HO_239001 := rb HO_239001 hb; replace HO_239002 := rb HO_239002 hb; replace HO247 := rb HO247 hb; replace HO250 := rb HO250 hb; replace HO253 := rb HO253 hb; have BK255 := am (hbox); have GW255 := am ((by rw [hg]; exact (below_size (bs2 GE227.out GE238.out HB.out)) : w.heap.size ≤ gb255)); have GE255 := am ((by rw [hg]; exact (below_size (bs2 GE227.out GE238.out HB.out)) : w.heap.size ≤ gb255)); replace HB := am (below_step (bs2 GE227.out GE238.out HB.out) hb); have NB227_255 := nb BK227 hg; have NB255_227 := nc BK227 hg; replace BK227 := bb BK227 hb; have NB238_255 := nb BK238 hg; have NB255_238 := nc BK238 hg; replace BK238 := bb BK238 hb; clear hb hbox hg; obtain ⟨Ao43, co43, eo43⟩ := Kd.R_slice HO247.out; subst eo43; have hnb44 := NB255_227.out; have hnc44 := NB227_255.out; have hnb45 := NB255_238.out; have hnc45 := NB238_255.out; obtain ⟨hcz46_0, hcz46_1, hcz46_2, hfz46_0, hfz46_1, hfz46_2⟩ := cf3 BK255; obtain ⟨Ao47, co47, eo47⟩ := Kd.R_slice HO250.out; subst eo47; obtain ⟨Ao48, co48, eo48⟩ := Kd.R_slice HO253.out; subst eo48))
       (try simp only [Act.put, List.setIfInBounds_toArray, List.set_cons_zero, List.set_cons_succ])
       go_cut [57] (fun v57 wc => ∃ (kq : Nat) (x57_34 : Bool), v57 = .bool x57_34 ∧ Aside0 (laws_FnExactParseHeap.j1 kq t240 x57_34 t241 t242 t243 = some r) ∧ Aside0 (kq ≤ kj4) ∧ Aside0 (Kd.R (Kd.int .i64) 3 wc w.heap.size (fun k_ => some k_ ≠ ((.slice Ao17 t231.length co17) : Value).ownBlock ∧ some k_ ≠ ((.slice Ao18 t234.length co18) : Value).ownBlock) (.slice Ao14 t228.length co14) t241) ∧ Aside0 (Kd.R (Kd.int .i64) 3 wc w.heap.size (fun k_ => some k_ ≠ ((.slice Ao14 t228.length co14) : Value).ownBlock ∧ some k_ ≠ ((.slice Ao18 t234.length co18) : Value).ownBlock) (.slice Ao17 t231.length co17) t242) ∧ Aside0 (Kd.R (Kd.int .i64) 3 wc w.heap.size (fun k_ => some k_ ≠ ((.slice Ao14 t228.length co14) : Value).ownBlock ∧ some k_ ≠ ((.slice Ao17 t231.length co17) : Value).ownBlock) (.slice Ao18 t234.length co18) t243) ∧ Aside0 (wc.heap[gb238]? = some (.cells #[(.slice Ao14 t228.length co14), (.slice Ao17 t231.length co17), (.slice Ao18 t234.length co18)] 24 (0, 0))) ∧ Aside0 (Below w.heap.size w wc))
       case first =>
        have H := HC35.out
        clear HC35
        replace H := Option.bind_eq_some_iff.mp H
        obtain ⟨t256, A490, H⟩ := H
        replace H : (if t256 = true then (laws_FnExactParseHeap.j1 kj4 t240 (t254 != t226) t241 t242 t243) else (laws_FnExactParseHeap.j1 kj4 t240 true t241 t242 t243)) = some r := H
        have A49 := am A490
        clear A490
        by_cases c50 : t256 = true
        ·subst c50
         have H1 : (laws_FnExactParseHeap.j1 kj4 t240 (t254 != t226) t241 t242 t243) = some r := by rw [if_pos rfl] at H; exact H
         clear H
         have H := H1
         clear H1
         have H' := am H
         clear H
         have hnb51 := NB255_227.out
         have hnc51 := NB227_255.out
         have hnb52 := NB255_238.out
         have hnc52 := NB238_255.out
         obtain ⟨hcz53_0, hcz53_1, hcz53_2, hfz53_0, hfz53_1, hfz53_2⟩ := cf3 BK255
         have hnb54 := NB227_238.out
         have hnc54 := NB238_227.out
         obtain ⟨hcz55_0, hcz55_1, hcz55_2, hfz55_0, hfz55_1, hfz55_2⟩ := cf3 BK227
         go_wp2_with (first | ((with_reducible refine gate_callee (f := 11) rfl ?_); refine gL (some 51) rfl rfl Tryd.func11 (by kernel_rfl) rfl #[.agg #[.slice Ao43 t245.length co43, .slice Ao47 t248.length co47, .slice Ao48 t251.length co48], .agg #[.slice Ao8 t217.length co8, .slice Ao10 t220.length co10, .slice Ao11 t223.length co11]] rfl ?_; (with_reducible refine (laws_eqHeap.calls kj4 _ _ t245 _ _ t248 _ _ t251 _ _ t217 _ _ t220 _ _ t223 true _ ?side1 ?side2 ?side3 ?side4 ?side5 ?side6 ?side7 ?side8 ?side9 ?side10 ?side11 ?side12 A49.out).mono ?_); (case side1 => exact sr (rg BK255 HO247)); (case side2 => exact sc HO247); (case side3 => exact sr (rg BK255 HO250)); (case side4 => exact sc HO250); (case side5 => exact sr (rg BK255 HO253)); (case side6 => exact sc HO253); (case side7 => exact sr (rg BK255 HO_228000)); (case side8 => exact sc HO_228000); (case side9 => exact sr (rg BK255 HO_228001)); (case side10 => exact sc HO_228001); (case side11 => exact sr (rg BK255 HO_228002)); (case side12 => exact sc HO_228002); rintro e w56 ⟨rfl, hb⟩; refine ⟨_, rfl, ?_⟩; replace HO_228000 := am (Kd.R_below (rg BK255 HO_228000) hb); replace HO_228001 := am (Kd.R_below (rg BK255 HO_228001) hb); replace HO_228002 := am (Kd.R_below (rg BK255 HO_228002) hb); replace HO_239000 := am (Kd.R_below (rg BK255 HO_239000) hb); replace HO_239001 := am (Kd.R_below (rg BK255 HO_239001) hb); replace HO_239002 := am (Kd.R_below (rg BK255 HO_239002) hb); replace HO247 := am (Kd.R_below (rg BK255 HO247) hb); replace HO250 := am (Kd.R_below (rg BK255 HO250) hb); replace HO253 := am (Kd.R_below (rg BK255 HO253) hb); replace BK227 := am (blk_below (g := gb227) (o := .cells #[.slice Ao8 t217.length co8, .slice Ao10 t220.length co10, .slice Ao11 t223.length co11] 24 (0, 0)) (kf1 NB227_255.out BK227.out) hb); replace BK238 := am (blk_below (g := gb238) (o := .cells #[.slice Ao14 t228.length co14, .slice Ao17 t231.length co17, .slice Ao18 t234.length co18] 24 (0, 0)) (kf1 NB238_255.out BK238.out) hb); replace BK255 := bp3 (kf0 BK255.out) hb; replace HB := am (below_step (bs3 GE227.out GE238.out GE255.out HB.out) hb); (try clear hb)))
         go_meet
         case rel => exact ⟨_, ((t254 != t226)), (by first | rfl | (simp; done) | (simp [*]; done)), H', ⟨by have := HJ4.out; first | omega | exact Nat.le_refl _⟩, ⟨rl (Kd.R_mono HO_239000.out (fun _ hk => by first | exact ⟨hk.1.1.1.2.2.2.1, hk.1.1.1.2.2.2.2⟩ | (simp only [ne_eq] at hk ⊢; simp only [hk, not_false_eq_true, and_self])))⟩, ⟨rl (Kd.R_mono HO_239001.out (fun _ hk => by first | exact ⟨hk.1.1.1.2.2.2.1, hk.1.1.1.2.2.2.2⟩ | (simp only [ne_eq] at hk ⊢; simp only [hk, not_false_eq_true, and_self])))⟩, ⟨rl (Kd.R_mono HO_239002.out (fun _ hk => by first | exact ⟨hk.1.1.1.2.2.2.1, hk.1.1.1.2.2.2.2⟩ | (simp only [ne_eq] at hk ⊢; simp only [hk, not_false_eq_true, and_self])))⟩, ⟨kl BK238.out⟩, ⟨by exact bs3 GE227.out GE238.out GE255.out HB.out⟩⟩
        ·replace c50 := Bool.eq_false_iff.mpr c50
         subst c50
         have H1 : (laws_FnExactParseHeap.j1 kj4 t240 true t241 t242 t243) = some r := by rw [if_neg (show ¬ (false = true) by decide)] at H; exact H
         clear H
         have H := H1
         clear H1
         have H' := am H
         clear H
         have hnb57 := NB255_227.out
         have hnc57 := NB227_255.out
         have hnb58 := NB255_238.out
         have hnc58 := NB238_255.out
         obtain ⟨hcz59_0, hcz59_1, hcz59_2, hfz59_0, hfz59_1, hfz59_2⟩ := cf3 BK255
         have hnb60 := NB227_238.out
         have hnc60 := NB238_227.out
         obtain ⟨hcz61_0, hcz61_1, hcz61_2, hfz61_0, hfz61_1, hfz61_2⟩ := cf3 BK227
         go_wp2_with (first | ((with_reducible refine gate_callee (f := 11) rfl ?_); refine gL (some 51) rfl rfl Tryd.func11 (by kernel_rfl) rfl #[.agg #[.slice Ao43 t245.length co43, .slice Ao47 t248.length co47, .slice Ao48 t251.length co48], .agg #[.slice Ao8 t217.length co8, .slice Ao10 t220.length co10, .slice Ao11 t223.length co11]] rfl ?_; (with_reducible refine (laws_eqHeap.calls kj4 _ _ t245 _ _ t248 _ _ t251 _ _ t217 _ _ t220 _ _ t223 false _ ?side1 ?side2 ?side3 ?side4 ?side5 ?side6 ?side7 ?side8 ?side9 ?side10 ?side11 ?side12 A49.out).mono ?_); (case side1 => exact sr (rg BK255 HO247)); (case side2 => exact sc HO247); (case side3 => exact sr (rg BK255 HO250)); (case side4 => exact sc HO250); (case side5 => exact sr (rg BK255 HO253)); (case side6 => exact sc HO253); (case side7 => exact sr (rg BK255 HO_228000)); (case side8 => exact sc HO_228000); (case side9 => exact sr (rg BK255 HO_228001)); (case side10 => exact sc HO_228001); (case side11 => exact sr (rg BK255 HO_228002)); (case side12 => exact sc HO_228002); rintro e w62 ⟨rfl, hb⟩; refine ⟨_, rfl, ?_⟩; replace HO_228000 := am (Kd.R_below (rg BK255 HO_228000) hb); replace HO_228001 := am (Kd.R_below (rg BK255 HO_228001) hb); replace HO_228002 := am (Kd.R_below (rg BK255 HO_228002) hb); replace HO_239000 := am (Kd.R_below (rg BK255 HO_239000) hb); replace HO_239001 := am (Kd.R_below (rg BK255 HO_239001) hb); replace HO_239002 := am (Kd.R_below (rg BK255 HO_239002) hb); replace HO247 := am (Kd.R_below (rg BK255 HO247) hb); replace HO250 := am (Kd.R_below (rg BK255 HO250) hb); replace HO253 := am (Kd.R_below (rg BK255 HO253) hb); replace BK227 := am (blk_below (g := gb227) (o := .cells #[.slice Ao8 t217.length co8, .slice Ao10 t220.length co10, .slice Ao11 t223.length co11] 24 (0, 0)) (kf1 NB227_255.out BK227.out) hb); replace BK238 := am (blk_below (g := gb238) (o := .cells #[.slice Ao14 t228.length co14, .slice Ao17 t231.length co17, .slice Ao18 t234.length co18] 24 (0, 0)) (kf1 NB238_255.out BK238.out) hb); replace BK255 := bp3 (kf0 BK255.out) hb; replace HB := am (below_step (bs3 GE227.out GE238.out GE255.out HB.out) hb); (try clear hb)))
         go_meet
         case rel => exact ⟨_, (true), (by first | rfl | (simp; done) | (simp [*]; done)), H', ⟨by have := HJ4.out; first | omega | exact Nat.le_refl _⟩, ⟨rl (Kd.R_mono HO_239000.out (fun _ hk => by first | exact ⟨hk.1.1.1.2.2.2.1, hk.1.1.1.2.2.2.2⟩ | (simp only [ne_eq] at hk ⊢; simp only [hk, not_false_eq_true, and_self])))⟩, ⟨rl (Kd.R_mono HO_239001.out (fun _ hk => by first | exact ⟨hk.1.1.1.2.2.2.1, hk.1.1.1.2.2.2.2⟩ | (simp only [ne_eq] at hk ⊢; simp only [hk, not_false_eq_true, and_self])))⟩, ⟨rl (Kd.R_mono HO_239002.out (fun _ hk => by first | exact ⟨hk.1.1.1.2.2.2.1, hk.1.1.1.2.2.2.2⟩ | (simp only [ne_eq] at hk ⊢; simp only [hk, not_false_eq_true, and_self])))⟩, ⟨kl BK238.out⟩, ⟨by exact bs3 GE227.out GE238.out GE255.out HB.out⟩⟩
       case rest =>
        clear HC35
        try clear c1
        try clear c2
        try clear c2b0
        try clear c2b1
        try clear p2
        try clear c3
        try clear c4
        try clear c5
        try clear c6
        try clear c9
        try clear c10
        try clear c11
        try clear c12
        try clear c13
        try clear c15
        try clear c20
        try clear c21
        try clear c25
        try clear c29
        try clear c32
        try clear c32b0
        try clear c33
        try clear c33b0
        try clear c33b1
        try clear c36
        try clear c44
        try clear c45
        try clear c50
        try clear c51
        try clear c52
        try clear c54
        try clear c57
        try clear c58
        try clear c60
        try clear p2
        obtain ⟨kq, x57_34, rfl, HA, HJ34, HO_239000, HO_239001, HO_239002, BK238, HB⟩ := hcut
        have hl239000_34 := (Kd.R_reads' HO_239000.out).1
        rw [hl239000_34] at HO_239000
        (try simp only [hl239000_34])
        (try simp only [hl239000_34] at BK238)
        (try simp only [hl239000_34] at HO_239001)
        (try simp only [hl239000_34] at HO_239002)
        have hl239001_34 := (Kd.R_reads' HO_239001.out).1
        rw [hl239001_34] at HO_239001
        (try simp only [hl239001_34])
        (try simp only [hl239001_34] at BK238)
        (try simp only [hl239001_34] at HO_239000)
        (try simp only [hl239001_34] at HO_239002)
        have hl239002_34 := (Kd.R_reads' HO_239002.out).1
        rw [hl239002_34] at HO_239002
        (try simp only [hl239002_34])
        (try simp only [hl239002_34] at BK238)
        (try simp only [hl239002_34] at HO_239000)
        (try simp only [hl239002_34] at HO_239001)
        cases kq with
        | zero => exact absurd HA.out (by simp [laws_FnExactParseHeap.j1])
        | succ kj34 =>
         have H := HA.out
         clear HA
         simp only [laws_FnExactParseHeap.j1] at H
         by_cases c63 : x57_34 = true
         ·subst c63
          have H1 : (none) = some r := by rw [if_pos rfl] at H; exact H
          clear H
          have H := H1
          clear H1
          exact absurd H (by simp)
         ·replace c63 := Bool.eq_false_iff.mpr c63
          subst c63
          have H1 : ((laws_heldHeap.f kj34 t241 t242 t243 1).bind fun t257 => (if t257 < 0 then (none) else (if t257 = t240 then (some true) else (none)))) = some r := by rw [if_neg (show ¬ (false = true) by decide)] at H; exact H
          clear H
          have H := H1
          clear H1
          replace H := Option.bind_eq_some_iff.mp H
          obtain ⟨t257, A640, H⟩ := H
          replace H : (if t257 < 0 then (none) else (if t257 = t240 then (some true) else (none))) = some r := H
          have A64 := am A640
          clear A640
          by_cases c65 : t257 < 0
          ·rw [if_pos c65] at H
           exact absurd H (by simp)
          ·rw [if_neg c65] at H
           have c65b0 : decide (t257 < 0) = false := decide_eq_false c65
           clear c65
           by_cases c66 : t257 = t240
           ·rw [if_pos c66] at H
            have c66b0 : (t257 == t240) = true := beq_iff_eq.mpr c66
            have c66b1 : (t257 != t240) = false := bne_eq_false_iff_eq.mpr c66
            clear c66
            obtain rfl := Option.some.inj H
            obtain ⟨hcz67_0, hcz67_1, hcz67_2, hfz67_0, hfz67_1, hfz67_2⟩ := cf3 BK238
            go_wp2_with (first | ((with_reducible refine gate_callee (f := 13) rfl ?_); refine gL (some 60) rfl rfl Tryd.func13 (by kernel_rfl) rfl #[.agg #[.slice Ao14 t241.length co14, .slice Ao17 t242.length co17, .slice Ao18 t243.length co18], .int .i64 1] rfl ?_; (with_reducible refine (laws_heldHeap.calls kj34 _ _ t241 _ _ t242 _ _ t243 1 t257 _ ?side1 ?side2 ?side3 ?side4 ?side5 ?side6 A64.out).mono ?_); (case side1 => exact cl ((Kd.R_reads' HO_239000.out).2.2)); (case side2 => exact sc HO_239000); (case side3 => exact cl ((Kd.R_reads' HO_239001.out).2.2)); (case side4 => exact sc HO_239001); (case side5 => exact cl ((Kd.R_reads' HO_239002.out).2.2)); (case side6 => exact sc HO_239002); rintro e w68 ⟨rfl, hb⟩; refine ⟨_, rfl, ?_⟩; replace HO_239000 := rb HO_239000 hb; replace HO_239001 := rb HO_239001 hb; replace HO_239002 := rb HO_239002 hb; replace BK238 := bb BK238 hb; replace HB := am (below_step (bs1 GE238.out HB.out) hb); (try clear hb)))
            go_ret
            exact ⟨by first | rfl | (simp [errW_none, errW_some] <;> rfl) | (simp [*, errW_none, errW_some] <;> rfl), by exact bs1 GE238.out HB.out⟩
           ·rw [if_neg c66] at H
            exact absurd H (by simp)
      ·rw [if_neg c33] at H
       exact absurd H (by simp)

/-- THE ONE PURE STATEMENT of laws_FnExactParseHeap: yours. -/
def laws_FnExactParseHeap.Pure : Prop := ∀ (a0 : ByteArray), a0.size ≤ 140737488351232 → ∃ k, laws_FnExactParseHeap.f k a0 = some true
theorem laws_FnExactParseHeap.walk (P : laws_FnExactParseHeap.Pure) (a0 : ByteArray) (w : World) (w0 : a0.size ≤ 140737488351232) :
  Calls Tryd.prog 3 #[.string a0] w fun e w' => e = .returned (.bool true) ∧ Below w.heap.size w w' := by
 obtain ⟨k, h⟩ := P a0 w0
 refine (laws_FnExactParseHeap.calls k a0 true w h).mono ?_
 rintro e w' ⟨rfl, hd⟩
 exact ⟨rfl, hd⟩

end Go.Proofs.YtomeaapjjmaepaaDoor.A
