/- Contracts of functions of the given program (CLawsFnParseValid). No conditions beyond those stated. -/
import Derived.Test.YtomeaapjjmaepaaDoorA0
import Derived.Test.YtomeaapjjmaepaaDoorAImplHeapSame
import Derived.Test.YtomeaapjjmaepaaDoorAImplHeapValid
import Derived.Test.YtomeaapjjmaepaaDoorAImplParseHeap
import Derived.Test.YtomeaapjjmaepaaDoorASpecDrawParseHeap
import Derived.Test.YtomeaapjjmaepaaDoorASpecParseHeap
import Derived.Test.YtomeaapjjmaepaaDoorA0
namespace Go.Proofs.YtomeaapjjmaepaaDoor.A
open Go.RowKit Go.Proofs.YtomeaapjjmaepaaDoorW.PrintWords Go.Proofs.YtomeaapjjmaepaaDoorW.PrintLast Go.Proofs.YtomeaapjjmaepaaDoorW.PrintMore
attribute [local go_sem] max2_int min2_int max_two min_two max_three min_three max_four min_four   -- for this text's walks alone
set_option linter.unusedVariables false
set_option linter.unusedSimpArgs false

/-! ### laws_FnParseValid -/
mutual
def laws_FnParseValid.j0 : Nat → Bool → Bool → Bool → List Int → List Int → List Int → List Int → List Int → List Int → Option (Bool)
 | 0, _, _, _, _, _, _, _, _, _ => none
 | k + 1, x5, x7, x36, x367000, x367001, x367002, x378000, x378001, x378002 => if x36 = true then ((impl_HeapSame.f k x367000 x367001 x367002 x378000 x378001 x378002).bind fun t379 => (if t379 = true then (some (x5 == x7)) else (none))) else (laws_FnParseValid.l0 k 0 x367000 x367001 x367002)
def laws_FnParseValid.l0 : Nat → Int → List Int → List Int → List Int → Option (Bool)
 | 0, _, _, _, _ => none
 | k + 1, x8, x367000, x367001, x367002 => if x8 < (x367000.length : Int) then (if 0 ≤ x8 then (if (rd x367000 x8) ≥ (x367000.length : Int) then (none) else (if x8 < (x367001.length : Int) then (if (rd x367001 x8) ≥ (x367000.length : Int) then (none) else (if (rd x367000 x8) < (-1) then (none) else (laws_FnParseValid.l0 k (wrap64 (x8 + 1)) x367000 x367001 x367002))) else (none))) else (none)) else ((impl_HeapValid.f k x367000 x367001 x367002).bind fun t383 => (some t383))
end
def laws_FnParseValid.f (k : Nat) (l0 : List Int) : Option (Bool) := if (l0.length : Int) > 1048576 then (some true) else ((spec_DrawParseHeap.f k l0).bind fun t355 => ((impl_ParseHeap.f k t355).bind fun bt356 => ((spec_ParseHeap.f k t355).bind fun bt367 => ((impl_HeapSame.f k bt356.1 bt356.2.1 bt356.2.2.1 bt367.1 bt367.2.1 bt367.2.2.1).bind fun t378 => (if t378 = true then (if (bt356.2.2.2 != bt367.2.2.2) = true then (laws_FnParseValid.j0 k bt356.2.2.2 bt367.2.2.2 true bt356.1 bt356.2.1 bt356.2.2.1 bt367.1 bt367.2.1 bt367.2.2.1) else (laws_FnParseValid.j0 k bt356.2.2.2 bt367.2.2.2 (!bt356.2.2.2) bt356.1 bt356.2.1 bt356.2.2.1 bt367.1 bt367.2.1 bt367.2.2.1)) else (laws_FnParseValid.j0 k bt356.2.2.2 bt367.2.2.2 true bt356.1 bt356.2.1 bt356.2.2.1 bt367.1 bt367.2.1 bt367.2.2.1))))))
theorem laws_FnParseValid.mono_l : ∀ k, (∀ y0 y1 y2 y3 y4 y5 y6 y7 y8, LeO (laws_FnParseValid.j0 k y0 y1 y2 y3 y4 y5 y6 y7 y8) (laws_FnParseValid.j0 (k + 1) y0 y1 y2 y3 y4 y5 y6 y7 y8)) ∧ (∀ y0 y1 y2 y3, LeO (laws_FnParseValid.l0 k y0 y1 y2 y3) (laws_FnParseValid.l0 (k + 1) y0 y1 y2 y3))
 | 0 => ⟨fun _ _ _ _ _ _ _ _ _ r h => by simp [laws_FnParseValid.j0] at h, fun _ _ _ _ r h => by simp [laws_FnParseValid.l0] at h⟩
 | k + 1 => by
  obtain ⟨ih0, ih1⟩ := laws_FnParseValid.mono_l k
  refine ⟨?_, ?_⟩
  ·intro y0 y1 y2 y3 y4 y5 y6 y7 y8
   unfold laws_FnParseValid.j0
   repeat' first
   | (with_reducible exact ih0 _ _ _ _ _ _ _ _ _)
   | (with_reducible exact ih1 _ _ _ _)
   | (with_reducible exact impl_HeapSame.mono _ _ _ _ _ _ _)
   | (with_reducible exact impl_HeapValid.mono _ _ _ _)
   | (with_reducible exact impl_ParseHeap.mono _ _)
   | (with_reducible exact spec_DrawParseHeap.mono _ _)
   | (with_reducible exact spec_ParseHeap.mono _ _)
   | (with_reducible exact LeO.refl _)
   | (with_reducible exact LeO.none _)
   | (with_reducible refine LeO.ite ?_ ?_)
   | (with_reducible refine LeO.bind ?_ (fun _ => ?_))
   | exact ih0 _ _ _ _ _ _ _ _ _
   | exact ih1 _ _ _ _
   | exact impl_HeapSame.mono _ _ _ _ _ _ _
   | exact impl_HeapValid.mono _ _ _ _
   | exact impl_ParseHeap.mono _ _
   | exact spec_DrawParseHeap.mono _ _
   | exact spec_ParseHeap.mono _ _
   | exact LeO.none _
   | refine LeO.ite ?_ ?_
   | refine LeO.bind ?_ (fun _ => ?_)
  ·intro y0 y1 y2 y3
   unfold laws_FnParseValid.l0
   repeat' first
   | (with_reducible exact ih0 _ _ _ _ _ _ _ _ _)
   | (with_reducible exact ih1 _ _ _ _)
   | (with_reducible exact impl_HeapSame.mono _ _ _ _ _ _ _)
   | (with_reducible exact impl_HeapValid.mono _ _ _ _)
   | (with_reducible exact impl_ParseHeap.mono _ _)
   | (with_reducible exact spec_DrawParseHeap.mono _ _)
   | (with_reducible exact spec_ParseHeap.mono _ _)
   | (with_reducible exact LeO.refl _)
   | (with_reducible exact LeO.none _)
   | (with_reducible refine LeO.ite ?_ ?_)
   | (with_reducible refine LeO.bind ?_ (fun _ => ?_))
   | exact ih0 _ _ _ _ _ _ _ _ _
   | exact ih1 _ _ _ _
   | exact impl_HeapSame.mono _ _ _ _ _ _ _
   | exact impl_HeapValid.mono _ _ _ _
   | exact impl_ParseHeap.mono _ _
   | exact spec_DrawParseHeap.mono _ _
   | exact spec_ParseHeap.mono _ _
   | exact LeO.none _
   | refine LeO.ite ?_ ?_
   | refine LeO.bind ?_ (fun _ => ?_)
theorem laws_FnParseValid.mono : ∀ a0 k, LeO (laws_FnParseValid.f k a0) (laws_FnParseValid.f (k + 1) a0) := by
 intro a0 k
 obtain ⟨ih0, ih1⟩ := laws_FnParseValid.mono_l k
 unfold laws_FnParseValid.f
 repeat' first
   | (with_reducible exact ih0 _ _ _ _ _ _ _ _ _)
   | (with_reducible exact ih1 _ _ _ _)
   | (with_reducible exact impl_HeapSame.mono _ _ _ _ _ _ _)
   | (with_reducible exact impl_HeapValid.mono _ _ _ _)
   | (with_reducible exact impl_ParseHeap.mono _ _)
   | (with_reducible exact spec_DrawParseHeap.mono _ _)
   | (with_reducible exact spec_ParseHeap.mono _ _)
   | (with_reducible exact LeO.refl _)
   | (with_reducible exact LeO.none _)
   | (with_reducible refine LeO.ite ?_ ?_)
   | (with_reducible refine LeO.bind ?_ (fun _ => ?_))
   | exact ih0 _ _ _ _ _ _ _ _ _
   | exact ih1 _ _ _ _
   | exact impl_HeapSame.mono _ _ _ _ _ _ _
   | exact impl_HeapValid.mono _ _ _ _
   | exact impl_ParseHeap.mono _ _
   | exact spec_DrawParseHeap.mono _ _
   | exact spec_ParseHeap.mono _ _
   | exact LeO.none _
   | refine LeO.ite ?_ ?_
   | refine LeO.bind ?_ (fun _ => ?_)
set_option maxHeartbeats 8000000 in
set_option maxRecDepth 100000 in
theorem laws_FnParseValid.calls (k : Nat) (A0 : Option Addr) (c0 : Nat) (l0 : List Int) (r : Bool) (w : World) (hr0 : Kd.C (Kd.int .u8) w A0 l0.length l0) (hc0 : l0.length ≤ c0) (h : laws_FnParseValid.f k l0 = some r) :
  Calls Tryd.prog 4 #[.slice A0 l0.length c0] w fun e w' => e = .returned (.bool r) ∧ Below w.heap.size w w' := by
 have hu24 := Tryd.underlying24
 have HR0 := am hr0
 have HC0 := am hc0
 clear hr0 hc0
 have HB := am (Below.refl w.heap.size w)
 have H : (if (l0.length : Int) > 1048576 then (some true) else ((spec_DrawParseHeap.f k l0).bind fun t355 => ((impl_ParseHeap.f k t355).bind fun bt356 => ((spec_ParseHeap.f k t355).bind fun bt367 => ((impl_HeapSame.f k bt356.1 bt356.2.1 bt356.2.2.1 bt367.1 bt367.2.1 bt367.2.2.1).bind fun t378 => (if t378 = true then (if (bt356.2.2.2 != bt367.2.2.2) = true then (laws_FnParseValid.j0 k bt356.2.2.2 bt367.2.2.2 true bt356.1 bt356.2.1 bt356.2.2.1 bt367.1 bt367.2.1 bt367.2.2.1) else (laws_FnParseValid.j0 k bt356.2.2.2 bt367.2.2.2 (!bt356.2.2.2) bt356.1 bt356.2.1 bt356.2.2.1 bt367.1 bt367.2.1 bt367.2.2.1)) else (laws_FnParseValid.j0 k bt356.2.2.2 bt367.2.2.2 true bt356.1 bt356.2.1 bt356.2.2.1 bt367.1 bt367.2.1 bt367.2.2.1))))))) = some r := h
 clear h
 by_cases c2 : (l0.length : Int) > 1048576
 ·rw [if_pos c2] at H
  have c2b0 : decide (1048576 < (l0.length : Int)) = true := decide_eq_true c2
  have c2b1 : decide (1048576 < l0.length) = true := decide_eq_true (by omega)
  clear c2
  obtain rfl := Option.some.inj H
  go_enter Tryd.func4, Tryd.ntmps4
  go_wp2
  repeat (go_quiet (fail); try go_wp2)
  go_ret
  exact ⟨by first | rfl | (simp [errW_none, errW_some] <;> rfl) | (simp [*, errW_none, errW_some] <;> rfl), by exact bs0 HB.out⟩
 ·rw [if_neg c2] at H
  have c2b0 : decide (1048576 < (l0.length : Int)) = false := decide_eq_false c2
  have c2b1 : decide (1048576 < l0.length) = false := decide_eq_false (by omega)
  clear c2
  replace H := Option.bind_eq_some_iff.mp H
  obtain ⟨t355, A30, H⟩ := H
  replace H : ((impl_ParseHeap.f k t355).bind fun bt356 => ((spec_ParseHeap.f k t355).bind fun bt367 => ((impl_HeapSame.f k bt356.1 bt356.2.1 bt356.2.2.1 bt367.1 bt367.2.1 bt367.2.2.1).bind fun t378 => (if t378 = true then (if (bt356.2.2.2 != bt367.2.2.2) = true then (laws_FnParseValid.j0 k bt356.2.2.2 bt367.2.2.2 true bt356.1 bt356.2.1 bt356.2.2.1 bt367.1 bt367.2.1 bt367.2.2.1) else (laws_FnParseValid.j0 k bt356.2.2.2 bt367.2.2.2 (!bt356.2.2.2) bt356.1 bt356.2.1 bt356.2.2.1 bt367.1 bt367.2.1 bt367.2.2.1)) else (laws_FnParseValid.j0 k bt356.2.2.2 bt367.2.2.2 true bt356.1 bt356.2.1 bt356.2.2.1 bt367.1 bt367.2.1 bt367.2.2.1))))) = some r := H
  have A3 := am A30
  clear A30
  replace H := Option.bind_eq_some_iff.mp H
  obtain ⟨⟨t356, t359, t362, t365⟩, A40, H⟩ := H
  replace H : ((spec_ParseHeap.f k t355).bind fun bt367 => ((impl_HeapSame.f k t356 t359 t362 bt367.1 bt367.2.1 bt367.2.2.1).bind fun t378 => (if t378 = true then (if (t365 != bt367.2.2.2) = true then (laws_FnParseValid.j0 k t365 bt367.2.2.2 true t356 t359 t362 bt367.1 bt367.2.1 bt367.2.2.1) else (laws_FnParseValid.j0 k t365 bt367.2.2.2 (!t365) t356 t359 t362 bt367.1 bt367.2.1 bt367.2.2.1)) else (laws_FnParseValid.j0 k t365 bt367.2.2.2 true t356 t359 t362 bt367.1 bt367.2.1 bt367.2.2.1)))) = some r := H
  have A4 := am A40
  clear A40
  replace H := Option.bind_eq_some_iff.mp H
  obtain ⟨⟨t367, t370, t373, t376⟩, A50, H⟩ := H
  replace H : ((impl_HeapSame.f k t356 t359 t362 t367 t370 t373).bind fun t378 => (if t378 = true then (if (t365 != t376) = true then (laws_FnParseValid.j0 k t365 t376 true t356 t359 t362 t367 t370 t373) else (laws_FnParseValid.j0 k t365 t376 (!t365) t356 t359 t362 t367 t370 t373)) else (laws_FnParseValid.j0 k t365 t376 true t356 t359 t362 t367 t370 t373))) = some r := H
  have A5 := am A50
  clear A50
  have HC6 := am H
  clear H
  go_enter Tryd.func4, Tryd.ntmps4
  go_upto_region 6 with (first | (go_at_call 14; (with_reducible refine (spec_DrawParseHeap.calls k _ _ l0 t355 _ ?side1 ?side2 A3.out).mono ?_); (case side1 => exact cl (HR0.out)); (case side2 => exact HC0.out); rintro e w7 ⟨rfl, hb⟩; replace HB := am (below_step (bl HB.out) hb); (try clear hb)) | (go_at_call 10; (with_reducible refine (impl_ParseHeap.calls k t355 t356 t359 t362 t365 _ A4.out).mono ?_); rintro e w8 ⟨v357, v360, v363, rfl, ho0, ho1, ho2, hb⟩; have HO358 := ln0 ho0 (bl HB.out); have HO361 := ln0 ho1 (bl HB.out); have HO364 := ln0 ho2 (bl HB.out); replace HB := am (below_step (bl HB.out) hb); (try clear hb ho0 ho1 ho2)) | ((with_reducible refine gate_dst (N := 4) rfl ?_); (try (refine gate_guard (by rfl) ?_; dsimp only)); refine box_event ?hg (N := 4) ?hd (cs := #[.slice none 0 0, .slice none 0 0, .slice none 0 0]) (t := 24) ?hr ?_; (case hd => rfl); (case hg => rfl); (case hr => first | (go_simp; done) | (go_simp; rfl)); intro gb366 hg w9 hbox hb; replace HO358 := rb HO358 hb; replace HO361 := rb HO361 hb; replace HO364 := rb HO364 hb; have BK366 := am (hbox); have GW366 := am ((by rw [hg]; exact (below_size (bl HB.out)) : w.heap.size ≤ gb366)); have GE366 := am ((by rw [hg]; exact (below_size (bl HB.out)) : w.heap.size ≤ gb366)); replace HB := am (below_step (bl HB.out) hb); clear hb hbox hg; obtain ⟨Ao10, co10, eo10⟩ := Kd.R_slice HO358.out; subst eo10; obtain ⟨hcz11_0, hcz11_1, hcz11_2, hfz11_0, hfz11_1, hfz11_2⟩ := cf3 BK366; obtain ⟨Ao12, co12, eo12⟩ := Kd.R_slice HO361.out; subst eo12; obtain ⟨Ao13, co13, eo13⟩ := Kd.R_slice HO364.out; subst eo13) | (go_at_call 9; (with_reducible refine (spec_ParseHeap.calls k t355 t367 t370 t373 t376 _ A5.out).mono ?_); rintro e w14 ⟨v368, v371, v374, rfl, ho0, ho1, ho2, hb⟩; have HO369 := ln3 ho0 (rg BK366 HO358) (rg BK366 HO361) (rg BK366 HO364) (bs1 GE366.out HB.out); have HO372 := ln3 ho1 (rg BK366 HO358) (rg BK366 HO361) (rg BK366 HO364) (bs1 GE366.out HB.out); have HO375 := ln3 ho2 (rg BK366 HO358) (rg BK366 HO361) (rg BK366 HO364) (bs1 GE366.out HB.out); replace HO358 := td3 (rg BK366 HO358) hb ho0 ho1 ho2; replace HO361 := td3 (rg BK366 HO361) hb ho0 ho1 ho2; replace HO364 := td3 (rg BK366 HO364) hb ho0 ho1 ho2; replace BK366 := bp3 (kf0 BK366.out) hb; replace HB := am (below_step (bs1 GE366.out HB.out) hb); (try clear hb ho0 ho1 ho2)) | ((with_reducible refine gate_dst (N := 6) rfl ?_); (try (refine gate_guard (by rfl) ?_; dsimp only)); refine box_event ?hg (N := 6) ?hd (cs := #[.slice none 0 0, .slice none 0 0, .slice none 0 0]) (t := 24) ?hr ?_; (case hd => rfl); (case hg => rfl); (case hr => first | (go_simp; done) | (go_simp; rfl)); intro gb377 hg w15 hbox hb; replace HO358 := rb HO358 hb; replace HO361 := rb HO361 hb; replace HO364 := rb HO364 hb; replace HO369 := rb HO369 hb; replace HO372 := rb HO372 hb; replace HO375 := rb HO375 hb; have BK377 := am (hbox); have GW377 := am ((by rw [hg]; exact (below_size (bs1 GE366.out HB.out)) : w.heap.size ≤ gb377)); have GE377 := am ((by rw [hg]; exact (below_size (bs1 GE366.out HB.out)) : w.heap.size ≤ gb377)); replace HB := am (below_step (bs1 GE366.out HB.out) hb); have NB366_377 := nb BK366 hg; have NB377_366 := nc BK366 hg; replace BK366 := bb BK366 hb; clear hb hbox hg; obtain ⟨Ao16, co16, eo16⟩ := Kd.R_slice HO369.out; subst eo16; have hnb17 := NB377_366.out; have hnc17 := NB366_377.out; obtain ⟨hcz18_0, hcz18_1, hcz18_2, hfz18_0, hfz18_1, hfz18_2⟩ := cf3 BK377; obtain ⟨Ao19, co19, eo19⟩ := Kd.R_slice HO372.out; subst eo19; obtain ⟨Ao20, co20, eo20⟩ := Kd.R_slice HO375.out; subst eo20))
  repeat (go_quiet (first | (go_at_call 14; (with_reducible refine (spec_DrawParseHeap.calls k _ _ l0 t355 _ ?side1 ?side2 A3.out).mono ?_); (case side1 => exact cl (HR0.out)); (case side2 => exact HC0.out); rintro e w7 ⟨rfl, hb⟩; replace HB := am (below_step (bl HB.out) hb); (try clear hb)) | (go_at_call 10; (with_reducible refine (impl_ParseHeap.calls k t355 t356 t359 t362 t365 _ A4.out).mono ?_); rintro e w8 ⟨v357, v360, v363, rfl, ho0, ho1, ho2, hb⟩; have HO358 := ln0 ho0 (bl HB.out); have HO361 := ln0 ho1 (bl HB.out); have HO364 := ln0 ho2 (bl HB.out); replace HB := am (below_step (bl HB.out) hb); (try clear hb ho0 ho1 ho2)) | ((with_reducible refine gate_dst (N := 4) rfl ?_); (try (refine gate_guard (by rfl) ?_; dsimp only)); refine box_event ?hg (N := 4) ?hd (cs := #[.slice none 0 0, .slice none 0 0, .slice none 0 0]) (t := 24) ?hr ?_; (case hd => rfl); (case hg => rfl); (case hr => first | (go_simp; done) | (go_simp; rfl)); intro gb366 hg w9 hbox hb; replace HO358 := rb HO358 hb; replace HO361 := rb HO361 hb; replace HO364 := rb HO364 hb; have BK366 := am (hbox); have GW366 := am ((by rw [hg]; exact (below_size (bl HB.out)) : w.heap.size ≤ gb366)); have GE366 := am ((by rw [hg]; exact (below_size (bl HB.out)) : w.heap.size ≤ gb366)); replace HB := am (below_step (bl HB.out) hb); clear hb hbox hg; obtain ⟨Ao10, co10, eo10⟩ := Kd.R_slice HO358.out; subst eo10; obtain ⟨hcz11_0, hcz11_1, hcz11_2, hfz11_0, hfz11_1, hfz11_2⟩ := cf3 BK366; obtain ⟨Ao12, co12, eo12⟩ := Kd.R_slice HO361.out; subst eo12; obtain ⟨Ao13, co13, eo13⟩ := Kd.R_slice HO364.out; subst eo13) | (go_at_call 9; (with_reducible refine (spec_ParseHeap.calls k t355 t367 t370 t373 t376 _ A5.out).mono ?_); rintro e w14 ⟨v368, v371, v374, rfl, ho0, ho1, ho2, hb⟩; have HO369 := ln3 ho0 (rg BK366 HO358) (rg BK366 HO361) (rg BK366 HO364) (bs1 GE366.out HB.out); have HO372 := ln3 ho1 (rg BK366 HO358) (rg BK366 HO361) (rg BK366 HO364) (bs1 GE366.out HB.out); have HO375 := ln3 ho2 (rg BK366 HO358) (rg BK366 HO361) (rg BK366 HO364) (bs1 GE366.out HB.out); replace HO358 := td3 (rg BK366 HO358) hb ho0 ho1 ho2; replace HO361 := td3 (rg BK366 HO361) hb ho0 ho1 ho2; replace HO364 := td3 (rg BK366 HO364) hb ho0 ho1 ho2; replace BK366 := bp3 (kf0 BK366.out) hb; replace HB := am (below_step (bs1 GE366.out HB.out) hb); (try clear hb ho0 ho1 ho2)) | ((with_reducible refine gate_dst (N := 6) rfl ?_); (try (refine gate_guard (by rfl) ?_; dsimp only)); refine box_event ?hg (N := 6) ?hd (cs := #[.slice none 0 0, .slice none 0 0, .slice none 0 0]) (t := 24) ?hr ?_; (case hd => rfl); (case hg => rfl); (case hr => first | (go_simp; done) | (go_simp; rfl)); intro gb377 hg w15 hbox hb; replace HO358 := rb HO358 hb; replace HO361 := rb HO361 hb; replace HO364 := rb HO364 hb; replace HO369 := rb HO369 hb; replace HO372 := rb HO372 hb; replace HO375 := rb HO375 hb; have BK377 := am (hbox); have GW377 := am ((by rw [hg]; exact (below_size (bs1 GE366.out HB.out)) : w.heap.size ≤ gb377)); have GE377 := am ((by rw [hg]; exact (below_size (bs1 GE366.out HB.out)) : w.heap.size ≤ gb377)); replace HB := am (below_step (bs1 GE366.out HB.out) hb); have NB366_377 := nb BK366 hg; have NB377_366 := nc BK366 hg; replace BK366 := bb BK366 hb; clear hb hbox hg; obtain ⟨Ao16, co16, eo16⟩ := Kd.R_slice HO369.out; subst eo16; have hnb17 := NB377_366.out; have hnc17 := NB366_377.out; obtain ⟨hcz18_0, hcz18_1, hcz18_2, hfz18_0, hfz18_1, hfz18_2⟩ := cf3 BK377; obtain ⟨Ao19, co19, eo19⟩ := Kd.R_slice HO372.out; subst eo19; obtain ⟨Ao20, co20, eo20⟩ := Kd.R_slice HO375.out; subst eo20)); go_upto_region 6 with (first | (go_at_call 14; (with_reducible refine (spec_DrawParseHeap.calls k _ _ l0 t355 _ ?side1 ?side2 A3.out).mono ?_); (case side1 => exact cl (HR0.out)); (case side2 => exact HC0.out); rintro e w7 ⟨rfl, hb⟩; replace HB := am (below_step (bl HB.out) hb); (try clear hb)) | (go_at_call 10; (with_reducible refine (impl_ParseHeap.calls k t355 t356 t359 t362 t365 _ A4.out).mono ?_); rintro e w8 ⟨v357, v360, v363, rfl, ho0, ho1, ho2, hb⟩; have HO358 := ln0 ho0 (bl HB.out); have HO361 := ln0 ho1 (bl HB.out); have HO364 := ln0 ho2 (bl HB.out); replace HB := am (below_step (bl HB.out) hb); (try clear hb ho0 ho1 ho2)) | ((with_reducible refine gate_dst (N := 4) rfl ?_); (try (refine gate_guard (by rfl) ?_; dsimp only)); refine box_event ?hg (N := 4) ?hd (cs := #[.slice none 0 0, .slice none 0 0, .slice none 0 0]) (t := 24) ?hr ?_; (case hd => rfl); (case hg => rfl); (case hr => first | (go_simp; done) | (go_simp; rfl)); intro gb366 hg w9 hbox hb; replace HO358 := rb HO358 hb; replace HO361 := rb HO361 hb; replace HO364 := rb HO364 hb; have BK366 := am (hbox); have GW366 := am ((by rw [hg]; exact (below_size (bl HB.out)) : w.heap.size ≤ gb366)); have GE366 := am ((by rw [hg]; exact (below_size (bl HB.out)) : w.heap.size ≤ gb366)); replace HB := am (below_step (bl HB.out) hb); clear hb hbox hg; obtain ⟨Ao10, co10, eo10⟩ := Kd.R_slice HO358.out; subst eo10; obtain ⟨hcz11_0, hcz11_1, hcz11_2, hfz11_0, hfz11_1, hfz11_2⟩ := cf3 BK366; obtain ⟨Ao12, co12, eo12⟩ := Kd.R_slice HO361.out; subst eo12; obtain ⟨Ao13, co13, eo13⟩ := Kd.R_slice HO364.out; subst eo13) | (go_at_call 9; (with_reducible refine (spec_ParseHeap.calls k t355 t367 t370 t373 t376 _ A5.out).mono ?_); rintro e w14 ⟨v368, v371, v374, rfl, ho0, ho1, ho2, hb⟩; have HO369 := ln3 ho0 (rg BK366 HO358) (rg BK366 HO361) (rg BK366 HO364) (bs1 GE366.out HB.out); have HO372 := ln3 ho1 (rg BK366 HO358) (rg BK366 HO361) (rg BK366 HO364) (bs1 GE366.out HB.out); have HO375 := ln3 ho2 (rg BK366 HO358) (rg BK366 HO361) (rg BK366 HO364) (bs1 GE366.out HB.out); replace HO358 := td3 (rg BK366 HO358) hb ho0 ho1 ho2; replace HO361 := td3 (rg BK366 HO361) hb ho0 ho1 ho2; replace HO364 := td3 (rg BK366 HO364) hb ho0 ho1 ho2; replace BK366 := bp3 (kf0 BK366.out) hb; replace HB := am (below_step (bs1 GE366.out HB.out) hb); (try clear hb ho0 ho1 ho2)) | ((with_reducible refine gate_dst (N := 6) rfl ?_); (try (refine gate_guard (by rfl) ?_; dsimp only)); refine box_event ?hg (N := 6) ?hd (cs := #[.slice none 0 0, .slice none 0 0, .slice none 0 0]) (t := 24) ?hr ?_; (case hd => rfl); (case hg => rfl); (case hr => first | (go_simp; done) | (go_simp; rfl)); intro gb377 hg w15 hbox hb; replace HO358 := rb HO358 hb; replace HO361 := rb HO361 hb; replace HO364 := rb HO364 hb; replace HO369 := rb HO369 hb; replace HO372 := rb HO372 hb; replace HO375 := rb HO375 hb; have BK377 := am (hbox); have GW377 := am ((by rw [hg]; exact (below_size (bs1 GE366.out HB.out)) : w.heap.size ≤ gb377)); have GE377 := am ((by rw [hg]; exact (below_size (bs1 GE366.out HB.out)) : w.heap.size ≤ gb377)); replace HB := am (below_step (bs1 GE366.out HB.out) hb); have NB366_377 := nb BK366 hg; have NB377_366 := nc BK366 hg; replace BK366 := bb BK366 hb; clear hb hbox hg; obtain ⟨Ao16, co16, eo16⟩ := Kd.R_slice HO369.out; subst eo16; have hnb17 := NB377_366.out; have hnc17 := NB366_377.out; obtain ⟨hcz18_0, hcz18_1, hcz18_2, hfz18_0, hfz18_1, hfz18_2⟩ := cf3 BK377; obtain ⟨Ao19, co19, eo19⟩ := Kd.R_slice HO372.out; subst eo19; obtain ⟨Ao20, co20, eo20⟩ := Kd.R_slice HO375.out; subst eo20)))
  (try simp only [Act.put, List.setIfInBounds_toArray, List.set_cons_zero, List.set_cons_succ])
  go_cut [36] (fun v36 wc => ∃ (kq : Nat) (x36_5 : Bool), v36 = .bool x36_5 ∧ Aside0 (laws_FnParseValid.j0 kq t365 t376 x36_5 t356 t359 t362 t367 t370 t373 = some r) ∧ Aside0 (kq ≤ k) ∧ Aside0 (Kd.R (Kd.int .i64) 3 wc w.heap.size (fun k_ => some k_ ≠ ((.slice Ao12 t359.length co12) : Value).ownBlock ∧ some k_ ≠ ((.slice Ao13 t362.length co13) : Value).ownBlock ∧ some k_ ≠ ((.slice Ao16 t367.length co16) : Value).ownBlock ∧ some k_ ≠ ((.slice Ao19 t370.length co19) : Value).ownBlock ∧ some k_ ≠ ((.slice Ao20 t373.length co20) : Value).ownBlock) (.slice Ao10 t356.length co10) t356) ∧ Aside0 (Kd.R (Kd.int .i64) 3 wc w.heap.size (fun k_ => some k_ ≠ ((.slice Ao10 t356.length co10) : Value).ownBlock ∧ some k_ ≠ ((.slice Ao13 t362.length co13) : Value).ownBlock ∧ some k_ ≠ ((.slice Ao16 t367.length co16) : Value).ownBlock ∧ some k_ ≠ ((.slice Ao19 t370.length co19) : Value).ownBlock ∧ some k_ ≠ ((.slice Ao20 t373.length co20) : Value).ownBlock) (.slice Ao12 t359.length co12) t359) ∧ Aside0 (Kd.R (Kd.int .i64) 3 wc w.heap.size (fun k_ => some k_ ≠ ((.slice Ao10 t356.length co10) : Value).ownBlock ∧ some k_ ≠ ((.slice Ao12 t359.length co12) : Value).ownBlock ∧ some k_ ≠ ((.slice Ao16 t367.length co16) : Value).ownBlock ∧ some k_ ≠ ((.slice Ao19 t370.length co19) : Value).ownBlock ∧ some k_ ≠ ((.slice Ao20 t373.length co20) : Value).ownBlock) (.slice Ao13 t362.length co13) t362) ∧ Aside0 (Kd.R (Kd.int .i64) 3 wc w.heap.size (fun k_ => some k_ ≠ ((.slice Ao10 t356.length co10) : Value).ownBlock ∧ some k_ ≠ ((.slice Ao12 t359.length co12) : Value).ownBlock ∧ some k_ ≠ ((.slice Ao13 t362.length co13) : Value).ownBlock ∧ some k_ ≠ ((.slice Ao19 t370.length co19) : Value).ownBlock ∧ some k_ ≠ ((.slice Ao20 t373.length co20) : Value).ownBlock) (.slice Ao16 t367.length co16) t367) ∧ Aside0 (Kd.R (Kd.int .i64) 3 wc w.heap.size (fun k_ => some k_ ≠ ((.slice Ao10 t356.length co10) : Value).ownBlock ∧ some k_ ≠ ((.slice Ao12 t359.length co12) : Value).ownBlock ∧ some k_ ≠ ((.slice Ao13 t362.length co13) : Value).ownBlock ∧ some k_ ≠ ((.slice Ao16 t367.length co16) : Value).ownBlock ∧ some k_ ≠ ((.slice Ao20 t373.length co20) : Value).ownBlock) (.slice Ao19 t370.length co19) t370) ∧ Aside0 (Kd.R (Kd.int .i64) 3 wc w.heap.size (fun k_ => some k_ ≠ ((.slice Ao10 t356.length co10) : Value).ownBlock ∧ some k_ ≠ ((.slice Ao12 t359.length co12) : Value).ownBlock ∧ some k_ ≠ ((.slice Ao13 t362.length co13) : Value).ownBlock ∧ some k_ ≠ ((.slice Ao16 t367.length co16) : Value).ownBlock ∧ some k_ ≠ ((.slice Ao19 t370.length co19) : Value).ownBlock) (.slice Ao20 t373.length co20) t373) ∧ Aside0 (wc.heap[gb366]? = some (.cells #[(.slice Ao10 t356.length co10), (.slice Ao12 t359.length co12), (.slice Ao13 t362.length co13)] 24 (0, 0))) ∧ Aside0 (wc.heap[gb377]? = some (.cells #[(.slice Ao16 t367.length co16), (.slice Ao19 t370.length co19), (.slice Ao20 t373.length co20)] 24 (0, 0))) ∧ Aside0 (Below w.heap.size w wc))
  case first =>
   have H := HC6.out
   clear HC6
   replace H := Option.bind_eq_some_iff.mp H
   obtain ⟨t378, A210, H⟩ := H
   replace H : (if t378 = true then (if (t365 != t376) = true then (laws_FnParseValid.j0 k t365 t376 true t356 t359 t362 t367 t370 t373) else (laws_FnParseValid.j0 k t365 t376 (!t365) t356 t359 t362 t367 t370 t373)) else (laws_FnParseValid.j0 k t365 t376 true t356 t359 t362 t367 t370 t373)) = some r := H
   have A21 := am A210
   clear A210
   by_cases c22 : t378 = true
   ·subst c22
    have H1 : (if (t365 != t376) = true then (laws_FnParseValid.j0 k t365 t376 true t356 t359 t362 t367 t370 t373) else (laws_FnParseValid.j0 k t365 t376 (!t365) t356 t359 t362 t367 t370 t373)) = some r := by rw [if_pos rfl] at H; exact H
    clear H
    have H := H1
    clear H1
    by_cases c23 : (t365 != t376) = true
    ·rw [if_pos c23] at H
     have c23b0 : (t365 != t376) = true := c23
     (try (have c23b1 : decide (t365 = t376) = false := by simpa using c23))
     (try (have c23b2 : (t365 == t376) = false := by simpa using c23))
     (try (have c23b3 : ¬ (t365 = t376) := by simpa using c23))
     clear c23
     (first | rw [c23b0] | (simp only [i64_w, i32_w]; rw [c23b0]) | skip)
     have H' := am H
     clear H
     have hnb24 := NB366_377.out
     have hnc24 := NB377_366.out
     obtain ⟨hcz25_0, hcz25_1, hcz25_2, hfz25_0, hfz25_1, hfz25_2⟩ := cf3 BK366
     obtain ⟨hcz26_0, hcz26_1, hcz26_2, hfz26_0, hfz26_1, hfz26_2⟩ := cf3 BK377
     go_wp2_with (first | (go_at_call 15; (with_reducible refine (impl_HeapSame.calls k _ _ t356 _ _ t359 _ _ t362 _ _ t367 _ _ t370 _ _ t373 true _ ?side1 ?side2 ?side3 ?side4 ?side5 ?side6 ?side7 ?side8 ?side9 ?side10 ?side11 ?side12 A21.out).mono ?_); (case side1 => exact sr (rg BK377 HO358)); (case side2 => exact sc HO358); (case side3 => exact sr (rg BK377 HO361)); (case side4 => exact sc HO361); (case side5 => exact sr (rg BK377 HO364)); (case side6 => exact sc HO364); (case side7 => exact sr (rg BK377 HO369)); (case side8 => exact sc HO369); (case side9 => exact sr (rg BK377 HO372)); (case side10 => exact sc HO372); (case side11 => exact sr (rg BK377 HO375)); (case side12 => exact sc HO375); rintro e w27 ⟨rfl, hb⟩; replace HO358 := am (Kd.R_below (rg BK377 HO358) hb); replace HO361 := am (Kd.R_below (rg BK377 HO361) hb); replace HO364 := am (Kd.R_below (rg BK377 HO364) hb); replace HO369 := am (Kd.R_below (rg BK377 HO369) hb); replace HO372 := am (Kd.R_below (rg BK377 HO372) hb); replace HO375 := am (Kd.R_below (rg BK377 HO375) hb); replace BK366 := am (blk_below (g := gb366) (o := .cells #[.slice Ao10 t356.length co10, .slice Ao12 t359.length co12, .slice Ao13 t362.length co13] 24 (0, 0)) (kf1 NB366_377.out BK366.out) hb); replace BK377 := bp3 (kf0 BK377.out) hb; replace HB := am (below_step (bs2 GE366.out GE377.out HB.out) hb); (try clear hb)))
     repeat (go_quiet (first | (go_at_call 15; (with_reducible refine (impl_HeapSame.calls k _ _ t356 _ _ t359 _ _ t362 _ _ t367 _ _ t370 _ _ t373 true _ ?side1 ?side2 ?side3 ?side4 ?side5 ?side6 ?side7 ?side8 ?side9 ?side10 ?side11 ?side12 A21.out).mono ?_); (case side1 => exact sr (rg BK377 HO358)); (case side2 => exact sc HO358); (case side3 => exact sr (rg BK377 HO361)); (case side4 => exact sc HO361); (case side5 => exact sr (rg BK377 HO364)); (case side6 => exact sc HO364); (case side7 => exact sr (rg BK377 HO369)); (case side8 => exact sc HO369); (case side9 => exact sr (rg BK377 HO372)); (case side10 => exact sc HO372); (case side11 => exact sr (rg BK377 HO375)); (case side12 => exact sc HO375); rintro e w27 ⟨rfl, hb⟩; replace HO358 := am (Kd.R_below (rg BK377 HO358) hb); replace HO361 := am (Kd.R_below (rg BK377 HO361) hb); replace HO364 := am (Kd.R_below (rg BK377 HO364) hb); replace HO369 := am (Kd.R_below (rg BK377 HO369) hb); replace HO372 := am (Kd.R_below (rg BK377 HO372) hb); replace HO375 := am (Kd.R_below (rg BK377 HO375) hb); replace BK366 := am (blk_below (g := gb366) (o := .cells #[.slice Ao10 t356.length co10, .slice Ao12 t359.length co12, .slice Ao13 t362.length co13] 24 (0, 0)) (kf1 NB366_377.out BK366.out) hb); replace BK377 := bp3 (kf0 BK377.out) hb; replace HB := am (below_step (bs2 GE366.out GE377.out HB.out) hb); (try clear hb))); try go_wp2_with (first | (go_at_call 15; (with_reducible refine (impl_HeapSame.calls k _ _ t356 _ _ t359 _ _ t362 _ _ t367 _ _ t370 _ _ t373 true _ ?side1 ?side2 ?side3 ?side4 ?side5 ?side6 ?side7 ?side8 ?side9 ?side10 ?side11 ?side12 A21.out).mono ?_); (case side1 => exact sr (rg BK377 HO358)); (case side2 => exact sc HO358); (case side3 => exact sr (rg BK377 HO361)); (case side4 => exact sc HO361); (case side5 => exact sr (rg BK377 HO364)); (case side6 => exact sc HO364); (case side7 => exact sr (rg BK377 HO369)); (case side8 => exact sc HO369); (case side9 => exact sr (rg BK377 HO372)); (case side10 => exact sc HO372); (case side11 => exact sr (rg BK377 HO375)); (case side12 => exact sc HO375); rintro e w27 ⟨rfl, hb⟩; replace HO358 := am (Kd.R_below (rg BK377 HO358) hb); replace HO361 := am (Kd.R_below (rg BK377 HO361) hb); replace HO364 := am (Kd.R_below (rg BK377 HO364) hb); replace HO369 := am (Kd.R_below (rg BK377 HO369) hb); replace HO372 := am (Kd.R_below (rg BK377 HO372) hb); replace HO375 := am (Kd.R_below (rg BK377 HO375) hb); replace BK366 := am (blk_below (g := gb366) (o := .cells #[.slice Ao10 t356.length co10, .slice Ao12 t359.length co12, .slice Ao13 t362.length co13] 24 (0, 0)) (kf1 NB366_377.out BK366.out) hb); replace BK377 := bp3 (kf0 BK377.out) hb; replace HB := am (below_step (bs2 GE366.out GE377.out HB.out) hb); (try clear hb))))
     go_meet
     case rel => exact ⟨_, (true), (by first | rfl | (simp; done) | (simp [*]; done)), H', ⟨by first | omega | exact Nat.le_refl _⟩, ⟨rl (Kd.R_mono HO358.out (fun _ hk => by simp only [ne_eq] at hk ⊢; simp only [hk, not_false_eq_true, and_self]))⟩, ⟨rl (Kd.R_mono HO361.out (fun _ hk => by simp only [ne_eq] at hk ⊢; simp only [hk, not_false_eq_true, and_self]))⟩, ⟨rl (Kd.R_mono HO364.out (fun _ hk => by simp only [ne_eq] at hk ⊢; simp only [hk, not_false_eq_true, and_self]))⟩, ⟨rl (Kd.R_mono HO369.out (fun _ hk => by simp only [ne_eq] at hk ⊢; simp only [hk, not_false_eq_true, and_self]))⟩, ⟨rl (Kd.R_mono HO372.out (fun _ hk => by simp only [ne_eq] at hk ⊢; simp only [hk, not_false_eq_true, and_self]))⟩, ⟨rl (Kd.R_mono HO375.out (fun _ hk => by simp only [ne_eq] at hk ⊢; simp only [hk, not_false_eq_true, and_self]))⟩, ⟨kl BK366.out⟩, ⟨kl BK377.out⟩, ⟨by exact bs2 GE366.out GE377.out HB.out⟩⟩
    ·rw [if_neg c23] at H
     have c23b0 : (t365 != t376) = false := by simpa using c23
     (try (have c23b1 : decide (t365 = t376) = true := by simpa using c23))
     (try (have c23b2 : (t365 == t376) = true := by simpa using c23))
     clear c23
     (first | rw [c23b0] | (simp only [i64_w, i32_w]; rw [c23b0]) | skip)
     have H' := am H
     clear H
     have hnb28 := NB366_377.out
     have hnc28 := NB377_366.out
     obtain ⟨hcz29_0, hcz29_1, hcz29_2, hfz29_0, hfz29_1, hfz29_2⟩ := cf3 BK366
     obtain ⟨hcz30_0, hcz30_1, hcz30_2, hfz30_0, hfz30_1, hfz30_2⟩ := cf3 BK377
     go_wp2_with (first | (go_at_call 15; (with_reducible refine (impl_HeapSame.calls k _ _ t356 _ _ t359 _ _ t362 _ _ t367 _ _ t370 _ _ t373 true _ ?side1 ?side2 ?side3 ?side4 ?side5 ?side6 ?side7 ?side8 ?side9 ?side10 ?side11 ?side12 A21.out).mono ?_); (case side1 => exact sr (rg BK377 HO358)); (case side2 => exact sc HO358); (case side3 => exact sr (rg BK377 HO361)); (case side4 => exact sc HO361); (case side5 => exact sr (rg BK377 HO364)); (case side6 => exact sc HO364); (case side7 => exact sr (rg BK377 HO369)); (case side8 => exact sc HO369); (case side9 => exact sr (rg BK377 HO372)); (case side10 => exact sc HO372); (case side11 => exact sr (rg BK377 HO375)); (case side12 => exact sc HO375); rintro e w31 ⟨rfl, hb⟩; replace HO358 := am (Kd.R_below (rg BK377 HO358) hb); replace HO361 := am (Kd.R_below (rg BK377 HO361) hb); replace HO364 := am (Kd.R_below (rg BK377 HO364) hb); replace HO369 := am (Kd.R_below (rg BK377 HO369) hb); replace HO372 := am (Kd.R_below (rg BK377 HO372) hb); replace HO375 := am (Kd.R_below (rg BK377 HO375) hb); replace BK366 := am (blk_below (g := gb366) (o := .cells #[.slice Ao10 t356.length co10, .slice Ao12 t359.length co12, .slice Ao13 t362.length co13] 24 (0, 0)) (kf1 NB366_377.out BK366.out) hb); replace BK377 := bp3 (kf0 BK377.out) hb; replace HB := am (below_step (bs2 GE366.out GE377.out HB.out) hb); (try clear hb)))
     repeat (go_quiet (first | (go_at_call 15; (with_reducible refine (impl_HeapSame.calls k _ _ t356 _ _ t359 _ _ t362 _ _ t367 _ _ t370 _ _ t373 true _ ?side1 ?side2 ?side3 ?side4 ?side5 ?side6 ?side7 ?side8 ?side9 ?side10 ?side11 ?side12 A21.out).mono ?_); (case side1 => exact sr (rg BK377 HO358)); (case side2 => exact sc HO358); (case side3 => exact sr (rg BK377 HO361)); (case side4 => exact sc HO361); (case side5 => exact sr (rg BK377 HO364)); (case side6 => exact sc HO364); (case side7 => exact sr (rg BK377 HO369)); (case side8 => exact sc HO369); (case side9 => exact sr (rg BK377 HO372)); (case side10 => exact sc HO372); (case side11 => exact sr (rg BK377 HO375)); (case side12 => exact sc HO375); rintro e w31 ⟨rfl, hb⟩; replace HO358 := am (Kd.R_below (rg BK377 HO358) hb); replace HO361 := am (Kd.R_below (rg BK377 HO361) hb); replace HO364 := am (Kd.R_below (rg BK377 HO364) hb); replace HO369 := am (Kd.R_below (rg BK377 HO369) hb); replace HO372 := am (Kd.R_below (rg BK377 HO372) hb); replace HO375 := am (Kd.R_below (rg BK377 HO375) hb); replace BK366 := am (blk_below (g := gb366) (o := .cells #[.slice Ao10 t356.length co10, .slice Ao12 t359.length co12, .slice Ao13 t362.length co13] 24 (0, 0)) (kf1 NB366_377.out BK366.out) hb); replace BK377 := bp3 (kf0 BK377.out) hb; replace HB := am (below_step (bs2 GE366.out GE377.out HB.out) hb); (try clear hb))); try go_wp2_with (first | (go_at_call 15; (with_reducible refine (impl_HeapSame.calls k _ _ t356 _ _ t359 _ _ t362 _ _ t367 _ _ t370 _ _ t373 true _ ?side1 ?side2 ?side3 ?side4 ?side5 ?side6 ?side7 ?side8 ?side9 ?side10 ?side11 ?side12 A21.out).mono ?_); (case side1 => exact sr (rg BK377 HO358)); (case side2 => exact sc HO358); (case side3 => exact sr (rg BK377 HO361)); (case side4 => exact sc HO361); (case side5 => exact sr (rg BK377 HO364)); (case side6 => exact sc HO364); (case side7 => exact sr (rg BK377 HO369)); (case side8 => exact sc HO369); (case side9 => exact sr (rg BK377 HO372)); (case side10 => exact sc HO372); (case side11 => exact sr (rg BK377 HO375)); (case side12 => exact sc HO375); rintro e w31 ⟨rfl, hb⟩; replace HO358 := am (Kd.R_below (rg BK377 HO358) hb); replace HO361 := am (Kd.R_below (rg BK377 HO361) hb); replace HO364 := am (Kd.R_below (rg BK377 HO364) hb); replace HO369 := am (Kd.R_below (rg BK377 HO369) hb); replace HO372 := am (Kd.R_below (rg BK377 HO372) hb); replace HO375 := am (Kd.R_below (rg BK377 HO375) hb); replace BK366 := am (blk_below (g := gb366) (o := .cells #[.slice Ao10 t356.length co10, .slice Ao12 t359.length co12, .slice Ao13 t362.length co13] 24 (0, 0)) (kf1 NB366_377.out BK366.out) hb); replace BK377 := bp3 (kf0 BK377.out) hb; replace HB := am (below_step (bs2 GE366.out GE377.out HB.out) hb); (try clear hb))))
     go_meet
     case rel => exact ⟨_, (!t365), (by first | rfl | (simp; done) | (simp [*]; done)), H', ⟨by first | omega | exact Nat.le_refl _⟩, ⟨rl (Kd.R_mono HO358.out (fun _ hk => by simp only [ne_eq] at hk ⊢; simp only [hk, not_false_eq_true, and_self]))⟩, ⟨rl (Kd.R_mono HO361.out (fun _ hk => by simp only [ne_eq] at hk ⊢; simp only [hk, not_false_eq_true, and_self]))⟩, ⟨rl (Kd.R_mono HO364.out (fun _ hk => by simp only [ne_eq] at hk ⊢; simp only [hk, not_false_eq_true, and_self]))⟩, ⟨rl (Kd.R_mono HO369.out (fun _ hk => by simp only [ne_eq] at hk ⊢; simp only [hk, not_false_eq_true, and_self]))⟩, ⟨rl (Kd.R_mono HO372.out (fun _ hk => by simp only [ne_eq] at hk ⊢; simp only [hk, not_false_eq_true, and_self]))⟩, ⟨rl (Kd.R_mono HO375.out (fun _ hk => by simp only [ne_eq] at hk ⊢; simp only [hk, not_false_eq_true, and_self]))⟩, ⟨kl BK366.out⟩, ⟨kl BK377.out⟩, ⟨by exact bs2 GE366.out GE377.out HB.out⟩⟩
   ·replace c22 := Bool.eq_false_iff.mpr c22
    subst c22
    have H1 : (laws_FnParseValid.j0 k t365 t376 true t356 t359 t362 t367 t370 t373) = some r := by rw [if_neg (show ¬ (false = true) by decide)] at H; exact H
    clear H
    have H := H1
    clear H1
    have H' := am H
    clear H
    have hnb32 := NB366_377.out
    have hnc32 := NB377_366.out
    obtain ⟨hcz33_0, hcz33_1, hcz33_2, hfz33_0, hfz33_1, hfz33_2⟩ := cf3 BK366
    obtain ⟨hcz34_0, hcz34_1, hcz34_2, hfz34_0, hfz34_1, hfz34_2⟩ := cf3 BK377
    go_wp2_with (first | (go_at_call 15; (with_reducible refine (impl_HeapSame.calls k _ _ t356 _ _ t359 _ _ t362 _ _ t367 _ _ t370 _ _ t373 false _ ?side1 ?side2 ?side3 ?side4 ?side5 ?side6 ?side7 ?side8 ?side9 ?side10 ?side11 ?side12 A21.out).mono ?_); (case side1 => exact sr (rg BK377 HO358)); (case side2 => exact sc HO358); (case side3 => exact sr (rg BK377 HO361)); (case side4 => exact sc HO361); (case side5 => exact sr (rg BK377 HO364)); (case side6 => exact sc HO364); (case side7 => exact sr (rg BK377 HO369)); (case side8 => exact sc HO369); (case side9 => exact sr (rg BK377 HO372)); (case side10 => exact sc HO372); (case side11 => exact sr (rg BK377 HO375)); (case side12 => exact sc HO375); rintro e w35 ⟨rfl, hb⟩; replace HO358 := am (Kd.R_below (rg BK377 HO358) hb); replace HO361 := am (Kd.R_below (rg BK377 HO361) hb); replace HO364 := am (Kd.R_below (rg BK377 HO364) hb); replace HO369 := am (Kd.R_below (rg BK377 HO369) hb); replace HO372 := am (Kd.R_below (rg BK377 HO372) hb); replace HO375 := am (Kd.R_below (rg BK377 HO375) hb); replace BK366 := am (blk_below (g := gb366) (o := .cells #[.slice Ao10 t356.length co10, .slice Ao12 t359.length co12, .slice Ao13 t362.length co13] 24 (0, 0)) (kf1 NB366_377.out BK366.out) hb); replace BK377 := bp3 (kf0 BK377.out) hb; replace HB := am (below_step (bs2 GE366.out GE377.out HB.out) hb); (try clear hb)))
    repeat (go_quiet (first | (go_at_call 15; (with_reducible refine (impl_HeapSame.calls k _ _ t356 _ _ t359 _ _ t362 _ _ t367 _ _ t370 _ _ t373 false _ ?side1 ?side2 ?side3 ?side4 ?side5 ?side6 ?side7 ?side8 ?side9 ?side10 ?side11 ?side12 A21.out).mono ?_); (case side1 => exact sr (rg BK377 HO358)); (case side2 => exact sc HO358); (case side3 => exact sr (rg BK377 HO361)); (case side4 => exact sc HO361); (case side5 => exact sr (rg BK377 HO364)); (case side6 => exact sc HO364); (case side7 => exact sr (rg BK377 HO369)); (case side8 => exact sc HO369); (case side9 => exact sr (rg BK377 HO372)); (case side10 => exact sc HO372); (case side11 => exact sr (rg BK377 HO375)); (case side12 => exact sc HO375); rintro e w35 ⟨rfl, hb⟩; replace HO358 := am (Kd.R_below (rg BK377 HO358) hb); replace HO361 := am (Kd.R_below (rg BK377 HO361) hb); replace HO364 := am (Kd.R_below (rg BK377 HO364) hb); replace HO369 := am (Kd.R_below (rg BK377 HO369) hb); replace HO372 := am (Kd.R_below (rg BK377 HO372) hb); replace HO375 := am (Kd.R_below (rg BK377 HO375) hb); replace BK366 := am (blk_below (g := gb366) (o := .cells #[.slice Ao10 t356.length co10, .slice Ao12 t359.length co12, .slice Ao13 t362.length co13] 24 (0, 0)) (kf1 NB366_377.out BK366.out) hb); replace BK377 := bp3 (kf0 BK377.out) hb; replace HB := am (below_step (bs2 GE366.out GE377.out HB.out) hb); (try clear hb))); try go_wp2_with (first | (go_at_call 15; (with_reducible refine (impl_HeapSame.calls k _ _ t356 _ _ t359 _ _ t362 _ _ t367 _ _ t370 _ _ t373 false _ ?side1 ?side2 ?side3 ?side4 ?side5 ?side6 ?side7 ?side8 ?side9 ?side10 ?side11 ?side12 A21.out).mono ?_); (case side1 => exact sr (rg BK377 HO358)); (case side2 => exact sc HO358); (case side3 => exact sr (rg BK377 HO361)); (case side4 => exact sc HO361); (case side5 => exact sr (rg BK377 HO364)); (case side6 => exact sc HO364); (case side7 => exact sr (rg BK377 HO369)); (case side8 => exact sc HO369); (case side9 => exact sr (rg BK377 HO372)); (case side10 => exact sc HO372); (case side11 => exact sr (rg BK377 HO375)); (case side12 => exact sc HO375); rintro e w35 ⟨rfl, hb⟩; replace HO358 := am (Kd.R_below (rg BK377 HO358) hb); replace HO361 := am (Kd.R_below (rg BK377 HO361) hb); replace HO364 := am (Kd.R_below (rg BK377 HO364) hb); replace HO369 := am (Kd.R_below (rg BK377 HO369) hb); replace HO372 := am (Kd.R_below (rg BK377 HO372) hb); replace HO375 := am (Kd.R_below (rg BK377 HO375) hb); replace BK366 := am (blk_below (g := gb366) (o := .cells #[.slice Ao10 t356.length co10, .slice Ao12 t359.length co12, .slice Ao13 t362.length co13] 24 (0, 0)) (kf1 NB366_377.out BK366.out) hb); replace BK377 := bp3 (kf0 BK377.out) hb; replace HB := am (below_step (bs2 GE366.out GE377.out HB.out) hb); (try clear hb))))
    go_meet
    case rel => exact ⟨_, (true), (by first | rfl | (simp; done) | (simp [*]; done)), H', ⟨by first | omega | exact Nat.le_refl _⟩, ⟨rl (Kd.R_mono HO358.out (fun _ hk => by simp only [ne_eq] at hk ⊢; simp only [hk, not_false_eq_true, and_self]))⟩, ⟨rl (Kd.R_mono HO361.out (fun _ hk => by simp only [ne_eq] at hk ⊢; simp only [hk, not_false_eq_true, and_self]))⟩, ⟨rl (Kd.R_mono HO364.out (fun _ hk => by simp only [ne_eq] at hk ⊢; simp only [hk, not_false_eq_true, and_self]))⟩, ⟨rl (Kd.R_mono HO369.out (fun _ hk => by simp only [ne_eq] at hk ⊢; simp only [hk, not_false_eq_true, and_self]))⟩, ⟨rl (Kd.R_mono HO372.out (fun _ hk => by simp only [ne_eq] at hk ⊢; simp only [hk, not_false_eq_true, and_self]))⟩, ⟨rl (Kd.R_mono HO375.out (fun _ hk => by simp only [ne_eq] at hk ⊢; simp only [hk, not_false_eq_true, and_self]))⟩, ⟨kl BK366.out⟩, ⟨kl BK377.out⟩, ⟨by exact bs2 GE366.out GE377.out HB.out⟩⟩
  case rest =>
   clear HC6
   try clear c1
   try clear c2
   try clear c2b0
   try clear c2b1
   try clear p2
   try clear c3
   try clear c4
   try clear c17
   try clear c22
   try clear c23
   try clear c23b0
   try clear c23b1
   try clear c23b2
   try clear c24
   try clear c28
   try clear c32
   obtain ⟨kq, x36_5, rfl, HA, HJ5, HO_367000, HO_367001, HO_367002, HO_378000, HO_378001, HO_378002, BK366, BK377, HB⟩ := hcut
   cases kq with
   | zero => exact absurd HA.out (by simp [laws_FnParseValid.j0])
   | succ kj5 =>
    have H := HA.out
    clear HA
    simp only [laws_FnParseValid.j0] at H
    by_cases c36 : x36_5 = true
    ·subst c36
     have H1 : ((impl_HeapSame.f kj5 t356 t359 t362 t367 t370 t373).bind fun t379 => (if t379 = true then (some (t365 == t376)) else (none))) = some r := by rw [if_pos rfl] at H; exact H
     clear H
     have H := H1
     clear H1
     replace H := Option.bind_eq_some_iff.mp H
     obtain ⟨t379, A370, H⟩ := H
     replace H : (if t379 = true then (some (t365 == t376)) else (none)) = some r := H
     have A37 := am A370
     clear A370
     by_cases c38 : t379 = true
     ·subst c38
      have H1 : (some (t365 == t376)) = some r := by rw [if_pos rfl] at H; exact H
      clear H
      have H := H1
      clear H1
      obtain rfl := Option.some.inj H
      have hnb39 := NB366_377.out
      have hnc39 := NB377_366.out
      obtain ⟨hcz40_0, hcz40_1, hcz40_2, hfz40_0, hfz40_1, hfz40_2⟩ := cf3 BK366
      obtain ⟨hcz41_0, hcz41_1, hcz41_2, hfz41_0, hfz41_1, hfz41_2⟩ := cf3 BK377
      go_wp2_with (first | (go_at_call 15; (with_reducible refine (impl_HeapSame.calls kj5 _ _ t356 _ _ t359 _ _ t362 _ _ t367 _ _ t370 _ _ t373 true _ ?side1 ?side2 ?side3 ?side4 ?side5 ?side6 ?side7 ?side8 ?side9 ?side10 ?side11 ?side12 A37.out).mono ?_); (case side1 => exact cl ((Kd.R_reads' HO_367000.out).2.2)); (case side2 => exact sc HO_367000); (case side3 => exact cl ((Kd.R_reads' HO_367001.out).2.2)); (case side4 => exact sc HO_367001); (case side5 => exact cl ((Kd.R_reads' HO_367002.out).2.2)); (case side6 => exact sc HO_367002); (case side7 => exact cl ((Kd.R_reads' HO_378000.out).2.2)); (case side8 => exact sc HO_378000); (case side9 => exact cl ((Kd.R_reads' HO_378001.out).2.2)); (case side10 => exact sc HO_378001); (case side11 => exact cl ((Kd.R_reads' HO_378002.out).2.2)); (case side12 => exact sc HO_378002); rintro e w42 ⟨rfl, hb⟩; replace HO_367000 := rb HO_367000 hb; replace HO_367001 := rb HO_367001 hb; replace HO_367002 := rb HO_367002 hb; replace HO_378000 := rb HO_378000 hb; replace HO_378001 := rb HO_378001 hb; replace HO_378002 := rb HO_378002 hb; replace BK366 := bb BK366 hb; replace BK377 := bb BK377 hb; replace HB := am (below_step (bs2 GE366.out GE377.out HB.out) hb); (try clear hb)))
      repeat (go_quiet (first | (go_at_call 15; (with_reducible refine (impl_HeapSame.calls kj5 _ _ t356 _ _ t359 _ _ t362 _ _ t367 _ _ t370 _ _ t373 true _ ?side1 ?side2 ?side3 ?side4 ?side5 ?side6 ?side7 ?side8 ?side9 ?side10 ?side11 ?side12 A37.out).mono ?_); (case side1 => exact cl ((Kd.R_reads' HO_367000.out).2.2)); (case side2 => exact sc HO_367000); (case side3 => exact cl ((Kd.R_reads' HO_367001.out).2.2)); (case side4 => exact sc HO_367001); (case side5 => exact cl ((Kd.R_reads' HO_367002.out).2.2)); (case side6 => exact sc HO_367002); (case side7 => exact cl ((Kd.R_reads' HO_378000.out).2.2)); (case side8 => exact sc HO_378000); (case side9 => exact cl ((Kd.R_reads' HO_378001.out).2.2)); (case side10 => exact sc HO_378001); (case side11 => exact cl ((Kd.R_reads' HO_378002.out).2.2)); (case side12 => exact sc HO_378002); rintro e w42 ⟨rfl, hb⟩; replace HO_367000 := rb HO_367000 hb; replace HO_367001 := rb HO_367001 hb; replace HO_367002 := rb HO_367002 hb; replace HO_378000 := rb HO_378000 hb; replace HO_378001 := rb HO_378001 hb; replace HO_378002 := rb HO_378002 hb; replace BK366 := bb BK366 hb; replace BK377 := bb BK377 hb; replace HB := am (below_step (bs2 GE366.out GE377.out HB.out) hb); (try clear hb))); try go_wp2_with (first | (go_at_call 15; (with_reducible refine (impl_HeapSame.calls kj5 _ _ t356 _ _ t359 _ _ t362 _ _ t367 _ _ t370 _ _ t373 true _ ?side1 ?side2 ?side3 ?side4 ?side5 ?side6 ?side7 ?side8 ?side9 ?side10 ?side11 ?side12 A37.out).mono ?_); (case side1 => exact cl ((Kd.R_reads' HO_367000.out).2.2)); (case side2 => exact sc HO_367000); (case side3 => exact cl ((Kd.R_reads' HO_367001.out).2.2)); (case side4 => exact sc HO_367001); (case side5 => exact cl ((Kd.R_reads' HO_367002.out).2.2)); (case side6 => exact sc HO_367002); (case side7 => exact cl ((Kd.R_reads' HO_378000.out).2.2)); (case side8 => exact sc HO_378000); (case side9 => exact cl ((Kd.R_reads' HO_378001.out).2.2)); (case side10 => exact sc HO_378001); (case side11 => exact cl ((Kd.R_reads' HO_378002.out).2.2)); (case side12 => exact sc HO_378002); rintro e w42 ⟨rfl, hb⟩; replace HO_367000 := rb HO_367000 hb; replace HO_367001 := rb HO_367001 hb; replace HO_367002 := rb HO_367002 hb; replace HO_378000 := rb HO_378000 hb; replace HO_378001 := rb HO_378001 hb; replace HO_378002 := rb HO_378002 hb; replace BK366 := bb BK366 hb; replace BK377 := bb BK377 hb; replace HB := am (below_step (bs2 GE366.out GE377.out HB.out) hb); (try clear hb))))
      go_ret
      exact ⟨by first | rfl | (simp [errW_none, errW_some] <;> rfl) | (simp [*, errW_none, errW_some] <;> rfl), by exact bs2 GE366.out GE377.out HB.out⟩
     ·replace c38 := Bool.eq_false_iff.mpr c38
      subst c38
      have H1 : (none) = some r := by rw [if_neg (show ¬ (false = true) by decide)] at H; exact H
      clear H
      have H := H1
      clear H1
      exact absurd H (by simp)
    ·replace c36 := Bool.eq_false_iff.mpr c36
     subst c36
     have H1 : (laws_FnParseValid.l0 kj5 0 t356 t359 t362) = some r := by rw [if_neg (show ¬ (false = true) by decide)] at H; exact H
     clear H
     have H := H1
     clear H1
     have H' := am H
     clear H
     go_wp2
     repeat (go_quiet (fail); try go_wp2)
     go_loopg [8] kj5 (fun kq v8 w' => ∃ (x8_2 : Int), v8 = .int .i64 x8_2 ∧ Aside0 (laws_FnParseValid.l0 kq x8_2 t356 t359 t362 = some r) ∧ Aside0 (kq ≤ kj5) ∧ Aside0 (Kd.R (Kd.int .i64) 3 w' w.heap.size (fun k_ => some k_ ≠ ((.slice Ao12 t359.length co12) : Value).ownBlock ∧ some k_ ≠ ((.slice Ao13 t362.length co13) : Value).ownBlock) (.slice Ao10 t356.length co10) t356) ∧ Aside0 (Kd.R (Kd.int .i64) 3 w' w.heap.size (fun k_ => some k_ ≠ ((.slice Ao10 t356.length co10) : Value).ownBlock ∧ some k_ ≠ ((.slice Ao13 t362.length co13) : Value).ownBlock) (.slice Ao12 t359.length co12) t359) ∧ Aside0 (Kd.R (Kd.int .i64) 3 w' w.heap.size (fun k_ => some k_ ≠ ((.slice Ao10 t356.length co10) : Value).ownBlock ∧ some k_ ≠ ((.slice Ao12 t359.length co12) : Value).ownBlock) (.slice Ao13 t362.length co13) t362) ∧ Aside0 (w'.heap[gb366]? = some (.cells #[(.slice Ao10 t356.length co10), (.slice Ao12 t359.length co12), (.slice Ao13 t362.length co13)] 24 (0, 0))) ∧ Aside0 (Below w.heap.size w w'))
     case atStart => exact ⟨(0), (by first | rfl | (simp; done) | (simp [*]; done)), H', ⟨Nat.le_refl _⟩, ⟨rl (Kd.R_mono HO_367000.out (fun _ hk => by first | exact ⟨hk.1, hk.2.1⟩ | (simp only [ne_eq] at hk ⊢; simp only [hk, not_false_eq_true, and_self])))⟩, ⟨rl (Kd.R_mono HO_367001.out (fun _ hk => by first | exact ⟨hk.1, hk.2.1⟩ | (simp only [ne_eq] at hk ⊢; simp only [hk, not_false_eq_true, and_self])))⟩, ⟨rl (Kd.R_mono HO_367002.out (fun _ hk => by first | exact ⟨hk.1, hk.2.1⟩ | (simp only [ne_eq] at hk ⊢; simp only [hk, not_false_eq_true, and_self])))⟩, ⟨kl BK366.out⟩, ⟨by exact bs2 GE366.out GE377.out HB.out⟩⟩
     case round =>
      clear H'
      try clear c1
      try clear c2
      try clear c2b0
      try clear c2b1
      try clear p2
      try clear c3
      try clear c4
      try clear c17
      try clear c22
      try clear c23
      try clear c23b0
      try clear c23b1
      try clear c23b2
      try clear c24
      try clear c28
      try clear c32
      try clear c36
      try clear c38
      try clear c39
      try clear p2
      obtain ⟨x8_2, rfl, HA, HK2, HO_367000, HO_367001, HO_367002, BK366, HB⟩ := hrel
      cases gk with
      | zero => exact absurd HA.out (by simp [laws_FnParseValid.l0])
      | succ k2 =>
       have H := HA.out
       clear HA
       simp only [laws_FnParseValid.l0] at H
       by_cases c43 : x8_2 < (t356.length : Int)
       ·rw [if_pos c43] at H
        have c43b0 : decide (x8_2 < (t356.length : Int)) = true := decide_eq_true c43
        clear c43
        by_cases c44 : 0 ≤ x8_2
        ·rw [if_pos c44] at H
         have c44b0 : decide (0 ≤ x8_2) = true := decide_eq_true c44
         clear c44
         by_cases c45 : (rd t356 x8_2) ≥ (t356.length : Int)
         ·rw [if_pos c45] at H
          exact absurd H (by simp)
         ·rw [if_neg c45] at H
          have c45b0 : decide ((t356.length : Int) ≤ (rd t356 x8_2)) = false := decide_eq_false c45
          clear c45
          by_cases c46 : x8_2 < (t359.length : Int)
          ·rw [if_pos c46] at H
           have c46b0 : decide (x8_2 < (t359.length : Int)) = true := decide_eq_true c46
           clear c46
           by_cases c47 : (rd t359 x8_2) ≥ (t356.length : Int)
           ·rw [if_pos c47] at H
            exact absurd H (by simp)
           ·rw [if_neg c47] at H
            have c47b0 : decide ((t356.length : Int) ≤ (rd t359 x8_2)) = false := decide_eq_false c47
            clear c47
            by_cases c48 : (rd t356 x8_2) < (-1)
            ·rw [if_pos c48] at H
             exact absurd H (by simp)
            ·rw [if_neg c48] at H
             have c48b0 : decide ((rd t356 x8_2) < (-1)) = false := decide_eq_false c48
             clear c48
             have H' := am H
             clear H
             obtain ⟨hcz49_0, hcz49_1, hcz49_2, hfz49_0, hfz49_1, hfz49_2⟩ := cf3 BK366
             have p380 : 0 ≤ (x8_2 : Int) := of_decide_eq_true (by first | (with_reducible assumption) | assumption)
             have q380 : x8_2 < (t356.length : Int) := of_decide_eq_true (by first | (with_reducible assumption) | assumption)
             obtain ⟨ad380, e380, hx380_0⟩ := Kd.at_int (Kd.R_reads' HO_367000.out).2.2 x8_2 p380 q380
             cases e380
             replace p380 := eq_true p380
             replace q380 := eq_true q380
             have p381 : 0 ≤ (x8_2 : Int) := of_decide_eq_true (by first | (with_reducible assumption) | assumption)
             have q381 : x8_2 < (t359.length : Int) := of_decide_eq_true (by first | (with_reducible assumption) | assumption)
             obtain ⟨ad381, e381, hx381_0⟩ := Kd.at_int (Kd.R_reads' HO_367001.out).2.2 x8_2 p381 q381
             cases e381
             replace p381 := eq_true p381
             replace q381 := eq_true q381
             have p382 : 0 ≤ (x8_2 : Int) := of_decide_eq_true (by first | (with_reducible assumption) | assumption)
             have q382 : x8_2 < (t356.length : Int) := of_decide_eq_true (by first | (with_reducible assumption) | assumption)
             obtain ⟨ad382, e382, hx382_0⟩ := Kd.at_int (Kd.R_reads' HO_367000.out).2.2 x8_2 p382 q382
             obtain rfl : ad380 = ad382 := (by injection e382)
             replace p382 := eq_true p382
             replace q382 := eq_true q382
             go_wp2
             repeat (go_quiet (fail); try go_wp2)
             go_roundg k2
             case measure => have := HJ5.out; have := HK2.out; omega
             case rel => exact ⟨(wrap64 (x8_2 + 1)), (by first | rfl | (simp; done) | (simp [*]; done)), H', ⟨by have := HJ5.out; have := HK2.out; omega⟩, ⟨rl HO_367000.out⟩, ⟨rl HO_367001.out⟩, ⟨rl HO_367002.out⟩, ⟨kl BK366.out⟩, ⟨by exact bs1 GE366.out HB.out⟩⟩
          ·rw [if_neg c46] at H
           exact absurd H (by simp)
        ·rw [if_neg c44] at H
         exact absurd H (by simp)
       ·rw [if_neg c43] at H
        have c43b0 : decide (x8_2 < (t356.length : Int)) = false := decide_eq_false c43
        clear c43
        replace H := Option.bind_eq_some_iff.mp H
        obtain ⟨t383, A500, H⟩ := H
        replace H : (some t383) = some r := H
        have A50 := am A500
        clear A500
        obtain rfl := Option.some.inj H
        obtain ⟨hcz51_0, hcz51_1, hcz51_2, hfz51_0, hfz51_1, hfz51_2⟩ := cf3 BK366
        go_wp2_with (first | (go_at_call 16; (with_reducible refine (impl_HeapValid.calls k2 (fun k_ => some k_ = (.slice Ao10 t356.length co10 : Value).ownBlock) _ _ t356 (fun k_ => some k_ = (.slice Ao12 t359.length co12 : Value).ownBlock) _ _ t359 (fun k_ => some k_ = (.slice Ao13 t362.length co13 : Value).ownBlock) _ _ t362 t383 _ ?side1 ?side2 ?side3 A50.out).mono ?_); (case side1 => exact Kd.R_V (Kd.R_tight rfl (Kd.R_types (HO_367000.out) BK366.out (by decide)))); (case side2 => exact Kd.R_V (Kd.R_tight rfl (Kd.R_types (HO_367001.out) BK366.out (by decide)))); (case side3 => exact Kd.R_V (Kd.R_tight rfl (Kd.R_types (HO_367002.out) BK366.out (by decide)))); rintro e w52 ⟨rfl, hb⟩; replace HO_367000 := rb HO_367000 hb; replace HO_367001 := rb HO_367001 hb; replace HO_367002 := rb HO_367002 hb; replace BK366 := bb BK366 hb; replace HB := am (below_step (bs1 GE366.out HB.out) hb); (try clear hb)))
        repeat (go_quiet (first | (go_at_call 16; (with_reducible refine (impl_HeapValid.calls k2 (fun k_ => some k_ = (.slice Ao10 t356.length co10 : Value).ownBlock) _ _ t356 (fun k_ => some k_ = (.slice Ao12 t359.length co12 : Value).ownBlock) _ _ t359 (fun k_ => some k_ = (.slice Ao13 t362.length co13 : Value).ownBlock) _ _ t362 t383 _ ?side1 ?side2 ?side3 A50.out).mono ?_); (case side1 => exact Kd.R_V (Kd.R_tight rfl (Kd.R_types (HO_367000.out) BK366.out (by decide)))); (case side2 => exact Kd.R_V (Kd.R_tight rfl (Kd.R_types (HO_367001.out) BK366.out (by decide)))); (case side3 => exact Kd.R_V (Kd.R_tight rfl (Kd.R_types (HO_367002.out) BK366.out (by decide)))); rintro e w52 ⟨rfl, hb⟩; replace HO_367000 := rb HO_367000 hb; replace HO_367001 := rb HO_367001 hb; replace HO_367002 := rb HO_367002 hb; replace BK366 := bb BK366 hb; replace HB := am (below_step (bs1 GE366.out HB.out) hb); (try clear hb))); try go_wp2_with (first | (go_at_call 16; (with_reducible refine (impl_HeapValid.calls k2 (fun k_ => some k_ = (.slice Ao10 t356.length co10 : Value).ownBlock) _ _ t356 (fun k_ => some k_ = (.slice Ao12 t359.length co12 : Value).ownBlock) _ _ t359 (fun k_ => some k_ = (.slice Ao13 t362.length co13 : Value).ownBlock) _ _ t362 t383 _ ?side1 ?side2 ?side3 A50.out).mono ?_); (case side1 => exact Kd.R_V (Kd.R_tight rfl (Kd.R_types (HO_367000.out) BK366.out (by decide)))); (case side2 => exact Kd.R_V (Kd.R_tight rfl (Kd.R_types (HO_367001.out) BK366.out (by decide)))); (case side3 => exact Kd.R_V (Kd.R_tight rfl (Kd.R_types (HO_367002.out) BK366.out (by decide)))); rintro e w52 ⟨rfl, hb⟩; replace HO_367000 := rb HO_367000 hb; replace HO_367001 := rb HO_367001 hb; replace HO_367002 := rb HO_367002 hb; replace BK366 := bb BK366 hb; replace HB := am (below_step (bs1 GE366.out HB.out) hb); (try clear hb))))
        go_ret
        exact ⟨by first | rfl | (simp [errW_none, errW_some] <;> rfl) | (simp [*, errW_none, errW_some] <;> rfl), by exact bs1 GE366.out HB.out⟩

/-- THE ONE PURE STATEMENT of laws_FnParseValid: yours. -/
def laws_FnParseValid.Pure : Prop := ∀ (l0 : List Int), l0.length ≤ maxLen → l0.length * 1 ≤ 140737488351232 → (∀ x ∈ l0, (Lit.int .u8 x).wf = true) → ∃ k, laws_FnParseValid.f k l0 = some true
theorem laws_FnParseValid.walk (P : laws_FnParseValid.Pure) (a0 : Option Addr) (len0 cap0 : Nat) (z0 : List Int) (w : World) (w0 : (a0 = none ∧ len0 = 0 ∧ cap0 = 0 ∧ z0 = []) ∨ ∃ x, a0 = some x ∧ len0 ≤ cap0 ∧ cap0 ≤ maxLen ∧ z0.length = cap0 ∧ (∀ i, i < z0.length → w.cell? (x.add i) = some (.int .u8 (z0.getD i 0))) ∧ ∀ n ∈ z0, (Lit.int .u8 n).wf = true) (y0 : len0 * 1 ≤ 140737488351232) :
  Calls Tryd.prog 4 #[.slice a0 len0 cap0] w fun e w' => e = .returned (.bool true) ∧ Below w.heap.size w w' := by
 obtain ⟨l0, rfl, hr0, hm0, hw0, hc0⟩ := ReadsInt.ofRowC w0
 obtain ⟨k, h⟩ := P l0 hm0 y0 hw0
 refine (laws_FnParseValid.calls k _ _ l0 true w (Kd.C_of_reads (d := (0 : Int)) (h1 := fun _ => rfl) hr0) hc0 h).mono ?_
 rintro e w' ⟨rfl, hd⟩
 exact ⟨rfl, hd⟩

end Go.Proofs.YtomeaapjjmaepaaDoor.A
