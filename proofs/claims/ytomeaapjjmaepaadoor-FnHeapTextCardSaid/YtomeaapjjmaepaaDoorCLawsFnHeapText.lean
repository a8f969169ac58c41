/- Contracts of functions of the given program (CLawsFnHeapText). No conditions beyond those stated. -/
import Derived.Test.YtomeaapjjmaepaaDoorA0
import Derived.Test.YtomeaapjjmaepaaDoorAImplFormatHeap
import Derived.Test.YtomeaapjjmaepaaDoorAImplHeapSame
import Derived.Test.YtomeaapjjmaepaaDoorAImplHeapValid
import Derived.Test.YtomeaapjjmaepaaDoorAImplParseHeap
import Derived.Test.YtomeaapjjmaepaaDoorASpecDrawFormatHeap
import Derived.Test.YtomeaapjjmaepaaDoorASpecDrawParseHeap
import Derived.Test.YtomeaapjjmaepaaDoorASpecFormatHeap
import Derived.Test.YtomeaapjjmaepaaDoorASpecHeapValid
import Derived.Test.YtomeaapjjmaepaaDoorASpecParseHeap
import Derived.Test.YtomeaapjjmaepaaDoorA0
namespace Go.Proofs.YtomeaapjjmaepaaDoor.A
open Go.RowKit Go.Proofs.YtomeaapjjmaepaaDoorW.PrintWords Go.Proofs.YtomeaapjjmaepaaDoorW.PrintLast Go.Proofs.YtomeaapjjmaepaaDoorW.PrintMore
attribute [local go_sem] max2_int min2_int max_two min_two max_three min_three max_four min_four   -- for this text's walks alone
set_option linter.unusedVariables false
set_option linter.unusedSimpArgs false

/-! ### laws_FnHeapText -/
mutual
def laws_FnHeapText.j0 : Nat → List Int → List Int → Bool → Option (Bool)
 | 0, _, _, _ => none
 | k + 1, x0, x1, x22 => if x22 = true then (some true) else ((spec_DrawFormatHeap.f k x0).bind fun bt474 => ((impl_FormatHeap.f k bt474.1 bt474.2.1 bt474.2.2).bind fun t484 => ((impl_ParseHeap.f k t484).bind fun bt485 => ((impl_HeapValid.f k bt474.1 bt474.2.1 bt474.2.2).bind fun t496 => ((spec_FormatHeap.f k bt474.1 bt474.2.1 bt474.2.2).bind fun t497 => (if t484.toList = t497.toList then ((spec_HeapValid.f k bt474.1 bt474.2.1 bt474.2.2).bind fun t498 => (if (t496 != t498) = true then (laws_FnHeapText.j1 k x1 true) else (if (bt485.2.2.2 != t496) = true then (laws_FnHeapText.j1 k x1 true) else (if bt485.2.2.2 = true then ((impl_HeapSame.f k bt485.1 bt485.2.1 bt485.2.2.1 bt474.1 bt474.2.1 bt474.2.2).bind fun t499 => (laws_FnHeapText.j1 k x1 (!t499))) else (laws_FnHeapText.j1 k x1 false))))) else (laws_FnHeapText.j1 k x1 true)))))))
def laws_FnHeapText.j1 : Nat → List Int → Bool → Option (Bool)
 | 0, _, _ => none
 | k + 1, x1, x57 => if x57 = true then (none) else ((spec_DrawParseHeap.f k x1).bind fun t500 => ((impl_ParseHeap.f k t500).bind fun bt501 => ((spec_ParseHeap.f k t500).bind fun bt512 => ((impl_HeapSame.f k bt501.1 bt501.2.1 bt501.2.2.1 bt512.1 bt512.2.1 bt512.2.2.1).bind fun t523 => (if t523 = true then (if (bt501.2.2.2 == bt512.2.2.2) = true then (if bt501.2.2.2 = true then ((impl_FormatHeap.f k bt501.1 bt501.2.1 bt501.2.2.1).bind fun t524 => (some (t524.toList == t500.toList))) else (some true)) else (none)) else (none))))))
end
def laws_FnHeapText.f (k : Nat) (l0 : List Int) (l1 : List Int) : Option (Bool) := if (l0.length : Int) > 1048576 then (laws_FnHeapText.j0 k l0 l1 true) else (laws_FnHeapText.j0 k l0 l1 (decide ((l1.length : Int) > 1048576)))
theorem laws_FnHeapText.mono_l : ∀ k, (∀ y0 y1 y2, LeO (laws_FnHeapText.j0 k y0 y1 y2) (laws_FnHeapText.j0 (k + 1) y0 y1 y2)) ∧ (∀ y0 y1, LeO (laws_FnHeapText.j1 k y0 y1) (laws_FnHeapText.j1 (k + 1) y0 y1))
 | 0 => ⟨fun _ _ _ r h => by simp [laws_FnHeapText.j0] at h, fun _ _ r h => by simp [laws_FnHeapText.j1] at h⟩
 | k + 1 => by
  obtain ⟨ih0, ih1⟩ := laws_FnHeapText.mono_l k
  refine ⟨?_, ?_⟩
  ·intro y0 y1 y2
   unfold laws_FnHeapText.j0
   repeat' first
   | (with_reducible exact ih0 _ _ _)
   | (with_reducible exact ih1 _ _)
   | (with_reducible exact impl_FormatHeap.mono _ _ _ _)
   | (with_reducible exact impl_HeapSame.mono _ _ _ _ _ _ _)
   | (with_reducible exact impl_HeapValid.mono _ _ _ _)
   | (with_reducible exact impl_ParseHeap.mono _ _)
   | (with_reducible exact spec_DrawFormatHeap.mono _ _)
   | (with_reducible exact spec_DrawParseHeap.mono _ _)
   | (with_reducible exact spec_FormatHeap.mono _ _ _ _)
   | (with_reducible exact spec_HeapValid.mono _ _ _ _)
   | (with_reducible exact spec_ParseHeap.mono _ _)
   | (with_reducible exact LeO.refl _)
   | (with_reducible exact LeO.none _)
   | (with_reducible refine LeO.ite ?_ ?_)
   | (with_reducible refine LeO.bind ?_ (fun _ => ?_))
   | exact ih0 _ _ _
   | exact ih1 _ _
   | exact impl_FormatHeap.mono _ _ _ _
   | exact impl_HeapSame.mono _ _ _ _ _ _ _
   | exact impl_HeapValid.mono _ _ _ _
   | exact impl_ParseHeap.mono _ _
   | exact spec_DrawFormatHeap.mono _ _
   | exact spec_DrawParseHeap.mono _ _
   | exact spec_FormatHeap.mono _ _ _ _
   | exact spec_HeapValid.mono _ _ _ _
   | exact spec_ParseHeap.mono _ _
   | exact LeO.none _
   | refine LeO.ite ?_ ?_
   | refine LeO.bind ?_ (fun _ => ?_)
  ·intro y0 y1
   unfold laws_FnHeapText.j1
   repeat' first
   | (with_reducible exact ih0 _ _ _)
   | (with_reducible exact ih1 _ _)
   | (with_reducible exact impl_FormatHeap.mono _ _ _ _)
   | (with_reducible exact impl_HeapSame.mono _ _ _ _ _ _ _)
   | (with_reducible exact impl_HeapValid.mono _ _ _ _)
   | (with_reducible exact impl_ParseHeap.mono _ _)
   | (with_reducible exact spec_DrawFormatHeap.mono _ _)
   | (with_reducible exact spec_DrawParseHeap.mono _ _)
   | (with_reducible exact spec_FormatHeap.mono _ _ _ _)
   | (with_reducible exact spec_HeapValid.mono _ _ _ _)
   | (with_reducible exact spec_ParseHeap.mono _ _)
   | (with_reducible exact LeO.refl _)
   | (with_reducible exact LeO.none _)
   | (with_reducible refine LeO.ite ?_ ?_)
   | (with_reducible refine LeO.bind ?_ (fun _ => ?_))
   | exact ih0 _ _ _
   | exact ih1 _ _
   | exact impl_FormatHeap.mono _ _ _ _
   | exact impl_HeapSame.mono _ _ _ _ _ _ _
   | exact impl_HeapValid.mono _ _ _ _
   | exact impl_ParseHeap.mono _ _
   | exact spec_DrawFormatHeap.mono _ _
   | exact spec_DrawParseHeap.mono _ _
   | exact spec_FormatHeap.mono _ _ _ _
   | exact spec_HeapValid.mono _ _ _ _
   | exact spec_ParseHeap.mono _ _
   | exact LeO.none _
   | refine LeO.ite ?_ ?_
   | refine LeO.bind ?_ (fun _ => ?_)
theorem laws_FnHeapText.mono : ∀ a0 a1 k, LeO (laws_FnHeapText.f k a0 a1) (laws_FnHeapText.f (k + 1) a0 a1) := by
 intro a0 a1 k
 obtain ⟨ih0, ih1⟩ := laws_FnHeapText.mono_l k
 unfold laws_FnHeapText.f
 repeat' first
   | (with_reducible exact ih0 _ _ _)
   | (with_reducible exact ih1 _ _)
   | (with_reducible exact impl_FormatHeap.mono _ _ _ _)
   | (with_reducible exact impl_HeapSame.mono _ _ _ _ _ _ _)
   | (with_reducible exact impl_HeapValid.mono _ _ _ _)
   | (with_reducible exact impl_ParseHeap.mono _ _)
   | (with_reducible exact spec_DrawFormatHeap.mono _ _)
   | (with_reducible exact spec_DrawParseHeap.mono _ _)
   | (with_reducible exact spec_FormatHeap.mono _ _ _ _)
   | (with_reducible exact spec_HeapValid.mono _ _ _ _)
   | (with_reducible exact spec_ParseHeap.mono _ _)
   | (with_reducible exact LeO.refl _)
   | (with_reducible exact LeO.none _)
   | (with_reducible refine LeO.ite ?_ ?_)
   | (with_reducible refine LeO.bind ?_ (fun _ => ?_))
   | exact ih0 _ _ _
   | exact ih1 _ _
   | exact impl_FormatHeap.mono _ _ _ _
   | exact impl_HeapSame.mono _ _ _ _ _ _ _
   | exact impl_HeapValid.mono _ _ _ _
   | exact impl_ParseHeap.mono _ _
   | exact spec_DrawFormatHeap.mono _ _
   | exact spec_DrawParseHeap.mono _ _
   | exact spec_FormatHeap.mono _ _ _ _
   | exact spec_HeapValid.mono _ _ _ _
   | exact spec_ParseHeap.mono _ _
   | exact LeO.none _
   | refine LeO.ite ?_ ?_
   | refine LeO.bind ?_ (fun _ => ?_)
set_option maxHeartbeats 8000000 in
set_option maxRecDepth 100000 in
theorem laws_FnHeapText.calls (k : Nat) (A0 : Option Addr) (c0 : Nat) (l0 : List Int) (A1 : Option Addr) (c1 : Nat) (l1 : List Int) (r : Bool) (w : World) (hr0 : Kd.C (Kd.int .u8) w A0 l0.length l0) (hc0 : l0.length ≤ c0) (hr1 : Kd.C (Kd.int .u8) w A1 l1.length l1) (hc1 : l1.length ≤ c1) (h : laws_FnHeapText.f k l0 l1 = some r) :
  Calls Tryd.prog 5 #[.slice A0 l0.length c0, .slice A1 l1.length c1] w fun e w' => e = .returned (.bool r) ∧ Below w.heap.size w w' := by
 have hu24 := Tryd.underlying24
 have HR0 := am hr0
 have HC0 := am hc0
 clear hr0 hc0
 have HR1 := am hr1
 have HC1 := am hc1
 clear hr1 hc1
 have HB := am (Below.refl w.heap.size w)
 have H : (if (l0.length : Int) > 1048576 then (laws_FnHeapText.j0 k l0 l1 true) else (laws_FnHeapText.j0 k l0 l1 (decide ((l1.length : Int) > 1048576)))) = some r := h
 clear h
 have HC3 := am H
 clear H
 go_enter Tryd.func5, Tryd.ntmps5
 go_upto_region 1 with (fail)
 go_cut [22] (fun v22 wc => ∃ (kq : Nat) (x22_2 : Bool), v22 = .bool x22_2 ∧ Aside0 (laws_FnHeapText.j0 kq l0 l1 x22_2 = some r) ∧ Aside0 (kq ≤ k) ∧ Aside0 (Below w.heap.size w wc))
 case first =>
  have H := HC3.out
  clear HC3
  by_cases c4 : (l0.length : Int) > 1048576
  ·rw [if_pos c4] at H
   have c4b0 : decide (1048576 < (l0.length : Int)) = true := decide_eq_true c4
   have c4b1 : decide (1048576 < l0.length) = true := decide_eq_true (by omega)
   clear c4
   (first | rw [c4b0] | (simp only [i64_w, i32_w]; rw [c4b0]) | skip)
   have H' := am H
   clear H
   go_wp2
   go_meet
   case rel => exact ⟨_, (true), (by first | rfl | (simp; done) | (simp [*]; done)), H', ⟨by first | omega | exact Nat.le_refl _⟩, ⟨by exact bs0 HB.out⟩⟩
  ·rw [if_neg c4] at H
   have c4b0 : decide (1048576 < (l0.length : Int)) = false := decide_eq_false c4
   have c4b1 : decide (1048576 < l0.length) = false := decide_eq_false (by omega)
   clear c4
   (first | rw [c4b0] | (simp only [i64_w, i32_w]; rw [c4b0]) | skip)
   have H' := am H
   clear H
   go_wp2
   go_meet
   case rel => exact ⟨_, (decide ((l1.length : Int) > 1048576)), (by first | rfl | (simp; done) | (simp [*]; done)), H', ⟨by first | omega | exact Nat.le_refl _⟩, ⟨by exact bs0 HB.out⟩⟩
 case rest =>
  clear HC3
  try clear c1
  try clear p2
  try clear c4
  try clear c4b0
  try clear c4b1
  obtain ⟨kq, x22_2, rfl, HA, HJ2, HB⟩ := hcut
  cases kq with
  | zero => exact absurd HA.out (by simp [laws_FnHeapText.j0])
  | succ kj2 =>
   have H := HA.out
   clear HA
   simp only [laws_FnHeapText.j0] at H
   by_cases c5 : x22_2 = true
   ·subst c5
    have H1 : (some true) = some r := by rw [if_pos rfl] at H; exact H
    clear H
    have H := H1
    clear H1
    obtain rfl := Option.some.inj H
    go_wp2
    go_ret
    exact ⟨by first | rfl | (simp [errW_none, errW_some] <;> rfl) | (simp [*, errW_none, errW_some] <;> rfl), by exact bs0 HB.out⟩
   ·replace c5 := Bool.eq_false_iff.mpr c5
    subst c5
    have H1 : ((spec_DrawFormatHeap.f kj2 l0).bind fun bt474 => ((impl_FormatHeap.f kj2 bt474.1 bt474.2.1 bt474.2.2).bind fun t484 => ((impl_ParseHeap.f kj2 t484).bind fun bt485 => ((impl_HeapValid.f kj2 bt474.1 bt474.2.1 bt474.2.2).bind fun t496 => ((spec_FormatHeap.f kj2 bt474.1 bt474.2.1 bt474.2.2).bind fun t497 => (if t484.toList = t497.toList then ((spec_HeapValid.f kj2 bt474.1 bt474.2.1 bt474.2.2).bind fun t498 => (if (t496 != t498) = true then (laws_FnHeapText.j1 kj2 l1 true) else (if (bt485.2.2.2 != t496) = true then (laws_FnHeapText.j1 kj2 l1 true) else (if bt485.2.2.2 = true then ((impl_HeapSame.f kj2 bt485.1 bt485.2.1 bt485.2.2.1 bt474.1 bt474.2.1 bt474.2.2).bind fun t499 => (laws_FnHeapText.j1 kj2 l1 (!t499))) else (laws_FnHeapText.j1 kj2 l1 false))))) else (laws_FnHeapText.j1 kj2 l1 true))))))) = some r := by rw [if_neg (show ¬ (false = true) by decide)] at H; exact H
    clear H
    have H := H1
    clear H1
    replace H := Option.bind_eq_some_iff.mp H
    obtain ⟨⟨t474, t477, t480⟩, A60, H⟩ := H
    replace H : ((impl_FormatHeap.f kj2 t474 t477 t480).bind fun t484 => ((impl_ParseHeap.f kj2 t484).bind fun bt485 => ((impl_HeapValid.f kj2 t474 t477 t480).bind fun t496 => ((spec_FormatHeap.f kj2 t474 t477 t480).bind fun t497 => (if t484.toList = t497.toList then ((spec_HeapValid.f kj2 t474 t477 t480).bind fun t498 => (if (t496 != t498) = true then (laws_FnHeapText.j1 kj2 l1 true) else (if (bt485.2.2.2 != t496) = true then (laws_FnHeapText.j1 kj2 l1 true) else (if bt485.2.2.2 = true then ((impl_HeapSame.f kj2 bt485.1 bt485.2.1 bt485.2.2.1 t474 t477 t480).bind fun t499 => (laws_FnHeapText.j1 kj2 l1 (!t499))) else (laws_FnHeapText.j1 kj2 l1 false))))) else (laws_FnHeapText.j1 kj2 l1 true)))))) = some r := H
    have A6 := am A60
    clear A60
    replace H := Option.bind_eq_some_iff.mp H
    obtain ⟨t484, A70, H⟩ := H
    replace H : ((impl_ParseHeap.f kj2 t484).bind fun bt485 => ((impl_HeapValid.f kj2 t474 t477 t480).bind fun t496 => ((spec_FormatHeap.f kj2 t474 t477 t480).bind fun t497 => (if t484.toList = t497.toList then ((spec_HeapValid.f kj2 t474 t477 t480).bind fun t498 => (if (t496 != t498) = true then (laws_FnHeapText.j1 kj2 l1 true) else (if (bt485.2.2.2 != t496) = true then (laws_FnHeapText.j1 kj2 l1 true) else (if bt485.2.2.2 = true then ((impl_HeapSame.f kj2 bt485.1 bt485.2.1 bt485.2.2.1 t474 t477 t480).bind fun t499 => (laws_FnHeapText.j1 kj2 l1 (!t499))) else (laws_FnHeapText.j1 kj2 l1 false))))) else (laws_FnHeapText.j1 kj2 l1 true))))) = some r := H
    have A7 := am A70
    clear A70
    replace H := Option.bind_eq_some_iff.mp H
    obtain ⟨⟨t485, t488, t491, t494⟩, A80, H⟩ := H
    replace H : ((impl_HeapValid.f kj2 t474 t477 t480).bind fun t496 => ((spec_FormatHeap.f kj2 t474 t477 t480).bind fun t497 => (if t484.toList = t497.toList then ((spec_HeapValid.f kj2 t474 t477 t480).bind fun t498 => (if (t496 != t498) = true then (laws_FnHeapText.j1 kj2 l1 true) else (if (t494 != t496) = true then (laws_FnHeapText.j1 kj2 l1 true) else (if t494 = true then ((impl_HeapSame.f kj2 t485 t488 t491 t474 t477 t480).bind fun t499 => (laws_FnHeapText.j1 kj2 l1 (!t499))) else (laws_FnHeapText.j1 kj2 l1 false))))) else (laws_FnHeapText.j1 kj2 l1 true)))) = some r := H
    have A8 := am A80
    clear A80
    replace H := Option.bind_eq_some_iff.mp H
    obtain ⟨t496, A90, H⟩ := H
    replace H : ((spec_FormatHeap.f kj2 t474 t477 t480).bind fun t497 => (if t484.toList = t497.toList then ((spec_HeapValid.f kj2 t474 t477 t480).bind fun t498 => (if (t496 != t498) = true then (laws_FnHeapText.j1 kj2 l1 true) else (if (t494 != t496) = true then (laws_FnHeapText.j1 kj2 l1 true) else (if t494 = true then ((impl_HeapSame.f kj2 t485 t488 t491 t474 t477 t480).bind fun t499 => (laws_FnHeapText.j1 kj2 l1 (!t499))) else (laws_FnHeapText.j1 kj2 l1 false))))) else (laws_FnHeapText.j1 kj2 l1 true))) = some r := H
    have A9 := am A90
    clear A90
    have HC10 := am H
    clear H
    go_upto_region 7 with (first | ((with_reducible refine gate_callee (f := 17) rfl ?_); refine gL (some 24) rfl rfl Tryd.func17 (by kernel_rfl) rfl #[.slice A0 l0.length c0] rfl ?_; (with_reducible refine (spec_DrawFormatHeap.calls kj2 _ _ l0 t474 t477 t480 _ ?side1 ?side2 A6.out).mono ?_); (case side1 => exact ci HR0 HB); (case side2 => exact HC0.out); rintro e w11 ⟨v475, v478, v481, rfl, ho0, ho1, ho2, hb⟩; refine ⟨_, rfl, ?_⟩; have HO476 := ln0 ho0 (bl HB.out); have HO479 := ln0 ho1 (bl HB.out); have HO482 := ln0 ho2 (bl HB.out); replace HB := am (below_step (bl HB.out) hb); (try clear hb ho0 ho1 ho2)) | ((with_reducible refine gate_dst (N := 5) rfl ?_); (try (refine gate_guard (by rfl) ?_; dsimp only)); refine box_event ?hg (N := 5) ?hd (cs := #[.slice none 0 0, .slice none 0 0, .slice none 0 0]) (t := 24) ?hr ?_; (case hd => rfl); (case hg => rfl); (case hr => first | (go_simp; done) | (go_simp; rfl)); intro gb483 hg w12 hbox hb; replace HO476 := rb HO476 hb; replace HO479 := rb HO479 hb; replace HO482 := rb HO482 hb; have BK483 := am (hbox); have GW483 := am ((by rw [hg]; exact (below_size (bl HB.out)) : w.heap.size ≤ gb483)); have GE483 := am ((by rw [hg]; exact (below_size (bl HB.out)) : w.heap.size ≤ gb483)); replace HB := am (below_step (bl HB.out) hb); clear hb hbox hg; obtain ⟨Ao13, co13, eo13⟩ := Kd.R_slice HO476.out; subst eo13; obtain ⟨hcz14_0, hcz14_1, hcz14_2, hfz14_0, hfz14_1, hfz14_2⟩ := cf3 BK483; obtain ⟨Ao15, co15, eo15⟩ := Kd.R_slice HO479.out; subst eo15; obtain ⟨Ao16, co16, eo16⟩ := Kd.R_slice HO482.out; subst eo16) | ((with_reducible refine gate_callee (f := 18) rfl ?_); refine gL (some 26) rfl rfl Tryd.func18 (by kernel_rfl) rfl #[.agg #[.slice Ao13 t474.length co13, .slice Ao15 t477.length co15, .slice Ao16 t480.length co16]] rfl ?_; (with_reducible refine (impl_FormatHeap.calls kj2 _ _ t474 _ _ t477 _ _ t480 t484 _ ?side1 ?side2 ?side3 ?side4 ?side5 ?side6 A7.out).mono ?_); (case side1 => exact sr (rg BK483 HO476)); (case side2 => exact sc HO476); (case side3 => exact sr (rg BK483 HO479)); (case side4 => exact sc HO479); (case side5 => exact sr (rg BK483 HO482)); (case side6 => exact sc HO482); rintro e w17 ⟨rfl, hb⟩; refine ⟨_, rfl, ?_⟩; replace HO476 := am (Kd.R_below (rg BK483 HO476) hb); replace HO479 := am (Kd.R_below (rg BK483 HO479) hb); replace HO482 := am (Kd.R_below (rg BK483 HO482) hb); replace BK483 := bp3 (kf0 BK483.out) hb; replace HB := am (below_step (bs1 GE483.out HB.out) hb); (try clear hb)) | ((with_reducible refine gate_callee (f := 10) rfl ?_); refine gL (some 29) rfl rfl Tryd.func10 (by kernel_rfl) rfl #[.string t484] rfl ?_; (with_reducible refine (impl_ParseHeap.calls kj2 t484 t485 t488 t491 t494 _ A8.out).mono ?_); rintro e w18 ⟨v486, v489, v492, rfl, ho0, ho1, ho2, hb⟩; refine ⟨_, rfl, ?_⟩; have HO487 := ln3 ho0 (rl HO476.out) (rl HO479.out) (rl HO482.out) (bs1 GE483.out HB.out); have HO490 := ln3 ho1 (rl HO476.out) (rl HO479.out) (rl HO482.out) (bs1 GE483.out HB.out); have HO493 := ln3 ho2 (rl HO476.out) (rl HO479.out) (rl HO482.out) (bs1 GE483.out HB.out); replace HO476 := td3 (rl HO476.out) hb ho0 ho1 ho2; replace HO479 := td3 (rl HO479.out) hb ho0 ho1 ho2; replace HO482 := td3 (rl HO482.out) hb ho0 ho1 ho2; replace BK483 := bb BK483 hb; replace HB := am (below_step (bs1 GE483.out HB.out) hb); (try clear hb ho0 ho1 ho2)) | ((with_reducible refine gate_dst (N := 7) rfl ?_); (try (refine gate_guard (by rfl) ?_; dsimp only)); refine box_event ?hg (N := 7) ?hd (cs := #[.slice none 0 0, .slice none 0 0, .slice none 0 0]) (t := 24) ?hr ?_; (case hd => rfl); (case hg => rfl); (case hr => first | (go_simp; done) | (go_simp; rfl)); intro gb495 hg w19 hbox hb; replace HO476 := rb HO476 hb; replace HO479 := rb HO479 hb; replace HO482 := rb HO482 hb; replace HO487 := rb HO487 hb; replace HO490 := rb HO490 hb; replace HO493 := rb HO493 hb; have BK495 := am (hbox); have GW495 := am ((by rw [hg]; exact (below_size (bs1 GE483.out HB.out)) : w.heap.size ≤ gb495)); have GE495 := am ((by rw [hg]; exact (below_size (bs1 GE483.out HB.out)) : w.heap.size ≤ gb495)); replace HB := am (below_step (bs1 GE483.out HB.out) hb); have NB483_495 := nb BK483 hg; have NB495_483 := nc BK483 hg; replace BK483 := bb BK483 hb; clear hb hbox hg; obtain ⟨Ao20, co20, eo20⟩ := Kd.R_slice HO487.out; subst eo20; have hnb21 := NB495_483.out; have hnc21 := NB483_495.out; obtain ⟨hcz22_0, hcz22_1, hcz22_2, hfz22_0, hfz22_1, hfz22_2⟩ := cf3 BK495; obtain ⟨Ao23, co23, eo23⟩ := Kd.R_slice HO490.out; subst eo23; obtain ⟨Ao24, co24, eo24⟩ := Kd.R_slice HO493.out; subst eo24) | ((with_reducible refine gate_store (t := 24) (p := 7) rfl ?_); refine store_event (t := 24) (p := 7) (v := ?vo_w25) (w1 := (((w19.setCell ⟨gb495, 0, none⟩ (.slice Ao20 t485.length co20)).setCell ⟨gb495, 1, none⟩ (.slice Ao23 t488.length co23)).setCell ⟨gb495, 2, none⟩ (.slice Ao24 t491.length co24))) ?hg ?ho ?hn ?hr ?_; (case ho => rfl); (case hg => rfl); (case hn => rfl); (case hr => first | (go_simp; done) | (go_simp; rfl)); intro w25 hw; replace HO476 : Aside0 (Kd.R (Kd.int .i64) 3 w25 w.heap.size (fun k_ => some k_ ≠ (.slice Ao15 t477.length co15 : Value).ownBlock ∧ some k_ ≠ (.slice Ao16 t480.length co16 : Value).ownBlock ∧ some k_ ≠ (.slice Ao20 t485.length co20 : Value).ownBlock ∧ some k_ ≠ (.slice Ao23 t488.length co23 : Value).ownBlock ∧ some k_ ≠ (.slice Ao24 t491.length co24 : Value).ownBlock) (.slice Ao13 t474.length co13) t474) := ⟨(by rw [hw]; exact (rl (Kd.R_mono (Kd.R_far (p := ⟨gb495, 2, none⟩) (Kd.R_far (p := ⟨gb495, 1, none⟩) (Kd.R_far (p := ⟨gb495, 0, none⟩) (Kd.R_types HO476.out BK495.out (by decide)) (fun _ hk => hk.2) (.slice Ao20 t485.length co20)) (fun _ hk => hk.2) (.slice Ao23 t488.length co23)) (fun _ hk => hk.2) (.slice Ao24 t491.length co24)) (fun _ hk => by simp only [ne_eq] at hk ⊢; simp only [hk, not_false_eq_true, and_self]))))⟩; replace HO479 : Aside0 (Kd.R (Kd.int .i64) 3 w25 w.heap.size (fun k_ => some k_ ≠ (.slice Ao13 t474.length co13 : Value).ownBlock ∧ some k_ ≠ (.slice Ao16 t480.length co16 : Value).ownBlock ∧ some k_ ≠ (.slice Ao20 t485.length co20 : Value).ownBlock ∧ some k_ ≠ (.slice Ao23 t488.length co23 : Value).ownBlock ∧ some k_ ≠ (.slice Ao24 t491.length co24 : Value).ownBlock) (.slice Ao15 t477.length co15) t477) := ⟨(by rw [hw]; exact (rl (Kd.R_mono (Kd.R_far (p := ⟨gb495, 2, none⟩) (Kd.R_far (p := ⟨gb495, 1, none⟩) (Kd.R_far (p := ⟨gb495, 0, none⟩) (Kd.R_types HO479.out BK495.out (by decide)) (fun _ hk => hk.2) (.slice Ao20 t485.length co20)) (fun _ hk => hk.2) (.slice Ao23 t488.length co23)) (fun _ hk => hk.2) (.slice Ao24 t491.length co24)) (fun _ hk => by simp only [ne_eq] at hk ⊢; simp only [hk, not_false_eq_true, and_self]))))⟩; replace HO482 : Aside0 (Kd.R (Kd.int .i64) 3 w25 w.heap.size (fun k_ => some k_ ≠ (.slice Ao13 t474.length co13 : Value).ownBlock ∧ some k_ ≠ (.slice Ao15 t477.length co15 : Value).ownBlock ∧ some k_ ≠ (.slice Ao20 t485.length co20 : Value).ownBlock ∧ some k_ ≠ (.slice Ao23 t488.length co23 : Value).ownBlock ∧ some k_ ≠ (.slice Ao24 t491.length co24 : Value).ownBlock) (.slice Ao16 t480.length co16) t480) := ⟨(by rw [hw]; exact (rl (Kd.R_mono (Kd.R_far (p := ⟨gb495, 2, none⟩) (Kd.R_far (p := ⟨gb495, 1, none⟩) (Kd.R_far (p := ⟨gb495, 0, none⟩) (Kd.R_types HO482.out BK495.out (by decide)) (fun _ hk => hk.2) (.slice Ao20 t485.length co20)) (fun _ hk => hk.2) (.slice Ao23 t488.length co23)) (fun _ hk => hk.2) (.slice Ao24 t491.length co24)) (fun _ hk => by simp only [ne_eq] at hk ⊢; simp only [hk, not_false_eq_true, and_self]))))⟩; replace HO487 : Aside0 (Kd.R (Kd.int .i64) 3 w25 w.heap.size (fun k_ => some k_ ≠ (.slice Ao13 t474.length co13 : Value).ownBlock ∧ some k_ ≠ (.slice Ao15 t477.length co15 : Value).ownBlock ∧ some k_ ≠ (.slice Ao16 t480.length co16 : Value).ownBlock ∧ some k_ ≠ (.slice Ao23 t488.length co23 : Value).ownBlock ∧ some k_ ≠ (.slice Ao24 t491.length co24 : Value).ownBlock) (.slice Ao20 t485.length co20) t485) := ⟨(by rw [hw]; exact (rl (Kd.R_mono (Kd.R_far (p := ⟨gb495, 2, none⟩) (Kd.R_far (p := ⟨gb495, 1, none⟩) (Kd.R_far (p := ⟨gb495, 0, none⟩) (Kd.R_types HO487.out BK495.out (by decide)) (fun _ hk => hk.2) (.slice Ao20 t485.length co20)) (fun _ hk => hk.2) (.slice Ao23 t488.length co23)) (fun _ hk => hk.2) (.slice Ao24 t491.length co24)) (fun _ hk => by simp only [ne_eq] at hk ⊢; simp only [hk, not_false_eq_true, and_self]))))⟩; replace HO490 : Aside0 (Kd.R (Kd.int .i64) 3 w25 w.heap.size (fun k_ => some k_ ≠ (.slice Ao13 t474.length co13 : Value).ownBlock ∧ some k_ ≠ (.slice Ao15 t477.length co15 : Value).ownBlock ∧ some k_ ≠ (.slice Ao16 t480.length co16 : Value).ownBlock ∧ some k_ ≠ (.slice Ao20 t485.length co20 : Value).ownBlock ∧ some k_ ≠ (.slice Ao24 t491.length co24 : Value).ownBlock) (.slice Ao23 t488.length co23) t488) := ⟨(by rw [hw]; exact (rl (Kd.R_mono (Kd.R_far (p := ⟨gb495, 2, none⟩) (Kd.R_far (p := ⟨gb495, 1, none⟩) (Kd.R_far (p := ⟨gb495, 0, none⟩) (Kd.R_types HO490.out BK495.out (by decide)) (fun _ hk => hk.2) (.slice Ao20 t485.length co20)) (fun _ hk => hk.2) (.slice Ao23 t488.length co23)) (fun _ hk => hk.2) (.slice Ao24 t491.length co24)) (fun _ hk => by simp only [ne_eq] at hk ⊢; simp only [hk, not_false_eq_true, and_self]))))⟩; replace HO493 : Aside0 (Kd.R (Kd.int .i64) 3 w25 w.heap.size (fun k_ => some k_ ≠ (.slice Ao13 t474.length co13 : Value).ownBlock ∧ some k_ ≠ (.slice Ao15 t477.length co15 : Value).ownBlock ∧ some k_ ≠ (.slice Ao16 t480.length co16 : Value).ownBlock ∧ some k_ ≠ (.slice Ao20 t485.length co20 : Value).ownBlock ∧ some k_ ≠ (.slice Ao23 t488.length co23 : Value).ownBlock) (.slice Ao24 t491.length co24) t491) := ⟨(by rw [hw]; exact (rl (Kd.R_mono (Kd.R_far (p := ⟨gb495, 2, none⟩) (Kd.R_far (p := ⟨gb495, 1, none⟩) (Kd.R_far (p := ⟨gb495, 0, none⟩) (Kd.R_types HO493.out BK495.out (by decide)) (fun _ hk => hk.2) (.slice Ao20 t485.length co20)) (fun _ hk => hk.2) (.slice Ao23 t488.length co23)) (fun _ hk => hk.2) (.slice Ao24 t491.length co24)) (fun _ hk => by simp only [ne_eq] at hk ⊢; simp only [hk, not_false_eq_true, and_self]))))⟩; replace BK483 : Aside0 (w25.heap[gb483]? = some (.cells #[.slice Ao13 t474.length co13, .slice Ao15 t477.length co15, .slice Ao16 t480.length co16] 24 (0, 0))) := ⟨(by rw [hw]; exact (kf1 NB483_495.out BK483.out))⟩; replace BK495 : Aside0 (w25.heap[gb495]? = some (.cells #[.slice Ao20 t485.length co20, .slice Ao23 t488.length co23, .slice Ao24 t491.length co24] 24 (0, 0))) := ⟨(by rw [hw]; exact (kp3 (kf0 BK495.out)))⟩; replace HB : Aside0 (Below w.heap.size w w25) := ⟨(by rw [hw]; exact (bs2 GE483.out GE495.out HB.out))⟩; clear hw; obtain ⟨hcz26_0, hcz26_1, hcz26_2, hfz26_0, hfz26_1, hfz26_2⟩ := cf3 BK483) | ((with_reducible refine gate_callee (f := 16) rfl ?_); refine gL (some 33) rfl rfl Tryd.func16 (by kernel_rfl) rfl #[.agg #[.slice Ao13 t474.length co13, .slice Ao15 t477.length co15, .slice Ao16 t480.length co16]] rfl ?_; (with_reducible refine (impl_HeapValid.calls kj2 (fun k_ => some k_ = (.slice Ao13 t474.length co13 : Value).ownBlock) _ _ t474 (fun k_ => some k_ = (.slice Ao15 t477.length co15 : Value).ownBlock) _ _ t477 (fun k_ => some k_ = (.slice Ao16 t480.length co16 : Value).ownBlock) _ _ t480 t496 _ ?side1 ?side2 ?side3 A9.out).mono ?_); (case side1 => exact Kd.R_V (Kd.R_tight rfl (Kd.R_types (Kd.R_types (HO476.out) BK483.out (by decide)) BK495.out (by decide)))); (case side2 => exact Kd.R_V (Kd.R_tight rfl (Kd.R_types (Kd.R_types (HO479.out) BK483.out (by decide)) BK495.out (by decide)))); (case side3 => exact Kd.R_V (Kd.R_tight rfl (Kd.R_types (Kd.R_types (HO482.out) BK483.out (by decide)) BK495.out (by decide)))); rintro e w27 ⟨rfl, hb⟩; refine ⟨_, rfl, ?_⟩; replace HO476 := rb HO476 hb; replace HO479 := rb HO479 hb; replace HO482 := rb HO482 hb; replace HO487 := rb HO487 hb; replace HO490 := rb HO490 hb; replace HO493 := rb HO493 hb; replace BK483 := bb BK483 hb; replace BK495 := bb BK495 hb; replace HB := am (below_step (bs2 GE483.out GE495.out HB.out) hb); (try clear hb)))
    (try simp only [Act.put, List.setIfInBounds_toArray, List.set_cons_zero, List.set_cons_succ])
    go_cut [57] (fun v57 wc => ∃ (kq : Nat) (x57_9 : Bool), v57 = .bool x57_9 ∧ Aside0 (laws_FnHeapText.j1 kq l1 x57_9 = some r) ∧ Aside0 (kq ≤ kj2) ∧ Aside0 (Below w.heap.size w wc))
    case first =>
     have H := HC10.out
     clear HC10
     replace H := Option.bind_eq_some_iff.mp H
     obtain ⟨t497, A280, H⟩ := H
     replace H : (if t484.toList = t497.toList then ((spec_HeapValid.f kj2 t474 t477 t480).bind fun t498 => (if (t496 != t498) = true then (laws_FnHeapText.j1 kj2 l1 true) else (if (t494 != t496) = true then (laws_FnHeapText.j1 kj2 l1 true) else (if t494 = true then ((impl_HeapSame.f kj2 t485 t488 t491 t474 t477 t480).bind fun t499 => (laws_FnHeapText.j1 kj2 l1 (!t499))) else (laws_FnHeapText.j1 kj2 l1 false))))) else (laws_FnHeapText.j1 kj2 l1 true)) = some r := H
     have A28 := am A280
     clear A280
     by_cases c29 : t484.toList = t497.toList
     ·rw [if_pos c29] at H
      have c29b0 : (t484.toList == t497.toList) = true := beq_iff_eq.mpr c29
      have c29b1 : (t484.toList != t497.toList) = false := bne_eq_false_iff_eq.mpr c29
      clear c29
      (first | rw [c29b0] | (simp only [i64_w, i32_w]; rw [c29b0]) | skip)
      replace H := Option.bind_eq_some_iff.mp H
      obtain ⟨t498, A300, H⟩ := H
      replace H : (if (t496 != t498) = true then (laws_FnHeapText.j1 kj2 l1 true) else (if (t494 != t496) = true then (laws_FnHeapText.j1 kj2 l1 true) else (if t494 = true then ((impl_HeapSame.f kj2 t485 t488 t491 t474 t477 t480).bind fun t499 => (laws_FnHeapText.j1 kj2 l1 (!t499))) else (laws_FnHeapText.j1 kj2 l1 false)))) = some r := H
      have A30 := am A300
      clear A300
      by_cases c31 : (t496 != t498) = true
      ·rw [if_pos c31] at H
       have c31b0 : (t496 != t498) = true := c31
       (try (have c31b1 : decide (t496 = t498) = false := by simpa using c31))
       (try (have c31b2 : (t496 == t498) = false := by simpa using c31))
       (try (have c31b3 : ¬ (t496 = t498) := by simpa using c31))
       clear c31
       have H' := am H
       clear H
       have hnb32 := NB483_495.out
       have hnc32 := NB495_483.out
       obtain ⟨hcz33_0, hcz33_1, hcz33_2, hfz33_0, hfz33_1, hfz33_2⟩ := cf3 BK483
       go_wp2_with (first | ((with_reducible refine gate_callee (f := 19) rfl ?_); refine gL (some 36) rfl rfl Tryd.func19 (by kernel_rfl) rfl #[.agg #[.slice Ao13 t474.length co13, .slice Ao15 t477.length co15, .slice Ao16 t480.length co16]] rfl ?_; (with_reducible refine (spec_FormatHeap.calls kj2 _ _ t474 _ _ t477 _ _ t480 t497 _ ?side1 ?side2 ?side3 ?side4 ?side5 ?side6 A28.out).mono ?_); (case side1 => exact cl ((Kd.R_reads' HO476.out).2.2)); (case side2 => exact sc HO476); (case side3 => exact cl ((Kd.R_reads' HO479.out).2.2)); (case side4 => exact sc HO479); (case side5 => exact cl ((Kd.R_reads' HO482.out).2.2)); (case side6 => exact sc HO482); rintro e w34 ⟨rfl, hb⟩; refine ⟨_, rfl, ?_⟩; replace HO476 := rb HO476 hb; replace HO479 := rb HO479 hb; replace HO482 := rb HO482 hb; replace HO487 := rb HO487 hb; replace HO490 := rb HO490 hb; replace HO493 := rb HO493 hb; replace BK483 := bb BK483 hb; replace BK495 := bb BK495 hb; replace HB := am (below_step (bs2 GE483.out GE495.out HB.out) hb); (try clear hb); obtain ⟨hcz35_0, hcz35_1, hcz35_2, hfz35_0, hfz35_1, hfz35_2⟩ := cf3 BK483) | (go_at_call 20; (with_reducible refine (spec_HeapValid.calls kj2 _ _ t474 _ _ t477 _ _ t480 t498 _ ?side1 ?side2 ?side3 ?side4 ?side5 ?side6 A30.out).mono ?_); (case side1 => exact cl ((Kd.R_reads' HO476.out).2.2)); (case side2 => exact sc HO476); (case side3 => exact cl ((Kd.R_reads' HO479.out).2.2)); (case side4 => exact sc HO479); (case side5 => exact cl ((Kd.R_reads' HO482.out).2.2)); (case side6 => exact sc HO482); rintro e w36 ⟨rfl, hb⟩; replace HO476 := rb HO476 hb; replace HO479 := rb HO479 hb; replace HO482 := rb HO482 hb; replace HO487 := rb HO487 hb; replace HO490 := rb HO490 hb; replace HO493 := rb HO493 hb; replace BK483 := bb BK483 hb; replace BK495 := bb BK495 hb; replace HB := am (below_step (bs2 GE483.out GE495.out HB.out) hb); (try clear hb)))
       go_meet
       case rel => exact ⟨_, (true), (by first | rfl | (simp; done) | (simp [*]; done)), H', ⟨by have := HJ2.out; first | omega | exact Nat.le_refl _⟩, ⟨by exact bs2 GE483.out GE495.out HB.out⟩⟩
      ·rw [if_neg c31] at H
       have c31b0 : (t496 != t498) = false := by simpa using c31
       (try (have c31b1 : decide (t496 = t498) = true := by simpa using c31))
       (try (have c31b2 : (t496 == t498) = true := by simpa using c31))
       clear c31
       by_cases c37 : (t494 != t496) = true
       ·rw [if_pos c37] at H
        have c37b0 : (t494 != t496) = true := c37
        (try (have c37b1 : decide (t494 = t496) = false := by simpa using c37))
        (try (have c37b2 : (t494 == t496) = false := by simpa using c37))
        (try (have c37b3 : ¬ (t494 = t496) := by simpa using c37))
        clear c37
        have H' := am H
        clear H
        have hnb38 := NB483_495.out
        have hnc38 := NB495_483.out
        obtain ⟨hcz39_0, hcz39_1, hcz39_2, hfz39_0, hfz39_1, hfz39_2⟩ := cf3 BK483
        go_wp2_with (first | ((with_reducible refine gate_callee (f := 19) rfl ?_); refine gL (some 36) rfl rfl Tryd.func19 (by kernel_rfl) rfl #[.agg #[.slice Ao13 t474.length co13, .slice Ao15 t477.length co15, .slice Ao16 t480.length co16]] rfl ?_; (with_reducible refine (spec_FormatHeap.calls kj2 _ _ t474 _ _ t477 _ _ t480 t497 _ ?side1 ?side2 ?side3 ?side4 ?side5 ?side6 A28.out).mono ?_); (case side1 => exact cl ((Kd.R_reads' HO476.out).2.2)); (case side2 => exact sc HO476); (case side3 => exact cl ((Kd.R_reads' HO479.out).2.2)); (case side4 => exact sc HO479); (case side5 => exact cl ((Kd.R_reads' HO482.out).2.2)); (case side6 => exact sc HO482); rintro e w40 ⟨rfl, hb⟩; refine ⟨_, rfl, ?_⟩; replace HO476 := rb HO476 hb; replace HO479 := rb HO479 hb; replace HO482 := rb HO482 hb; replace HO487 := rb HO487 hb; replace HO490 := rb HO490 hb; replace HO493 := rb HO493 hb; replace BK483 := bb BK483 hb; replace BK495 := bb BK495 hb; replace HB := am (below_step (bs2 GE483.out GE495.out HB.out) hb); (try clear hb); obtain ⟨hcz41_0, hcz41_1, hcz41_2, hfz41_0, hfz41_1, hfz41_2⟩ := cf3 BK483) | (go_at_call 20; (with_reducible refine (spec_HeapValid.calls kj2 _ _ t474 _ _ t477 _ _ t480 t498 _ ?side1 ?side2 ?side3 ?side4 ?side5 ?side6 A30.out).mono ?_); (case side1 => exact cl ((Kd.R_reads' HO476.out).2.2)); (case side2 => exact sc HO476); (case side3 => exact cl ((Kd.R_reads' HO479.out).2.2)); (case side4 => exact sc HO479); (case side5 => exact cl ((Kd.R_reads' HO482.out).2.2)); (case side6 => exact sc HO482); rintro e w42 ⟨rfl, hb⟩; replace HO476 := rb HO476 hb; replace HO479 := rb HO479 hb; replace HO482 := rb HO482 hb; replace HO487 := rb HO487 hb; replace HO490 := rb HO490 hb; replace HO493 := rb HO493 hb; replace BK483 := bb BK483 hb; replace BK495 := bb BK495 hb; replace HB := am (below_step (bs2 GE483.out GE495.out HB.out) hb); (try clear hb)))
        go_meet
        case rel => exact ⟨_, (true), (by first | rfl | (simp; done) | (simp [*]; done)), H', ⟨by have := HJ2.out; first | omega | exact Nat.le_refl _⟩, ⟨by exact bs2 GE483.out GE495.out HB.out⟩⟩
       ·rw [if_neg c37] at H
        have c37b0 : (t494 != t496) = false := by simpa using c37
        (try (have c37b1 : decide (t494 = t496) = true := by simpa using c37))
        (try (have c37b2 : (t494 == t496) = true := by simpa using c37))
        clear c37
        by_cases c43 : t494 = true
        ·subst c43
         have H1 : ((impl_HeapSame.f kj2 t485 t488 t491 t474 t477 t480).bind fun t499 => (laws_FnHeapText.j1 kj2 l1 (!t499))) = some r := by rw [if_pos rfl] at H; exact H
         clear H
         have H := H1
         clear H1
         replace H := Option.bind_eq_some_iff.mp H
         obtain ⟨t499, A440, H⟩ := H
         replace H : (laws_FnHeapText.j1 kj2 l1 (!t499)) = some r := H
         have A44 := am A440
         clear A440
         have H' := am H
         clear H
         have hnb45 := NB483_495.out
         have hnc45 := NB495_483.out
         obtain ⟨hcz46_0, hcz46_1, hcz46_2, hfz46_0, hfz46_1, hfz46_2⟩ := cf3 BK483
         go_wp2_with (first | ((with_reducible refine gate_callee (f := 19) rfl ?_); refine gL (some 36) rfl rfl Tryd.func19 (by kernel_rfl) rfl #[.agg #[.slice Ao13 t474.length co13, .slice Ao15 t477.length co15, .slice Ao16 t480.length co16]] rfl ?_; (with_reducible refine (spec_FormatHeap.calls kj2 _ _ t474 _ _ t477 _ _ t480 t497 _ ?side1 ?side2 ?side3 ?side4 ?side5 ?side6 A28.out).mono ?_); (case side1 => exact cl ((Kd.R_reads' HO476.out).2.2)); (case side2 => exact sc HO476); (case side3 => exact cl ((Kd.R_reads' HO479.out).2.2)); (case side4 => exact sc HO479); (case side5 => exact cl ((Kd.R_reads' HO482.out).2.2)); (case side6 => exact sc HO482); rintro e w47 ⟨rfl, hb⟩; refine ⟨_, rfl, ?_⟩; replace HO476 := rb HO476 hb; replace HO479 := rb HO479 hb; replace HO482 := rb HO482 hb; replace HO487 := rb HO487 hb; replace HO490 := rb HO490 hb; replace HO493 := rb HO493 hb; replace BK483 := bb BK483 hb; replace BK495 := bb BK495 hb; replace HB := am (below_step (bs2 GE483.out GE495.out HB.out) hb); (try clear hb); obtain ⟨hcz48_0, hcz48_1, hcz48_2, hfz48_0, hfz48_1, hfz48_2⟩ := cf3 BK483) | (go_at_call 20; (with_reducible refine (spec_HeapValid.calls kj2 _ _ t474 _ _ t477 _ _ t480 t498 _ ?side1 ?side2 ?side3 ?side4 ?side5 ?side6 A30.out).mono ?_); (case side1 => exact cl ((Kd.R_reads' HO476.out).2.2)); (case side2 => exact sc HO476); (case side3 => exact cl ((Kd.R_reads' HO479.out).2.2)); (case side4 => exact sc HO479); (case side5 => exact cl ((Kd.R_reads' HO482.out).2.2)); (case side6 => exact sc HO482); rintro e w49 ⟨rfl, hb⟩; replace HO476 := rb HO476 hb; replace HO479 := rb HO479 hb; replace HO482 := rb HO482 hb; replace HO487 := rb HO487 hb; replace HO490 := rb HO490 hb; replace HO493 := rb HO493 hb; replace BK483 := bb BK483 hb; replace BK495 := bb BK495 hb; replace HB := am (below_step (bs2 GE483.out GE495.out HB.out) hb); (try clear hb); obtain ⟨hcz50_0, hcz50_1, hcz50_2, hfz50_0, hfz50_1, hfz50_2⟩ := cf3 BK495; obtain ⟨hcz51_0, hcz51_1, hcz51_2, hfz51_0, hfz51_1, hfz51_2⟩ := cf3 BK483) | (go_at_call 15; (with_reducible refine (impl_HeapSame.calls kj2 _ _ t485 _ _ t488 _ _ t491 _ _ t474 _ _ t477 _ _ t480 t499 _ ?side1 ?side2 ?side3 ?side4 ?side5 ?side6 ?side7 ?side8 ?side9 ?side10 ?side11 ?side12 A44.out).mono ?_); (case side1 => exact cl ((Kd.R_reads' HO487.out).2.2)); (case side2 => exact sc HO487); (case side3 => exact cl ((Kd.R_reads' HO490.out).2.2)); (case side4 => exact sc HO490); (case side5 => exact cl ((Kd.R_reads' HO493.out).2.2)); (case side6 => exact sc HO493); (case side7 => exact cl ((Kd.R_reads' HO476.out).2.2)); (case side8 => exact sc HO476); (case side9 => exact cl ((Kd.R_reads' HO479.out).2.2)); (case side10 => exact sc HO479); (case side11 => exact cl ((Kd.R_reads' HO482.out).2.2)); (case side12 => exact sc HO482); rintro e w52 ⟨rfl, hb⟩; replace HO476 := rb HO476 hb; replace HO479 := rb HO479 hb; replace HO482 := rb HO482 hb; replace HO487 := rb HO487 hb; replace HO490 := rb HO490 hb; replace HO493 := rb HO493 hb; replace BK483 := bb BK483 hb; replace BK495 := bb BK495 hb; replace HB := am (below_step (bs2 GE483.out GE495.out HB.out) hb); (try clear hb)))
         go_meet
         case rel => exact ⟨_, (!t499), (by first | rfl | (simp; done) | (simp [*]; done)), H', ⟨by have := HJ2.out; first | omega | exact Nat.le_refl _⟩, ⟨by exact bs2 GE483.out GE495.out HB.out⟩⟩
        ·replace c43 := Bool.eq_false_iff.mpr c43
         subst c43
         have H1 : (laws_FnHeapText.j1 kj2 l1 false) = some r := by rw [if_neg (show ¬ (false = true) by decide)] at H; exact H
         clear H
         have H := H1
         clear H1
         have H' := am H
         clear H
         have hnb53 := NB483_495.out
         have hnc53 := NB495_483.out
         obtain ⟨hcz54_0, hcz54_1, hcz54_2, hfz54_0, hfz54_1, hfz54_2⟩ := cf3 BK483
         go_wp2_with (first | ((with_reducible refine gate_callee (f := 19) rfl ?_); refine gL (some 36) rfl rfl Tryd.func19 (by kernel_rfl) rfl #[.agg #[.slice Ao13 t474.length co13, .slice Ao15 t477.length co15, .slice Ao16 t480.length co16]] rfl ?_; (with_reducible refine (spec_FormatHeap.calls kj2 _ _ t474 _ _ t477 _ _ t480 t497 _ ?side1 ?side2 ?side3 ?side4 ?side5 ?side6 A28.out).mono ?_); (case side1 => exact cl ((Kd.R_reads' HO476.out).2.2)); (case side2 => exact sc HO476); (case side3 => exact cl ((Kd.R_reads' HO479.out).2.2)); (case side4 => exact sc HO479); (case side5 => exact cl ((Kd.R_reads' HO482.out).2.2)); (case side6 => exact sc HO482); rintro e w55 ⟨rfl, hb⟩; refine ⟨_, rfl, ?_⟩; replace HO476 := rb HO476 hb; replace HO479 := rb HO479 hb; replace HO482 := rb HO482 hb; replace HO487 := rb HO487 hb; replace HO490 := rb HO490 hb; replace HO493 := rb HO493 hb; replace BK483 := bb BK483 hb; replace BK495 := bb BK495 hb; replace HB := am (below_step (bs2 GE483.out GE495.out HB.out) hb); (try clear hb); obtain ⟨hcz56_0, hcz56_1, hcz56_2, hfz56_0, hfz56_1, hfz56_2⟩ := cf3 BK483) | (go_at_call 20; (with_reducible refine (spec_HeapValid.calls kj2 _ _ t474 _ _ t477 _ _ t480 t498 _ ?side1 ?side2 ?side3 ?side4 ?side5 ?side6 A30.out).mono ?_); (case side1 => exact cl ((Kd.R_reads' HO476.out).2.2)); (case side2 => exact sc HO476); (case side3 => exact cl ((Kd.R_reads' HO479.out).2.2)); (case side4 => exact sc HO479); (case side5 => exact cl ((Kd.R_reads' HO482.out).2.2)); (case side6 => exact sc HO482); rintro e w57 ⟨rfl, hb⟩; replace HO476 := rb HO476 hb; replace HO479 := rb HO479 hb; replace HO482 := rb HO482 hb; replace HO487 := rb HO487 hb; replace HO490 := rb HO490 hb; replace HO493 := rb HO493 hb; replace BK483 := bb BK483 hb; replace BK495 := bb BK495 hb; replace HB := am (below_step (bs2 GE483.out GE495.out HB.out) hb); (try clear hb)))
         go_meet
         case rel => exact ⟨_, (false), (by first | rfl | (simp; done) | (simp [*]; done)), H', ⟨by have := HJ2.out; first | omega | exact Nat.le_refl _⟩, ⟨by exact bs2 GE483.out GE495.out HB.out⟩⟩
     ·rw [if_neg c29] at H
      have c29b0 : (t484.toList == t497.toList) = false := beq_eq_false_iff_ne.mpr c29
      have c29b1 : (t484.toList != t497.toList) = true := bne_iff_ne.mpr c29
      (first | rw [c29b0] | (simp only [i64_w, i32_w]; rw [c29b0]) | skip)
      have H' := am H
      clear H
      have hnb58 := NB483_495.out
      have hnc58 := NB495_483.out
      obtain ⟨hcz59_0, hcz59_1, hcz59_2, hfz59_0, hfz59_1, hfz59_2⟩ := cf3 BK483
      go_wp2_with (first | ((with_reducible refine gate_callee (f := 19) rfl ?_); refine gL (some 36) rfl rfl Tryd.func19 (by kernel_rfl) rfl #[.agg #[.slice Ao13 t474.length co13, .slice Ao15 t477.length co15, .slice Ao16 t480.length co16]] rfl ?_; (with_reducible refine (spec_FormatHeap.calls kj2 _ _ t474 _ _ t477 _ _ t480 t497 _ ?side1 ?side2 ?side3 ?side4 ?side5 ?side6 A28.out).mono ?_); (case side1 => exact cl ((Kd.R_reads' HO476.out).2.2)); (case side2 => exact sc HO476); (case side3 => exact cl ((Kd.R_reads' HO479.out).2.2)); (case side4 => exact sc HO479); (case side5 => exact cl ((Kd.R_reads' HO482.out).2.2)); (case side6 => exact sc HO482); rintro e w60 ⟨rfl, hb⟩; refine ⟨_, rfl, ?_⟩; replace HO476 := rb HO476 hb; replace HO479 := rb HO479 hb; replace HO482 := rb HO482 hb; replace HO487 := rb HO487 hb; replace HO490 := rb HO490 hb; replace HO493 := rb HO493 hb; replace BK483 := bb BK483 hb; replace BK495 := bb BK495 hb; replace HB := am (below_step (bs2 GE483.out GE495.out HB.out) hb); (try clear hb)))
      go_meet
      case rel => exact ⟨_, (true), (by first | rfl | (simp; done) | (simp [*]; done)), H', ⟨by have := HJ2.out; first | omega | exact Nat.le_refl _⟩, ⟨by exact bs2 GE483.out GE495.out HB.out⟩⟩
    case rest =>
     clear HC10
     try clear c1
     try clear c2
     try clear p2
     try clear c3
     try clear c4
     try clear c4b0
     try clear c4b1
     try clear c5
     try clear c10
     try clear c16
     try clear c17
     try clear c18
     try clear c19
     try clear c21
     try clear c29
     try clear c29b0
     try clear c29b1
     try clear c31
     try clear c31b0
     try clear c31b1
     try clear c31b2
     try clear c32
     try clear c37
     try clear c37b0
     try clear c37b1
     try clear c37b2
     try clear c38
     try clear c43
     try clear c45
     try clear c53
     try clear c58
     try clear p2
     obtain ⟨kq, x57_9, rfl, HA, HJ9, HB⟩ := hcut
     cases kq with
     | zero => exact absurd HA.out (by simp [laws_FnHeapText.j1])
     | succ kj9 =>
      have H := HA.out
      clear HA
      simp only [laws_FnHeapText.j1] at H
      by_cases c61 : x57_9 = true
      ·subst c61
       have H1 : (none) = some r := by rw [if_pos rfl] at H; exact H
       clear H
       have H := H1
       clear H1
       exact absurd H (by simp)
      ·replace c61 := Bool.eq_false_iff.mpr c61
       subst c61
       have H1 : ((spec_DrawParseHeap.f kj9 l1).bind fun t500 => ((impl_ParseHeap.f kj9 t500).bind fun bt501 => ((spec_ParseHeap.f kj9 t500).bind fun bt512 => ((impl_HeapSame.f kj9 bt501.1 bt501.2.1 bt501.2.2.1 bt512.1 bt512.2.1 bt512.2.2.1).bind fun t523 => (if t523 = true then (if (bt501.2.2.2 == bt512.2.2.2) = true then (if bt501.2.2.2 = true then ((impl_FormatHeap.f kj9 bt501.1 bt501.2.1 bt501.2.2.1).bind fun t524 => (some (t524.toList == t500.toList))) else (some true)) else (none)) else (none)))))) = some r := by rw [if_neg (show ¬ (false = true) by decide)] at H; exact H
       clear H
       have H := H1
       clear H1
       replace H := Option.bind_eq_some_iff.mp H
       obtain ⟨t500, A620, H⟩ := H
       replace H : ((impl_ParseHeap.f kj9 t500).bind fun bt501 => ((spec_ParseHeap.f kj9 t500).bind fun bt512 => ((impl_HeapSame.f kj9 bt501.1 bt501.2.1 bt501.2.2.1 bt512.1 bt512.2.1 bt512.2.2.1).bind fun t523 => (if t523 = true then (if (bt501.2.2.2 == bt512.2.2.2) = true then (if bt501.2.2.2 = true then ((impl_FormatHeap.f kj9 bt501.1 bt501.2.1 bt501.2.2.1).bind fun t524 => (some (t524.toList == t500.toList))) else (some true)) else (none)) else (none))))) = some r := H
       have A62 := am A620
       clear A620
       replace H := Option.bind_eq_some_iff.mp H
       obtain ⟨⟨t501, t504, t507, t510⟩, A630, H⟩ := H
       replace H : ((spec_ParseHeap.f kj9 t500).bind fun bt512 => ((impl_HeapSame.f kj9 t501 t504 t507 bt512.1 bt512.2.1 bt512.2.2.1).bind fun t523 => (if t523 = true then (if (t510 == bt512.2.2.2) = true then (if t510 = true then ((impl_FormatHeap.f kj9 t501 t504 t507).bind fun t524 => (some (t524.toList == t500.toList))) else (some true)) else (none)) else (none)))) = some r := H
       have A63 := am A630
       clear A630
       replace H := Option.bind_eq_some_iff.mp H
       obtain ⟨⟨t512, t515, t518, t521⟩, A640, H⟩ := H
       replace H : ((impl_HeapSame.f kj9 t501 t504 t507 t512 t515 t518).bind fun t523 => (if t523 = true then (if (t510 == t521) = true then (if t510 = true then ((impl_FormatHeap.f kj9 t501 t504 t507).bind fun t524 => (some (t524.toList == t500.toList))) else (some true)) else (none)) else (none))) = some r := H
       have A64 := am A640
       clear A640
       replace H := Option.bind_eq_some_iff.mp H
       obtain ⟨t523, A650, H⟩ := H
       replace H : (if t523 = true then (if (t510 == t521) = true then (if t510 = true then ((impl_FormatHeap.f kj9 t501 t504 t507).bind fun t524 => (some (t524.toList == t500.toList))) else (some true)) else (none)) else (none)) = some r := H
       have A65 := am A650
       clear A650
       by_cases c66 : t523 = true
       ·subst c66
        have H1 : (if (t510 == t521) = true then (if t510 = true then ((impl_FormatHeap.f kj9 t501 t504 t507).bind fun t524 => (some (t524.toList == t500.toList))) else (some true)) else (none)) = some r := by rw [if_pos rfl] at H; exact H
        clear H
        have H := H1
        clear H1
        by_cases c67 : (t510 == t521) = true
        ·rw [if_pos c67] at H
         have c67b0 : (t510 == t521) = true := c67
         (try (have c67b1 : decide (t510 = t521) = true := by simpa using c67))
         (try (have c67b2 : (t510 == t521) = true := by simpa using c67))
         clear c67
         by_cases c68 : t510 = true
         ·subst c68
          have H1 : ((impl_FormatHeap.f kj9 t501 t504 t507).bind fun t524 => (some (t524.toList == t500.toList))) = some r := by rw [if_pos rfl] at H; exact H
          clear H
          have H := H1
          clear H1
          replace H := Option.bind_eq_some_iff.mp H
          obtain ⟨t524, A690, H⟩ := H
          replace H : (some (t524.toList == t500.toList)) = some r := H
          have A69 := am A690
          clear A690
          obtain rfl := Option.some.inj H
          go_wp2_with (first | ((with_reducible refine gate_callee (f := 14) rfl ?_); refine gL (some 59) rfl rfl Tryd.func14 (by kernel_rfl) rfl #[.slice A1 l1.length c1] rfl ?_; (with_reducible refine (spec_DrawParseHeap.calls kj9 _ _ l1 t500 _ ?side1 ?side2 A62.out).mono ?_); (case side1 => exact ci HR1 HB); (case side2 => exact HC1.out); rintro e w70 ⟨rfl, hb⟩; refine ⟨_, rfl, ?_⟩; replace HB := am (below_step (bl HB.out) hb); (try clear hb)) | ((with_reducible refine gate_callee (f := 10) rfl ?_); refine gL (some 62) rfl rfl Tryd.func10 (by kernel_rfl) rfl #[.string t500] rfl ?_; (with_reducible refine (impl_ParseHeap.calls kj9 t500 t501 t504 t507 true _ A63.out).mono ?_); rintro e w71 ⟨v502, v505, v508, rfl, ho0, ho1, ho2, hb⟩; refine ⟨_, rfl, ?_⟩; have HO503 := ln0 ho0 (bl HB.out); have HO506 := ln0 ho1 (bl HB.out); have HO509 := ln0 ho2 (bl HB.out); replace HB := am (below_step (bl HB.out) hb); (try clear hb ho0 ho1 ho2)) | ((with_reducible refine gate_dst (N := 11) rfl ?_); (try (refine gate_guard (by rfl) ?_; dsimp only)); refine box_event ?hg (N := 11) ?hd (cs := #[.slice none 0 0, .slice none 0 0, .slice none 0 0]) (t := 24) ?hr ?_; (case hd => rfl); (case hg => rfl); (case hr => first | (go_simp; done) | (go_simp; rfl)); intro gb511 hg w72 hbox hb; replace HO503 := rb HO503 hb; replace HO506 := rb HO506 hb; replace HO509 := rb HO509 hb; have BK511 := am (hbox); have GW511 := am ((by rw [hg]; exact (below_size (bl HB.out)) : w.heap.size ≤ gb511)); have GE511 := am ((by rw [hg]; exact (below_size (bl HB.out)) : w.heap.size ≤ gb511)); replace HB := am (below_step (bl HB.out) hb); clear hb hbox hg; obtain ⟨Ao73, co73, eo73⟩ := Kd.R_slice HO503.out; subst eo73; obtain ⟨hcz74_0, hcz74_1, hcz74_2, hfz74_0, hfz74_1, hfz74_2⟩ := cf3 BK511; obtain ⟨Ao75, co75, eo75⟩ := Kd.R_slice HO506.out; subst eo75; obtain ⟨Ao76, co76, eo76⟩ := Kd.R_slice HO509.out; subst eo76) | ((with_reducible refine gate_callee (f := 9) rfl ?_); refine gL (some 67) rfl rfl Tryd.func9 (by kernel_rfl) rfl #[.string t500] rfl ?_; (with_reducible refine (spec_ParseHeap.calls kj9 t500 t512 t515 t518 t521 _ A64.out).mono ?_); rintro e w77 ⟨v513, v516, v519, rfl, ho0, ho1, ho2, hb⟩; refine ⟨_, rfl, ?_⟩; have HO514 := ln3 ho0 (rg BK511 HO503) (rg BK511 HO506) (rg BK511 HO509) (bs1 GE511.out HB.out); have HO517 := ln3 ho1 (rg BK511 HO503) (rg BK511 HO506) (rg BK511 HO509) (bs1 GE511.out HB.out); have HO520 := ln3 ho2 (rg BK511 HO503) (rg BK511 HO506) (rg BK511 HO509) (bs1 GE511.out HB.out); replace HO503 := td3 (rg BK511 HO503) hb ho0 ho1 ho2; replace HO506 := td3 (rg BK511 HO506) hb ho0 ho1 ho2; replace HO509 := td3 (rg BK511 HO509) hb ho0 ho1 ho2; replace BK511 := bp3 (kf0 BK511.out) hb; replace HB := am (below_step (bs1 GE511.out HB.out) hb); (try clear hb ho0 ho1 ho2)) | ((with_reducible refine gate_dst (N := 13) rfl ?_); (try (refine gate_guard (by rfl) ?_; dsimp only)); refine box_event ?hg (N := 13) ?hd (cs := #[.slice none 0 0, .slice none 0 0, .slice none 0 0]) (t := 24) ?hr ?_; (case hd => rfl); (case hg => rfl); (case hr => first | (go_simp; done) | (go_simp; rfl)); intro gb522 hg w78 hbox hb; replace HO503 := rb HO503 hb; replace HO506 := rb HO506 hb; replace HO509 := rb HO509 hb; replace HO514 := rb HO514 hb; replace HO517 := rb HO517 hb; replace HO520 := rb HO520 hb; have BK522 := am (hbox); have GW522 := am ((by rw [hg]; exact (below_size (bs1 GE511.out HB.out)) : w.heap.size ≤ gb522)); have GE522 := am ((by rw [hg]; exact (below_size (bs1 GE511.out HB.out)) : w.heap.size ≤ gb522)); replace HB := am (below_step (bs1 GE511.out HB.out) hb); have NB511_522 := nb BK511 hg; have NB522_511 := nc BK511 hg; replace BK511 := bb BK511 hb; clear hb hbox hg; obtain ⟨Ao79, co79, eo79⟩ := Kd.R_slice HO514.out; subst eo79; have hnb80 := NB522_511.out; have hnc80 := NB511_522.out; obtain ⟨hcz81_0, hcz81_1, hcz81_2, hfz81_0, hfz81_1, hfz81_2⟩ := cf3 BK522; obtain ⟨Ao82, co82, eo82⟩ := Kd.R_slice HO517.out; subst eo82; obtain ⟨Ao83, co83, eo83⟩ := Kd.R_slice HO520.out; subst eo83; obtain ⟨hcz84_0, hcz84_1, hcz84_2, hfz84_0, hfz84_1, hfz84_2⟩ := cf3 BK511) | ((with_reducible refine gate_callee (f := 15) rfl ?_); refine gL (some 72) rfl rfl Tryd.func15 (by kernel_rfl) rfl #[.agg #[.slice Ao73 t501.length co73, .slice Ao75 t504.length co75, .slice Ao76 t507.length co76], .agg #[.slice Ao79 t512.length co79, .slice Ao82 t515.length co82, .slice Ao83 t518.length co83]] rfl ?_; (with_reducible refine (impl_HeapSame.calls kj9 _ _ t501 _ _ t504 _ _ t507 _ _ t512 _ _ t515 _ _ t518 true _ ?side1 ?side2 ?side3 ?side4 ?side5 ?side6 ?side7 ?side8 ?side9 ?side10 ?side11 ?side12 A65.out).mono ?_); (case side1 => exact sr (rg BK522 HO503)); (case side2 => exact sc HO503); (case side3 => exact sr (rg BK522 HO506)); (case side4 => exact sc HO506); (case side5 => exact sr (rg BK522 HO509)); (case side6 => exact sc HO509); (case side7 => exact sr (rg BK522 HO514)); (case side8 => exact sc HO514); (case side9 => exact sr (rg BK522 HO517)); (case side10 => exact sc HO517); (case side11 => exact sr (rg BK522 HO520)); (case side12 => exact sc HO520); rintro e w85 ⟨rfl, hb⟩; refine ⟨_, rfl, ?_⟩; replace HO503 := am (Kd.R_below (rg BK522 HO503) hb); replace HO506 := am (Kd.R_below (rg BK522 HO506) hb); replace HO509 := am (Kd.R_below (rg BK522 HO509) hb); replace HO514 := am (Kd.R_below (rg BK522 HO514) hb); replace HO517 := am (Kd.R_below (rg BK522 HO517) hb); replace HO520 := am (Kd.R_below (rg BK522 HO520) hb); replace BK511 := am (blk_below (g := gb511) (o := .cells #[.slice Ao73 t501.length co73, .slice Ao75 t504.length co75, .slice Ao76 t507.length co76] 24 (0, 0)) (kf1 NB511_522.out BK511.out) hb); replace BK522 := bp3 (kf0 BK522.out) hb; replace HB := am (below_step (bs2 GE511.out GE522.out HB.out) hb); (try clear hb); obtain ⟨hcz86_0, hcz86_1, hcz86_2, hfz86_0, hfz86_1, hfz86_2⟩ := cf3 BK511) | (go_at_call 18; (with_reducible refine (impl_FormatHeap.calls kj9 _ _ t501 _ _ t504 _ _ t507 t524 _ ?side1 ?side2 ?side3 ?side4 ?side5 ?side6 A69.out).mono ?_); (case side1 => exact cl ((Kd.R_reads' HO503.out).2.2)); (case side2 => exact sc HO503); (case side3 => exact cl ((Kd.R_reads' HO506.out).2.2)); (case side4 => exact sc HO506); (case side5 => exact cl ((Kd.R_reads' HO509.out).2.2)); (case side6 => exact sc HO509); rintro e w87 ⟨rfl, hb⟩; replace HO503 := rb HO503 hb; replace HO506 := rb HO506 hb; replace HO509 := rb HO509 hb; replace HO514 := rb HO514 hb; replace HO517 := rb HO517 hb; replace HO520 := rb HO520 hb; replace BK511 := bb BK511 hb; replace BK522 := bb BK522 hb; replace HB := am (below_step (bs2 GE511.out GE522.out HB.out) hb); (try clear hb)))
          go_ret
          exact ⟨by first | rfl | (simp [errW_none, errW_some] <;> rfl) | (simp [*, errW_none, errW_some] <;> rfl), by exact bs2 GE511.out GE522.out HB.out⟩
         ·replace c68 := Bool.eq_false_iff.mpr c68
          subst c68
          have H1 : (some true) = some r := by rw [if_neg (show ¬ (false = true) by decide)] at H; exact H
          clear H
          have H := H1
          clear H1
          obtain rfl := Option.some.inj H
          go_wp2_with (first | ((with_reducible refine gate_callee (f := 14) rfl ?_); refine gL (some 59) rfl rfl Tryd.func14 (by kernel_rfl) rfl #[.slice A1 l1.length c1] rfl ?_; (with_reducible refine (spec_DrawParseHeap.calls kj9 _ _ l1 t500 _ ?side1 ?side2 A62.out).mono ?_); (case side1 => exact ci HR1 HB); (case side2 => exact HC1.out); rintro e w88 ⟨rfl, hb⟩; refine ⟨_, rfl, ?_⟩; replace HB := am (below_step (bl HB.out) hb); (try clear hb)) | ((with_reducible refine gate_callee (f := 10) rfl ?_); refine gL (some 62) rfl rfl Tryd.func10 (by kernel_rfl) rfl #[.string t500] rfl ?_; (with_reducible refine (impl_ParseHeap.calls kj9 t500 t501 t504 t507 false _ A63.out).mono ?_); rintro e w89 ⟨v502, v505, v508, rfl, ho0, ho1, ho2, hb⟩; refine ⟨_, rfl, ?_⟩; have HO503 := ln0 ho0 (bl HB.out); have HO506 := ln0 ho1 (bl HB.out); have HO509 := ln0 ho2 (bl HB.out); replace HB := am (below_step (bl HB.out) hb); (try clear hb ho0 ho1 ho2)) | ((with_reducible refine gate_dst (N := 11) rfl ?_); (try (refine gate_guard (by rfl) ?_; dsimp only)); refine box_event ?hg (N := 11) ?hd (cs := #[.slice none 0 0, .slice none 0 0, .slice none 0 0]) (t := 24) ?hr ?_; (case hd => rfl); (case hg => rfl); (case hr => first | (go_simp; done) | (go_simp; rfl)); intro gb511 hg w90 hbox hb; replace HO503 := rb HO503 hb; replace HO506 := rb HO506 hb; replace HO509 := rb HO509 hb; have BK511 := am (hbox); have GW511 := am ((by rw [hg]; exact (below_size (bl HB.out)) : w.heap.size ≤ gb511)); have GE511 := am ((by rw [hg]; exact (below_size (bl HB.out)) : w.heap.size ≤ gb511)); replace HB := am (below_step (bl HB.out) hb); clear hb hbox hg; obtain ⟨Ao91, co91, eo91⟩ := Kd.R_slice HO503.out; subst eo91; obtain ⟨hcz92_0, hcz92_1, hcz92_2, hfz92_0, hfz92_1, hfz92_2⟩ := cf3 BK511; obtain ⟨Ao93, co93, eo93⟩ := Kd.R_slice HO506.out; subst eo93; obtain ⟨Ao94, co94, eo94⟩ := Kd.R_slice HO509.out; subst eo94) | ((with_reducible refine gate_callee (f := 9) rfl ?_); refine gL (some 67) rfl rfl Tryd.func9 (by kernel_rfl) rfl #[.string t500] rfl ?_; (with_reducible refine (spec_ParseHeap.calls kj9 t500 t512 t515 t518 t521 _ A64.out).mono ?_); rintro e w95 ⟨v513, v516, v519, rfl, ho0, ho1, ho2, hb⟩; refine ⟨_, rfl, ?_⟩; have HO514 := ln3 ho0 (rg BK511 HO503) (rg BK511 HO506) (rg BK511 HO509) (bs1 GE511.out HB.out); have HO517 := ln3 ho1 (rg BK511 HO503) (rg BK511 HO506) (rg BK511 HO509) (bs1 GE511.out HB.out); have HO520 := ln3 ho2 (rg BK511 HO503) (rg BK511 HO506) (rg BK511 HO509) (bs1 GE511.out HB.out); replace HO503 := td3 (rg BK511 HO503) hb ho0 ho1 ho2; replace HO506 := td3 (rg BK511 HO506) hb ho0 ho1 ho2; replace HO509 := td3 (rg BK511 HO509) hb ho0 ho1 ho2; replace BK511 := bp3 (kf0 BK511.out) hb; replace HB := am (below_step (bs1 GE511.out HB.out) hb); (try clear hb ho0 ho1 ho2)) | ((with_reducible refine gate_dst (N := 13) rfl ?_); (try (refine gate_guard (by rfl) ?_; dsimp only)); refine box_event ?hg (N := 13) ?hd (cs := #[.slice none 0 0, .slice none 0 0, .slice none 0 0]) (t := 24) ?hr ?_; (case hd => rfl); (case hg => rfl); (case hr => first | (go_simp; done) | (go_simp; rfl)); intro gb522 hg w96 hbox hb; replace HO503 := rb HO503 hb; replace HO506 := rb HO506 hb; replace HO509 := rb HO509 hb; replace HO514 := rb HO514 hb; replace HO517 := rb HO517 hb; replace HO520 := rb HO520 hb; have BK522 := am (hbox); have GW522 := am ((by rw [hg]; exact (below_size (bs1 GE511.out HB.out)) : w.heap.size ≤ gb522)); have GE522 := am ((by rw [hg]; exact (below_size (bs1 GE511.out HB.out)) : w.heap.size ≤ gb522)); replace HB := am (below_step (bs1 GE511.out HB.out) hb); have NB511_522 := nb BK511 hg; have NB522_511 := nc BK511 hg; replace BK511 := bb BK511 hb; clear hb hbox hg; obtain ⟨Ao97, co97, eo97⟩ := Kd.R_slice HO514.out; subst eo97; have hnb98 := NB522_511.out; have hnc98 := NB511_522.out; obtain ⟨hcz99_0, hcz99_1, hcz99_2, hfz99_0, hfz99_1, hfz99_2⟩ := cf3 BK522; obtain ⟨Ao100, co100, eo100⟩ := Kd.R_slice HO517.out; subst eo100; obtain ⟨Ao101, co101, eo101⟩ := Kd.R_slice HO520.out; subst eo101; obtain ⟨hcz102_0, hcz102_1, hcz102_2, hfz102_0, hfz102_1, hfz102_2⟩ := cf3 BK511) | ((with_reducible refine gate_callee (f := 15) rfl ?_); refine gL (some 72) rfl rfl Tryd.func15 (by kernel_rfl) rfl #[.agg #[.slice Ao91 t501.length co91, .slice Ao93 t504.length co93, .slice Ao94 t507.length co94], .agg #[.slice Ao97 t512.length co97, .slice Ao100 t515.length co100, .slice Ao101 t518.length co101]] rfl ?_; (with_reducible refine (impl_HeapSame.calls kj9 _ _ t501 _ _ t504 _ _ t507 _ _ t512 _ _ t515 _ _ t518 true _ ?side1 ?side2 ?side3 ?side4 ?side5 ?side6 ?side7 ?side8 ?side9 ?side10 ?side11 ?side12 A65.out).mono ?_); (case side1 => exact sr (rg BK522 HO503)); (case side2 => exact sc HO503); (case side3 => exact sr (rg BK522 HO506)); (case side4 => exact sc HO506); (case side5 => exact sr (rg BK522 HO509)); (case side6 => exact sc HO509); (case side7 => exact sr (rg BK522 HO514)); (case side8 => exact sc HO514); (case side9 => exact sr (rg BK522 HO517)); (case side10 => exact sc HO517); (case side11 => exact sr (rg BK522 HO520)); (case side12 => exact sc HO520); rintro e w103 ⟨rfl, hb⟩; refine ⟨_, rfl, ?_⟩; replace HO503 := am (Kd.R_below (rg BK522 HO503) hb); replace HO506 := am (Kd.R_below (rg BK522 HO506) hb); replace HO509 := am (Kd.R_below (rg BK522 HO509) hb); replace HO514 := am (Kd.R_below (rg BK522 HO514) hb); replace HO517 := am (Kd.R_below (rg BK522 HO517) hb); replace HO520 := am (Kd.R_below (rg BK522 HO520) hb); replace BK511 := am (blk_below (g := gb511) (o := .cells #[.slice Ao91 t501.length co91, .slice Ao93 t504.length co93, .slice Ao94 t507.length co94] 24 (0, 0)) (kf1 NB511_522.out BK511.out) hb); replace BK522 := bp3 (kf0 BK522.out) hb; replace HB := am (below_step (bs2 GE511.out GE522.out HB.out) hb); (try clear hb)))
          go_ret
          exact ⟨by first | rfl | (simp [errW_none, errW_some] <;> rfl) | (simp [*, errW_none, errW_some] <;> rfl), by exact bs2 GE511.out GE522.out HB.out⟩
        ·rw [if_neg c67] at H
         exact absurd H (by simp)
       ·replace c66 := Bool.eq_false_iff.mpr c66
        subst c66
        have H1 : (none) = some r := by rw [if_neg (show ¬ (false = true) by decide)] at H; exact H
        clear H
        have H := H1
        clear H1
        exact absurd H (by simp)

/-- THE ONE PURE STATEMENT of laws_FnHeapText: yours. -/
def laws_FnHeapText.Pure : Prop := ∀ (l0 : List Int) (l1 : List Int), l0.length ≤ maxLen → l0.length * 1 ≤ 140737488351232 → (∀ x ∈ l0, (Lit.int .u8 x).wf = true) → l1.length ≤ maxLen → l1.length * 1 ≤ 140737488351232 → (∀ x ∈ l1, (Lit.int .u8 x).wf = true) → ∃ k, laws_FnHeapText.f k l0 l1 = some true
theorem laws_FnHeapText.walk (P : laws_FnHeapText.Pure) (a0 : Option Addr) (len0 cap0 : Nat) (z0 : List Int) (a1 : Option Addr) (len1 cap1 : Nat) (z1 : List Int) (w : World) (w0 : (a0 = none ∧ len0 = 0 ∧ cap0 = 0 ∧ z0 = []) ∨ ∃ x, a0 = some x ∧ len0 ≤ cap0 ∧ cap0 ≤ maxLen ∧ z0.length = cap0 ∧ (∀ i, i < z0.length → w.cell? (x.add i) = some (.int .u8 (z0.getD i 0))) ∧ ∀ n ∈ z0, (Lit.int .u8 n).wf = true) (y0 : len0 * 1 ≤ 140737488351232) (w1 : (a1 = none ∧ len1 = 0 ∧ cap1 = 0 ∧ z1 = []) ∨ ∃ x, a1 = some x ∧ len1 ≤ cap1 ∧ cap1 ≤ maxLen ∧ z1.length = cap1 ∧ (∀ i, i < z1.length → w.cell? (x.add i) = some (.int .u8 (z1.getD i 0))) ∧ ∀ n ∈ z1, (Lit.int .u8 n).wf = true) (y1 : len1 * 1 ≤ 140737488351232) :
  Calls Tryd.prog 5 #[.slice a0 len0 cap0, .slice a1 len1 cap1] w fun e w' => e = .returned (.bool true) ∧ Below w.heap.size w w' := by
 obtain ⟨l0, rfl, hr0, hm0, hw0, hc0⟩ := ReadsInt.ofRowC w0
 obtain ⟨l1, rfl, hr1, hm1, hw1, hc1⟩ := ReadsInt.ofRowC w1
 obtain ⟨k, h⟩ := P l0 l1 hm0 y0 hw0 hm1 y1 hw1
 refine (laws_FnHeapText.calls k _ _ l0 _ _ l1 true w (Kd.C_of_reads (d := (0 : Int)) (h1 := fun _ => rfl) hr0) hc0 (Kd.C_of_reads (d := (0 : Int)) (h1 := fun _ => rfl) hr1) hc1 h).mono ?_
 rintro e w' ⟨rfl, hd⟩
 exact ⟨rfl, hd⟩

end Go.Proofs.YtomeaapjjmaepaaDoor.A
