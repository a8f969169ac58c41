/- Contracts of functions of the given program (CLawsFnHeapSize). No conditions beyond those stated. -/
import Derived.Test.YtomeaapjjmaepaaDoorA0
import Derived.Test.YtomeaapjjmaepaaDoorAImplFormatHeap
import Derived.Test.YtomeaapjjmaepaaDoorASpecDrawFormatHeap
import Derived.Test.YtomeaapjjmaepaaDoorASpecFormatHeap
import Derived.Test.YtomeaapjjmaepaaDoorA0
namespace Go.Proofs.YtomeaapjjmaepaaDoor.A
open Go.RowKit Go.Proofs.YtomeaapjjmaepaaDoorW.PrintWords Go.Proofs.YtomeaapjjmaepaaDoorW.PrintLast Go.Proofs.YtomeaapjjmaepaaDoorW.PrintMore
attribute [local go_sem] max2_int min2_int max_two min_two max_three min_three max_four min_four   -- for this text's walks alone
set_option linter.unusedVariables false
set_option linter.unusedSimpArgs false

/-! ### laws_FnHeapSize -/
def laws_FnHeapSize.f (k : Nat) (l0 : List Int) : Option (Bool) := if (l0.length : Int) > 1048576 then (some true) else ((spec_DrawFormatHeap.f k l0).bind fun bt650 => ((impl_FormatHeap.f k bt650.1 bt650.2.1 bt650.2.2).bind fun t660 => ((spec_FormatHeap.f k bt650.1 bt650.2.1 bt650.2.2).bind fun t661 => (if t660.toList = t661.toList then (if t660.toList = ([] : List UInt8) then ((spec_FormatHeap.f k bt650.1 bt650.2.1 bt650.2.2).bind fun t662 => (some (t660.toList == t662.toList))) else (some ((t660.size : Int) == (wrap64 ((wrap64 ((wrap64 (3 * (bt650.1.length : Int))) + (wrap64 (2 * (bt650.2.2.length : Int))))) + 1))))) else ((spec_FormatHeap.f k bt650.1 bt650.2.1 bt650.2.2).bind fun t663 => (some (t660.toList == t663.toList)))))))
theorem laws_FnHeapSize.mono : ∀ a0 k, LeO (laws_FnHeapSize.f k a0) (laws_FnHeapSize.f (k + 1) a0) := by
 intro a0 k
 unfold laws_FnHeapSize.f
 repeat' first
   | (with_reducible exact impl_FormatHeap.mono _ _ _ _)
   | (with_reducible exact spec_DrawFormatHeap.mono _ _)
   | (with_reducible exact spec_FormatHeap.mono _ _ _ _)
   | (with_reducible exact LeO.refl _)
   | (with_reducible exact LeO.none _)
   | (with_reducible refine LeO.ite ?_ ?_)
   | (with_reducible refine LeO.bind ?_ (fun _ => ?_))
   | exact impl_FormatHeap.mono _ _ _ _
   | exact spec_DrawFormatHeap.mono _ _
   | exact spec_FormatHeap.mono _ _ _ _
   | exact LeO.none _
   | refine LeO.ite ?_ ?_
   | refine LeO.bind ?_ (fun _ => ?_)
set_option maxHeartbeats 8000000 in
set_option maxRecDepth 100000 in
theorem laws_FnHeapSize.calls (k : Nat) (A0 : Option Addr) (c0 : Nat) (l0 : List Int) (r : Bool) (w : World) (hr0 : Kd.C (Kd.int .u8) w A0 l0.length l0) (hc0 : l0.length ≤ c0) (h : laws_FnHeapSize.f k l0 = some r) :
  Calls Tryd.prog 8 #[.slice A0 l0.length c0] w fun e w' => e = .returned (.bool r) ∧ Below w.heap.size w w' := by
 have hu24 := Tryd.underlying24
 have HR0 := am hr0
 have HC0 := am hc0
 clear hr0 hc0
 have HB := am (Below.refl w.heap.size w)
 have H : (if (l0.length : Int) > 1048576 then (some true) else ((spec_DrawFormatHeap.f k l0).bind fun bt650 => ((impl_FormatHeap.f k bt650.1 bt650.2.1 bt650.2.2).bind fun t660 => ((spec_FormatHeap.f k bt650.1 bt650.2.1 bt650.2.2).bind fun t661 => (if t660.toList = t661.toList then (if t660.toList = ([] : List UInt8) then ((spec_FormatHeap.f k bt650.1 bt650.2.1 bt650.2.2).bind fun t662 => (some (t660.toList == t662.toList))) else (some ((t660.size : Int) == (wrap64 ((wrap64 ((wrap64 (3 * (bt650.1.length : Int))) + (wrap64 (2 * (bt650.2.2.length : Int))))) + 1))))) else ((spec_FormatHeap.f k bt650.1 bt650.2.1 bt650.2.2).bind fun t663 => (some (t660.toList == t663.toList)))))))) = some r := h
 clear h
 by_cases c2 : (l0.length : Int) > 1048576
 ·rw [if_pos c2] at H
  have c2b0 : decide (1048576 < (l0.length : Int)) = true := decide_eq_true c2
  have c2b1 : decide (1048576 < l0.length) = true := decide_eq_true (by omega)
  clear c2
  obtain rfl := Option.some.inj H
  go_enter Tryd.func8, Tryd.ntmps8
  go_wp2
  go_ret
  exact ⟨by first | rfl | (simp [errW_none, errW_some] <;> rfl) | (simp [*, errW_none, errW_some] <;> rfl), by exact bs0 HB.out⟩
 ·rw [if_neg c2] at H
  have c2b0 : decide (1048576 < (l0.length : Int)) = false := decide_eq_false c2
  have c2b1 : decide (1048576 < l0.length) = false := decide_eq_false (by omega)
  clear c2
  replace H := Option.bind_eq_some_iff.mp H
  obtain ⟨⟨t650, t653, t656⟩, A30, H⟩ := H
  replace H : ((impl_FormatHeap.f k t650 t653 t656).bind fun t660 => ((spec_FormatHeap.f k t650 t653 t656).bind fun t661 => (if t660.toList = t661.toList then (if t660.toList = ([] : List UInt8) then ((spec_FormatHeap.f k t650 t653 t656).bind fun t662 => (some (t660.toList == t662.toList))) else (some ((t660.size : Int) == (wrap64 ((wrap64 ((wrap64 (3 * (t650.length : Int))) + (wrap64 (2 * (t656.length : Int))))) + 1))))) else ((spec_FormatHeap.f k t650 t653 t656).bind fun t663 => (some (t660.toList == t663.toList)))))) = some r := H
  have A3 := am A30
  clear A30
  replace H := Option.bind_eq_some_iff.mp H
  obtain ⟨t660, A40, H⟩ := H
  replace H : ((spec_FormatHeap.f k t650 t653 t656).bind fun t661 => (if t660.toList = t661.toList then (if t660.toList = ([] : List UInt8) then ((spec_FormatHeap.f k t650 t653 t656).bind fun t662 => (some (t660.toList == t662.toList))) else (some ((t660.size : Int) == (wrap64 ((wrap64 ((wrap64 (3 * (t650.length : Int))) + (wrap64 (2 * (t656.length : Int))))) + 1))))) else ((spec_FormatHeap.f k t650 t653 t656).bind fun t663 => (some (t660.toList == t663.toList))))) = some r := H
  have A4 := am A40
  clear A40
  replace H := Option.bind_eq_some_iff.mp H
  obtain ⟨t661, A50, H⟩ := H
  replace H : (if t660.toList = t661.toList then (if t660.toList = ([] : List UInt8) then ((spec_FormatHeap.f k t650 t653 t656).bind fun t662 => (some (t660.toList == t662.toList))) else (some ((t660.size : Int) == (wrap64 ((wrap64 ((wrap64 (3 * (t650.length : Int))) + (wrap64 (2 * (t656.length : Int))))) + 1))))) else ((spec_FormatHeap.f k t650 t653 t656).bind fun t663 => (some (t660.toList == t663.toList)))) = some r := H
  have A5 := am A50
  clear A50
  by_cases c6 : t660.toList = t661.toList
  ·rw [if_pos c6] at H
   have c6b0 : (t660.toList == t661.toList) = true := beq_iff_eq.mpr c6
   have c6b1 : (t660.toList != t661.toList) = false := bne_eq_false_iff_eq.mpr c6
   clear c6
   by_cases c7 : t660.toList = ([] : List UInt8)
   ·rw [if_pos c7] at H
    have c7b0 : (t660.toList == ([] : List UInt8)) = true := beq_iff_eq.mpr c7
    have c7b1 : (t660.toList != ([] : List UInt8)) = false := bne_eq_false_iff_eq.mpr c7
    clear c7
    replace H := Option.bind_eq_some_iff.mp H
    obtain ⟨t662, A80, H⟩ := H
    replace H : (some (t660.toList == t662.toList)) = some r := H
    have A8 := am A80
    clear A80
    obtain rfl := Option.some.inj H
    go_enter Tryd.func8, Tryd.ntmps8
    go_wp2_with (first | ((with_reducible refine gate_callee (f := 17) rfl ?_); refine gL (some 9) rfl rfl Tryd.func17 (by kernel_rfl) rfl #[.slice A0 l0.length c0] rfl ?_; (with_reducible refine (spec_DrawFormatHeap.calls k _ _ l0 t650 t653 t656 _ ?side1 ?side2 A3.out).mono ?_); (case side1 => exact cl (HR0.out)); (case side2 => exact HC0.out); rintro e w9 ⟨v651, v654, v657, rfl, ho0, ho1, ho2, hb⟩; refine ⟨_, rfl, ?_⟩; have HO652 := ln0 ho0 (bl HB.out); have HO655 := ln0 ho1 (bl HB.out); have HO658 := ln0 ho2 (bl HB.out); replace HB := am (below_step (bl HB.out) hb); (try clear hb ho0 ho1 ho2)) | ((with_reducible refine gate_dst (N := 3) rfl ?_); refine box_event ?hg (N := 3) ?hd (cs := #[.slice none 0 0, .slice none 0 0, .slice none 0 0]) (t := 24) ?hr ?_; (case hd => rfl); (case hg => rfl); (case hr => first | (go_simp; done) | (go_simp; rfl)); intro gb659 hg w10 hbox hb; replace HO652 := rb HO652 hb; replace HO655 := rb HO655 hb; replace HO658 := rb HO658 hb; have BK659 := am (hbox); have GW659 := am ((by rw [hg]; exact (below_size (bl HB.out)) : w.heap.size ≤ gb659)); have GE659 := am ((by rw [hg]; exact (below_size (bl HB.out)) : w.heap.size ≤ gb659)); replace HB := am (below_step (bl HB.out) hb); clear hb hbox hg; obtain ⟨Ao11, co11, eo11⟩ := Kd.R_slice HO652.out; subst eo11; obtain ⟨hcz12_0, hcz12_1, hcz12_2, hfz12_0, hfz12_1, hfz12_2⟩ := cf3 BK659; obtain ⟨Ao13, co13, eo13⟩ := Kd.R_slice HO655.out; subst eo13; obtain ⟨Ao14, co14, eo14⟩ := Kd.R_slice HO658.out; subst eo14) | ((with_reducible refine gate_callee (f := 18) rfl ?_); refine gL (some 11) rfl rfl Tryd.func18 (by kernel_rfl) rfl #[.agg #[.slice Ao11 t650.length co11, .slice Ao13 t653.length co13, .slice Ao14 t656.length co14]] rfl ?_; (with_reducible refine (impl_FormatHeap.calls k _ _ t650 _ _ t653 _ _ t656 t660 _ ?side1 ?side2 ?side3 ?side4 ?side5 ?side6 A4.out).mono ?_); (case side1 => exact sr (rg BK659 HO652)); (case side2 => exact sc HO652); (case side3 => exact sr (rg BK659 HO655)); (case side4 => exact sc HO655); (case side5 => exact sr (rg BK659 HO658)); (case side6 => exact sc HO658); rintro e w15 ⟨rfl, hb⟩; refine ⟨_, rfl, ?_⟩; replace HO652 := am (Kd.R_below (rg BK659 HO652) hb); replace HO655 := am (Kd.R_below (rg BK659 HO655) hb); replace HO658 := am (Kd.R_below (rg BK659 HO658) hb); replace BK659 := bp3 (kf0 BK659.out) hb; replace HB := am (below_step (bs1 GE659.out HB.out) hb); (try clear hb); obtain ⟨hcz16_0, hcz16_1, hcz16_2, hfz16_0, hfz16_1, hfz16_2⟩ := cf3 BK659) | ((with_reducible refine gate_callee (f := 19) rfl ?_); refine gL (some 14) rfl rfl Tryd.func19 (by kernel_rfl) rfl #[.agg #[.slice Ao11 t650.length co11, .slice Ao13 t653.length co13, .slice Ao14 t656.length co14]] rfl ?_; (with_reducible refine (spec_FormatHeap.calls k _ _ t650 _ _ t653 _ _ t656 t661 _ ?side1 ?side2 ?side3 ?side4 ?side5 ?side6 A5.out).mono ?_); (case side1 => exact cl ((Kd.R_reads' HO652.out).2.2)); (case side2 => exact sc HO652); (case side3 => exact cl ((Kd.R_reads' HO655.out).2.2)); (case side4 => exact sc HO655); (case side5 => exact cl ((Kd.R_reads' HO658.out).2.2)); (case side6 => exact sc HO658); rintro e w17 ⟨rfl, hb⟩; refine ⟨_, rfl, ?_⟩; replace HO652 := rb HO652 hb; replace HO655 := rb HO655 hb; replace HO658 := rb HO658 hb; replace BK659 := bb BK659 hb; replace HB := am (below_step (bs1 GE659.out HB.out) hb); (try clear hb); obtain ⟨hcz18_0, hcz18_1, hcz18_2, hfz18_0, hfz18_1, hfz18_2⟩ := cf3 BK659) | ((with_reducible refine gate_callee (f := 19) rfl ?_); refine gL (some 22) rfl rfl Tryd.func19 (by kernel_rfl) rfl #[.agg #[.slice Ao11 t650.length co11, .slice Ao13 t653.length co13, .slice Ao14 t656.length co14]] rfl ?_; (with_reducible refine (spec_FormatHeap.calls k _ _ t650 _ _ t653 _ _ t656 t662 _ ?side1 ?side2 ?side3 ?side4 ?side5 ?side6 A8.out).mono ?_); (case side1 => exact cl ((Kd.R_reads' HO652.out).2.2)); (case side2 => exact sc HO652); (case side3 => exact cl ((Kd.R_reads' HO655.out).2.2)); (case side4 => exact sc HO655); (case side5 => exact cl ((Kd.R_reads' HO658.out).2.2)); (case side6 => exact sc HO658); rintro e w19 ⟨rfl, hb⟩; refine ⟨_, rfl, ?_⟩; replace HO652 := rb HO652 hb; replace HO655 := rb HO655 hb; replace HO658 := rb HO658 hb; replace BK659 := bb BK659 hb; replace HB := am (below_step (bs1 GE659.out HB.out) hb); (try clear hb)))
    go_ret
    exact ⟨by first | rfl | (simp [errW_none, errW_some] <;> rfl) | (simp [*, errW_none, errW_some] <;> rfl), by exact bs1 GE659.out HB.out⟩
   ·rw [if_neg c7] at H
    have c7b0 : (t660.toList == ([] : List UInt8)) = false := beq_eq_false_iff_ne.mpr c7
    have c7b1 : (t660.toList != ([] : List UInt8)) = true := bne_iff_ne.mpr c7
    obtain rfl := Option.some.inj H
    go_enter Tryd.func8, Tryd.ntmps8
    go_wp2_with (first | ((with_reducible refine gate_callee (f := 17) rfl ?_); refine gL (some 9) rfl rfl Tryd.func17 (by kernel_rfl) rfl #[.slice A0 l0.length c0] rfl ?_; (with_reducible refine (spec_DrawFormatHeap.calls k _ _ l0 t650 t653 t656 _ ?side1 ?side2 A3.out).mono ?_); (case side1 => exact cl (HR0.out)); (case side2 => exact HC0.out); rintro e w20 ⟨v651, v654, v657, rfl, ho0, ho1, ho2, hb⟩; refine ⟨_, rfl, ?_⟩; have HO652 := ln0 ho0 (bl HB.out); have HO655 := ln0 ho1 (bl HB.out); have HO658 := ln0 ho2 (bl HB.out); replace HB := am (below_step (bl HB.out) hb); (try clear hb ho0 ho1 ho2)) | ((with_reducible refine gate_dst (N := 3) rfl ?_); refine box_event ?hg (N := 3) ?hd (cs := #[.slice none 0 0, .slice none 0 0, .slice none 0 0]) (t := 24) ?hr ?_; (case hd => rfl); (case hg => rfl); (case hr => first | (go_simp; done) | (go_simp; rfl)); intro gb659 hg w21 hbox hb; replace HO652 := rb HO652 hb; replace HO655 := rb HO655 hb; replace HO658 := rb HO658 hb; have BK659 := am (hbox); have GW659 := am ((by rw [hg]; exact (below_size (bl HB.out)) : w.heap.size ≤ gb659)); have GE659 := am ((by rw [hg]; exact (below_size (bl HB.out)) : w.heap.size ≤ gb659)); replace HB := am (below_step (bl HB.out) hb); clear hb hbox hg; obtain ⟨Ao22, co22, eo22⟩ := Kd.R_slice HO652.out; subst eo22; obtain ⟨hcz23_0, hcz23_1, hcz23_2, hfz23_0, hfz23_1, hfz23_2⟩ := cf3 BK659; obtain ⟨Ao24, co24, eo24⟩ := Kd.R_slice HO655.out; subst eo24; obtain ⟨Ao25, co25, eo25⟩ := Kd.R_slice HO658.out; subst eo25) | ((with_reducible refine gate_callee (f := 18) rfl ?_); refine gL (some 11) rfl rfl Tryd.func18 (by kernel_rfl) rfl #[.agg #[.slice Ao22 t650.length co22, .slice Ao24 t653.length co24, .slice Ao25 t656.length co25]] rfl ?_; (with_reducible refine (impl_FormatHeap.calls k _ _ t650 _ _ t653 _ _ t656 t660 _ ?side1 ?side2 ?side3 ?side4 ?side5 ?side6 A4.out).mono ?_); (case side1 => exact sr (rg BK659 HO652)); (case side2 => exact sc HO652); (case side3 => exact sr (rg BK659 HO655)); (case side4 => exact sc HO655); (case side5 => exact sr (rg BK659 HO658)); (case side6 => exact sc HO658); rintro e w26 ⟨rfl, hb⟩; refine ⟨_, rfl, ?_⟩; replace HO652 := am (Kd.R_below (rg BK659 HO652) hb); replace HO655 := am (Kd.R_below (rg BK659 HO655) hb); replace HO658 := am (Kd.R_below (rg BK659 HO658) hb); replace BK659 := bp3 (kf0 BK659.out) hb; replace HB := am (below_step (bs1 GE659.out HB.out) hb); (try clear hb); obtain ⟨hcz27_0, hcz27_1, hcz27_2, hfz27_0, hfz27_1, hfz27_2⟩ := cf3 BK659) | ((with_reducible refine gate_callee (f := 19) rfl ?_); refine gL (some 14) rfl rfl Tryd.func19 (by kernel_rfl) rfl #[.agg #[.slice Ao22 t650.length co22, .slice Ao24 t653.length co24, .slice Ao25 t656.length co25]] rfl ?_; (with_reducible refine (spec_FormatHeap.calls k _ _ t650 _ _ t653 _ _ t656 t661 _ ?side1 ?side2 ?side3 ?side4 ?side5 ?side6 A5.out).mono ?_); (case side1 => exact cl ((Kd.R_reads' HO652.out).2.2)); (case side2 => exact sc HO652); (case side3 => exact cl ((Kd.R_reads' HO655.out).2.2)); (case side4 => exact sc HO655); (case side5 => exact cl ((Kd.R_reads' HO658.out).2.2)); (case side6 => exact sc HO658); rintro e w28 ⟨rfl, hb⟩; refine ⟨_, rfl, ?_⟩; replace HO652 := rb HO652 hb; replace HO655 := rb HO655 hb; replace HO658 := rb HO658 hb; replace BK659 := bb BK659 hb; replace HB := am (below_step (bs1 GE659.out HB.out) hb); (try clear hb); obtain ⟨hcz29_0, hcz29_1, hcz29_2, hfz29_0, hfz29_1, hfz29_2⟩ := cf3 BK659))
    go_ret
    exact ⟨by first | rfl | (simp [errW_none, errW_some] <;> rfl) | (simp [*, errW_none, errW_some] <;> rfl), by exact bs1 GE659.out HB.out⟩
  ·rw [if_neg c6] at H
   have c6b0 : (t660.toList == t661.toList) = false := beq_eq_false_iff_ne.mpr c6
   have c6b1 : (t660.toList != t661.toList) = true := bne_iff_ne.mpr c6
   replace H := Option.bind_eq_some_iff.mp H
   obtain ⟨t663, A300, H⟩ := H
   replace H : (some (t660.toList == t663.toList)) = some r := H
   have A30 := am A300
   clear A300
   obtain rfl := Option.some.inj H
   go_enter Tryd.func8, Tryd.ntmps8
   go_wp2_with (first | ((with_reducible refine gate_callee (f := 17) rfl ?_); refine gL (some 9) rfl rfl Tryd.func17 (by kernel_rfl) rfl #[.slice A0 l0.length c0] rfl ?_; (with_reducible refine (spec_DrawFormatHeap.calls k _ _ l0 t650 t653 t656 _ ?side1 ?side2 A3.out).mono ?_); (case side1 => exact cl (HR0.out)); (case side2 => exact HC0.out); rintro e w31 ⟨v651, v654, v657, rfl, ho0, ho1, ho2, hb⟩; refine ⟨_, rfl, ?_⟩; have HO652 := ln0 ho0 (bl HB.out); have HO655 := ln0 ho1 (bl HB.out); have HO658 := ln0 ho2 (bl HB.out); replace HB := am (below_step (bl HB.out) hb); (try clear hb ho0 ho1 ho2)) | ((with_reducible refine gate_dst (N := 3) rfl ?_); refine box_event ?hg (N := 3) ?hd (cs := #[.slice none 0 0, .slice none 0 0, .slice none 0 0]) (t := 24) ?hr ?_; (case hd => rfl); (case hg => rfl); (case hr => first | (go_simp; done) | (go_simp; rfl)); intro gb659 hg w32 hbox hb; replace HO652 := rb HO652 hb; replace HO655 := rb HO655 hb; replace HO658 := rb HO658 hb; have BK659 := am (hbox); have GW659 := am ((by rw [hg]; exact (below_size (bl HB.out)) : w.heap.size ≤ gb659)); have GE659 := am ((by rw [hg]; exact (below_size (bl HB.out)) : w.heap.size ≤ gb659)); replace HB := am (below_step (bl HB.out) hb); clear hb hbox hg; obtain ⟨Ao33, co33, eo33⟩ := Kd.R_slice HO652.out; subst eo33; obtain ⟨hcz34_0, hcz34_1, hcz34_2, hfz34_0, hfz34_1, hfz34_2⟩ := cf3 BK659; obtain ⟨Ao35, co35, eo35⟩ := Kd.R_slice HO655.out; subst eo35; obtain ⟨Ao36, co36, eo36⟩ := Kd.R_slice HO658.out; subst eo36) | ((with_reducible refine gate_callee (f := 18) rfl ?_); refine gL (some 11) rfl rfl Tryd.func18 (by kernel_rfl) rfl #[.agg #[.slice Ao33 t650.length co33, .slice Ao35 t653.length co35, .slice Ao36 t656.length co36]] rfl ?_; (with_reducible refine (impl_FormatHeap.calls k _ _ t650 _ _ t653 _ _ t656 t660 _ ?side1 ?side2 ?side3 ?side4 ?side5 ?side6 A4.out).mono ?_); (case side1 => exact sr (rg BK659 HO652)); (case side2 => exact sc HO652); (case side3 => exact sr (rg BK659 HO655)); (case side4 => exact sc HO655); (case side5 => exact sr (rg BK659 HO658)); (case side6 => exact sc HO658); rintro e w37 ⟨rfl, hb⟩; refine ⟨_, rfl, ?_⟩; replace HO652 := am (Kd.R_below (rg BK659 HO652) hb); replace HO655 := am (Kd.R_below (rg BK659 HO655) hb); replace HO658 := am (Kd.R_below (rg BK659 HO658) hb); replace BK659 := bp3 (kf0 BK659.out) hb; replace HB := am (below_step (bs1 GE659.out HB.out) hb); (try clear hb); obtain ⟨hcz38_0, hcz38_1, hcz38_2, hfz38_0, hfz38_1, hfz38_2⟩ := cf3 BK659) | ((with_reducible refine gate_callee (f := 19) rfl ?_); refine gL (some 14) rfl rfl Tryd.func19 (by kernel_rfl) rfl #[.agg #[.slice Ao33 t650.length co33, .slice Ao35 t653.length co35, .slice Ao36 t656.length co36]] rfl ?_; (with_reducible refine (spec_FormatHeap.calls k _ _ t650 _ _ t653 _ _ t656 t661 _ ?side1 ?side2 ?side3 ?side4 ?side5 ?side6 A5.out).mono ?_); (case side1 => exact cl ((Kd.R_reads' HO652.out).2.2)); (case side2 => exact sc HO652); (case side3 => exact cl ((Kd.R_reads' HO655.out).2.2)); (case side4 => exact sc HO655); (case side5 => exact cl ((Kd.R_reads' HO658.out).2.2)); (case side6 => exact sc HO658); rintro e w39 ⟨rfl, hb⟩; refine ⟨_, rfl, ?_⟩; replace HO652 := rb HO652 hb; replace HO655 := rb HO655 hb; replace HO658 := rb HO658 hb; replace BK659 := bb BK659 hb; replace HB := am (below_step (bs1 GE659.out HB.out) hb); (try clear hb); obtain ⟨hcz40_0, hcz40_1, hcz40_2, hfz40_0, hfz40_1, hfz40_2⟩ := cf3 BK659) | ((with_reducible refine gate_callee (f := 19) rfl ?_); refine gL (some 22) rfl rfl Tryd.func19 (by kernel_rfl) rfl #[.agg #[.slice Ao33 t650.length co33, .slice Ao35 t653.length co35, .slice Ao36 t656.length co36]] rfl ?_; (with_reducible refine (spec_FormatHeap.calls k _ _ t650 _ _ t653 _ _ t656 t663 _ ?side1 ?side2 ?side3 ?side4 ?side5 ?side6 A30.out).mono ?_); (case side1 => exact cl ((Kd.R_reads' HO652.out).2.2)); (case side2 => exact sc HO652); (case side3 => exact cl ((Kd.R_reads' HO655.out).2.2)); (case side4 => exact sc HO655); (case side5 => exact cl ((Kd.R_reads' HO658.out).2.2)); (case side6 => exact sc HO658); rintro e w41 ⟨rfl, hb⟩; refine ⟨_, rfl, ?_⟩; replace HO652 := rb HO652 hb; replace HO655 := rb HO655 hb; replace HO658 := rb HO658 hb; replace BK659 := bb BK659 hb; replace HB := am (below_step (bs1 GE659.out HB.out) hb); (try clear hb)))
   go_ret
   exact ⟨by first | rfl | (simp [errW_none, errW_some] <;> rfl) | (simp [*, errW_none, errW_some] <;> rfl), by exact bs1 GE659.out HB.out⟩

/-- THE ONE PURE STATEMENT of laws_FnHeapSize: yours. -/
def laws_FnHeapSize.Pure : Prop := ∀ (l0 : List Int), l0.length ≤ maxLen → l0.length * 1 ≤ 140737488351232 → (∀ x ∈ l0, (Lit.int .u8 x).wf = true) → ∃ k, laws_FnHeapSize.f k l0 = some true
theorem laws_FnHeapSize.walk (P : laws_FnHeapSize.Pure) (a0 : Option Addr) (len0 cap0 : Nat) (z0 : List Int) (w : World) (w0 : (a0 = none ∧ len0 = 0 ∧ cap0 = 0 ∧ z0 = []) ∨ ∃ x, a0 = some x ∧ len0 ≤ cap0 ∧ cap0 ≤ maxLen ∧ z0.length = cap0 ∧ (∀ i, i < z0.length → w.cell? (x.add i) = some (.int .u8 (z0.getD i 0))) ∧ ∀ n ∈ z0, (Lit.int .u8 n).wf = true) (y0 : len0 * 1 ≤ 140737488351232) :
  Calls Tryd.prog 8 #[.slice a0 len0 cap0] w fun e w' => e = .returned (.bool true) ∧ Below w.heap.size w w' := by
 obtain ⟨l0, rfl, hr0, hm0, hw0, hc0⟩ := ReadsInt.ofRowC w0
 obtain ⟨k, h⟩ := P l0 hm0 y0 hw0
 refine (laws_FnHeapSize.calls k _ _ l0 true w (Kd.C_of_reads (d := (0 : Int)) (h1 := fun _ => rfl) hr0) hc0 h).mono ?_
 rintro e w' ⟨rfl, hd⟩
 exact ⟨rfl, hd⟩

end Go.Proofs.YtomeaapjjmaepaaDoor.A
