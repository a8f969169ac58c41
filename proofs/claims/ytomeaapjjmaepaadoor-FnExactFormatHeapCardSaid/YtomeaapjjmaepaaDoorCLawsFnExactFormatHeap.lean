/- Contracts of functions of the given program (CLawsFnExactFormatHeap). No conditions beyond those stated. -/
import Derived.Test.YtomeaapjjmaepaaDoorA0
import Derived.Test.YtomeaapjjmaepaaDoorAImplFormatHeap
import Derived.Test.YtomeaapjjmaepaaDoorALawsEqHeap
import Derived.Test.YtomeaapjjmaepaaDoorALawsSzHeap
import Derived.Test.YtomeaapjjmaepaaDoorALawsToHeap
import Derived.Test.YtomeaapjjmaepaaDoorASpecFormatHeap
import Derived.Test.YtomeaapjjmaepaaDoorA0
namespace Go.Proofs.YtomeaapjjmaepaaDoor.A
open Go.RowKit Go.Proofs.YtomeaapjjmaepaaDoorW.PrintWords Go.Proofs.YtomeaapjjmaepaaDoorW.PrintLast Go.Proofs.YtomeaapjjmaepaaDoorW.PrintMore
attribute [local go_sem] max2_int min2_int max_two min_two max_three min_three max_four min_four   -- for this text's walks alone
set_option linter.unusedVariables false
set_option linter.unusedSimpArgs false

/-! ### laws_FnExactFormatHeap -/
def laws_FnExactFormatHeap.f (k : Nat) (l0_0 : List Int) (l0_1 : List Int) (l0_2 : List Int) : Option (Bool) := (laws_szHeap.f l0_0 l0_1 l0_2 1048576).bind fun t618 => (if t618 < 0 then (some true) else ((laws_toHeap.f k l0_0 l0_1 l0_2).bind fun bt619 => ((spec_FormatHeap.f k bt619.1 bt619.2.1 bt619.2.2).bind fun t628 => ((laws_toHeap.f k l0_0 l0_1 l0_2).bind fun bt629 => ((impl_FormatHeap.f k bt629.1 bt629.2.1 bt629.2.2).bind fun t639 => (if t639.toList = t628.toList then ((laws_toHeap.f k l0_0 l0_1 l0_2).bind fun bt640 => ((laws_eqHeap.f k bt629.1 bt629.2.1 bt629.2.2 bt640.1 bt640.2.1 bt640.2.2).bind fun t649 => (if t649 = true then (some true) else (none)))) else (none)))))))
theorem laws_FnExactFormatHeap.mono : ∀ a0 a1 a2 k, LeO (laws_FnExactFormatHeap.f k a0 a1 a2) (laws_FnExactFormatHeap.f (k + 1) a0 a1 a2) := by
 intro a0 a1 a2 k
 unfold laws_FnExactFormatHeap.f
 repeat' first
   | (with_reducible exact impl_FormatHeap.mono _ _ _ _)
   | (with_reducible exact laws_eqHeap.mono _ _ _ _ _ _ _)
   | (with_reducible exact laws_toHeap.mono _ _ _ _)
   | (with_reducible exact spec_FormatHeap.mono _ _ _ _)
   | (with_reducible exact LeO.refl _)
   | (with_reducible exact LeO.none _)
   | (with_reducible refine LeO.ite ?_ ?_)
   | (with_reducible refine LeO.bind ?_ (fun _ => ?_))
   | exact impl_FormatHeap.mono _ _ _ _
   | exact laws_eqHeap.mono _ _ _ _ _ _ _
   | exact laws_toHeap.mono _ _ _ _
   | exact spec_FormatHeap.mono _ _ _ _
   | exact LeO.none _
   | refine LeO.ite ?_ ?_
   | refine LeO.bind ?_ (fun _ => ?_)
set_option maxHeartbeats 8000000 in
set_option maxRecDepth 100000 in
theorem laws_FnExactFormatHeap.calls (k : Nat) (A0_0 : Option Addr) (c0_0 : Nat) (l0_0 : List Int) (A0_1 : Option Addr) (c0_1 : Nat) (l0_1 : List Int) (A0_2 : Option Addr) (c0_2 : Nat) (l0_2 : List Int) (r : Bool) (w : World) (hr0_0 : Kd.C (Kd.int .i64) w A0_0 l0_0.length l0_0) (hc0_0 : l0_0.length ≤ c0_0) (hr0_1 : Kd.C (Kd.int .i64) w A0_1 l0_1.length l0_1) (hc0_1 : l0_1.length ≤ c0_1) (hr0_2 : Kd.C (Kd.int .i64) w A0_2 l0_2.length l0_2) (hc0_2 : l0_2.length ≤ c0_2) (h : laws_FnExactFormatHeap.f k l0_0 l0_1 l0_2 = some r) :
  Calls Tryd.prog 7 #[.agg #[.slice A0_0 l0_0.length c0_0, .slice A0_1 l0_1.length c0_1, .slice A0_2 l0_2.length c0_2]] w fun e w' => e = .returned (.bool r) ∧ Below w.heap.size w w' := by
 have hu39 := Tryd.underlying39
 have hu24 := Tryd.underlying24
 have HR0_0 := am hr0_0
 have HC0_0 := am hc0_0
 clear hr0_0 hc0_0
 have HR0_1 := am hr0_1
 have HC0_1 := am hc0_1
 clear hr0_1 hc0_1
 have HR0_2 := am hr0_2
 have HC0_2 := am hc0_2
 clear hr0_2 hc0_2
 have HB := am (Below.refl w.heap.size w)
 have H : ((laws_szHeap.f l0_0 l0_1 l0_2 1048576).bind fun t618 => (if t618 < 0 then (some true) else ((laws_toHeap.f k l0_0 l0_1 l0_2).bind fun bt619 => ((spec_FormatHeap.f k bt619.1 bt619.2.1 bt619.2.2).bind fun t628 => ((laws_toHeap.f k l0_0 l0_1 l0_2).bind fun bt629 => ((impl_FormatHeap.f k bt629.1 bt629.2.1 bt629.2.2).bind fun t639 => (if t639.toList = t628.toList then ((laws_toHeap.f k l0_0 l0_1 l0_2).bind fun bt640 => ((laws_eqHeap.f k bt629.1 bt629.2.1 bt629.2.2 bt640.1 bt640.2.1 bt640.2.2).bind fun t649 => (if t649 = true then (some true) else (none)))) else (none)))))))) = some r := h
 clear h
 replace H := Option.bind_eq_some_iff.mp H
 obtain ⟨t618, A20, H⟩ := H
 replace H : (if t618 < 0 then (some true) else ((laws_toHeap.f k l0_0 l0_1 l0_2).bind fun bt619 => ((spec_FormatHeap.f k bt619.1 bt619.2.1 bt619.2.2).bind fun t628 => ((laws_toHeap.f k l0_0 l0_1 l0_2).bind fun bt629 => ((impl_FormatHeap.f k bt629.1 bt629.2.1 bt629.2.2).bind fun t639 => (if t639.toList = t628.toList then ((laws_toHeap.f k l0_0 l0_1 l0_2).bind fun bt640 => ((laws_eqHeap.f k bt629.1 bt629.2.1 bt629.2.2 bt640.1 bt640.2.1 bt640.2.2).bind fun t649 => (if t649 = true then (some true) else (none)))) else (none))))))) = some r := H
 have A2 := am A20
 clear A20
 by_cases c3 : t618 < 0
 ·rw [if_pos c3] at H
  have c3b0 : decide (t618 < 0) = true := decide_eq_true c3
  clear c3
  obtain rfl := Option.some.inj H
  go_enter Tryd.func7, Tryd.ntmps7
  go_wp2_with (first | ((with_reducible refine gate_dst (N := 1) rfl ?_); refine box_event ?hg (N := 1) ?hd (cs := #[.slice A0_0 l0_0.length c0_0, .slice A0_1 l0_1.length c0_1, .slice A0_2 l0_2.length c0_2]) (t := 39) ?hr ?_; (case hd => rfl); (case hg => rfl); (case hr => first | (go_simp; done) | (go_simp; rfl)); intro gb617 hg w4 hbox hb; have BK617 := am (hbox); have GW617 := am ((by rw [hg]; exact (below_size (bl HB.out)) : w.heap.size ≤ gb617)); have GE617 := am ((by rw [hg]; exact (below_size (bl HB.out)) : w.heap.size ≤ gb617)); replace HB := am (below_step (bl HB.out) hb); clear hb hbox hg; obtain ⟨hcz5_0, hcz5_1, hcz5_2, hfz5_0, hfz5_1, hfz5_2⟩ := cf3 BK617) | ((with_reducible refine gate_callee (f := 23) rfl ?_); refine gL (some 9) rfl rfl Tryd.func23 (by kernel_rfl) rfl #[.agg #[.slice A0_0 l0_0.length c0_0, .slice A0_1 l0_1.length c0_1, .slice A0_2 l0_2.length c0_2], .int .i64 1048576] rfl ?_; (with_reducible refine (laws_szHeap.calls _ _ l0_0 _ _ l0_1 _ _ l0_2 1048576 t618 _ ?side1 ?side2 ?side3 ?side4 ?side5 ?side6 A2.out).mono ?_); (case side1 => exact ci HR0_0 HB); (case side2 => exact HC0_0.out); (case side3 => exact ci HR0_1 HB); (case side4 => exact HC0_1.out); (case side5 => exact ci HR0_2 HB); (case side6 => exact HC0_2.out); rintro e w6 ⟨rfl, hb⟩; refine ⟨_, rfl, ?_⟩; replace BK617 := bb BK617 hb; replace HB := am (below_step (bs1 GE617.out HB.out) hb); (try clear hb)))
  go_ret
  exact ⟨by first | rfl | (simp [errW_none, errW_some] <;> rfl) | (simp [*, errW_none, errW_some] <;> rfl), by exact bs1 GE617.out HB.out⟩
 ·rw [if_neg c3] at H
  have c3b0 : decide (t618 < 0) = false := decide_eq_false c3
  clear c3
  replace H := Option.bind_eq_some_iff.mp H
  obtain ⟨⟨t619, t622, t625⟩, A70, H⟩ := H
  replace H : ((spec_FormatHeap.f k t619 t622 t625).bind fun t628 => ((laws_toHeap.f k l0_0 l0_1 l0_2).bind fun bt629 => ((impl_FormatHeap.f k bt629.1 bt629.2.1 bt629.2.2).bind fun t639 => (if t639.toList = t628.toList then ((laws_toHeap.f k l0_0 l0_1 l0_2).bind fun bt640 => ((laws_eqHeap.f k bt629.1 bt629.2.1 bt629.2.2 bt640.1 bt640.2.1 bt640.2.2).bind fun t649 => (if t649 = true then (some true) else (none)))) else (none))))) = some r := H
  have A7 := am A70
  clear A70
  replace H := Option.bind_eq_some_iff.mp H
  obtain ⟨t628, A80, H⟩ := H
  replace H : ((laws_toHeap.f k l0_0 l0_1 l0_2).bind fun bt629 => ((impl_FormatHeap.f k bt629.1 bt629.2.1 bt629.2.2).bind fun t639 => (if t639.toList = t628.toList then ((laws_toHeap.f k l0_0 l0_1 l0_2).bind fun bt640 => ((laws_eqHeap.f k bt629.1 bt629.2.1 bt629.2.2 bt640.1 bt640.2.1 bt640.2.2).bind fun t649 => (if t649 = true then (some true) else (none)))) else (none)))) = some r := H
  have A8 := am A80
  clear A80
  replace H := Option.bind_eq_some_iff.mp H
  obtain ⟨⟨t629, t632, t635⟩, A90, H⟩ := H
  replace H : ((impl_FormatHeap.f k t629 t632 t635).bind fun t639 => (if t639.toList = t628.toList then ((laws_toHeap.f k l0_0 l0_1 l0_2).bind fun bt640 => ((laws_eqHeap.f k t629 t632 t635 bt640.1 bt640.2.1 bt640.2.2).bind fun t649 => (if t649 = true then (some true) else (none)))) else (none))) = some r := H
  have A9 := am A90
  clear A90
  replace H := Option.bind_eq_some_iff.mp H
  obtain ⟨t639, A100, H⟩ := H
  replace H : (if t639.toList = t628.toList then ((laws_toHeap.f k l0_0 l0_1 l0_2).bind fun bt640 => ((laws_eqHeap.f k t629 t632 t635 bt640.1 bt640.2.1 bt640.2.2).bind fun t649 => (if t649 = true then (some true) else (none)))) else (none)) = some r := H
  have A10 := am A100
  clear A100
  by_cases c11 : t639.toList = t628.toList
  ·rw [if_pos c11] at H
   have c11b0 : (t639.toList == t628.toList) = true := beq_iff_eq.mpr c11
   have c11b1 : (t639.toList != t628.toList) = false := bne_eq_false_iff_eq.mpr c11
   clear c11
   replace H := Option.bind_eq_some_iff.mp H
   obtain ⟨⟨t640, t643, t646⟩, A120, H⟩ := H
   replace H : ((laws_eqHeap.f k t629 t632 t635 t640 t643 t646).bind fun t649 => (if t649 = true then (some true) else (none))) = some r := H
   have A12 := am A120
   clear A120
   replace H := Option.bind_eq_some_iff.mp H
   obtain ⟨t649, A130, H⟩ := H
   replace H : (if t649 = true then (some true) else (none)) = some r := H
   have A13 := am A130
   clear A130
   by_cases c14 : t649 = true
   ·subst c14
    have H1 : (some true) = some r := by rw [if_pos rfl] at H; exact H
    clear H
    have H := H1
    clear H1
    obtain rfl := Option.some.inj H
    go_enter Tryd.func7, Tryd.ntmps7
    try go_wp2_with (first | ((with_reducible refine gate_dst (N := 1) rfl ?_); refine box_event ?hg (N := 1) ?hd (cs := #[.slice A0_0 l0_0.length c0_0, .slice A0_1 l0_1.length c0_1, .slice A0_2 l0_2.length c0_2]) (t := 39) ?hr ?_; (case hd => rfl); (case hg => rfl); (case hr => first | (go_simp; done) | (go_simp; rfl)); intro gb617 hg w15 hbox hb; have BK617 := am (hbox); have GW617 := am ((by rw [hg]; exact (below_size (bl HB.out)) : w.heap.size ≤ gb617)); have GE617 := am ((by rw [hg]; exact (below_size (bl HB.out)) : w.heap.size ≤ gb617)); replace HB := am (below_step (bl HB.out) hb); clear hb hbox hg; obtain ⟨hcz16_0, hcz16_1, hcz16_2, hfz16_0, hfz16_1, hfz16_2⟩ := cf3 BK617) | ((with_reducible refine gate_callee (f := 23) rfl ?_); refine gL (some 9) rfl rfl Tryd.func23 (by kernel_rfl) rfl #[.agg #[.slice A0_0 l0_0.length c0_0, .slice A0_1 l0_1.length c0_1, .slice A0_2 l0_2.length c0_2], .int .i64 1048576] rfl ?_; (with_reducible refine (laws_szHeap.calls _ _ l0_0 _ _ l0_1 _ _ l0_2 1048576 t618 _ ?side1 ?side2 ?side3 ?side4 ?side5 ?side6 A2.out).mono ?_); (case side1 => exact ci HR0_0 HB); (case side2 => exact HC0_0.out); (case side3 => exact ci HR0_1 HB); (case side4 => exact HC0_1.out); (case side5 => exact ci HR0_2 HB); (case side6 => exact HC0_2.out); rintro e w17 ⟨rfl, hb⟩; refine ⟨_, rfl, ?_⟩; replace BK617 := bb BK617 hb; replace HB := am (below_step (bs1 GE617.out HB.out) hb); (try clear hb); obtain ⟨hcz18_0, hcz18_1, hcz18_2, hfz18_0, hfz18_1, hfz18_2⟩ := cf3 BK617) | ((with_reducible refine gate_callee (f := 24) rfl ?_); refine gL (some 13) rfl rfl Tryd.func24 (by kernel_rfl) rfl #[.agg #[.slice A0_0 l0_0.length c0_0, .slice A0_1 l0_1.length c0_1, .slice A0_2 l0_2.length c0_2]] rfl ?_; (with_reducible refine (laws_toHeap.calls k _ _ l0_0 _ _ l0_1 _ _ l0_2 t619 t622 t625 _ ?side1 ?side2 ?side3 ?side4 ?side5 ?side6 A7.out).mono ?_); (case side1 => exact ci HR0_0 HB); (case side2 => exact HC0_0.out); (case side3 => exact ci HR0_1 HB); (case side4 => exact HC0_1.out); (case side5 => exact ci HR0_2 HB); (case side6 => exact HC0_2.out); rintro e w19 ⟨v620, v623, v626, rfl, ho0, ho1, ho2, hb⟩; refine ⟨_, rfl, ?_⟩; have HO621 := ln0 ho0 (bs1 GE617.out HB.out); have HO624 := ln0 ho1 (bs1 GE617.out HB.out); have HO627 := ln0 ho2 (bs1 GE617.out HB.out); replace BK617 := bb BK617 hb; replace HB := am (below_step (bs1 GE617.out HB.out) hb); (try clear hb ho0 ho1 ho2); obtain ⟨Ao20, co20, eo20⟩ := Kd.R_slice HO621.out; subst eo20; obtain ⟨Ao21, co21, eo21⟩ := Kd.R_slice HO624.out; subst eo21; obtain ⟨Ao22, co22, eo22⟩ := Kd.R_slice HO627.out; subst eo22) | ((with_reducible refine gate_callee (f := 19) rfl ?_); refine gL (some 14) rfl rfl Tryd.func19 (by kernel_rfl) rfl #[.agg #[.slice Ao20 t619.length co20, .slice Ao21 t622.length co21, .slice Ao22 t625.length co22]] rfl ?_; (with_reducible refine (spec_FormatHeap.calls k _ _ t619 _ _ t622 _ _ t625 t628 _ ?side1 ?side2 ?side3 ?side4 ?side5 ?side6 A8.out).mono ?_); (case side1 => exact cl ((Kd.R_reads' HO621.out).2.2)); (case side2 => exact sc HO621); (case side3 => exact cl ((Kd.R_reads' HO624.out).2.2)); (case side4 => exact sc HO624); (case side5 => exact cl ((Kd.R_reads' HO627.out).2.2)); (case side6 => exact sc HO627); rintro e w23 ⟨rfl, hb⟩; refine ⟨_, rfl, ?_⟩; replace HO621 := rb HO621 hb; replace HO624 := rb HO624 hb; replace HO627 := rb HO627 hb; replace BK617 := bb BK617 hb; replace HB := am (below_step (bs1 GE617.out HB.out) hb); (try clear hb); obtain ⟨hcz24_0, hcz24_1, hcz24_2, hfz24_0, hfz24_1, hfz24_2⟩ := cf3 BK617) | ((with_reducible refine gate_callee (f := 24) rfl ?_); refine gL (some 16) rfl rfl Tryd.func24 (by kernel_rfl) rfl #[.agg #[.slice A0_0 l0_0.length c0_0, .slice A0_1 l0_1.length c0_1, .slice A0_2 l0_2.length c0_2]] rfl ?_; (with_reducible refine (laws_toHeap.calls k _ _ l0_0 _ _ l0_1 _ _ l0_2 t629 t632 t635 _ ?side1 ?side2 ?side3 ?side4 ?side5 ?side6 A9.out).mono ?_); (case side1 => exact ci HR0_0 HB); (case side2 => exact HC0_0.out); (case side3 => exact ci HR0_1 HB); (case side4 => exact HC0_1.out); (case side5 => exact ci HR0_2 HB); (case side6 => exact HC0_2.out); rintro e w25 ⟨v630, v633, v636, rfl, ho0, ho1, ho2, hb⟩; refine ⟨_, rfl, ?_⟩; have HO631 := ln3 ho0 (rl HO621.out) (rl HO624.out) (rl HO627.out) (bs1 GE617.out HB.out); have HO634 := ln3 ho1 (rl HO621.out) (rl HO624.out) (rl HO627.out) (bs1 GE617.out HB.out); have HO637 := ln3 ho2 (rl HO621.out) (rl HO624.out) (rl HO627.out) (bs1 GE617.out HB.out); replace HO621 := td3 (rl HO621.out) hb ho0 ho1 ho2; replace HO624 := td3 (rl HO624.out) hb ho0 ho1 ho2; replace HO627 := td3 (rl HO627.out) hb ho0 ho1 ho2; replace BK617 := bb BK617 hb; replace HB := am (below_step (bs1 GE617.out HB.out) hb); (try clear hb ho0 ho1 ho2)) | ((with_reducible refine gate_dst (N := 5) rfl ?_); refine box_event ?hg (N := 5) ?hd (cs := #[.slice none 0 0, .slice none 0 0, .slice none 0 0]) (t := 24) ?hr ?_; (case hd => rfl); (case hg => rfl); (case hr => first | (go_simp; done) | (go_simp; rfl)); intro gb638 hg w26 hbox hb; replace HO621 := rb HO621 hb; replace HO624 := rb HO624 hb; replace HO627 := rb HO627 hb; replace HO631 := rb HO631 hb; replace HO634 := rb HO634 hb; replace HO637 := rb HO637 hb; have BK638 := am (hbox); have GW638 := am ((by rw [hg]; exact (below_size (bs1 GE617.out HB.out)) : w.heap.size ≤ gb638)); have GE638 := am ((by rw [hg]; exact (below_size (bs1 GE617.out HB.out)) : w.heap.size ≤ gb638)); replace HB := am (below_step (bs1 GE617.out HB.out) hb); have NB617_638 := nb BK617 hg; have NB638_617 := nc BK617 hg; replace BK617 := bb BK617 hb; clear hb hbox hg; obtain ⟨Ao27, co27, eo27⟩ := Kd.R_slice HO631.out; subst eo27; have hnb28 := NB638_617.out; have hnc28 := NB617_638.out; obtain ⟨hcz29_0, hcz29_1, hcz29_2, hfz29_0, hfz29_1, hfz29_2⟩ := cf3 BK638; obtain ⟨Ao30, co30, eo30⟩ := Kd.R_slice HO634.out; subst eo30; obtain ⟨Ao31, co31, eo31⟩ := Kd.R_slice HO637.out; subst eo31) | ((with_reducible refine gate_callee (f := 18) rfl ?_); refine gL (some 18) rfl rfl Tryd.func18 (by kernel_rfl) rfl #[.agg #[.slice Ao27 t629.length co27, .slice Ao30 t632.length co30, .slice Ao31 t635.length co31]] rfl ?_; (with_reducible refine (impl_FormatHeap.calls k _ _ t629 _ _ t632 _ _ t635 t639 _ ?side1 ?side2 ?side3 ?side4 ?side5 ?side6 A10.out).mono ?_); (case side1 => exact sr (rg BK638 HO631)); (case side2 => exact sc HO631); (case side3 => exact sr (rg BK638 HO634)); (case side4 => exact sc HO634); (case side5 => exact sr (rg BK638 HO637)); (case side6 => exact sc HO637); rintro e w32 ⟨rfl, hb⟩; refine ⟨_, rfl, ?_⟩; replace HO621 := am (Kd.R_below (rg BK638 HO621) hb); replace HO624 := am (Kd.R_below (rg BK638 HO624) hb); replace HO627 := am (Kd.R_below (rg BK638 HO627) hb); replace HO631 := am (Kd.R_below (rg BK638 HO631) hb); replace HO634 := am (Kd.R_below (rg BK638 HO634) hb); replace HO637 := am (Kd.R_below (rg BK638 HO637) hb); replace BK617 := am (blk_below (g := gb617) (o := .cells #[.slice A0_0 l0_0.length c0_0, .slice A0_1 l0_1.length c0_1, .slice A0_2 l0_2.length c0_2] 39 (0, 0)) (kf1 NB617_638.out BK617.out) hb); replace BK638 := bp3 (kf0 BK638.out) hb; replace HB := am (below_step (bs2 GE617.out GE638.out HB.out) hb); (try clear hb)))
    replace HO621 := am (Kd.R_drew HO621.out)
    replace HO624 := am (Kd.R_drew HO624.out)
    replace HO627 := am (Kd.R_drew HO627.out)
    replace HO631 := am (Kd.R_drew HO631.out)
    replace HO634 := am (Kd.R_drew HO634.out)
    replace HO637 := am (Kd.R_drew HO637.out)
    replace BK617 := am (blk_drew BK617.out)
    replace BK638 := am (blk_drew BK638.out)
    replace HB := am (below_drew1 HB.out)
    refine start_ (n := 5) (S := fun w' => w'.cell? ⟨gb638, 0, none⟩ = some (.slice Ao27 t629.length co27) ∧ w'.cell? ⟨gb638, 1, none⟩ = some (.slice Ao30 t632.length co30) ∧ w'.cell? ⟨gb638, 2, none⟩ = some (.slice Ao31 t635.length co31) ∧ w'.cell? ⟨gb617, 0, none⟩ = some (.slice A0_0 l0_0.length c0_0) ∧ w'.cell? ⟨gb617, 1, none⟩ = some (.slice A0_1 l0_1.length c0_1) ∧ w'.cell? ⟨gb617, 2, none⟩ = some (.slice A0_2 l0_2.length c0_2)) (ds := []) #[false, false, false, false, false] (by kernel_rfl) rfl rfl ⟨(blk_cell BK638.out 0).trans rfl, (blk_cell BK638.out 1).trans rfl, (blk_cell BK638.out 2).trans rfl, (blk_cell BK617.out 0).trans rfl, (blk_cell BK617.out 1).trans rfl, (blk_cell BK617.out 2).trans rfl⟩ (fun hHeld => ?_)
    generalize w32.drew = w33 at HO621 HO624 HO627 HO631 HO634 HO637 BK617 BK638 HB hHeld ⊢
    refine take_ (i := 0) (N := some 22) (v := ?_) (a' := ?_) #[true, false, false, false, false] rfl rfl (by kernel_rfl) (fun _ _ _ h => h) (Or.inl ⟨by rfl, ?_⟩) hHeld ?_ ?_
    rotate_left
    ·rintro w' ⟨s0, s1, s2, s3, s4, s5⟩
     go_simp
     with_reducible rfl
    rotate_left
    ·simp only [Act.put, List.setIfInBounds_toArray, List.set_cons_zero, List.set_cons_succ, i64_w, i32_w]
     rfl
    refine take_ (i := 1) (N := some 23) (v := ?_) (a' := ?_) #[true, true, false, false, false] rfl rfl (by kernel_rfl) (fun _ _ _ h => h) (Or.inl ⟨by rfl, ?_⟩) hHeld ?_ ?_
    rotate_left
    ·rintro w' ⟨s0, s1, s2, s3, s4, s5⟩
     go_simp
     with_reducible rfl
    rotate_left
    ·simp only [Act.put, List.setIfInBounds_toArray, List.set_cons_zero, List.set_cons_succ, i64_w, i32_w]
     rfl
    refine one_ (i := 2) (N := some 24) #[true, true, true, false, false] rfl rfl (by kernel_rfl) (by decide) (fun K hK => ?_)
    refine goes_ Tryd.func24 (by kernel_rfl) rfl #[.agg #[.slice A0_0 l0_0.length c0_0, .slice A0_1 l0_1.length c0_1, .slice A0_2 l0_2.length c0_2]] (by rfl) rfl rfl (by (try simp only [List.map_toArray, List.map_cons, List.map_nil]); first | done | rfl | (simp only [List.length_drop, List.length_take]; rfl)) ?_
    with_reducible refine (laws_toHeap.calls k _ _ l0_0 _ _ l0_1 _ _ l0_2 t640 t643 t646 _ ?side1 ?side2 ?side3 ?side4 ?side5 ?side6 A12.out).mono ?_
    (case side1 => exact ci HR0_0 HB)
    (case side2 => exact HC0_0.out)
    (case side3 => exact ci HR0_1 HB)
    (case side4 => exact HC0_1.out)
    (case side5 => exact ci HR0_2 HB)
    (case side6 => exact HC0_2.out)
    rintro e w34 ⟨v641, v644, v647, rfl, ho0, ho1, ho2, hb⟩
    refine ⟨_, rfl, ?_⟩
    have HO642 := ln6 ho0 (rl HO621.out) (rl HO624.out) (rl HO627.out) (rl HO631.out) (rl HO634.out) (rl HO637.out) (bs2 GE617.out GE638.out HB.out)
    have HO645 := ln6 ho1 (rl HO621.out) (rl HO624.out) (rl HO627.out) (rl HO631.out) (rl HO634.out) (rl HO637.out) (bs2 GE617.out GE638.out HB.out)
    have HO648 := ln6 ho2 (rl HO621.out) (rl HO624.out) (rl HO627.out) (rl HO631.out) (rl HO634.out) (rl HO637.out) (bs2 GE617.out GE638.out HB.out)
    replace HO621 := td3 (rl HO621.out) hb ho0 ho1 ho2
    replace HO624 := td3 (rl HO624.out) hb ho0 ho1 ho2
    replace HO627 := td3 (rl HO627.out) hb ho0 ho1 ho2
    replace HO631 := td3 (rl HO631.out) hb ho0 ho1 ho2
    replace HO634 := td3 (rl HO634.out) hb ho0 ho1 ho2
    replace HO637 := td3 (rl HO637.out) hb ho0 ho1 ho2
    replace BK617 := bb BK617 hb
    replace BK638 := bb BK638 hb
    replace HB := am (below_step (bs2 GE617.out GE638.out HB.out) hb)
    (try clear hb ho0 ho1 ho2)
    obtain ⟨Ao35, co35, eo35⟩ := Kd.R_slice HO642.out
    (first | subst eo35 | (injection eo35 with f1_ f2_ f3_; have f4_ := f1_.symm; have f5_ := f3_.symm; clear f1_ f2_ f3_; subst f4_; subst f5_))
    obtain ⟨Ao36, co36, eo36⟩ := Kd.R_slice HO645.out
    (first | subst eo36 | (injection eo36 with f1_ f2_ f3_; have f4_ := f1_.symm; have f5_ := f3_.symm; clear f1_ f2_ f3_; subst f4_; subst f5_))
    obtain ⟨Ao37, co37, eo37⟩ := Kd.R_slice HO648.out
    (first | subst eo37 | (injection eo37 with f1_ f2_ f3_; have f4_ := f1_.symm; have f5_ := f3_.symm; clear f1_ f2_ f3_; subst f4_; subst f5_))
    refine hK.out _ _ ⟨(blk_cell BK638.out 0).trans rfl, (blk_cell BK638.out 1).trans rfl, (blk_cell BK638.out 2).trans rfl, (blk_cell BK617.out 0).trans rfl, (blk_cell BK617.out 1).trans rfl, (blk_cell BK617.out 2).trans rfl⟩ (fun hHeld => ?_)
    clear hK K
    refine norm_ (a' := ?_) ?_ ?_
    rotate_left
    ·show Act.put _ (some 24) _ = _
     simp only [Act.put, List.setIfInBounds_toArray, List.set_cons_zero, List.set_cons_succ, i64_w, i32_w]
     rfl
    refine one_ (i := 3) (N := some 25) #[true, true, true, true, false] rfl rfl (by kernel_rfl) (by decide) (fun K hK => ?_)
    refine goes_ Tryd.func11 (by kernel_rfl) rfl #[.agg #[.slice Ao27 t629.length co27, .slice Ao30 t632.length co30, .slice Ao31 t635.length co31], .agg #[.slice Ao35 t640.length co35, .slice Ao36 t643.length co36, .slice Ao37 t646.length co37]] (by rfl) rfl rfl (by (try simp only [List.map_toArray, List.map_cons, List.map_nil]); first | done | rfl | (simp only [List.length_drop, List.length_take]; rfl)) ?_
    with_reducible refine (laws_eqHeap.calls k _ _ t629 _ _ t632 _ _ t635 _ _ t640 _ _ t643 _ _ t646 true _ ?side1 ?side2 ?side3 ?side4 ?side5 ?side6 ?side7 ?side8 ?side9 ?side10 ?side11 ?side12 A13.out).mono ?_
    (case side1 => exact cl ((Kd.R_reads' HO631.out).2.2))
    (case side2 => exact sc HO631)
    (case side3 => exact cl ((Kd.R_reads' HO634.out).2.2))
    (case side4 => exact sc HO634)
    (case side5 => exact cl ((Kd.R_reads' HO637.out).2.2))
    (case side6 => exact sc HO637)
    (case side7 => exact cl ((Kd.R_reads' HO642.out).2.2))
    (case side8 => exact sc HO642)
    (case side9 => exact cl ((Kd.R_reads' HO645.out).2.2))
    (case side10 => exact sc HO645)
    (case side11 => exact cl ((Kd.R_reads' HO648.out).2.2))
    (case side12 => exact sc HO648)
    rintro e w38 ⟨rfl, hb⟩
    refine ⟨_, rfl, ?_⟩
    replace HO621 := rb HO621 hb
    replace HO624 := rb HO624 hb
    replace HO627 := rb HO627 hb
    replace HO631 := rb HO631 hb
    replace HO634 := rb HO634 hb
    replace HO637 := rb HO637 hb
    replace HO642 := rb HO642 hb
    replace HO645 := rb HO645 hb
    replace HO648 := rb HO648 hb
    replace BK617 := bb BK617 hb
    replace BK638 := bb BK638 hb
    replace HB := am (below_step (bs2 GE617.out GE638.out HB.out) hb)
    (try clear hb)
    refine hK.out _ _ ⟨(blk_cell BK638.out 0).trans rfl, (blk_cell BK638.out 1).trans rfl, (blk_cell BK638.out 2).trans rfl, (blk_cell BK617.out 0).trans rfl, (blk_cell BK617.out 1).trans rfl, (blk_cell BK617.out 2).trans rfl⟩ (fun hHeld => ?_)
    clear hK K
    refine norm_ (a' := ?_) ?_ ?_
    rotate_left
    ·show Act.put _ (some 25) _ = _
     simp only [Act.put, List.setIfInBounds_toArray, List.set_cons_zero, List.set_cons_succ, i64_w, i32_w]
     rfl
    refine pure_ (i := 4) (N := some 26) (v := ?_) (a' := ?_) #[true, true, true, true, true] rfl rfl (by kernel_rfl) (fun _ _ _ h => h) (Or.inl ⟨by rfl, ?_⟩) ?_ ?_
    rotate_left
    ·intro w'
     go_simp
     with_reducible rfl
    rotate_left
    ·simp only [Act.put, List.setIfInBounds_toArray, List.set_cons_zero, List.set_cons_succ, i64_w, i32_w]
     rfl
    refine done_ (by kernel_rfl) ?_
    try go_wp2
    go_ret
    exact ⟨by first | rfl | (simp [errW_none, errW_some] <;> rfl) | (simp [*, errW_none, errW_some] <;> rfl), by exact bs2 GE617.out GE638.out HB.out⟩
   ·replace c14 := Bool.eq_false_iff.mpr c14
    subst c14
    have H1 : (none) = some r := by rw [if_neg (show ¬ (false = true) by decide)] at H; exact H
    clear H
    have H := H1
    clear H1
    exact absurd H (by simp)
  ·rw [if_neg c11] at H
   exact absurd H (by simp)

end Go.Proofs.YtomeaapjjmaepaaDoor.A
