/- Contracts of functions of the given program (ASpecDrawParseHeap). No conditions beyond those stated. -/
import Derived.Test.YtomeaapjjmaepaaDoorA0
import Derived.Test.YtomeaapjjmaepaaDoorASpecFormatHeap
import Derived.Test.YtomeaapjjmaepaaDoorASpecL13Open
import Derived.Test.YtomeaapjjmaepaaDoorASpecL13RdOf
import Derived.Test.YtomeaapjjmaepaaDoorASpecL13RdPick
import Derived.Test.YtomeaapjjmaepaaDoorASpecL1Draw
import Derived.Test.YtomeaapjjmaepaaDoorAState
import Derived.Test.YtomeaapjjmaepaaDoorA0
namespace Go.Proofs.YtomeaapjjmaepaaDoor.A
open Go.RowKit Go.Proofs.YtomeaapjjmaepaaDoorW.PrintWords Go.Proofs.YtomeaapjjmaepaaDoorW.PrintLast Go.Proofs.YtomeaapjjmaepaaDoorW.PrintMore
attribute [local go_sem] max2_int min2_int max_two min_two max_three min_three max_four min_four   -- for this text's walks alone
set_option linter.unusedVariables false
set_option linter.unusedSimpArgs false

/-! ### spec_DrawParseHeap -/
def spec_DrawParseHeap.f (k : Nat) (l0 : List Int) : Option (ByteArray) := (spec_l13Open.f l0).bind fun bt323 => ((spec_l1Draw.f k bt323.1 bt323.2).bind fun bt326 => ((spec_FormatHeap.f k bt326.1 bt326.2.1 bt326.2.2.1).bind fun t336 => ((spec_l13Rd_pick.f k bt323.1 bt326.2.2.2 2).bind fun bt337 => (if bt337.1 = 0 then (some t336) else ((spec_l13Rd_pick.f k bt323.1 bt337.2 (t336.size : Int)).bind fun bt339 => (if 0 ≤ bt339.1 then (if bt339.1 ≤ (t336.size : Int) then ((spec_l13Rd_of.f k bt323.1 bt339.2 (([(⟨#[]⟩ : ByteArray), (⟨#[32]⟩ : ByteArray), (⟨#[45]⟩ : ByteArray), (⟨#[47]⟩ : ByteArray), (⟨#[48]⟩ : ByteArray), (⟨#[55]⟩ : ByteArray)] : List ByteArray))).bind fun bt344 => (if (t336.extract 0 (bt339.1 : Int).toNat).size + bt344.1.size ≤ 9223372036854775807 then ((spec_l13Rd_pick.f k bt323.1 bt344.2 2).bind fun bt346 => (if 0 ≤ (wrap64 (bt339.1 + bt346.1)) then (if (wrap64 (bt339.1 + bt346.1)) ≤ (t336.size : Int) then (if ((t336.extract 0 (bt339.1 : Int).toNat) ++ bt344.1).size + (t336.extract ((wrap64 (bt339.1 + bt346.1)) : Int).toNat t336.size).size ≤ 9223372036854775807 then (some (((t336.extract 0 (bt339.1 : Int).toNat) ++ bt344.1) ++ (t336.extract ((wrap64 (bt339.1 + bt346.1)) : Int).toNat t336.size))) else (none)) else (none)) else (none))) else (none))) else (none)) else (none)))))))
theorem spec_DrawParseHeap.mono : ∀ a0 k, LeO (spec_DrawParseHeap.f k a0) (spec_DrawParseHeap.f (k + 1) a0) := by
 intro a0 k
 unfold spec_DrawParseHeap.f
 repeat' first
   | (with_reducible exact spec_FormatHeap.mono _ _ _ _)
   | (with_reducible exact spec_l13Rd_of.mono _ _ _ _)
   | (with_reducible exact spec_l13Rd_pick.mono _ _ _ _)
   | (with_reducible exact spec_l1Draw.mono _ _ _)
   | (with_reducible exact LeO.refl _)
   | (with_reducible exact LeO.none _)
   | (with_reducible refine LeO.ite ?_ ?_)
   | (with_reducible refine LeO.bind ?_ (fun _ => ?_))
   | exact spec_FormatHeap.mono _ _ _ _
   | exact spec_l13Rd_of.mono _ _ _ _
   | exact spec_l13Rd_pick.mono _ _ _ _
   | exact spec_l1Draw.mono _ _ _
   | exact LeO.none _
   | refine LeO.ite ?_ ?_
   | refine LeO.bind ?_ (fun _ => ?_)
def spec_DrawParseHeap.T6 : Bool × List (List Nat × List Nat) := (true, [([], []), ([], []), ([0, 1], [0, 1]), ([], []), ([], []), ([3, 4], [3, 4]), ([2, 5], [2, 5]), ([], []), ([], []), ([], []), ([9, 5], [9]), ([8, 10], [8, 10]), ([7, 11], [7, 11]), ([6, 12], [6, 12]), ([13, 10, 0, 1, 2, 3, 4, 5, 6, 7, 8, 9, 10, 11, 12, 13], [13])])
def spec_DrawParseHeap.B6 : List Nat := [0, 0, 3, 0, 0, 24, 63, 0, 0, 0, 568, 1848, 4024, 8191, 16383]
theorem spec_DrawParseHeap.tab6 : rtab .any (opsOf Tryd.f14 6) = spec_DrawParseHeap.T6 := by kernel_rfl
theorem spec_DrawParseHeap.bits6 : waitsOk spec_DrawParseHeap.T6.2 spec_DrawParseHeap.B6 = true := by kernel_rfl
set_option maxHeartbeats 8000000 in
set_option maxRecDepth 100000 in
theorem spec_DrawParseHeap.calls (k : Nat) (A0 : Option Addr) (c0 : Nat) (l0 : List Int) (r : ByteArray) (w : World) (hr0 : Kd.C (Kd.int .u8) w A0 l0.length l0) (hc0 : l0.length ≤ c0) (h : spec_DrawParseHeap.f k l0 = some r) :
  Calls Tryd.prog 14 #[.slice A0 l0.length c0] w fun e w' => e = .returned (.string r) ∧ Below w.heap.size w w' := by
 have HR0 := am hr0
 have HC0 := am hc0
 clear hr0 hc0
 have HB := am (Below.refl w.heap.size w)
 have H : ((spec_l13Open.f l0).bind fun bt323 => ((spec_l1Draw.f k bt323.1 bt323.2).bind fun bt326 => ((spec_FormatHeap.f k bt326.1 bt326.2.1 bt326.2.2.1).bind fun t336 => ((spec_l13Rd_pick.f k bt323.1 bt326.2.2.2 2).bind fun bt337 => (if bt337.1 = 0 then (some t336) else ((spec_l13Rd_pick.f k bt323.1 bt337.2 (t336.size : Int)).bind fun bt339 => (if 0 ≤ bt339.1 then (if bt339.1 ≤ (t336.size : Int) then ((spec_l13Rd_of.f k bt323.1 bt339.2 (([(⟨#[]⟩ : ByteArray), (⟨#[32]⟩ : ByteArray), (⟨#[45]⟩ : ByteArray), (⟨#[47]⟩ : ByteArray), (⟨#[48]⟩ : ByteArray), (⟨#[55]⟩ : ByteArray)] : List ByteArray))).bind fun bt344 => (if (t336.extract 0 (bt339.1 : Int).toNat).size + bt344.1.size ≤ 9223372036854775807 then ((spec_l13Rd_pick.f k bt323.1 bt344.2 2).bind fun bt346 => (if 0 ≤ (wrap64 (bt339.1 + bt346.1)) then (if (wrap64 (bt339.1 + bt346.1)) ≤ (t336.size : Int) then (if ((t336.extract 0 (bt339.1 : Int).toNat) ++ bt344.1).size + (t336.extract ((wrap64 (bt339.1 + bt346.1)) : Int).toNat t336.size).size ≤ 9223372036854775807 then (some (((t336.extract 0 (bt339.1 : Int).toNat) ++ bt344.1) ++ (t336.extract ((wrap64 (bt339.1 + bt346.1)) : Int).toNat t336.size))) else (none)) else (none)) else (none))) else (none))) else (none)) else (none)))))))) = some r := h
 clear h
 replace H := Option.bind_eq_some_iff.mp H
 obtain ⟨⟨t323, t324⟩, A20, H⟩ := H
 replace H : ((spec_l1Draw.f k t323 t324).bind fun bt326 => ((spec_FormatHeap.f k bt326.1 bt326.2.1 bt326.2.2.1).bind fun t336 => ((spec_l13Rd_pick.f k t323 bt326.2.2.2 2).bind fun bt337 => (if bt337.1 = 0 then (some t336) else ((spec_l13Rd_pick.f k t323 bt337.2 (t336.size : Int)).bind fun bt339 => (if 0 ≤ bt339.1 then (if bt339.1 ≤ (t336.size : Int) then ((spec_l13Rd_of.f k t323 bt339.2 (([(⟨#[]⟩ : ByteArray), (⟨#[32]⟩ : ByteArray), (⟨#[45]⟩ : ByteArray), (⟨#[47]⟩ : ByteArray), (⟨#[48]⟩ : ByteArray), (⟨#[55]⟩ : ByteArray)] : List ByteArray))).bind fun bt344 => (if (t336.extract 0 (bt339.1 : Int).toNat).size + bt344.1.size ≤ 9223372036854775807 then ((spec_l13Rd_pick.f k t323 bt344.2 2).bind fun bt346 => (if 0 ≤ (wrap64 (bt339.1 + bt346.1)) then (if (wrap64 (bt339.1 + bt346.1)) ≤ (t336.size : Int) then (if ((t336.extract 0 (bt339.1 : Int).toNat) ++ bt344.1).size + (t336.extract ((wrap64 (bt339.1 + bt346.1)) : Int).toNat t336.size).size ≤ 9223372036854775807 then (some (((t336.extract 0 (bt339.1 : Int).toNat) ++ bt344.1) ++ (t336.extract ((wrap64 (bt339.1 + bt346.1)) : Int).toNat t336.size))) else (none)) else (none)) else (none))) else (none))) else (none)) else (none))))))) = some r := H
 have A2 := am A20
 clear A20
 replace H := Option.bind_eq_some_iff.mp H
 obtain ⟨⟨t326, t329, t332, t335⟩, A30, H⟩ := H
 replace H : ((spec_FormatHeap.f k t326 t329 t332).bind fun t336 => ((spec_l13Rd_pick.f k t323 t335 2).bind fun bt337 => (if bt337.1 = 0 then (some t336) else ((spec_l13Rd_pick.f k t323 bt337.2 (t336.size : Int)).bind fun bt339 => (if 0 ≤ bt339.1 then (if bt339.1 ≤ (t336.size : Int) then ((spec_l13Rd_of.f k t323 bt339.2 (([(⟨#[]⟩ : ByteArray), (⟨#[32]⟩ : ByteArray), (⟨#[45]⟩ : ByteArray), (⟨#[47]⟩ : ByteArray), (⟨#[48]⟩ : ByteArray), (⟨#[55]⟩ : ByteArray)] : List ByteArray))).bind fun bt344 => (if (t336.extract 0 (bt339.1 : Int).toNat).size + bt344.1.size ≤ 9223372036854775807 then ((spec_l13Rd_pick.f k t323 bt344.2 2).bind fun bt346 => (if 0 ≤ (wrap64 (bt339.1 + bt346.1)) then (if (wrap64 (bt339.1 + bt346.1)) ≤ (t336.size : Int) then (if ((t336.extract 0 (bt339.1 : Int).toNat) ++ bt344.1).size + (t336.extract ((wrap64 (bt339.1 + bt346.1)) : Int).toNat t336.size).size ≤ 9223372036854775807 then (some (((t336.extract 0 (bt339.1 : Int).toNat) ++ bt344.1) ++ (t336.extract ((wrap64 (bt339.1 + bt346.1)) : Int).toNat t336.size))) else (none)) else (none)) else (none))) else (none))) else (none)) else (none)))))) = some r := H
 have A3 := am A30
 clear A30
 replace H := Option.bind_eq_some_iff.mp H
 obtain ⟨t336, A40, H⟩ := H
 replace H : ((spec_l13Rd_pick.f k t323 t335 2).bind fun bt337 => (if bt337.1 = 0 then (some t336) else ((spec_l13Rd_pick.f k t323 bt337.2 (t336.size : Int)).bind fun bt339 => (if 0 ≤ bt339.1 then (if bt339.1 ≤ (t336.size : Int) then ((spec_l13Rd_of.f k t323 bt339.2 (([(⟨#[]⟩ : ByteArray), (⟨#[32]⟩ : ByteArray), (⟨#[45]⟩ : ByteArray), (⟨#[47]⟩ : ByteArray), (⟨#[48]⟩ : ByteArray), (⟨#[55]⟩ : ByteArray)] : List ByteArray))).bind fun bt344 => (if (t336.extract 0 (bt339.1 : Int).toNat).size + bt344.1.size ≤ 9223372036854775807 then ((spec_l13Rd_pick.f k t323 bt344.2 2).bind fun bt346 => (if 0 ≤ (wrap64 (bt339.1 + bt346.1)) then (if (wrap64 (bt339.1 + bt346.1)) ≤ (t336.size : Int) then (if ((t336.extract 0 (bt339.1 : Int).toNat) ++ bt344.1).size + (t336.extract ((wrap64 (bt339.1 + bt346.1)) : Int).toNat t336.size).size ≤ 9223372036854775807 then (some (((t336.extract 0 (bt339.1 : Int).toNat) ++ bt344.1) ++ (t336.extract ((wrap64 (bt339.1 + bt346.1)) : Int).toNat t336.size))) else (none)) else (none)) else (none))) else (none))) else (none)) else (none))))) = some r := H
 have A4 := am A40
 clear A40
 replace H := Option.bind_eq_some_iff.mp H
 obtain ⟨⟨t337, t338⟩, A50, H⟩ := H
 replace H : (if t337 = 0 then (some t336) else ((spec_l13Rd_pick.f k t323 t338 (t336.size : Int)).bind fun bt339 => (if 0 ≤ bt339.1 then (if bt339.1 ≤ (t336.size : Int) then ((spec_l13Rd_of.f k t323 bt339.2 (([(⟨#[]⟩ : ByteArray), (⟨#[32]⟩ : ByteArray), (⟨#[45]⟩ : ByteArray), (⟨#[47]⟩ : ByteArray), (⟨#[48]⟩ : ByteArray), (⟨#[55]⟩ : ByteArray)] : List ByteArray))).bind fun bt344 => (if (t336.extract 0 (bt339.1 : Int).toNat).size + bt344.1.size ≤ 9223372036854775807 then ((spec_l13Rd_pick.f k t323 bt344.2 2).bind fun bt346 => (if 0 ≤ (wrap64 (bt339.1 + bt346.1)) then (if (wrap64 (bt339.1 + bt346.1)) ≤ (t336.size : Int) then (if ((t336.extract 0 (bt339.1 : Int).toNat) ++ bt344.1).size + (t336.extract ((wrap64 (bt339.1 + bt346.1)) : Int).toNat t336.size).size ≤ 9223372036854775807 then (some (((t336.extract 0 (bt339.1 : Int).toNat) ++ bt344.1) ++ (t336.extract ((wrap64 (bt339.1 + bt346.1)) : Int).toNat t336.size))) else (none)) else (none)) else (none))) else (none))) else (none)) else (none)))) = some r := H
 have A5 := am A50
 clear A50
 by_cases c6 : t337 = 0
 ·rw [if_pos c6] at H
  have c6b0 : (t337 == 0) = true := beq_iff_eq.mpr c6
  have c6b1 : (t337 != 0) = false := bne_eq_false_iff_eq.mpr c6
  clear c6
  obtain rfl := Option.some.inj H
  go_enter Tryd.func14, Tryd.ntmps14
  go_wp2_with (first | ((with_reducible refine gate_callee (f := 32) rfl ?_); refine gL (some 7) rfl rfl Tryd.func32 (by kernel_rfl) rfl #[.slice A0 l0.length c0] rfl ?_; (with_reducible refine (spec_l13Open.calls _ _ l0 t323 t324 w _ ?side1 ?side2 ?side3 A2.out).mono ?_); (case side1 => exact bs0 HB.out); (case side2 => exact HR0.out); (case side3 => exact HC0.out); rintro e w7 ⟨g325, rfl, hi, hb, hb2⟩; refine ⟨_, rfl, ?_⟩; replace HB := am (hb); have HI325 := am (hi); (try clear hb hb2 hi)) | ((with_reducible refine gate_callee (f := 33) rfl ?_); refine gL (some 9) rfl rfl Tryd.func33 (by kernel_rfl) rfl #[.pointer (some ⟨g325, 0, none⟩)] rfl ?_; (with_reducible refine (spec_l1Draw.calls k g325 t323 t324 t326 t329 t332 t335 w _ ?side1 ?side2 A3.out).mono ?_); (case side1 => exact is63_0 HI325.out); (case side2 => exact bs1 (IsS63.ge HI325.out) HB.out); rintro e w8 ⟨v327, v330, v333, rfl, ho0, ho1, ho2, hi, hb, hk⟩; refine ⟨_, rfl, ?_⟩; have HO328 := ln0 ho0 (bs1 (IsS63.ge HI325.out) HB.out); have HO331 := ln0 ho1 (bs1 (IsS63.ge HI325.out) HB.out); have HO334 := ln0 ho2 (bs1 (IsS63.ge HI325.out) HB.out); replace HB := am (hb); replace HI325 := am (hi); (try clear hb hk hi ho0 ho1 ho2); obtain ⟨Ao9, co9, eo9⟩ := Kd.R_slice HO328.out; subst eo9; obtain ⟨Ao10, co10, eo10⟩ := Kd.R_slice HO331.out; subst eo10; obtain ⟨Ao11, co11, eo11⟩ := Kd.R_slice HO334.out; subst eo11) | ((with_reducible refine gate_callee (f := 19) rfl ?_); refine gL (some 10) rfl rfl Tryd.func19 (by kernel_rfl) rfl #[.agg #[.slice Ao9 t326.length co9, .slice Ao10 t329.length co10, .slice Ao11 t332.length co11]] rfl ?_; (with_reducible refine (spec_FormatHeap.calls k _ _ t326 _ _ t329 _ _ t332 t336 _ ?side1 ?side2 ?side3 ?side4 ?side5 ?side6 A4.out).mono ?_); (case side1 => exact cl ((Kd.R_reads' HO328.out).2.2)); (case side2 => exact sc HO328); (case side3 => exact cl ((Kd.R_reads' HO331.out).2.2)); (case side4 => exact sc HO331); (case side5 => exact cl ((Kd.R_reads' HO334.out).2.2)); (case side6 => exact sc HO334); rintro e w12 ⟨rfl, hb⟩; refine ⟨_, rfl, ?_⟩; replace HO328 := rb HO328 hb; replace HO331 := rb HO331 hb; replace HO334 := rb HO334 hb; replace HB := am (below_step (bs1 (IsS63.ge HI325.out) HB.out) hb); replace HI325 := am (IsS63.below (is63_0 HI325.out) hb); (try clear hb)) | ((with_reducible refine gate_callee (f := 34) rfl ?_); refine gL (some 12) rfl rfl Tryd.func34 (by kernel_rfl) rfl #[.pointer (some ⟨g325, 0, none⟩), .int .i64 2] rfl ?_; (with_reducible refine (spec_l13Rd_pick.calls k g325 t323 t335 2 t337 t338 w _ ?side1 ?side2 A5.out).mono ?_); (case side1 => exact is63_0 HI325.out); (case side2 => exact bs1 (IsS63.ge HI325.out) HB.out); rintro e w13 ⟨rfl, hi, hb, hk⟩; refine ⟨_, rfl, ?_⟩; replace HO328 := am (Kd.R_mono (Kd.R_keep (IsS63.apart (show IsS63 w _ g325 t323 t335 from by exact is63_0 HI325.out) (rl HO328.out) (by decide)) hk (fun _ h => h.2)) (fun _ h => h.1)); replace HO331 := am (Kd.R_mono (Kd.R_keep (IsS63.apart (show IsS63 w _ g325 t323 t335 from by exact is63_0 HI325.out) (rl HO331.out) (by decide)) hk (fun _ h => h.2)) (fun _ h => h.1)); replace HO334 := am (Kd.R_mono (Kd.R_keep (IsS63.apart (show IsS63 w _ g325 t323 t335 from by exact is63_0 HI325.out) (rl HO334.out) (by decide)) hk (fun _ h => h.2)) (fun _ h => h.1)); replace HB := am (hb); replace HI325 := am (hi); (try clear hb hk hi)))
  go_ret
  exact ⟨by first | rfl | (simp [errW_none, errW_some] <;> rfl) | (simp [*, errW_none, errW_some] <;> rfl), by exact bs1 (IsS63.ge HI325.out) HB.out⟩
 ·rw [if_neg c6] at H
  have c6b0 : (t337 == 0) = false := beq_eq_false_iff_ne.mpr c6
  have c6b1 : (t337 != 0) = true := bne_iff_ne.mpr c6
  replace H := Option.bind_eq_some_iff.mp H
  obtain ⟨⟨t339, t340⟩, A140, H⟩ := H
  replace H : (if 0 ≤ t339 then (if t339 ≤ (t336.size : Int) then ((spec_l13Rd_of.f k t323 t340 (([(⟨#[]⟩ : ByteArray), (⟨#[32]⟩ : ByteArray), (⟨#[45]⟩ : ByteArray), (⟨#[47]⟩ : ByteArray), (⟨#[48]⟩ : ByteArray), (⟨#[55]⟩ : ByteArray)] : List ByteArray))).bind fun bt344 => (if (t336.extract 0 (t339 : Int).toNat).size + bt344.1.size ≤ 9223372036854775807 then ((spec_l13Rd_pick.f k t323 bt344.2 2).bind fun bt346 => (if 0 ≤ (wrap64 (t339 + bt346.1)) then (if (wrap64 (t339 + bt346.1)) ≤ (t336.size : Int) then (if ((t336.extract 0 (t339 : Int).toNat) ++ bt344.1).size + (t336.extract ((wrap64 (t339 + bt346.1)) : Int).toNat t336.size).size ≤ 9223372036854775807 then (some (((t336.extract 0 (t339 : Int).toNat) ++ bt344.1) ++ (t336.extract ((wrap64 (t339 + bt346.1)) : Int).toNat t336.size))) else (none)) else (none)) else (none))) else (none))) else (none)) else (none)) = some r := H
  have A14 := am A140
  clear A140
  by_cases c15 : 0 ≤ t339
  ·rw [if_pos c15] at H
   have c15b0 := eq_true c15
   have c15b1 : decide (0 ≤ t339) = true := decide_eq_true c15
   clear c15
   by_cases c16 : t339 ≤ (t336.size : Int)
   ·rw [if_pos c16] at H
    have c16b0 := eq_true c16
    have c16b1 : decide (t339 ≤ (t336.size : Int)) = true := decide_eq_true c16
    clear c16
    obtain ⟨y341, hy341⟩ : ∃ y_ : List ByteArray, y_ = (([(⟨#[]⟩ : ByteArray), (⟨#[32]⟩ : ByteArray), (⟨#[45]⟩ : ByteArray), (⟨#[47]⟩ : ByteArray), (⟨#[48]⟩ : ByteArray), (⟨#[55]⟩ : ByteArray)] : List ByteArray)) := ⟨_, rfl⟩
    replace H : ((spec_l13Rd_of.f k t323 t340 y341).bind fun bt344 => (if (t336.extract 0 (t339 : Int).toNat).size + bt344.1.size ≤ 9223372036854775807 then ((spec_l13Rd_pick.f k t323 bt344.2 2).bind fun bt346 => (if 0 ≤ (wrap64 (t339 + bt346.1)) then (if (wrap64 (t339 + bt346.1)) ≤ (t336.size : Int) then (if ((t336.extract 0 (t339 : Int).toNat) ++ bt344.1).size + (t336.extract ((wrap64 (t339 + bt346.1)) : Int).toNat t336.size).size ≤ 9223372036854775807 then (some (((t336.extract 0 (t339 : Int).toNat) ++ bt344.1) ++ (t336.extract ((wrap64 (t339 + bt346.1)) : Int).toNat t336.size))) else (none)) else (none)) else (none))) else (none))) = some r := by first | (rw [hy341]; with_reducible exact H) | (have H2_ := (Option.bind_some _ _).symm.trans H; rw [hy341]; with_reducible exact H2_) | (have H2_ := (Option.bind_some _ _).symm.trans H; with_reducible exact H2_) | with_reducible exact H | (rw [hy341]; exact H) | exact H
    have Ny341 := am hy341
    clear hy341
    replace H := Option.bind_eq_some_iff.mp H
    obtain ⟨⟨t344, t345⟩, A170, H⟩ := H
    replace H : (if (t336.extract 0 (t339 : Int).toNat).size + t344.size ≤ 9223372036854775807 then ((spec_l13Rd_pick.f k t323 t345 2).bind fun bt346 => (if 0 ≤ (wrap64 (t339 + bt346.1)) then (if (wrap64 (t339 + bt346.1)) ≤ (t336.size : Int) then (if ((t336.extract 0 (t339 : Int).toNat) ++ t344).size + (t336.extract ((wrap64 (t339 + bt346.1)) : Int).toNat t336.size).size ≤ 9223372036854775807 then (some (((t336.extract 0 (t339 : Int).toNat) ++ t344) ++ (t336.extract ((wrap64 (t339 + bt346.1)) : Int).toNat t336.size))) else (none)) else (none)) else (none))) else (none)) = some r := H
    have A17 := am A170
    clear A170
    by_cases c18 : (t336.extract 0 (t339 : Int).toNat).size + t344.size ≤ 9223372036854775807
    ·rw [if_pos c18] at H
     have c18b0 := eq_true c18
     have c18b1 : decide ((t336.extract 0 (t339 : Int).toNat).size + t344.size ≤ 9223372036854775807) = true := decide_eq_true c18
     try have c18b2 : (9223372036854775807 < (t336.extract 0 (t339 : Int).toNat).size + t344.size) = False := eq_false (Nat.not_lt.2 c18)
     try (have c18b5 := c18b2; (try simp only [ByteArray.size_append] at c18b5); rw [show (t336.extract 0 (t339 : Int).toNat).size = t339.toNat from by rw [ByteArray.size_extract]; have h1_ := of_decide_eq_true c16b1; omega] at c18b5)
     replace H := Option.bind_eq_some_iff.mp H
     obtain ⟨⟨t346, t347⟩, A190, H⟩ := H
     replace H : (if 0 ≤ (wrap64 (t339 + t346)) then (if (wrap64 (t339 + t346)) ≤ (t336.size : Int) then (if ((t336.extract 0 (t339 : Int).toNat) ++ t344).size + (t336.extract ((wrap64 (t339 + t346)) : Int).toNat t336.size).size ≤ 9223372036854775807 then (some (((t336.extract 0 (t339 : Int).toNat) ++ t344) ++ (t336.extract ((wrap64 (t339 + t346)) : Int).toNat t336.size))) else (none)) else (none)) else (none)) = some r := H
     have A19 := am A190
     clear A190
     obtain ⟨ji20, hji20⟩ : ∃ j_ : Int, (wrap64 (t339 + t346)) = j_ := ⟨_, rfl⟩
     replace H : (if 0 ≤ (ji20) then (if (ji20) ≤ (t336.size : Int) then (if ((t336.extract 0 (t339 : Int).toNat) ++ t344).size + (t336.extract ((ji20) : Int).toNat t336.size).size ≤ 9223372036854775807 then (some (((t336.extract 0 (t339 : Int).toNat) ++ t344) ++ (t336.extract ((ji20) : Int).toNat t336.size))) else (none)) else (none)) else (none)) = some r := by first | (rw [hji20] at H; exact H) | (simp only [hji20] at H ⊢; exact H)
     (try rw [hji20] at A2)
     (try rw [hji20] at A3)
     (try rw [hji20] at A4)
     (try rw [hji20] at A5)
     (try rw [hji20] at A14)
     (try rw [hji20] at A17)
     (try rw [hji20] at A19)
     have hji20w : (IntKind.i64.wrap (t339 + t346)) = ji20 := (i64_w _).trans hji20
     by_cases c21 : 0 ≤ (ji20)
     ·rw [if_pos c21] at H
      have c21b0 := eq_true c21
      have c21b1 : decide (0 ≤ (ji20)) = true := decide_eq_true c21
      clear c21
      by_cases c22 : (ji20) ≤ (t336.size : Int)
      ·rw [if_pos c22] at H
       have c22b0 := eq_true c22
       have c22b1 : decide ((ji20) ≤ (t336.size : Int)) = true := decide_eq_true c22
       clear c22
       by_cases c23 : ((t336.extract 0 (t339 : Int).toNat) ++ t344).size + (t336.extract ((ji20) : Int).toNat t336.size).size ≤ 9223372036854775807
       ·rw [if_pos c23] at H
        have c23b0 := eq_true c23
        have c23b1 : decide (((t336.extract 0 (t339 : Int).toNat) ++ t344).size + (t336.extract ((ji20) : Int).toNat t336.size).size ≤ 9223372036854775807) = true := decide_eq_true c23
        try have c23b2 : (9223372036854775807 < ((t336.extract 0 (t339 : Int).toNat) ++ t344).size + (t336.extract ((ji20) : Int).toNat t336.size).size) = False := eq_false (Nat.not_lt.2 c23)
        try (have c23b5 := c23b2; (try simp only [ByteArray.size_append] at c23b5); rw [show (t336.extract 0 (t339 : Int).toNat).size = t339.toNat from by rw [ByteArray.size_extract]; have h1_ := of_decide_eq_true c16b1; omega, show (t336.extract ((ji20) : Int).toNat t336.size).size = t336.size - ji20.toNat from by rw [ByteArray.size_extract, Nat.min_self]] at c23b5)
        try (have c23b3 := c23b2; simp only [ByteArray.size_append] at c23b3)
        obtain rfl := Option.some.inj H
        go_enter Tryd.func14, Tryd.ntmps14
        try go_wp2_with (first | ((with_reducible refine gate_callee (f := 32) rfl ?_); refine gL (some 7) rfl rfl Tryd.func32 (by kernel_rfl) rfl #[.slice A0 l0.length c0] rfl ?_; (with_reducible refine (spec_l13Open.calls _ _ l0 t323 t324 w _ ?side1 ?side2 ?side3 A2.out).mono ?_); (case side1 => exact bs0 HB.out); (case side2 => exact HR0.out); (case side3 => exact HC0.out); rintro e w24 ⟨g325, rfl, hi, hb, hb2⟩; refine ⟨_, rfl, ?_⟩; replace HB := am (hb); have HI325 := am (hi); (try clear hb hb2 hi)) | ((with_reducible refine gate_callee (f := 33) rfl ?_); refine gL (some 9) rfl rfl Tryd.func33 (by kernel_rfl) rfl #[.pointer (some ⟨g325, 0, none⟩)] rfl ?_; (with_reducible refine (spec_l1Draw.calls k g325 t323 t324 t326 t329 t332 t335 w _ ?side1 ?side2 A3.out).mono ?_); (case side1 => exact is63_0 HI325.out); (case side2 => exact bs1 (IsS63.ge HI325.out) HB.out); rintro e w25 ⟨v327, v330, v333, rfl, ho0, ho1, ho2, hi, hb, hk⟩; refine ⟨_, rfl, ?_⟩; have HO328 := ln0 ho0 (bs1 (IsS63.ge HI325.out) HB.out); have HO331 := ln0 ho1 (bs1 (IsS63.ge HI325.out) HB.out); have HO334 := ln0 ho2 (bs1 (IsS63.ge HI325.out) HB.out); replace HB := am (hb); replace HI325 := am (hi); (try clear hb hk hi ho0 ho1 ho2); obtain ⟨Ao26, co26, eo26⟩ := Kd.R_slice HO328.out; subst eo26; obtain ⟨Ao27, co27, eo27⟩ := Kd.R_slice HO331.out; subst eo27; obtain ⟨Ao28, co28, eo28⟩ := Kd.R_slice HO334.out; subst eo28) | ((with_reducible refine gate_callee (f := 19) rfl ?_); refine gL (some 10) rfl rfl Tryd.func19 (by kernel_rfl) rfl #[.agg #[.slice Ao26 t326.length co26, .slice Ao27 t329.length co27, .slice Ao28 t332.length co28]] rfl ?_; (with_reducible refine (spec_FormatHeap.calls k _ _ t326 _ _ t329 _ _ t332 t336 _ ?side1 ?side2 ?side3 ?side4 ?side5 ?side6 A4.out).mono ?_); (case side1 => exact cl ((Kd.R_reads' HO328.out).2.2)); (case side2 => exact sc HO328); (case side3 => exact cl ((Kd.R_reads' HO331.out).2.2)); (case side4 => exact sc HO331); (case side5 => exact cl ((Kd.R_reads' HO334.out).2.2)); (case side6 => exact sc HO334); rintro e w29 ⟨rfl, hb⟩; refine ⟨_, rfl, ?_⟩; replace HO328 := rb HO328 hb; replace HO331 := rb HO331 hb; replace HO334 := rb HO334 hb; replace HB := am (below_step (bs1 (IsS63.ge HI325.out) HB.out) hb); replace HI325 := am (IsS63.below (is63_0 HI325.out) hb); (try clear hb)) | ((with_reducible refine gate_callee (f := 34) rfl ?_); refine gL (some 12) rfl rfl Tryd.func34 (by kernel_rfl) rfl #[.pointer (some ⟨g325, 0, none⟩), .int .i64 2] rfl ?_; (with_reducible refine (spec_l13Rd_pick.calls k g325 t323 t335 2 t337 t338 w _ ?side1 ?side2 A5.out).mono ?_); (case side1 => exact is63_0 HI325.out); (case side2 => exact bs1 (IsS63.ge HI325.out) HB.out); rintro e w30 ⟨rfl, hi, hb, hk⟩; refine ⟨_, rfl, ?_⟩; replace HO328 := am (Kd.R_mono (Kd.R_keep (IsS63.apart (show IsS63 w _ g325 t323 t335 from by exact is63_0 HI325.out) (rl HO328.out) (by decide)) hk (fun _ h => h.2)) (fun _ h => h.1)); replace HO331 := am (Kd.R_mono (Kd.R_keep (IsS63.apart (show IsS63 w _ g325 t323 t335 from by exact is63_0 HI325.out) (rl HO331.out) (by decide)) hk (fun _ h => h.2)) (fun _ h => h.1)); replace HO334 := am (Kd.R_mono (Kd.R_keep (IsS63.apart (show IsS63 w _ g325 t323 t335 from by exact is63_0 HI325.out) (rl HO334.out) (by decide)) hk (fun _ h => h.2)) (fun _ h => h.1)); replace HB := am (hb); replace HI325 := am (hi); (try clear hb hk hi)) | ((with_reducible refine gate_callee (f := 34) rfl ?_); refine gL (some 18) rfl rfl Tryd.func34 (by kernel_rfl) rfl #[.pointer (some ⟨g325, 0, none⟩), .int .i64 (t336.size : Int)] rfl ?_; (with_reducible refine (spec_l13Rd_pick.calls k g325 t323 t338 (t336.size : Int) t339 t340 w _ ?side1 ?side2 A14.out).mono ?_); (case side1 => exact is63_0 HI325.out); (case side2 => exact bs1 (IsS63.ge HI325.out) HB.out); rintro e w31 ⟨rfl, hi, hb, hk⟩; refine ⟨_, rfl, ?_⟩; replace HO328 := am (Kd.R_mono (Kd.R_keep (IsS63.apart (show IsS63 w _ g325 t323 t338 from by exact is63_0 HI325.out) (rl HO328.out) (by decide)) hk (fun _ h => h.2)) (fun _ h => h.1)); replace HO331 := am (Kd.R_mono (Kd.R_keep (IsS63.apart (show IsS63 w _ g325 t323 t338 from by exact is63_0 HI325.out) (rl HO331.out) (by decide)) hk (fun _ h => h.2)) (fun _ h => h.1)); replace HO334 := am (Kd.R_mono (Kd.R_keep (IsS63.apart (show IsS63 w _ g325 t323 t338 from by exact is63_0 HI325.out) (rl HO334.out) (by decide)) hk (fun _ h => h.2)) (fun _ h => h.1)); replace HB := am (hb); replace HI325 := am (hi); (try clear hb hk hi)))
        replace HO328 := am (Kd.R_drew HO328.out)
        replace HO331 := am (Kd.R_drew HO331.out)
        replace HO334 := am (Kd.R_drew HO334.out)
        replace HI325 := am (IsS63.drew HI325.out)
        replace HB := am (below_drew1 HB.out)
        refine start_ (n := 15) (S := fun w' => True) (ds := []) #[false, false, false, false, false, false, false, false, false, false, false, false, false, false, false] (by kernel_rfl) rfl rfl trivial (fun hHeld => ?_); refine with_tabW spec_DrawParseHeap.tab6 spec_DrawParseHeap.bits6 (fun HT_ HW_ => ?_)
        generalize w31.drew = w32 at HO328 HO331 HO334 HI325 HB hHeld ⊢
        refine pure_ (i := 0) (N := some 19) (v := ?_) (a' := ?_) #[true, false, false, false, false, false, false, false, false, false, false, false, false, false, false] rfl rfl (any_of HT_.out (by kernel_rfl)) (fun _ _ _ h => h) (Or.inl ⟨by rfl, ?_⟩) ?_ ?_
        rotate_left
        ·intro w'
         go_simp
         with_reducible rfl
        rotate_left
        ·simp only [Act.put, List.setIfInBounds_toArray, List.set_cons_zero, List.set_cons_succ, i64_w, i32_w]
         rfl
        refine pure_ (i := 1) (N := some 20) (v := ?_) (a' := ?_) #[true, true, false, false, false, false, false, false, false, false, false, false, false, false, false] rfl rfl (any_of HT_.out (by kernel_rfl)) (fun _ _ _ h => h) (Or.inl ⟨by rfl, ?_⟩) ?_ ?_
        rotate_left
        ·intro w'
         go_simp
         with_reducible rfl
        rotate_left
        ·simp only [Act.put, List.setIfInBounds_toArray, List.set_cons_zero, List.set_cons_succ, i64_w, i32_w]
         rfl
        refine pure_ (i := 2) (N := some 21) (v := ?_) (a' := ?_) #[true, true, true, false, false, false, false, false, false, false, false, false, false, false, false] rfl rfl (any_of HT_.out (by kernel_rfl)) (fun _ _ _ h => h) (Or.inl ⟨by rfl, ?_⟩) ?_ ?_
        rotate_left
        ·intro w'
         go_simp
         with_reducible rfl
        rotate_left
        ·simp only [Act.put, List.setIfInBounds_toArray, List.set_cons_zero, List.set_cons_succ, i64_w, i32_w]
         rfl
        refine pure_ (i := 3) (N := some 22) (v := ?_) (a' := ?_) #[true, true, true, true, false, false, false, false, false, false, false, false, false, false, false] rfl rfl (any_of HT_.out (by kernel_rfl)) (fun _ _ _ h => h) (Or.inl ⟨by rfl, ?_⟩) ?_ ?_
        rotate_left
        ·intro w'
         go_simp
         with_reducible rfl
        rotate_left
        ·simp only [Act.put, List.setIfInBounds_toArray, List.set_cons_zero, List.set_cons_succ, i64_w, i32_w]
         rfl
        refine pure_ (i := 7) (N := some 26) (v := ?_) (a' := ?_) #[true, true, true, true, false, false, false, true, false, false, false, false, false, false, false] rfl rfl (any_of HT_.out (by kernel_rfl)) (fun _ _ _ h => h) (Or.inl ⟨by rfl, ?_⟩) ?_ ?_
        rotate_left
        ·intro w'
         go_simp
         with_reducible rfl
        rotate_left
        ·simp only [Act.put, List.setIfInBounds_toArray, List.set_cons_zero, List.set_cons_succ, i64_w, i32_w]
         rfl
        refine pure_ (i := 8) (N := some 27) (v := ?_) (a' := ?_) #[true, true, true, true, false, false, false, true, true, false, false, false, false, false, false] rfl rfl (any_of HT_.out (by kernel_rfl)) (fun _ _ _ h => h) (Or.inl ⟨by rfl, ?_⟩) ?_ ?_
        rotate_left
        ·intro w'
         go_simp
         with_reducible rfl
        rotate_left
        ·simp only [Act.put, List.setIfInBounds_toArray, List.set_cons_zero, List.set_cons_succ, i64_w, i32_w]
         rfl
        refine pure_ (i := 9) (N := some 28) (v := ?_) (a' := ?_) #[true, true, true, true, false, false, false, true, true, true, false, false, false, false, false] rfl rfl (any_of HT_.out (by kernel_rfl)) (fun _ _ _ h => h) (Or.inl ⟨by rfl, ?_⟩) ?_ ?_
        rotate_left
        ·intro w'
         go_simp
         with_reducible rfl
        rotate_left
        ·simp only [Act.put, List.setIfInBounds_toArray, List.set_cons_zero, List.set_cons_succ, i64_w, i32_w]
         rfl
        refine one_ (i := 4) (N := some 23) #[true, true, true, true, true, false, false, true, true, true, false, false, false, false, false] rfl rfl (one_of HT_.out (by kernel_rfl)) (by decide) (fun K hK => ?_)
        refine Kd.R_lit_step Kd.string _ 9 ?hg (N := 23) ?hd (xs := ([(⟨#[]⟩ : ByteArray), (⟨#[32]⟩ : ByteArray), (⟨#[45]⟩ : ByteArray), (⟨#[47]⟩ : ByteArray), (⟨#[48]⟩ : ByteArray), (⟨#[55]⟩ : ByteArray)] : List ByteArray)) (inner := [.string (⟨#[]⟩ : ByteArray), .string (⟨#[32]⟩ : ByteArray), .string (⟨#[45]⟩ : ByteArray), .string (⟨#[47]⟩ : ByteArray), .string (⟨#[48]⟩ : ByteArray), .string (⟨#[55]⟩ : ByteArray)]) (ok := fun _ => True) (okp := fun _ => True) ?hr ?hp (fun _ hk => hk) trivial (Below.refl _ _) (Nat.le_refl _) (by simp) ?_; (case hd => rfl); (case hg => rfl); (case hr => first | (go_simp; done) | (go_simp; rfl)); (case hp => exact (Reps.one (show Kd.M Kd.string _ _ _ (⟨#[]⟩ : ByteArray) [.string (⟨#[]⟩ : ByteArray)] from rfl) (Reps.one (show Kd.M Kd.string _ _ _ (⟨#[32]⟩ : ByteArray) [.string (⟨#[32]⟩ : ByteArray)] from rfl) (Reps.one (show Kd.M Kd.string _ _ _ (⟨#[45]⟩ : ByteArray) [.string (⟨#[45]⟩ : ByteArray)] from rfl) (Reps.one (show Kd.M Kd.string _ _ _ (⟨#[47]⟩ : ByteArray) [.string (⟨#[47]⟩ : ByteArray)] from rfl) (Reps.one (show Kd.M Kd.string _ _ _ (⟨#[48]⟩ : ByteArray) [.string (⟨#[48]⟩ : ByteArray)] from rfl) (Reps.one (show Kd.M Kd.string _ _ _ (⟨#[55]⟩ : ByteArray) [.string (⟨#[55]⟩ : ByteArray)] from rfl) (Reps.none _ _))))))))
        intro v342 w33 ho34 hb hg_ hnew_
        clear hg_ hnew_
        (first | rw [← Ny341.out] at ho34 | (simp only [Int.reduceToNat] at ho34; rw [← Ny341.out] at ho34))
        replace HO328 := rb HO328 hb
        replace HO331 := rb HO331 hb
        replace HO334 := rb HO334 hb
        have HO343 := ln0 ho34 (bs1 (IsS63.ge HI325.out) HB.out)
        replace HB := am (below_step (bs1 (IsS63.ge HI325.out) HB.out) hb)
        replace HI325 := am (IsS63.below (is63_0 HI325.out) hb)
        clear hb ho34
        obtain ⟨Ao35, co35, eo35⟩ := Kd.R_slice HO343.out
        (first | subst eo35 | (injection eo35 with f1_ f2_ f3_; have f4_ := f1_.symm; have f5_ := f3_.symm; clear f1_ f2_ f3_; subst f4_; subst f5_))
        refine hK.out _ _ trivial (fun hHeld => ?_)
        clear hK K
        refine norm_ (a' := ?_) ?_ ?_
        rotate_left
        ·show Act.put _ (some 23) _ = _
         simp only [Act.put, List.setIfInBounds_toArray, List.set_cons_zero, List.set_cons_succ, i64_w, i32_w]
         rfl
        refine one_ (i := 5) (N := some 24) #[true, true, true, true, true, true, false, true, true, true, false, false, false, false, false] rfl rfl (one_of HT_.out (by kernel_rfl)) (by decide) (fun K hK => ?_)
        refine goes_ Tryd.func35 (by kernel_rfl) rfl #[.pointer (some ⟨g325, 0, none⟩), .slice Ao35 y341.length co35] (by rfl) rfl rfl (by (try simp only [List.map_toArray, List.map_cons, List.map_nil]); first | done | rfl | (simp only [List.length_drop, List.length_take]; rfl)) ?_
        with_reducible refine (spec_l13Rd_of.calls k g325 t323 t340 _ _ y341 t344 t345 w _ ?side1 ?side2 ?side3 ?side4 ?side5 A17.out).mono ?_
        (case side1 => exact is63_0 HI325.out)
        (case side2 => exact bs1 (IsS63.ge HI325.out) HB.out)
        (case side3 => exact cl ((Kd.R_reads' HO343.out).2.2))
        (case side4 => exact sc HO343)
        (case side5 => exact far_slice (IsS63.own_ne HI325.out HO343.out (by decide)))
        rintro e w36 ⟨rfl, hi, hb, hk⟩
        refine ⟨_, rfl, ?_⟩
        replace HO328 := am (Kd.R_mono (Kd.R_keep (IsS63.apart (show IsS63 w _ g325 t323 t340 from by exact is63_0 HI325.out) (rl HO328.out) (by decide)) hk (fun _ h => h.2)) (fun _ h => h.1))
        replace HO331 := am (Kd.R_mono (Kd.R_keep (IsS63.apart (show IsS63 w _ g325 t323 t340 from by exact is63_0 HI325.out) (rl HO331.out) (by decide)) hk (fun _ h => h.2)) (fun _ h => h.1))
        replace HO334 := am (Kd.R_mono (Kd.R_keep (IsS63.apart (show IsS63 w _ g325 t323 t340 from by exact is63_0 HI325.out) (rl HO334.out) (by decide)) hk (fun _ h => h.2)) (fun _ h => h.1))
        replace HO343 := am (Kd.R_mono (Kd.R_keep (IsS63.apart (show IsS63 w _ g325 t323 t340 from by exact is63_0 HI325.out) (rl HO343.out) (by decide)) hk (fun _ h => h.2)) (fun _ h => h.1))
        replace HB := am (hb)
        replace HI325 := am (hi)
        (try clear hb hk hi)
        refine hK.out _ _ trivial (fun hHeld => ?_)
        clear hK K
        refine norm_ (a' := ?_) ?_ ?_
        rotate_left
        ·show Act.put _ (some 24) _ = _
         simp only [Act.put, List.setIfInBounds_toArray, List.set_cons_zero, List.set_cons_succ, i64_w, i32_w]
         rfl
        refine pure_ (i := 6) (N := some 25) (v := ?_) (a' := ?_) #[true, true, true, true, true, true, true, true, true, true, false, false, false, false, false] rfl rfl (any_of HT_.out (by kernel_rfl)) (fun _ _ _ h => h) (Or.inl ⟨by rfl, ?_⟩) ?_ ?_
        rotate_left
        ·intro w'
         go_simp
         with_reducible rfl
        rotate_left
        ·simp only [Act.put, List.setIfInBounds_toArray, List.set_cons_zero, List.set_cons_succ, i64_w, i32_w]
         rfl
        refine one_ (i := 10) (N := some 29) #[true, true, true, true, true, true, true, true, true, true, true, false, false, false, false] rfl rfl (one_of HT_.out (by kernel_rfl)) (by decide) (fun K hK => ?_)
        refine goes_ Tryd.func34 (by kernel_rfl) rfl #[.pointer (some ⟨g325, 0, none⟩), .int .i64 2] (by rfl) rfl rfl (by (try simp only [List.map_toArray, List.map_cons, List.map_nil]); first | done | rfl | (simp only [List.length_drop, List.length_take]; rfl)) ?_
        with_reducible refine (spec_l13Rd_pick.calls k g325 t323 t345 2 t346 t347 w _ ?side1 ?side2 A19.out).mono ?_
        (case side1 => exact is63_0 HI325.out)
        (case side2 => exact bs1 (IsS63.ge HI325.out) HB.out)
        rintro e w37 ⟨rfl, hi, hb, hk⟩
        refine ⟨_, rfl, ?_⟩
        replace HO328 := am (Kd.R_mono (Kd.R_keep (IsS63.apart (show IsS63 w _ g325 t323 t345 from by exact is63_0 HI325.out) (rl HO328.out) (by decide)) hk (fun _ h => h.2)) (fun _ h => h.1))
        replace HO331 := am (Kd.R_mono (Kd.R_keep (IsS63.apart (show IsS63 w _ g325 t323 t345 from by exact is63_0 HI325.out) (rl HO331.out) (by decide)) hk (fun _ h => h.2)) (fun _ h => h.1))
        replace HO334 := am (Kd.R_mono (Kd.R_keep (IsS63.apart (show IsS63 w _ g325 t323 t345 from by exact is63_0 HI325.out) (rl HO334.out) (by decide)) hk (fun _ h => h.2)) (fun _ h => h.1))
        replace HO343 := am (Kd.R_mono (Kd.R_keep (IsS63.apart (show IsS63 w _ g325 t323 t345 from by exact is63_0 HI325.out) (rl HO343.out) (by decide)) hk (fun _ h => h.2)) (fun _ h => h.1))
        replace HB := am (hb)
        replace HI325 := am (hi)
        (try clear hb hk hi)
        refine hK.out _ _ trivial (fun hHeld => ?_)
        clear hK K
        refine norm_ (a' := ?_) ?_ ?_
        rotate_left
        ·show Act.put _ (some 29) _ = _
         simp only [Act.put, List.setIfInBounds_toArray, List.set_cons_zero, List.set_cons_succ, i64_w, i32_w]
         rfl
        refine pure_ (i := 11) (N := some 30) (v := ?_) (a' := ?_) #[true, true, true, true, true, true, true, true, true, true, true, true, false, false, false] rfl rfl (any_of HT_.out (by kernel_rfl)) (fun _ _ _ h => h) (Or.inl ⟨by rfl, ?_⟩) ?_ ?_
        rotate_left
        ·intro w'
         go_simp
         with_reducible rfl
        rotate_left
        ·simp only [Act.put, List.setIfInBounds_toArray, List.set_cons_zero, List.set_cons_succ, i64_w, i32_w]
         rfl
        refine pure_ (i := 12) (N := some 31) (v := ?_) (a' := ?_) #[true, true, true, true, true, true, true, true, true, true, true, true, true, false, false] rfl rfl (any_of HT_.out (by kernel_rfl)) (fun _ _ _ h => h) (Or.inl ⟨by rfl, ?_⟩) ?_ ?_
        rotate_left
        ·intro w'
         go_simp
         with_reducible rfl
        rotate_left
        ·simp only [Act.put, List.setIfInBounds_toArray, List.set_cons_zero, List.set_cons_succ, i64_w, i32_w]
         rfl
        refine pure_ (i := 13) (N := some 32) (v := ?_) (a' := ?_) #[true, true, true, true, true, true, true, true, true, true, true, true, true, true, false] rfl rfl (any_of HT_.out (by kernel_rfl)) (fun _ _ _ h => h) (Or.inl ⟨by rfl, ?_⟩) ?_ ?_
        rotate_left
        ·intro w'
         go_simp
         with_reducible rfl
        rotate_left
        ·simp only [Act.put, List.setIfInBounds_toArray, List.set_cons_zero, List.set_cons_succ, i64_w, i32_w]
         rfl
        refine pure_ (i := 14) (N := some 2) (v := ?_) (a' := ?_) #[true, true, true, true, true, true, true, true, true, true, true, true, true, true, true] rfl rfl (any_of HT_.out (by kernel_rfl)) (fun _ _ _ h => h) (Or.inl ⟨by rfl, ?_⟩) ?_ ?_
        rotate_left
        ·intro w'
         go_simp
         with_reducible rfl
        rotate_left
        ·simp only [Act.put, List.setIfInBounds_toArray, List.set_cons_zero, List.set_cons_succ, i64_w, i32_w]
         rfl
        refine done_ (done_of HT_.out (by kernel_rfl)) ?_
        try go_wp2
        go_ret
        exact ⟨by first | rfl | (simp [errW_none, errW_some] <;> rfl) | (simp only [← hji20]; first | rfl | (simp [errW_none, errW_some] <;> rfl)) | (simp [*, errW_none, errW_some] <;> rfl), by exact bs1 (IsS63.ge HI325.out) HB.out⟩
       ·rw [if_neg c23] at H
        exact absurd H (by simp)
      ·rw [if_neg c22] at H
       exact absurd H (by simp)
     ·rw [if_neg c21] at H
      exact absurd H (by simp)
    ·rw [if_neg c18] at H
     exact absurd H (by simp)
   ·rw [if_neg c16] at H
    exact absurd H (by simp)
  ·rw [if_neg c15] at H
   exact absurd H (by simp)

end Go.Proofs.YtomeaapjjmaepaaDoor.A
