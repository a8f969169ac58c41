/- Contracts of functions of the given program (ASpecDrawHeapValid). No conditions beyond those stated. -/
import Derived.Test.YtomeaapjjmaepaaDoorA0
import Derived.Test.YtomeaapjjmaepaaDoorASpecL13Open
import Derived.Test.YtomeaapjjmaepaaDoorASpecL1Draw
import Derived.Test.YtomeaapjjmaepaaDoorASpecL1Wrong
import Derived.Test.YtomeaapjjmaepaaDoorAState
import Derived.Test.YtomeaapjjmaepaaDoorA0
namespace Go.Proofs.YtomeaapjjmaepaaDoor.A
open Go.RowKit Go.Proofs.YtomeaapjjmaepaaDoorW.PrintWords Go.Proofs.YtomeaapjjmaepaaDoorW.PrintLast Go.Proofs.YtomeaapjjmaepaaDoorW.PrintMore
attribute [local go_sem] max2_int min2_int max_two min_two max_three min_three max_four min_four   -- for this text's walks alone
set_option linter.unusedVariables false
set_option linter.unusedSimpArgs false

/-! ### spec_DrawHeapValid -/
def spec_DrawHeapValid.f (k : Nat) (l0 : List Int) : Option (List Int × List Int × List Int) := (spec_l13Open.f l0).bind fun bt441 => ((spec_l1Draw.f k bt441.1 bt441.2).bind fun bt444 => ((spec_l1Wrong.f k bt441.1 bt444.2.2.2 bt444.1 bt444.2.1 bt444.2.2.1).bind fun bt454 => (some (bt454.1, bt454.2.1, bt454.2.2.1))))
theorem spec_DrawHeapValid.mono : ∀ a0 k, LeO (spec_DrawHeapValid.f k a0) (spec_DrawHeapValid.f (k + 1) a0) := by
 intro a0 k
 unfold spec_DrawHeapValid.f
 repeat' first
   | (with_reducible exact spec_l1Draw.mono _ _ _)
   | (with_reducible exact spec_l1Wrong.mono _ _ _ _ _ _)
   | (with_reducible exact LeO.refl _)
   | (with_reducible exact LeO.none _)
   | (with_reducible refine LeO.ite ?_ ?_)
   | (with_reducible refine LeO.bind ?_ (fun _ => ?_))
   | exact spec_l1Draw.mono _ _ _
   | exact spec_l1Wrong.mono _ _ _ _ _ _
   | exact LeO.none _
   | refine LeO.ite ?_ ?_
   | refine LeO.bind ?_ (fun _ => ?_)
set_option maxHeartbeats 8000000 in
set_option maxRecDepth 100000 in
theorem spec_DrawHeapValid.calls (k : Nat) (A0 : Option Addr) (c0 : Nat) (l0 : List Int) (r1 : List Int) (r2 : List Int) (r3 : List Int) (w : World) (hr0 : Kd.C (Kd.int .u8) w A0 l0.length l0) (hc0 : l0.length ≤ c0) (h : spec_DrawHeapValid.f k l0 = some (r1, r2, r3)) :
  Calls Tryd.prog 37 #[.slice A0 l0.length c0] w fun e w' => ∃ v0_ v1_ v2_ : Value, e = .returned (.agg #[v0_, v1_, v2_]) ∧ Kd.R (Kd.int .i64) 3 w' w.heap.size (fun k_ => some k_ ≠ (v1_ : Value).ownBlock ∧ some k_ ≠ (v2_ : Value).ownBlock) v0_ r1 ∧ Kd.R (Kd.int .i64) 3 w' w.heap.size (fun k_ => some k_ ≠ (v0_ : Value).ownBlock ∧ some k_ ≠ (v2_ : Value).ownBlock) v1_ r2 ∧ Kd.R (Kd.int .i64) 3 w' w.heap.size (fun k_ => some k_ ≠ (v0_ : Value).ownBlock ∧ some k_ ≠ (v1_ : Value).ownBlock) v2_ r3 ∧ Below w.heap.size w w' := by
 have hu24 := Tryd.underlying24
 have HR0 := am hr0
 have HC0 := am hc0
 clear hr0 hc0
 have HB := am (Below.refl w.heap.size w)
 have H : ((spec_l13Open.f l0).bind fun bt441 => ((spec_l1Draw.f k bt441.1 bt441.2).bind fun bt444 => ((spec_l1Wrong.f k bt441.1 bt444.2.2.2 bt444.1 bt444.2.1 bt444.2.2.1).bind fun bt454 => (some (bt454.1, bt454.2.1, bt454.2.2.1))))) = some (r1, r2, r3) := h
 clear h
 replace H := Option.bind_eq_some_iff.mp H
 obtain ⟨⟨t441, t442⟩, A20, H⟩ := H
 replace H : ((spec_l1Draw.f k t441 t442).bind fun bt444 => ((spec_l1Wrong.f k t441 bt444.2.2.2 bt444.1 bt444.2.1 bt444.2.2.1).bind fun bt454 => (some (bt454.1, bt454.2.1, bt454.2.2.1)))) = some (r1, r2, r3) := H
 have A2 := am A20
 clear A20
 replace H := Option.bind_eq_some_iff.mp H
 obtain ⟨⟨t444, t447, t450, t453⟩, A30, H⟩ := H
 replace H : ((spec_l1Wrong.f k t441 t453 t444 t447 t450).bind fun bt454 => (some (bt454.1, bt454.2.1, bt454.2.2.1))) = some (r1, r2, r3) := H
 have A3 := am A30
 clear A30
 replace H := Option.bind_eq_some_iff.mp H
 obtain ⟨⟨t454, t457, t460, t463⟩, A40, H⟩ := H
 replace H : (some (t454, t457, t460)) = some (r1, r2, r3) := H
 have A4 := am A40
 clear A40
 simp only [Option.some.injEq, Prod.mk.injEq] at H
 obtain ⟨rfl, rfl, rfl⟩ := H
 go_enter Tryd.func37, Tryd.ntmps37
 go_wp2_with (first | ((with_reducible refine gate_dst (N := 2) rfl ?_); refine box_event ?hg (N := 2) ?hd (cs := #[.slice none 0 0, .slice none 0 0, .slice none 0 0]) (t := 24) ?hr ?_; (case hd => rfl); (case hg => rfl); (case hr => first | (go_simp; done) | (go_simp; rfl)); intro gb440 hg w5 hbox hb; have BK440 := am (hbox); have GW440 := am ((by rw [hg]; exact (below_size (bl HB.out)) : w.heap.size ≤ gb440)); have GE440 := am ((by rw [hg]; exact (below_size (bl HB.out)) : w.heap.size ≤ gb440)); replace HB := am (below_step (bl HB.out) hb); clear hb hbox hg) | ((with_reducible refine gate_callee (f := 32) rfl ?_); refine gL (some 5) rfl rfl Tryd.func32 (by kernel_rfl) rfl #[.slice A0 l0.length c0] rfl ?_; (with_reducible refine (spec_l13Open.calls _ _ l0 t441 t442 w _ ?side1 ?side2 ?side3 A2.out).mono ?_); (case side1 => exact bs1 GE440.out HB.out); (case side2 => exact HR0.out); (case side3 => exact HC0.out); rintro e w6 ⟨g443, rfl, hi, hb, hb2⟩; refine ⟨_, rfl, ?_⟩; replace HB := am (hb); have HI443 := am (hi); have NB443_440 := am (IsS63.ne_blk hi (blk_below (g := gb440) (o := .cells #[.slice none 0 0, .slice none 0 0, .slice none 0 0] 24 (0, 0)) (kl BK440.out) hb2) (by decide)); have NB440_443 := am (Ne.symm (IsS63.ne_blk hi (blk_below (g := gb440) (o := .cells #[.slice none 0 0, .slice none 0 0, .slice none 0 0] 24 (0, 0)) (kl BK440.out) hb2) (by decide))); replace BK440 := am (blk_below (g := gb440) (o := .cells #[.slice none 0 0, .slice none 0 0, .slice none 0 0] 24 (0, 0)) (kl BK440.out) hb2); (try clear hb hb2 hi)) | ((with_reducible refine gate_callee (f := 33) rfl ?_); refine gL (some 8) rfl rfl Tryd.func33 (by kernel_rfl) rfl #[.pointer (some ⟨g443, 0, none⟩)] rfl ?_; (with_reducible refine (spec_l1Draw.calls k g443 t441 t442 t444 t447 t450 t453 w _ ?side1 ?side2 A3.out).mono ?_); (case side1 => exact is63_1 NB443_440.out HI443.out); (case side2 => exact bs2 (IsS63.ge HI443.out) GE440.out HB.out); rintro e w7 ⟨v445, v448, v451, rfl, ho0, ho1, ho2, hi, hb, hk⟩; refine ⟨_, rfl, ?_⟩; replace BK440 := kb hk BK440 NB440_443; have HO446 := ln0 ho0 (bs2 (IsS63.ge HI443.out) GE440.out HB.out); have HO449 := ln0 ho1 (bs2 (IsS63.ge HI443.out) GE440.out HB.out); have HO452 := ln0 ho2 (bs2 (IsS63.ge HI443.out) GE440.out HB.out); replace HB := am (hb); replace HI443 := am (hi); (try clear hb hk hi ho0 ho1 ho2); obtain ⟨Ao8, co8, eo8⟩ := Kd.R_slice HO446.out; subst eo8; obtain ⟨Ao9, co9, eo9⟩ := Kd.R_slice HO449.out; subst eo9; obtain ⟨Ao10, co10, eo10⟩ := Kd.R_slice HO452.out; subst eo10) | ((with_reducible refine gate_callee (f := 41) rfl ?_); refine gL (some 9) rfl rfl Tryd.func41 (by kernel_rfl) rfl #[.pointer (some ⟨g443, 0, none⟩), .agg #[.slice Ao8 t444.length co8, .slice Ao9 t447.length co9, .slice Ao10 t450.length co10]] rfl ?_; (with_reducible refine (spec_l1Wrong.calls k g443 t441 t453 _ _ t444 _ _ t447 _ _ t450 t454 t457 t460 t463 w _ ?side1 ?side2 ?side3 ?side4 ?side5 ?side6 ?side7 ?side8 ?side9 ?side10 ?side11 A4.out).mono ?_); (case side1 => exact is63_1 NB443_440.out HI443.out); (case side2 => exact bs2 (IsS63.ge HI443.out) GE440.out HB.out); (case side3 => exact cl ((Kd.R_reads' HO446.out).2.2)); (case side4 => exact sc HO446); (case side5 => exact far_slice (IsS63.own_ne HI443.out HO446.out (by decide))); (case side6 => exact cl ((Kd.R_reads' HO449.out).2.2)); (case side7 => exact sc HO449); (case side8 => exact far_slice (IsS63.own_ne HI443.out HO449.out (by decide))); (case side9 => exact cl ((Kd.R_reads' HO452.out).2.2)); (case side10 => exact sc HO452); (case side11 => exact far_slice (IsS63.own_ne HI443.out HO452.out (by decide))); rintro e w11 ⟨v455, v458, v461, rfl, ho0, ho1, ho2, hi, hb, hk⟩; refine ⟨_, rfl, ?_⟩; replace BK440 := kb hk BK440 NB440_443; have HO456 := ln3 ho0 (rl HO446.out) (rl HO449.out) (rl HO452.out) (bs2 (IsS63.ge HI443.out) GE440.out HB.out); have HO459 := ln3 ho1 (rl HO446.out) (rl HO449.out) (rl HO452.out) (bs2 (IsS63.ge HI443.out) GE440.out HB.out); have HO462 := ln3 ho2 (rl HO446.out) (rl HO449.out) (rl HO452.out) (bs2 (IsS63.ge HI443.out) GE440.out HB.out); replace HO446 := am (Kd.R_mono (Kd.R_told (Kd.R_told (Kd.R_told (Kd.R_oldK (IsS63.apart (show IsS63 w _ g443 t441 t453 from by exact is63_1 NB443_440.out HI443.out) (rl HO446.out) (by decide)) hk) (Kd.R_base ho0)) (Kd.R_base ho1)) (Kd.R_base ho2)) (fun _ h_ => h_.1)); replace HO449 := am (Kd.R_mono (Kd.R_told (Kd.R_told (Kd.R_told (Kd.R_oldK (IsS63.apart (show IsS63 w _ g443 t441 t453 from by exact is63_1 NB443_440.out HI443.out) (rl HO449.out) (by decide)) hk) (Kd.R_base ho0)) (Kd.R_base ho1)) (Kd.R_base ho2)) (fun _ h_ => h_.1)); replace HO452 := am (Kd.R_mono (Kd.R_told (Kd.R_told (Kd.R_told (Kd.R_oldK (IsS63.apart (show IsS63 w _ g443 t441 t453 from by exact is63_1 NB443_440.out HI443.out) (rl HO452.out) (by decide)) hk) (Kd.R_base ho0)) (Kd.R_base ho1)) (Kd.R_base ho2)) (fun _ h_ => h_.1)); replace HB := am (hb); replace HI443 := am (hi); (try clear hb hk hi ho0 ho1 ho2); obtain ⟨Ao12, co12, eo12⟩ := Kd.R_slice HO456.out; subst eo12; have hnb13 := NB440_443.out; have hnc13 := NB443_440.out; obtain ⟨hcz14_0, hcz14_1, hcz14_2, hfz14_0, hfz14_1, hfz14_2⟩ := cf3 BK440; obtain ⟨Ao15, co15, eo15⟩ := Kd.R_slice HO459.out; subst eo15; obtain ⟨Ao16, co16, eo16⟩ := Kd.R_slice HO462.out; subst eo16))
 refine bodyPost_ret (results_cell_row rfl _ _ gb440 24 #[.slice Ao12 t454.length co12, .slice Ao15 t457.length co15, .slice Ao16 t460.length co16] (0, 0) _ rfl (kp3 (kf0 BK440.out)) Tryd.underlying24 rfl (by kernel_rfl)) rfl ?_
 exact ⟨_, _, _, by first | rfl | (simp [errW_none, errW_some] <;> rfl) | (simp [*, errW_none, errW_some] <;> rfl), by exact ro (rg BK440 HO456), by exact ro (rg BK440 HO459), by exact ro (rg BK440 HO462), by exact bs2 (IsS63.ge HI443.out) GE440.out HB.out⟩

end Go.Proofs.YtomeaapjjmaepaaDoor.A
