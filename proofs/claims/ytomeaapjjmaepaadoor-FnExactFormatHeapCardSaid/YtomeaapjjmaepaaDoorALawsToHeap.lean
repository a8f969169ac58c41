/- Contracts of functions of the given program (ALawsToHeap). No conditions beyond those stated. -/
import Derived.Test.YtomeaapjjmaepaaDoorA0
import Derived.Test.YtomeaapjjmaepaaDoorALawsToIntS
import Derived.Test.YtomeaapjjmaepaaDoorA0
namespace Go.Proofs.YtomeaapjjmaepaaDoor.A
open Go.RowKit Go.Proofs.YtomeaapjjmaepaaDoorW.PrintWords Go.Proofs.YtomeaapjjmaepaaDoorW.PrintLast Go.Proofs.YtomeaapjjmaepaaDoorW.PrintMore
attribute [local go_sem] max2_int min2_int max_two min_two max_three min_three max_four min_four   -- for this text's walks alone
set_option linter.unusedVariables false
set_option linter.unusedSimpArgs false

/-! ### laws_toHeap -/
def laws_toHeap.f (k : Nat) (l0_0 : List Int) (l0_1 : List Int) (l0_2 : List Int) : Option (List Int × List Int × List Int) := (laws_toIntS.f k l0_0).bind fun t608 => ((laws_toIntS.f k l0_1).bind fun t611 => ((laws_toIntS.f k l0_2).bind fun t614 => (some (t608, t611, t614))))
theorem laws_toHeap.mono : ∀ a0 a1 a2 k, LeO (laws_toHeap.f k a0 a1 a2) (laws_toHeap.f (k + 1) a0 a1 a2) := by
 intro a0 a1 a2 k
 unfold laws_toHeap.f
 repeat' first
   | (with_reducible exact laws_toIntS.mono _ _)
   | (with_reducible exact LeO.refl _)
   | (with_reducible exact LeO.none _)
   | (with_reducible refine LeO.ite ?_ ?_)
   | (with_reducible refine LeO.bind ?_ (fun _ => ?_))
   | exact laws_toIntS.mono _ _
   | exact LeO.none _
   | refine LeO.ite ?_ ?_
   | refine LeO.bind ?_ (fun _ => ?_)
set_option maxHeartbeats 8000000 in
set_option maxRecDepth 100000 in
theorem laws_toHeap.calls (k : Nat) (A0_0 : Option Addr) (c0_0 : Nat) (l0_0 : List Int) (A0_1 : Option Addr) (c0_1 : Nat) (l0_1 : List Int) (A0_2 : Option Addr) (c0_2 : Nat) (l0_2 : List Int) (r1 : List Int) (r2 : List Int) (r3 : List Int) (w : World) (hr0_0 : Kd.C (Kd.int .i64) w A0_0 l0_0.length l0_0) (hc0_0 : l0_0.length ≤ c0_0) (hr0_1 : Kd.C (Kd.int .i64) w A0_1 l0_1.length l0_1) (hc0_1 : l0_1.length ≤ c0_1) (hr0_2 : Kd.C (Kd.int .i64) w A0_2 l0_2.length l0_2) (hc0_2 : l0_2.length ≤ c0_2) (h : laws_toHeap.f k l0_0 l0_1 l0_2 = some (r1, r2, r3)) :
  Calls Tryd.prog 24 #[.agg #[.slice A0_0 l0_0.length c0_0, .slice A0_1 l0_1.length c0_1, .slice A0_2 l0_2.length c0_2]] w fun e w' => ∃ v0_ v1_ v2_ : Value, e = .returned (.agg #[v0_, v1_, v2_]) ∧ Kd.R (Kd.int .i64) 3 w' w.heap.size (fun k_ => some k_ ≠ (v1_ : Value).ownBlock ∧ some k_ ≠ (v2_ : Value).ownBlock) v0_ r1 ∧ Kd.R (Kd.int .i64) 3 w' w.heap.size (fun k_ => some k_ ≠ (v0_ : Value).ownBlock ∧ some k_ ≠ (v2_ : Value).ownBlock) v1_ r2 ∧ Kd.R (Kd.int .i64) 3 w' w.heap.size (fun k_ => some k_ ≠ (v0_ : Value).ownBlock ∧ some k_ ≠ (v1_ : Value).ownBlock) v2_ r3 ∧ Below w.heap.size w w' := by
 have hu39 := Tryd.underlying39
 have hu24 := Tryd.underlying24
 have HR0_0 := am hr0_0
 have HC0_0 := am hc0_0
 clear hr0_0 hc0_0
 have HR0_1 := am hr0_1
 have HC0_1 := am hc0_1
 clear hr0_1 hc0_1
 have HR0_2 := am hr0_2
 have HC0_2 := am hc0_2
 clear hr0_2 hc0_2
 have HB := am (Below.refl w.heap.size w)
 have H : ((laws_toIntS.f k l0_0).bind fun t608 => ((laws_toIntS.f k l0_1).bind fun t611 => ((laws_toIntS.f k l0_2).bind fun t614 => (some (t608, t611, t614))))) = some (r1, r2, r3) := h
 clear h
 replace H := Option.bind_eq_some_iff.mp H
 obtain ⟨t608, A20, H⟩ := H
 replace H : ((laws_toIntS.f k l0_1).bind fun t611 => ((laws_toIntS.f k l0_2).bind fun t614 => (some (t608, t611, t614)))) = some (r1, r2, r3) := H
 have A2 := am A20
 clear A20
 replace H := Option.bind_eq_some_iff.mp H
 obtain ⟨t611, A30, H⟩ := H
 replace H : ((laws_toIntS.f k l0_2).bind fun t614 => (some (t608, t611, t614))) = some (r1, r2, r3) := H
 have A3 := am A30
 clear A30
 replace H := Option.bind_eq_some_iff.mp H
 obtain ⟨t614, A40, H⟩ := H
 replace H : (some (t608, t611, t614)) = some (r1, r2, r3) := H
 have A4 := am A40
 clear A40
 simp only [Option.some.injEq, Prod.mk.injEq] at H
 obtain ⟨rfl, rfl, rfl⟩ := H
 go_enter Tryd.func24, Tryd.ntmps24
 go_wp2_with (first | ((with_reducible refine gate_dst (N := 1) rfl ?_); refine box_event ?hg (N := 1) ?hd (cs := #[.slice A0_0 l0_0.length c0_0, .slice A0_1 l0_1.length c0_1, .slice A0_2 l0_2.length c0_2]) (t := 39) ?hr ?_; (case hd => rfl); (case hg => rfl); (case hr => first | (go_simp; done) | (go_simp; rfl)); intro gb605 hg w5 hbox hb; have BK605 := am (hbox); have GW605 := am ((by rw [hg]; exact (below_size (bl HB.out)) : w.heap.size ≤ gb605)); have GE605 := am ((by rw [hg]; exact (below_size (bl HB.out)) : w.heap.size ≤ gb605)); replace HB := am (below_step (bl HB.out) hb); clear hb hbox hg) | ((with_reducible refine gate_dst (N := 2) rfl ?_); refine box_event ?hg (N := 2) ?hd (cs := #[.slice none 0 0, .slice none 0 0, .slice none 0 0]) (t := 24) ?hr ?_; (case hd => rfl); (case hg => rfl); (case hr => first | (go_simp; done) | (go_simp; rfl)); intro gb606 hg w6 hbox hb; have BK606 := am (hbox); have GW606 := am ((by rw [hg]; exact (below_size (bs1 GE605.out HB.out)) : w.heap.size ≤ gb606)); have GE606 := am ((by rw [hg]; exact (below_size (bs1 GE605.out HB.out)) : w.heap.size ≤ gb606)); replace HB := am (below_step (bs1 GE605.out HB.out) hb); have NB605_606 := nb BK605 hg; have NB606_605 := nc BK605 hg; replace BK605 := bb BK605 hb; clear hb hbox hg) | ((with_reducible refine gate_dst (N := 3) rfl ?_); refine box_event ?hg (N := 3) ?hd (cs := #[.slice none 0 0, .slice none 0 0, .slice none 0 0]) (t := 24) ?hr ?_; (case hd => rfl); (case hg => rfl); (case hr => first | (go_simp; done) | (go_simp; rfl)); intro gb607 hg w7 hbox hb; have BK607 := am (hbox); have GW607 := am ((by rw [hg]; exact (below_size (bs2 GE605.out GE606.out HB.out)) : w.heap.size ≤ gb607)); have GE607 := am ((by rw [hg]; exact (below_size (bs2 GE605.out GE606.out HB.out)) : w.heap.size ≤ gb607)); replace HB := am (below_step (bs2 GE605.out GE606.out HB.out) hb); have NB605_607 := nb BK605 hg; have NB607_605 := nc BK605 hg; replace BK605 := bb BK605 hb; have NB606_607 := nb BK606 hg; have NB607_606 := nc BK606 hg; replace BK606 := bb BK606 hb; clear hb hbox hg; have hnb8 := NB605_606.out; have hnc8 := NB606_605.out; have hnb9 := NB605_607.out; have hnc9 := NB607_605.out; obtain ⟨hcz10_0, hcz10_1, hcz10_2, hfz10_0, hfz10_1, hfz10_2⟩ := cf3 BK605) | ((with_reducible refine gate_callee (f := 44) rfl ?_); refine gL (some 6) rfl rfl Tryd.func44 (by kernel_rfl) rfl #[.slice A0_0 l0_0.length c0_0] rfl ?_; (with_reducible refine (laws_toIntS.calls k _ _ l0_0 t608 _ ?side1 ?side2 A2.out).mono ?_); (case side1 => exact ci HR0_0 HB); (case side2 => exact HC0_0.out); rintro e w11 ⟨v609, rfl, ho0, hb⟩; refine ⟨_, rfl, ?_⟩; have HO610 := ln0 ho0 (bs3 GE605.out GE606.out GE607.out HB.out); replace BK605 := bb BK605 hb; replace BK606 := bb BK606 hb; replace BK607 := bb BK607 hb; replace HB := am (below_step (bs3 GE605.out GE606.out GE607.out HB.out) hb); (try clear hb ho0); obtain ⟨Ao12, co12, eo12⟩ := Kd.R_slice HO610.out; subst eo12; have hnb13 := NB607_606.out; have hnc13 := NB606_607.out; obtain ⟨hcz14_0, hcz14_1, hcz14_2, hfz14_0, hfz14_1, hfz14_2⟩ := cf3 BK607; obtain ⟨hcz15_0, hcz15_1, hcz15_2, hfz15_0, hfz15_1, hfz15_2⟩ := cf3 BK605) | ((with_reducible refine gate_callee (f := 44) rfl ?_); refine gL (some 10) rfl rfl Tryd.func44 (by kernel_rfl) rfl #[.slice A0_1 l0_1.length c0_1] rfl ?_; (with_reducible refine (laws_toIntS.calls k _ _ l0_1 t611 _ ?side1 ?side2 A3.out).mono ?_); (case side1 => exact Kd.C_below HR0_1.out (bs3 GE605.out GE606.out GE607.out HB.out)); (case side2 => exact HC0_1.out); rintro e w16 ⟨v612, rfl, ho0, hb⟩; refine ⟨_, rfl, ?_⟩; have HO613 := ln1 ho0 (rg BK607 HO610) (bs3 GE605.out GE606.out GE607.out HB.out); replace HO610 := am (Kd.R_elder' (rg BK607 HO610) (Kd.R_base ho0) hb); replace BK605 := am (blk_below (g := gb605) (o := .cells #[.slice A0_0 l0_0.length c0_0, .slice A0_1 l0_1.length c0_1, .slice A0_2 l0_2.length c0_2] 39 (0, 0)) (kf1 NB605_607.out BK605.out) hb); replace BK606 := am (blk_below (g := gb606) (o := .cells #[.slice none 0 0, .slice none 0 0, .slice none 0 0] 24 (0, 0)) (kf1 NB606_607.out BK606.out) hb); replace BK607 := am (blk_below (g := gb607) (o := .cells #[.slice Ao12 t608.length co12, .slice none 0 0, .slice none 0 0] 24 (0, 0)) (by (with_reducible repeat (first | refine blk_drewN ?_ _ | refine blk_drew ?_ | refine blk_alloc ?_ _)); refine blk_put (cs := #[.slice none 0 0, .slice none 0 0, .slice none 0 0]) ?_ 0 _ rfl; (with_reducible repeat (first | refine blk_drewN ?_ _ | refine blk_drew ?_ | refine blk_alloc ?_ _)); exact BK607.out) hb); replace HB := am (below_step (bs3 GE605.out GE606.out GE607.out HB.out) hb); (try clear hb ho0); obtain ⟨Ao17, co17, eo17⟩ := Kd.R_slice HO613.out; subst eo17; obtain ⟨hcz18_0, hcz18_1, hcz18_2, hfz18_0, hfz18_1, hfz18_2⟩ := cf3 BK607; obtain ⟨hcz19_0, hcz19_1, hcz19_2, hfz19_0, hfz19_1, hfz19_2⟩ := cf3 BK605) | ((with_reducible refine gate_callee (f := 44) rfl ?_); refine gL (some 14) rfl rfl Tryd.func44 (by kernel_rfl) rfl #[.slice A0_2 l0_2.length c0_2] rfl ?_; (with_reducible refine (laws_toIntS.calls k _ _ l0_2 t614 _ ?side1 ?side2 A4.out).mono ?_); (case side1 => exact Kd.C_below HR0_2.out (bs3 GE605.out GE606.out GE607.out HB.out)); (case side2 => exact HC0_2.out); rintro e w20 ⟨v615, rfl, ho0, hb⟩; refine ⟨_, rfl, ?_⟩; have HO616 := ln2 ho0 (rl ((Kd.R_mono (Kd.R_far (p := ⟨gb607, 1, none⟩) (Kd.R_types HO610.out BK607.out (by decide)) (fun _ hk => hk.2) (.slice Ao17 t611.length co17)) (fun _ h_ => h_.1)))) (rl ((Kd.R_mono (Kd.R_far (p := ⟨gb607, 1, none⟩) (Kd.R_types HO613.out BK607.out (by decide)) (fun _ hk => hk.2) (.slice Ao17 t611.length co17)) (fun _ h_ => h_.1)))) (bs3 GE605.out GE606.out GE607.out HB.out); replace HO610 := am (Kd.R_elder' (rl ((Kd.R_mono (Kd.R_far (p := ⟨gb607, 1, none⟩) (Kd.R_types HO610.out BK607.out (by decide)) (fun _ hk => hk.2) (.slice Ao17 t611.length co17)) (fun _ h_ => h_.1)))) (Kd.R_base ho0) hb); replace HO613 := am (Kd.R_elder' (rl ((Kd.R_mono (Kd.R_far (p := ⟨gb607, 1, none⟩) (Kd.R_types HO613.out BK607.out (by decide)) (fun _ hk => hk.2) (.slice Ao17 t611.length co17)) (fun _ h_ => h_.1)))) (Kd.R_base ho0) hb); replace BK605 := am (blk_below (g := gb605) (o := .cells #[.slice A0_0 l0_0.length c0_0, .slice A0_1 l0_1.length c0_1, .slice A0_2 l0_2.length c0_2] 39 (0, 0)) (kf1 NB605_607.out BK605.out) hb); replace BK606 := am (blk_below (g := gb606) (o := .cells #[.slice none 0 0, .slice none 0 0, .slice none 0 0] 24 (0, 0)) (kf1 NB606_607.out BK606.out) hb); replace BK607 := am (blk_below (g := gb607) (o := .cells #[.slice Ao12 t608.length co12, .slice Ao17 t611.length co17, .slice none 0 0] 24 (0, 0)) (by (with_reducible repeat (first | refine blk_drewN ?_ _ | refine blk_drew ?_ | refine blk_alloc ?_ _)); refine blk_put (cs := #[.slice Ao12 t608.length co12, .slice none 0 0, .slice none 0 0]) ?_ 1 _ rfl; (with_reducible repeat (first | refine blk_drewN ?_ _ | refine blk_drew ?_ | refine blk_alloc ?_ _)); exact BK607.out) hb); replace HB := am (below_step (bs3 GE605.out GE606.out GE607.out HB.out) hb); (try clear hb ho0); obtain ⟨Ao21, co21, eo21⟩ := Kd.R_slice HO616.out; subst eo21; obtain ⟨hcz22_0, hcz22_1, hcz22_2, hfz22_0, hfz22_1, hfz22_2⟩ := cf3 BK607; obtain ⟨hcz23_0, hcz23_1, hcz23_2, hfz23_0, hfz23_1, hfz23_2⟩ := cf3 BK606))
 refine bodyPost_ret (results_cell_row rfl _ _ gb606 24 #[.slice Ao12 t608.length co12, .slice Ao17 t611.length co17, .slice Ao21 t614.length co21] (0, 0) _ rfl (kp3 (kf1 NB606_607.out BK606.out)) Tryd.underlying24 rfl (by kernel_rfl)) rfl ?_
 exact ⟨_, _, _, by first | rfl | (simp [errW_none, errW_some] <;> rfl) | (simp [*, errW_none, errW_some] <;> rfl), by exact ro (rg2 BK607 BK606 HO610), by exact ro (rg2 BK607 BK606 HO613), by exact ro (rg2 BK607 BK606 HO616), by exact bs3 GE605.out GE606.out GE607.out HB.out⟩

end Go.Proofs.YtomeaapjjmaepaaDoor.A
