/- Contracts of functions of the given program (ASpecDrawFormatHeap). No conditions beyond those stated. -/
import Derived.Test.YtomeaapjjmaepaaDoorA0
import Derived.Test.YtomeaapjjmaepaaDoorASpecDrawHeapValid
import Derived.Test.YtomeaapjjmaepaaDoorA0
namespace Go.Proofs.YtomeaapjjmaepaaDoor.A
open Go.RowKit Go.Proofs.YtomeaapjjmaepaaDoorW.PrintWords Go.Proofs.YtomeaapjjmaepaaDoorW.PrintLast Go.Proofs.YtomeaapjjmaepaaDoorW.PrintMore
attribute [local go_sem] max2_int min2_int max_two min_two max_three min_three max_four min_four   -- for this text's walks alone
set_option linter.unusedVariables false
set_option linter.unusedSimpArgs false

/-! ### spec_DrawFormatHeap -/
def spec_DrawFormatHeap.f (k : Nat) (l0 : List Int) : Option (List Int × List Int × List Int) := (spec_DrawHeapValid.f k l0).bind fun bt465 => (some (bt465.1, bt465.2.1, bt465.2.2))
theorem spec_DrawFormatHeap.mono : ∀ a0 k, LeO (spec_DrawFormatHeap.f k a0) (spec_DrawFormatHeap.f (k + 1) a0) := by
 intro a0 k
 unfold spec_DrawFormatHeap.f
 repeat' first
   | (with_reducible exact spec_DrawHeapValid.mono _ _)
   | (with_reducible exact LeO.refl _)
   | (with_reducible exact LeO.none _)
   | (with_reducible refine LeO.ite ?_ ?_)
   | (with_reducible refine LeO.bind ?_ (fun _ => ?_))
   | exact spec_DrawHeapValid.mono _ _
   | exact LeO.none _
   | refine LeO.ite ?_ ?_
   | refine LeO.bind ?_ (fun _ => ?_)
set_option maxHeartbeats 8000000 in
set_option maxRecDepth 100000 in
theorem spec_DrawFormatHeap.calls (k : Nat) (A0 : Option Addr) (c0 : Nat) (l0 : List Int) (r1 : List Int) (r2 : List Int) (r3 : List Int) (w : World) (hr0 : Kd.C (Kd.int .u8) w A0 l0.length l0) (hc0 : l0.length ≤ c0) (h : spec_DrawFormatHeap.f k l0 = some (r1, r2, r3)) :
  Calls Tryd.prog 17 #[.slice A0 l0.length c0] w fun e w' => ∃ v0_ v1_ v2_ : Value, e = .returned (.agg #[v0_, v1_, v2_]) ∧ Kd.R (Kd.int .i64) 3 w' w.heap.size (fun k_ => some k_ ≠ (v1_ : Value).ownBlock ∧ some k_ ≠ (v2_ : Value).ownBlock) v0_ r1 ∧ Kd.R (Kd.int .i64) 3 w' w.heap.size (fun k_ => some k_ ≠ (v0_ : Value).ownBlock ∧ some k_ ≠ (v2_ : Value).ownBlock) v1_ r2 ∧ Kd.R (Kd.int .i64) 3 w' w.heap.size (fun k_ => some k_ ≠ (v0_ : Value).ownBlock ∧ some k_ ≠ (v1_ : Value).ownBlock) v2_ r3 ∧ Below w.heap.size w w' := by
 have hu24 := Tryd.underlying24
 have HR0 := am hr0
 have HC0 := am hc0
 clear hr0 hc0
 have HB := am (Below.refl w.heap.size w)
 have H : ((spec_DrawHeapValid.f k l0).bind fun bt465 => (some (bt465.1, bt465.2.1, bt465.2.2))) = some (r1, r2, r3) := h
 clear h
 replace H := Option.bind_eq_some_iff.mp H
 obtain ⟨⟨t465, t468, t471⟩, A20, H⟩ := H
 replace H : (some (t465, t468, t471)) = some (r1, r2, r3) := H
 have A2 := am A20
 clear A20
 simp only [Option.some.injEq, Prod.mk.injEq] at H
 obtain ⟨rfl, rfl, rfl⟩ := H
 go_enter Tryd.func17, Tryd.ntmps17
 go_wp2_with (first | ((with_reducible refine gate_dst (N := 2) rfl ?_); refine box_event ?hg (N := 2) ?hd (cs := #[.slice none 0 0, .slice none 0 0, .slice none 0 0]) (t := 24) ?hr ?_; (case hd => rfl); (case hg => rfl); (case hr => first | (go_simp; done) | (go_simp; rfl)); intro gb464 hg w3 hbox hb; have BK464 := am (hbox); have GW464 := am ((by rw [hg]; exact (below_size (bl HB.out)) : w.heap.size ≤ gb464)); have GE464 := am ((by rw [hg]; exact (below_size (bl HB.out)) : w.heap.size ≤ gb464)); replace HB := am (below_step (bl HB.out) hb); clear hb hbox hg) | ((with_reducible refine gate_callee (f := 37) rfl ?_); refine gL (some 4) rfl rfl Tryd.func37 (by kernel_rfl) rfl #[.slice A0 l0.length c0] rfl ?_; (with_reducible refine (spec_DrawHeapValid.calls k _ _ l0 t465 t468 t471 _ ?side1 ?side2 A2.out).mono ?_); (case side1 => exact ci HR0 HB); (case side2 => exact HC0.out); rintro e w4 ⟨v466, v469, v472, rfl, ho0, ho1, ho2, hb⟩; refine ⟨_, rfl, ?_⟩; have HO467 := ln0 ho0 (bs1 GE464.out HB.out); have HO470 := ln0 ho1 (bs1 GE464.out HB.out); have HO473 := ln0 ho2 (bs1 GE464.out HB.out); replace BK464 := bb BK464 hb; replace HB := am (below_step (bs1 GE464.out HB.out) hb); (try clear hb ho0 ho1 ho2); obtain ⟨Ao5, co5, eo5⟩ := Kd.R_slice HO467.out; subst eo5; obtain ⟨hcz6_0, hcz6_1, hcz6_2, hfz6_0, hfz6_1, hfz6_2⟩ := cf3 BK464; obtain ⟨Ao7, co7, eo7⟩ := Kd.R_slice HO470.out; subst eo7; obtain ⟨Ao8, co8, eo8⟩ := Kd.R_slice HO473.out; subst eo8))
 refine bodyPost_ret (results_cell_row rfl _ _ gb464 24 #[.slice Ao5 t465.length co5, .slice Ao7 t468.length co7, .slice Ao8 t471.length co8] (0, 0) _ rfl (kp3 (kf0 BK464.out)) Tryd.underlying24 rfl (by kernel_rfl)) rfl ?_
 exact ⟨_, _, _, by first | rfl | (simp [errW_none, errW_some] <;> rfl) | (simp [*, errW_none, errW_some] <;> rfl), by exact ro (rg BK464 HO467), by exact ro (rg BK464 HO470), by exact ro (rg BK464 HO473), by exact bs1 GE464.out HB.out⟩

end Go.Proofs.YtomeaapjjmaepaaDoor.A
