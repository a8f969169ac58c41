/- Contracts of functions of the given program (ASpecDrawMarkStep). No conditions beyond those stated. -/
import Derived.Test.YtkbaggfkidalfaaA0
import Derived.Test.YtkbaggfkidalfaaASpecL3Case
import Derived.Test.YtkbaggfkidalfaaA0
namespace Go.Proofs.Ytkbaggfkidalfaa.A
open Go.RowKit Go.Proofs.YtkbaggfkidalfaaW.PrintWords Go.Proofs.YtkbaggfkidalfaaW.PrintLast Go.Proofs.YtkbaggfkidalfaaW.PrintMore
attribute [local go_sem] max2_int min2_int max_two min_two max_three min_three max_four min_four   -- for this text's walks alone
set_option linter.unusedVariables false
set_option linter.unusedSimpArgs false

/-! ### spec_DrawMarkStep -/
def spec_DrawMarkStep.f (k : Nat) (l0 : List Int) : Option (List Int × List Int × List Int × List Int) := (spec_l3Case.f k l0).bind fun bt1227 => (some (bt1227.1, bt1227.2.1, bt1227.2.2.1, bt1227.2.2.2))
theorem spec_DrawMarkStep.mono : ∀ a0 k, LeO (spec_DrawMarkStep.f k a0) (spec_DrawMarkStep.f (k + 1) a0) := by
 intro a0 k
 unfold spec_DrawMarkStep.f
 repeat' first
   | (with_reducible exact spec_l3Case.mono _ _)
   | (with_reducible exact LeO.refl _)
   | (with_reducible exact LeO.none _)
   | (with_reducible refine LeO.ite ?_ ?_)
   | (with_reducible refine LeO.bind ?_ (fun _ => ?_))
   | exact spec_l3Case.mono _ _
   | exact LeO.none _
   | refine LeO.ite ?_ ?_
   | refine LeO.bind ?_ (fun _ => ?_)
set_option maxHeartbeats 8000000 in
set_option maxRecDepth 100000 in
theorem spec_DrawMarkStep.calls (k : Nat) (A0 : Option Addr) (c0 : Nat) (l0 : List Int) (r1 : List Int) (r2 : List Int) (r3 : List Int) (r4 : List Int) (w : World) (hr0 : Kd.C (Kd.int .u8) w A0 l0.length l0) (hc0 : l0.length ≤ c0) (h : spec_DrawMarkStep.f k l0 = some (r1, r2, r3, r4)) :
  Calls Try.prog 40 #[.slice A0 l0.length c0] w fun e w' => ∃ v0_ v1_ v2_ v3_ : Value, e = .returned (.agg #[v0_, v1_, v2_, v3_]) ∧ Kd.R (Kd.int .i64) 3 w' w.heap.size (fun k_ => some k_ ≠ (v1_ : Value).ownBlock ∧ some k_ ≠ (v2_ : Value).ownBlock ∧ some k_ ≠ (v3_ : Value).ownBlock) v0_ r1 ∧ Kd.R (Kd.int .i64) 3 w' w.heap.size (fun k_ => some k_ ≠ (v0_ : Value).ownBlock ∧ some k_ ≠ (v2_ : Value).ownBlock ∧ some k_ ≠ (v3_ : Value).ownBlock) v1_ r2 ∧ Kd.R (Kd.int .i64) 3 w' w.heap.size (fun k_ => some k_ ≠ (v0_ : Value).ownBlock ∧ some k_ ≠ (v1_ : Value).ownBlock ∧ some k_ ≠ (v3_ : Value).ownBlock) v2_ r3 ∧ Kd.R (Kd.int .i64) 3 w' w.heap.size (fun k_ => some k_ ≠ (v0_ : Value).ownBlock ∧ some k_ ≠ (v1_ : Value).ownBlock ∧ some k_ ≠ (v2_ : Value).ownBlock) v3_ r4 ∧ Below w.heap.size w w' := by
 have hu30 := Try.underlying30
 have HR0 := am hr0
 have HC0 := am hc0
 clear hr0 hc0
 have HB := am (Below.refl w.heap.size w)
 have H : ((spec_l3Case.f k l0).bind fun bt1227 => (some (bt1227.1, bt1227.2.1, bt1227.2.2.1, bt1227.2.2.2))) = some (r1, r2, r3, r4) := h
 clear h
 replace H := Option.bind_eq_some_iff.mp H
 obtain ⟨⟨t1227, t1230, t1233, t1236⟩, A20, H⟩ := H
 replace H : (some (t1227, t1230, t1233, t1236)) = some (r1, r2, r3, r4) := H
 have A2 := am A20
 clear A20
 simp only [Option.some.injEq, Prod.mk.injEq] at H
 obtain ⟨rfl, rfl, rfl, rfl⟩ := H
 go_enter Try.func40, Try.ntmps40
 go_wp2_with (first | ((with_reducible refine gate_dst (N := 2) rfl ?_); refine box_event ?hg (N := 2) ?hd (cs := #[.slice none 0 0, .slice none 0 0, .slice none 0 0, .slice none 0 0]) (t := 30) ?hr ?_; (case hd => rfl); (case hg => rfl); (case hr => first | (go_simp; done) | (go_simp; rfl)); intro gb1226 hg w3 hbox hb; have BK1226 := am (hbox); have GW1226 := am ((by rw [hg]; exact (below_size (bl HB.out)) : w.heap.size ≤ gb1226)); have GE1226 := am ((by rw [hg]; exact (below_size (bl HB.out)) : w.heap.size ≤ gb1226)); replace HB := am (below_step (bl HB.out) hb); clear hb hbox hg) | ((with_reducible refine gate_callee (f := 68) rfl ?_); refine gL (some 4) rfl rfl Try.func68 (by kernel_rfl) rfl #[.slice A0 l0.length c0] rfl ?_; (with_reducible refine (spec_l3Case.calls k _ _ l0 t1227 t1230 t1233 t1236 _ ?side1 ?side2 A2.out).mono ?_); (case side1 => exact ci HR0 HB); (case side2 => exact HC0.out); rintro e w4 ⟨v1228, v1231, v1234, v1237, rfl, ho0, ho1, ho2, ho3, hb⟩; refine ⟨_, rfl, ?_⟩; have HO1229 := ln0 ho0 (bs1 GE1226.out HB.out); have HO1232 := ln0 ho1 (bs1 GE1226.out HB.out); have HO1235 := ln0 ho2 (bs1 GE1226.out HB.out); have HO1238 := ln0 ho3 (bs1 GE1226.out HB.out); replace BK1226 := bb BK1226 hb; replace HB := am (below_step (bs1 GE1226.out HB.out) hb); (try clear hb ho0 ho1 ho2 ho3); obtain ⟨Ao5, co5, eo5⟩ := Kd.R_slice HO1229.out; subst eo5; obtain ⟨hcz6_0, hcz6_1, hcz6_2, hcz6_3, hfz6_0, hfz6_1, hfz6_2, hfz6_3⟩ := cf4 BK1226; obtain ⟨Ao7, co7, eo7⟩ := Kd.R_slice HO1232.out; subst eo7; obtain ⟨Ao8, co8, eo8⟩ := Kd.R_slice HO1235.out; subst eo8; obtain ⟨Ao9, co9, eo9⟩ := Kd.R_slice HO1238.out; subst eo9))
 refine bodyPost_ret (results_cell_row rfl _ _ gb1226 30 #[.slice Ao5 t1227.length co5, .slice Ao7 t1230.length co7, .slice Ao8 t1233.length co8, .slice Ao9 t1236.length co9] (0, 0) _ rfl (kp4 (kf0 BK1226.out)) Try.underlying30 rfl (by kernel_rfl)) rfl ?_
 exact ⟨_, _, _, _, by first | rfl | (simp [errW_none, errW_some] <;> rfl) | (simp [*, errW_none, errW_some] <;> rfl), by exact ro (rg BK1226 HO1229), by exact ro (rg BK1226 HO1232), by exact ro (rg BK1226 HO1235), by exact ro (rg BK1226 HO1238), by exact bs1 GE1226.out HB.out⟩

end Go.Proofs.Ytkbaggfkidalfaa.A
