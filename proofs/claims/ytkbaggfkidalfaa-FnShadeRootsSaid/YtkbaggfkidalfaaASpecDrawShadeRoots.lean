/- Contracts of functions of the given program (ASpecDrawShadeRoots). No conditions beyond those stated. -/
import Derived.Test.YtkbaggfkidalfaaA0
import Derived.Test.YtkbaggfkidalfaaASpecL3Case
import Derived.Test.YtkbaggfkidalfaaA0
namespace Go.Proofs.Ytkbaggfkidalfaa.A
open Go.RowKit Go.Proofs.YtkbaggfkidalfaaW.PrintWords Go.Proofs.YtkbaggfkidalfaaW.PrintLast Go.Proofs.YtkbaggfkidalfaaW.PrintMore
attribute [local go_sem] max2_int min2_int max_two min_two max_three min_three max_four min_four   -- for this text's walks alone
set_option linter.unusedVariables false
set_option linter.unusedSimpArgs false

/-! ### spec_DrawShadeRoots -/
def spec_DrawShadeRoots.f (k : Nat) (l0 : List Int) : Option (List Int × List Int × List Int × List Int) := (spec_l3Case.f k l0).bind fun bt1151 => (some (bt1151.1, bt1151.2.1, bt1151.2.2.1, bt1151.2.2.2))
theorem spec_DrawShadeRoots.mono : ∀ a0 k, LeO (spec_DrawShadeRoots.f k a0) (spec_DrawShadeRoots.f (k + 1) a0) := by
 intro a0 k
 unfold spec_DrawShadeRoots.f
 repeat' first
   | (with_reducible exact spec_l3Case.mono _ _)
   | (with_reducible exact LeO.refl _)
   | (with_reducible exact LeO.none _)
   | (with_reducible refine LeO.ite ?_ ?_)
   | (with_reducible refine LeO.bind ?_ (fun _ => ?_))
   | exact spec_l3Case.mono _ _
   | exact LeO.none _
   | refine LeO.ite ?_ ?_
   | refine LeO.bind ?_ (fun _ => ?_)
set_option maxHeartbeats 8000000 in
set_option maxRecDepth 100000 in
theorem spec_DrawShadeRoots.calls (k : Nat) (A0 : Option Addr) (c0 : Nat) (l0 : List Int) (r1 : List Int) (r2 : List Int) (r3 : List Int) (r4 : List Int) (w : World) (hr0 : Kd.C (Kd.int .u8) w A0 l0.length l0) (hc0 : l0.length ≤ c0) (h : spec_DrawShadeRoots.f k l0 = some (r1, r2, r3, r4)) :
  Calls Try.prog 39 #[.slice A0 l0.length c0] w fun e w' => ∃ v0_ v1_ v2_ v3_ : Value, e = .returned (.agg #[v0_, v1_, v2_, v3_]) ∧ Kd.R (Kd.int .i64) 3 w' w.heap.size (fun k_ => some k_ ≠ (v1_ : Value).ownBlock ∧ some k_ ≠ (v2_ : Value).ownBlock ∧ some k_ ≠ (v3_ : Value).ownBlock) v0_ r1 ∧ Kd.R (Kd.int .i64) 3 w' w.heap.size (fun k_ => some k_ ≠ (v0_ : Value).ownBlock ∧ some k_ ≠ (v2_ : Value).ownBlock ∧ some k_ ≠ (v3_ : Value).ownBlock) v1_ r2 ∧ Kd.R (Kd.int .i64) 3 w' w.heap.size (fun k_ => some k_ ≠ (v0_ : Value).ownBlock ∧ some k_ ≠ (v1_ : Value).ownBlock ∧ some k_ ≠ (v3_ : Value).ownBlock) v2_ r3 ∧ Kd.R (Kd.int .i64) 3 w' w.heap.size (fun k_ => some k_ ≠ (v0_ : Value).ownBlock ∧ some k_ ≠ (v1_ : Value).ownBlock ∧ some k_ ≠ (v2_ : Value).ownBlock) v3_ r4 ∧ Below w.heap.size w w' := by
 have hu30 := Try.underlying30
 have HR0 := am hr0
 have HC0 := am hc0
 clear hr0 hc0
 have HB := am (Below.refl w.heap.size w)
 have H : ((spec_l3Case.f k l0).bind fun bt1151 => (some (bt1151.1, bt1151.2.1, bt1151.2.2.1, bt1151.2.2.2))) = some (r1, r2, r3, r4) := h
 clear h
 replace H := Option.bind_eq_some_iff.mp H
 obtain ⟨⟨t1151, t1154, t1157, t1160⟩, A20, H⟩ := H
 replace H : (some (t1151, t1154, t1157, t1160)) = some (r1, r2, r3, r4) := H
 have A2 := am A20
 clear A20
 simp only [Option.some.injEq, Prod.mk.injEq] at H
 obtain ⟨rfl, rfl, rfl, rfl⟩ := H
 go_enter Try.func39, Try.ntmps39
 go_wp2_with (first | ((with_reducible refine gate_dst (N := 2) rfl ?_); refine box_event ?hg (N := 2) ?hd (cs := #[.slice none 0 0, .slice none 0 0, .slice none 0 0, .slice none 0 0]) (t := 30) ?hr ?_; (case hd => rfl); (case hg => rfl); (case hr => first | (go_simp; done) | (go_simp; rfl)); intro gb1150 hg w3 hbox hb; have BK1150 := am (hbox); have GW1150 := am ((by rw [hg]; exact (below_size (bl HB.out)) : w.heap.size ≤ gb1150)); have GE1150 := am ((by rw [hg]; exact (below_size (bl HB.out)) : w.heap.size ≤ gb1150)); replace HB := am (below_step (bl HB.out) hb); clear hb hbox hg) | ((with_reducible refine gate_callee (f := 68) rfl ?_); refine gL (some 4) rfl rfl Try.func68 (by kernel_rfl) rfl #[.slice A0 l0.length c0] rfl ?_; (with_reducible refine (spec_l3Case.calls k _ _ l0 t1151 t1154 t1157 t1160 _ ?side1 ?side2 A2.out).mono ?_); (case side1 => exact ci HR0 HB); (case side2 => exact HC0.out); rintro e w4 ⟨v1152, v1155, v1158, v1161, rfl, ho0, ho1, ho2, ho3, hb⟩; refine ⟨_, rfl, ?_⟩; have HO1153 := ln0 ho0 (bs1 GE1150.out HB.out); have HO1156 := ln0 ho1 (bs1 GE1150.out HB.out); have HO1159 := ln0 ho2 (bs1 GE1150.out HB.out); have HO1162 := ln0 ho3 (bs1 GE1150.out HB.out); replace BK1150 := bb BK1150 hb; replace HB := am (below_step (bs1 GE1150.out HB.out) hb); (try clear hb ho0 ho1 ho2 ho3); obtain ⟨Ao5, co5, eo5⟩ := Kd.R_slice HO1153.out; subst eo5; obtain ⟨hcz6_0, hcz6_1, hcz6_2, hcz6_3, hfz6_0, hfz6_1, hfz6_2, hfz6_3⟩ := cf4 BK1150; obtain ⟨Ao7, co7, eo7⟩ := Kd.R_slice HO1156.out; subst eo7; obtain ⟨Ao8, co8, eo8⟩ := Kd.R_slice HO1159.out; subst eo8; obtain ⟨Ao9, co9, eo9⟩ := Kd.R_slice HO1162.out; subst eo9))
 refine bodyPost_ret (results_cell_row rfl _ _ gb1150 30 #[.slice Ao5 t1151.length co5, .slice Ao7 t1154.length co7, .slice Ao8 t1157.length co8, .slice Ao9 t1160.length co9] (0, 0) _ rfl (kp4 (kf0 BK1150.out)) Try.underlying30 rfl (by kernel_rfl)) rfl ?_
 exact ⟨_, _, _, _, by first | rfl | (simp [errW_none, errW_some] <;> rfl) | (simp [*, errW_none, errW_some] <;> rfl), by exact ro (rg BK1150 HO1153), by exact ro (rg BK1150 HO1156), by exact ro (rg BK1150 HO1159), by exact ro (rg BK1150 HO1162), by exact bs1 GE1150.out HB.out⟩

end Go.Proofs.Ytkbaggfkidalfaa.A
