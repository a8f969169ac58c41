/- Contracts of functions of the given program (ASpecDrawNewColored). No conditions beyond those stated. -/
import Derived.Test.YtkbaggfkidalfaaA0
import Derived.Test.YtkbaggfkidalfaaASpecDrawHeapValid
import Derived.Test.YtkbaggfkidalfaaA0
namespace Go.Proofs.Ytkbaggfkidalfaa.A
open Go.RowKit Go.Proofs.YtkbaggfkidalfaaW.PrintWords Go.Proofs.YtkbaggfkidalfaaW.PrintLast Go.Proofs.YtkbaggfkidalfaaW.PrintMore
attribute [local go_sem] max2_int min2_int max_two min_two max_three min_three max_four min_four   -- for this text's walks alone
set_option linter.unusedVariables false
set_option linter.unusedSimpArgs false

/-! ### spec_DrawNewColored -/
def spec_DrawNewColored.f (k : Nat) (l0 : List Int) : Option (List Int × List Int × List Int) := (spec_DrawHeapValid.f k l0).bind fun bt1416 => (some (bt1416.1, bt1416.2.1, bt1416.2.2))
theorem spec_DrawNewColored.mono : ∀ a0 k, LeO (spec_DrawNewColored.f k a0) (spec_DrawNewColored.f (k + 1) a0) := by
 intro a0 k
 unfold spec_DrawNewColored.f
 repeat' first
   | (with_reducible exact spec_DrawHeapValid.mono _ _)
   | (with_reducible exact LeO.refl _)
   | (with_reducible exact LeO.none _)
   | (with_reducible refine LeO.ite ?_ ?_)
   | (with_reducible refine LeO.bind ?_ (fun _ => ?_))
   | exact spec_DrawHeapValid.mono _ _
   | exact LeO.none _
   | refine LeO.ite ?_ ?_
   | refine LeO.bind ?_ (fun _ => ?_)
set_option maxHeartbeats 8000000 in
set_option maxRecDepth 100000 in
theorem spec_DrawNewColored.calls (k : Nat) (A0 : Option Addr) (c0 : Nat) (l0 : List Int) (r1 : List Int) (r2 : List Int) (r3 : List Int) (w : World) (hr0 : Kd.C (Kd.int .u8) w A0 l0.length l0) (hc0 : l0.length ≤ c0) (h : spec_DrawNewColored.f k l0 = some (r1, r2, r3)) :
  Calls Try.prog 43 #[.slice A0 l0.length c0] w fun e w' => ∃ v0_ v1_ v2_ : Value, e = .returned (.agg #[v0_, v1_, v2_]) ∧ Kd.R (Kd.int .i64) 3 w' w.heap.size (fun k_ => some k_ ≠ (v1_ : Value).ownBlock ∧ some k_ ≠ (v2_ : Value).ownBlock) v0_ r1 ∧ Kd.R (Kd.int .i64) 3 w' w.heap.size (fun k_ => some k_ ≠ (v0_ : Value).ownBlock ∧ some k_ ≠ (v2_ : Value).ownBlock) v1_ r2 ∧ Kd.R (Kd.int .i64) 3 w' w.heap.size (fun k_ => some k_ ≠ (v0_ : Value).ownBlock ∧ some k_ ≠ (v1_ : Value).ownBlock) v2_ r3 ∧ Below w.heap.size w w' := by
 have hu28 := Try.underlying28
 have HR0 := am hr0
 have HC0 := am hc0
 clear hr0 hc0
 have HB := am (Below.refl w.heap.size w)
 have H : ((spec_DrawHeapValid.f k l0).bind fun bt1416 => (some (bt1416.1, bt1416.2.1, bt1416.2.2))) = some (r1, r2, r3) := h
 clear h
 replace H := Option.bind_eq_some_iff.mp H
 obtain ⟨⟨t1416, t1419, t1422⟩, A20, H⟩ := H
 replace H : (some (t1416, t1419, t1422)) = some (r1, r2, r3) := H
 have A2 := am A20
 clear A20
 simp only [Option.some.injEq, Prod.mk.injEq] at H
 obtain ⟨rfl, rfl, rfl⟩ := H
 go_enter Try.func43, Try.ntmps43
 go_wp2_with (first | ((with_reducible refine gate_dst (N := 2) rfl ?_); refine box_event ?hg (N := 2) ?hd (cs := #[.slice none 0 0, .slice none 0 0, .slice none 0 0]) (t := 28) ?hr ?_; (case hd => rfl); (case hg => rfl); (case hr => first | (go_simp; done) | (go_simp; rfl)); intro gb1415 hg w3 hbox hb; have BK1415 := am (hbox); have GW1415 := am ((by rw [hg]; exact (below_size (bl HB.out)) : w.heap.size ≤ gb1415)); have GE1415 := am ((by rw [hg]; exact (below_size (bl HB.out)) : w.heap.size ≤ gb1415)); replace HB := am (below_step (bl HB.out) hb); clear hb hbox hg) | ((with_reducible refine gate_callee (f := 49) rfl ?_); refine gL (some 4) rfl rfl Try.func49 (by kernel_rfl) rfl #[.slice A0 l0.length c0] rfl ?_; (with_reducible refine (spec_DrawHeapValid.calls k _ _ l0 t1416 t1419 t1422 _ ?side1 ?side2 A2.out).mono ?_); (case side1 => exact ci HR0 HB); (case side2 => exact HC0.out); rintro e w4 ⟨v1417, v1420, v1423, rfl, ho0, ho1, ho2, hb⟩; refine ⟨_, rfl, ?_⟩; have HO1418 := ln0 ho0 (bs1 GE1415.out HB.out); have HO1421 := ln0 ho1 (bs1 GE1415.out HB.out); have HO1424 := ln0 ho2 (bs1 GE1415.out HB.out); replace BK1415 := bb BK1415 hb; replace HB := am (below_step (bs1 GE1415.out HB.out) hb); (try clear hb ho0 ho1 ho2); obtain ⟨Ao5, co5, eo5⟩ := Kd.R_slice HO1418.out; subst eo5; obtain ⟨hcz6_0, hcz6_1, hcz6_2, hfz6_0, hfz6_1, hfz6_2⟩ := cf3 BK1415; obtain ⟨Ao7, co7, eo7⟩ := Kd.R_slice HO1421.out; subst eo7; obtain ⟨Ao8, co8, eo8⟩ := Kd.R_slice HO1424.out; subst eo8))
 refine bodyPost_ret (results_cell_row rfl _ _ gb1415 28 #[.slice Ao5 t1416.length co5, .slice Ao7 t1419.length co7, .slice Ao8 t1422.length co8] (0, 0) _ rfl (kp3 (kf0 BK1415.out)) Try.underlying28 rfl (by kernel_rfl)) rfl ?_
 exact ⟨_, _, _, by first | rfl | (simp [errW_none, errW_some] <;> rfl) | (simp [*, errW_none, errW_some] <;> rfl), by exact ro (rg BK1415 HO1418), by exact ro (rg BK1415 HO1421), by exact ro (rg BK1415 HO1424), by exact bs1 GE1415.out HB.out⟩

end Go.Proofs.Ytkbaggfkidalfaa.A
