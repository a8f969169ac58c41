/- Contracts of functions of the given program (ASpecDrawColorHolds). No conditions beyond those stated. -/
import Derived.Test.YtkbaggfkidalfaaA0
import Derived.Test.YtkbaggfkidalfaaASpecL3Case
import Derived.Test.YtkbaggfkidalfaaA0
namespace Go.Proofs.Ytkbaggfkidalfaa.A
open Go.RowKit Go.Proofs.YtkbaggfkidalfaaW.PrintWords Go.Proofs.YtkbaggfkidalfaaW.PrintLast Go.Proofs.YtkbaggfkidalfaaW.PrintMore
attribute [local go_sem] max2_int min2_int max_two min_two max_three min_three max_four min_four   -- for this text's walks alone
set_option linter.unusedVariables false
set_option linter.unusedSimpArgs false

/-! ### spec_DrawColorHolds -/
def spec_DrawColorHolds.f (k : Nat) (l0 : List Int) : Option (List Int × List Int × List Int × List Int) := (spec_l3Case.f k l0).bind fun bt922 => (some (bt922.1, bt922.2.1, bt922.2.2.1, bt922.2.2.2))
theorem spec_DrawColorHolds.mono : ∀ a0 k, LeO (spec_DrawColorHolds.f k a0) (spec_DrawColorHolds.f (k + 1) a0) := by
 intro a0 k
 unfold spec_DrawColorHolds.f
 repeat' first
   | (with_reducible exact spec_l3Case.mono _ _)
   | (with_reducible exact LeO.refl _)
   | (with_reducible exact LeO.none _)
   | (with_reducible refine LeO.ite ?_ ?_)
   | (with_reducible refine LeO.bind ?_ (fun _ => ?_))
   | exact spec_l3Case.mono _ _
   | exact LeO.none _
   | refine LeO.ite ?_ ?_
   | refine LeO.bind ?_ (fun _ => ?_)
set_option maxHeartbeats 8000000 in
set_option maxRecDepth 100000 in
theorem spec_DrawColorHolds.calls (k : Nat) (A0 : Option Addr) (c0 : Nat) (l0 : List Int) (r1 : List Int) (r2 : List Int) (r3 : List Int) (r4 : List Int) (w : World) (hr0 : Kd.C (Kd.int .u8) w A0 l0.length l0) (hc0 : l0.length ≤ c0) (h : spec_DrawColorHolds.f k l0 = some (r1, r2, r3, r4)) :
  Calls Try.prog 30 #[.slice A0 l0.length c0] w fun e w' => ∃ v0_ v1_ v2_ v3_ : Value, e = .returned (.agg #[v0_, v1_, v2_, v3_]) ∧ Kd.R (Kd.int .i64) 3 w' w.heap.size (fun k_ => some k_ ≠ (v1_ : Value).ownBlock ∧ some k_ ≠ (v2_ : Value).ownBlock ∧ some k_ ≠ (v3_ : Value).ownBlock) v0_ r1 ∧ Kd.R (Kd.int .i64) 3 w' w.heap.size (fun k_ => some k_ ≠ (v0_ : Value).ownBlock ∧ some k_ ≠ (v2_ : Value).ownBlock ∧ some k_ ≠ (v3_ : Value).ownBlock) v1_ r2 ∧ Kd.R (Kd.int .i64) 3 w' w.heap.size (fun k_ => some k_ ≠ (v0_ : Value).ownBlock ∧ some k_ ≠ (v1_ : Value).ownBlock ∧ some k_ ≠ (v3_ : Value).ownBlock) v2_ r3 ∧ Kd.R (Kd.int .i64) 3 w' w.heap.size (fun k_ => some k_ ≠ (v0_ : Value).ownBlock ∧ some k_ ≠ (v1_ : Value).ownBlock ∧ some k_ ≠ (v2_ : Value).ownBlock) v3_ r4 ∧ Below w.heap.size w w' := by
 have hu30 := Try.underlying30
 have HR0 := am hr0
 have HC0 := am hc0
 clear hr0 hc0
 have HB := am (Below.refl w.heap.size w)
 have H : ((spec_l3Case.f k l0).bind fun bt922 => (some (bt922.1, bt922.2.1, bt922.2.2.1, bt922.2.2.2))) = some (r1, r2, r3, r4) := h
 clear h
 replace H := Option.bind_eq_some_iff.mp H
 obtain ⟨⟨t922, t925, t928, t931⟩, A20, H⟩ := H
 replace H : (some (t922, t925, t928, t931)) = some (r1, r2, r3, r4) := H
 have A2 := am A20
 clear A20
 simp only [Option.some.injEq, Prod.mk.injEq] at H
 obtain ⟨rfl, rfl, rfl, rfl⟩ := H
 go_enter Try.func30, Try.ntmps30
 go_wp2_with (first | ((with_reducible refine gate_dst (N := 2) rfl ?_); refine box_event ?hg (N := 2) ?hd (cs := #[.slice none 0 0, .slice none 0 0, .slice none 0 0, .slice none 0 0]) (t := 30) ?hr ?_; (case hd => rfl); (case hg => rfl); (case hr => first | (go_simp; done) | (go_simp; rfl)); intro gb921 hg w3 hbox hb; have BK921 := am (hbox); have GW921 := am ((by rw [hg]; exact (below_size (bl HB.out)) : w.heap.size ≤ gb921)); have GE921 := am ((by rw [hg]; exact (below_size (bl HB.out)) : w.heap.size ≤ gb921)); replace HB := am (below_step (bl HB.out) hb); clear hb hbox hg) | ((with_reducible refine gate_callee (f := 68) rfl ?_); refine gL (some 4) rfl rfl Try.func68 (by kernel_rfl) rfl #[.slice A0 l0.length c0] rfl ?_; (with_reducible refine (spec_l3Case.calls k _ _ l0 t922 t925 t928 t931 _ ?side1 ?side2 A2.out).mono ?_); (case side1 => exact ci HR0 HB); (case side2 => exact HC0.out); rintro e w4 ⟨v923, v926, v929, v932, rfl, ho0, ho1, ho2, ho3, hb⟩; refine ⟨_, rfl, ?_⟩; have HO924 := ln0 ho0 (bs1 GE921.out HB.out); have HO927 := ln0 ho1 (bs1 GE921.out HB.out); have HO930 := ln0 ho2 (bs1 GE921.out HB.out); have HO933 := ln0 ho3 (bs1 GE921.out HB.out); replace BK921 := bb BK921 hb; replace HB := am (below_step (bs1 GE921.out HB.out) hb); (try clear hb ho0 ho1 ho2 ho3); obtain ⟨Ao5, co5, eo5⟩ := Kd.R_slice HO924.out; subst eo5; obtain ⟨hcz6_0, hcz6_1, hcz6_2, hcz6_3, hfz6_0, hfz6_1, hfz6_2, hfz6_3⟩ := cf4 BK921; obtain ⟨Ao7, co7, eo7⟩ := Kd.R_slice HO927.out; subst eo7; obtain ⟨Ao8, co8, eo8⟩ := Kd.R_slice HO930.out; subst eo8; obtain ⟨Ao9, co9, eo9⟩ := Kd.R_slice HO933.out; subst eo9))
 refine bodyPost_ret (results_cell_row rfl _ _ gb921 30 #[.slice Ao5 t922.length co5, .slice Ao7 t925.length co7, .slice Ao8 t928.length co8, .slice Ao9 t931.length co9] (0, 0) _ rfl (kp4 (kf0 BK921.out)) Try.underlying30 rfl (by kernel_rfl)) rfl ?_
 exact ⟨_, _, _, _, by first | rfl | (simp [errW_none, errW_some] <;> rfl) | (simp [*, errW_none, errW_some] <;> rfl), by exact ro (rg BK921 HO924), by exact ro (rg BK921 HO927), by exact ro (rg BK921 HO930), by exact ro (rg BK921 HO933), by exact bs1 GE921.out HB.out⟩

end Go.Proofs.Ytkbaggfkidalfaa.A
