/- Contracts of functions of the given program (ASpecDrawPathTo). No conditions beyond those stated. -/
import Derived.Test.YtghgpinhghhlgaaA0
import Derived.Test.YtghgpinhghhlgaaASpecL2Case
import Derived.Test.YtghgpinhghhlgaaA0
namespace Go.Proofs.Ytghgpinhghhlgaa.A
open Go.RowKit Go.Proofs.YtghgpinhghhlgaaW.PrintWords Go.Proofs.YtghgpinhghhlgaaW.PrintLast Go.Proofs.YtghgpinhghhlgaaW.PrintMore
attribute [local go_sem] max2_int min2_int max_two min_two max_three min_three max_four min_four   -- for this text's walks alone
set_option linter.unusedVariables false
set_option linter.unusedSimpArgs false

/-! ### spec_DrawPathTo -/
def spec_DrawPathTo.f (k : Nat) (l0 : List Int) : Option (List Int × List Int × List Int × Int) := (spec_l2Case.f k l0).bind fun bt741 => (some (bt741.1, bt741.2.1, bt741.2.2.1, bt741.2.2.2))
theorem spec_DrawPathTo.mono : ∀ a0 k, LeO (spec_DrawPathTo.f k a0) (spec_DrawPathTo.f (k + 1) a0) := by
 intro a0 k
 unfold spec_DrawPathTo.f
 repeat' first
   | (with_reducible exact spec_l2Case.mono _ _)
   | (with_reducible exact LeO.refl _)
   | (with_reducible exact LeO.none _)
   | (with_reducible refine LeO.ite ?_ ?_)
   | (with_reducible refine LeO.bind ?_ (fun _ => ?_))
   | exact spec_l2Case.mono _ _
   | exact LeO.none _
   | refine LeO.ite ?_ ?_
   | refine LeO.bind ?_ (fun _ => ?_)
set_option maxHeartbeats 8000000 in
set_option maxRecDepth 100000 in
theorem spec_DrawPathTo.calls (k : Nat) (A0 : Option Addr) (c0 : Nat) (l0 : List Int) (r1 : List Int) (r2 : List Int) (r3 : List Int) (r4 : Int) (w : World) (hr0 : Kd.C (Kd.int .u8) w A0 l0.length l0) (hc0 : l0.length ≤ c0) (h : spec_DrawPathTo.f k l0 = some (r1, r2, r3, r4)) :
  Calls Try.prog 29 #[.slice A0 l0.length c0] w fun e w' => ∃ v0_ v1_ v2_ : Value, e = .returned (.tuple #[.agg #[v0_, v1_, v2_], .int .i64 r4]) ∧ Kd.R (Kd.int .i64) 3 w' w.heap.size (fun k_ => some k_ ≠ (v1_ : Value).ownBlock ∧ some k_ ≠ (v2_ : Value).ownBlock) v0_ r1 ∧ Kd.R (Kd.int .i64) 3 w' w.heap.size (fun k_ => some k_ ≠ (v0_ : Value).ownBlock ∧ some k_ ≠ (v2_ : Value).ownBlock) v1_ r2 ∧ Kd.R (Kd.int .i64) 3 w' w.heap.size (fun k_ => some k_ ≠ (v0_ : Value).ownBlock ∧ some k_ ≠ (v1_ : Value).ownBlock) v2_ r3 ∧ Below w.heap.size w w' := by
 have hu25 := Try.underlying25
 have HR0 := am hr0
 have HC0 := am hc0
 clear hr0 hc0
 have HB := am (Below.refl w.heap.size w)
 have H : ((spec_l2Case.f k l0).bind fun bt741 => (some (bt741.1, bt741.2.1, bt741.2.2.1, bt741.2.2.2))) = some (r1, r2, r3, r4) := h
 clear h
 replace H := Option.bind_eq_some_iff.mp H
 obtain ⟨⟨t741, t744, t747, t750⟩, A20, H⟩ := H
 replace H : (some (t741, t744, t747, t750)) = some (r1, r2, r3, r4) := H
 have A2 := am A20
 clear A20
 simp only [Option.some.injEq, Prod.mk.injEq] at H
 obtain ⟨rfl, rfl, rfl, rfl⟩ := H
 go_enter Try.func29, Try.ntmps29
 go_wp2_with (first | ((with_reducible refine gate_dst (N := 2) rfl ?_); refine box_event ?hg (N := 2) ?hd (cs := #[.slice none 0 0, .slice none 0 0, .slice none 0 0]) (t := 25) ?hr ?_; (case hd => rfl); (case hg => rfl); (case hr => first | (go_simp; done) | (go_simp; rfl)); intro gb740 hg w3 hbox hb; have BK740 := am (hbox); have GW740 := am ((by rw [hg]; exact (below_size (bl HB.out)) : w.heap.size ≤ gb740)); have GE740 := am ((by rw [hg]; exact (below_size (bl HB.out)) : w.heap.size ≤ gb740)); replace HB := am (below_step (bl HB.out) hb); clear hb hbox hg) | ((with_reducible refine gate_callee (f := 49) rfl ?_); refine goesL_ (some 5) rfl rfl Try.func49 (by kernel_rfl) rfl #[.slice A0 l0.length c0] rfl (by (try simp only [List.map_toArray, List.map_cons, List.map_nil]); first | done | rfl | (simp only [List.length_drop, List.length_take]; rfl)) ?_; (with_reducible refine (spec_l2Case.calls k _ _ l0 t741 t744 t747 t750 _ ?side1 ?side2 A2.out).mono ?_); (case side1 => exact cl (Kd.C_below HR0.out HB.out)); (case side2 => exact HC0.out); rintro e w4 ⟨v742, v745, v748, rfl, ho0, ho1, ho2, hb⟩; refine ⟨_, rfl, ?_⟩; have HO743 := am (Kd.R_lower ho0 (below_size (bs1 GE740.out HB.out))); have HO746 := am (Kd.R_lower ho1 (below_size (bs1 GE740.out HB.out))); have HO749 := am (Kd.R_lower ho2 (below_size (bs1 GE740.out HB.out))); replace BK740 := am (blk_below (g := gb740) (o := .cells #[.slice none 0 0, .slice none 0 0, .slice none 0 0] 25 (0, 0)) (kl BK740.out) hb); replace HB := am (below_step (bs1 GE740.out HB.out) hb); (try clear hb); (try clear hb2); (try clear hk); (try clear hi); (try clear ho0); (try clear ho1); (try clear ho2); obtain ⟨Ao5, co5, eo5⟩ := Kd.R_slice HO743.out; subst eo5; have hcz6_0 : w4.cell? ⟨gb740, 0, none⟩ = some (.slice none 0 0) := (blk_cell BK740.out 0).trans rfl; have hcz6_1 : w4.cell? ⟨gb740, 1, none⟩ = some (.slice none 0 0) := (blk_cell BK740.out 1).trans rfl; have hcz6_2 : w4.cell? ⟨gb740, 2, none⟩ = some (.slice none 0 0) := (blk_cell BK740.out 2).trans rfl; have hfz6_0 := blk_frozen BK740.out 0; have hfz6_1 := blk_frozen BK740.out 1; have hfz6_2 := blk_frozen BK740.out 2; obtain ⟨Ao7, co7, eo7⟩ := Kd.R_slice HO746.out; subst eo7; obtain ⟨Ao8, co8, eo8⟩ := Kd.R_slice HO749.out; subst eo8))
 refine bodyPost_ret (results_ct rfl _ _ gb740 25 #[.slice Ao5 t741.length co5, .slice Ao7 t744.length co7, .slice Ao8 t747.length co8] (0, 0) _ rfl (kp3 (kf0 BK740.out)) Try.underlying25 rfl (by kernel_rfl)) rfl ?_
 exact ⟨_, _, _, by first | rfl | (simp [errW_none, errW_some] <;> rfl) | (simp [*, errW_none, errW_some] <;> rfl), by (with_reducible repeat (first | apply Kd.R_alloc | apply Kd.R_drewN | apply Kd.R_drew)); exact Kd.R_mono (Kd.R_far (p := ⟨gb740, 2, none⟩) (Kd.R_far (p := ⟨gb740, 1, none⟩) (Kd.R_far (p := ⟨gb740, 0, none⟩) (Kd.R_types HO743.out BK740.out (by decide)) (fun _ hk => hk.2) (.slice Ao5 t741.length co5)) (fun _ hk => hk.2) (.slice Ao7 t744.length co7)) (fun _ hk => hk.2) (.slice Ao8 t747.length co8)) (fun _ hk => by first | exact ⟨hk.1.1, hk.1.2⟩ | (simp only [ne_eq] at hk ⊢; simp only [hk, not_false_eq_true, and_self])), by (with_reducible repeat (first | apply Kd.R_alloc | apply Kd.R_drewN | apply Kd.R_drew)); exact Kd.R_mono (Kd.R_far (p := ⟨gb740, 2, none⟩) (Kd.R_far (p := ⟨gb740, 1, none⟩) (Kd.R_far (p := ⟨gb740, 0, none⟩) (Kd.R_types HO746.out BK740.out (by decide)) (fun _ hk => hk.2) (.slice Ao5 t741.length co5)) (fun _ hk => hk.2) (.slice Ao7 t744.length co7)) (fun _ hk => hk.2) (.slice Ao8 t747.length co8)) (fun _ hk => by first | exact ⟨hk.1.1, hk.1.2⟩ | (simp only [ne_eq] at hk ⊢; simp only [hk, not_false_eq_true, and_self])), by (with_reducible repeat (first | apply Kd.R_alloc | apply Kd.R_drewN | apply Kd.R_drew)); exact Kd.R_mono (Kd.R_far (p := ⟨gb740, 2, none⟩) (Kd.R_far (p := ⟨gb740, 1, none⟩) (Kd.R_far (p := ⟨gb740, 0, none⟩) (Kd.R_types HO749.out BK740.out (by decide)) (fun _ hk => hk.2) (.slice Ao5 t741.length co5)) (fun _ hk => hk.2) (.slice Ao7 t744.length co7)) (fun _ hk => hk.2) (.slice Ao8 t747.length co8)) (fun _ hk => by first | exact ⟨hk.1.1, hk.1.2⟩ | (simp only [ne_eq] at hk ⊢; simp only [hk, not_false_eq_true, and_self])), by exact bs1 GE740.out HB.out⟩

end Go.Proofs.Ytghgpinhghhlgaa.A
