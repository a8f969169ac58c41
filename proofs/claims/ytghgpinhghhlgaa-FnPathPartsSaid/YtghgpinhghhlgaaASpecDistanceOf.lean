/- Contracts of functions of the given program (ASpecDistanceOf). No conditions beyond those stated. -/
import Derived.Test.YtghgpinhghhlgaaA0
import Derived.Test.YtghgpinhghhlgaaASpecL1Cell
import Derived.Test.YtghgpinhghhlgaaASpecL2Distances
import Derived.Test.YtghgpinhghhlgaaA0
namespace Go.Proofs.Ytghgpinhghhlgaa.A
open Go.RowKit Go.Proofs.YtghgpinhghhlgaaW.PrintWords Go.Proofs.YtghgpinhghhlgaaW.PrintLast Go.Proofs.YtghgpinhghhlgaaW.PrintMore
attribute [local go_sem] max2_int min2_int max_two min_two max_three min_three max_four min_four   -- for this text's walks alone
set_option linter.unusedVariables false
set_option linter.unusedSimpArgs false

/-! ### spec_DistanceOf -/
def spec_DistanceOf.f (k : Nat) (l0_0 : List Int) (l0_1 : List Int) (l0_2 : List Int) (a1 : Int) : Option (Int × Bool) := (spec_l1Cell.f k l0_0 l0_1 l0_2 a1).bind fun t754 => (if t754 = true then ((spec_l2Distances.f k l0_0 l0_1 l0_2 l0_2).bind fun t755 => (if 0 ≤ a1 then (if a1 < (t755.length : Int) then (if (rd t755 a1) < 0 then (some (0, false)) else (some (rd t755 a1, true))) else (none)) else (none))) else (some (0, false)))
theorem spec_DistanceOf.mono : ∀ a0 a1 a2 a3 k, LeO (spec_DistanceOf.f k a0 a1 a2 a3) (spec_DistanceOf.f (k + 1) a0 a1 a2 a3) := by
 intro a0 a1 a2 a3 k
 unfold spec_DistanceOf.f
 repeat' first
   | (with_reducible exact spec_l1Cell.mono _ _ _ _ _)
   | (with_reducible exact spec_l2Distances.mono _ _ _ _ _)
   | (with_reducible exact LeO.refl _)
   | (with_reducible exact LeO.none _)
   | (with_reducible refine LeO.ite ?_ ?_)
   | (with_reducible refine LeO.bind ?_ (fun _ => ?_))
   | exact spec_l1Cell.mono _ _ _ _ _
   | exact spec_l2Distances.mono _ _ _ _ _
   | exact LeO.none _
   | refine LeO.ite ?_ ?_
   | refine LeO.bind ?_ (fun _ => ?_)
set_option maxHeartbeats 8000000 in
set_option maxRecDepth 100000 in
theorem spec_DistanceOf.calls (k : Nat) (A0_0 : Option Addr) (c0_0 : Nat) (l0_0 : List Int) (A0_1 : Option Addr) (c0_1 : Nat) (l0_1 : List Int) (A0_2 : Option Addr) (c0_2 : Nat) (l0_2 : List Int) (a1 : Int) (r1 : Int) (r2 : Bool) (w : World) (hr0_0 : Kd.C (Kd.int .i64) w A0_0 l0_0.length l0_0) (hc0_0 : l0_0.length ≤ c0_0) (hr0_1 : Kd.C (Kd.int .i64) w A0_1 l0_1.length l0_1) (hc0_1 : l0_1.length ≤ c0_1) (hr0_2 : Kd.C (Kd.int .i64) w A0_2 l0_2.length l0_2) (hc0_2 : l0_2.length ≤ c0_2) (h : spec_DistanceOf.f k l0_0 l0_1 l0_2 a1 = some (r1, r2)) :
  Calls Try.prog 50 #[.agg #[.slice A0_0 l0_0.length c0_0, .slice A0_1 l0_1.length c0_1, .slice A0_2 l0_2.length c0_2], .int .i64 a1] w fun e w' => e = .returned (.tuple #[.int .i64 r1, .bool r2]) ∧ Below w.heap.size w w' := by
 have hu25 := Try.underlying25
 have HR0_0 := am hr0_0
 have HC0_0 := am hc0_0
 clear hr0_0 hc0_0
 have HR0_1 := am hr0_1
 have HC0_1 := am hc0_1
 clear hr0_1 hc0_1
 have HR0_2 := am hr0_2
 have HC0_2 := am hc0_2
 clear hr0_2 hc0_2
 have HB := am (Below.refl w.heap.size w)
 have H : ((spec_l1Cell.f k l0_0 l0_1 l0_2 a1).bind fun t754 => (if t754 = true then ((spec_l2Distances.f k l0_0 l0_1 l0_2 l0_2).bind fun t755 => (if 0 ≤ a1 then (if a1 < (t755.length : Int) then (if (rd t755 a1) < 0 then (some (0, false)) else (some (rd t755 a1, true))) else (none)) else (none))) else (some (0, false)))) = some (r1, r2) := h
 clear h
 replace H := Option.bind_eq_some_iff.mp H
 obtain ⟨t754, A30, H⟩ := H
 replace H : (if t754 = true then ((spec_l2Distances.f k l0_0 l0_1 l0_2 l0_2).bind fun t755 => (if 0 ≤ a1 then (if a1 < (t755.length : Int) then (if (rd t755 a1) < 0 then (some (0, false)) else (some (rd t755 a1, true))) else (none)) else (none))) else (some (0, false))) = some (r1, r2) := H
 have A3 := am A30
 clear A30
 by_cases c4 : t754 = true
 ·subst c4
  have H1 : ((spec_l2Distances.f k l0_0 l0_1 l0_2 l0_2).bind fun t755 => (if 0 ≤ a1 then (if a1 < (t755.length : Int) then (if (rd t755 a1) < 0 then (some (0, false)) else (some (rd t755 a1, true))) else (none)) else (none))) = some (r1, r2) := by rw [if_pos rfl] at H; exact H
  clear H
  have H := H1
  clear H1
  replace H := Option.bind_eq_some_iff.mp H
  obtain ⟨t755, A50, H⟩ := H
  replace H : (if 0 ≤ a1 then (if a1 < (t755.length : Int) then (if (rd t755 a1) < 0 then (some (0, false)) else (some (rd t755 a1, true))) else (none)) else (none)) = some (r1, r2) := H
  have A5 := am A50
  clear A50
  by_cases c6 : 0 ≤ a1
  ·rw [if_pos c6] at H
   have c6b0 : decide (0 ≤ a1) = true := decide_eq_true c6
   clear c6
   by_cases c7 : a1 < (t755.length : Int)
   ·rw [if_pos c7] at H
    have c7b0 : decide (a1 < (t755.length : Int)) = true := decide_eq_true c7
    clear c7
    by_cases c8 : (rd t755 a1) < 0
    ·rw [if_pos c8] at H
     have c8b0 : decide ((rd t755 a1) < 0) = true := decide_eq_true c8
     clear c8
     simp only [Option.some.injEq, Prod.mk.injEq] at H
     obtain ⟨rfl, rfl⟩ := H
     go_enter Try.func50, Try.ntmps50
     go_wp2_with (first | ((with_reducible refine gate_dst (N := 2) rfl ?_); refine box_event ?hg (N := 2) ?hd (cs := #[.slice A0_0 l0_0.length c0_0, .slice A0_1 l0_1.length c0_1, .slice A0_2 l0_2.length c0_2]) (t := 25) ?hr ?_; (case hd => rfl); (case hg => rfl); (case hr => first | (go_simp; done) | (go_simp; rfl)); intro gb753 hg w9 hbox hb; have BK753 := am (hbox); have GW753 := am ((by rw [hg]; exact (below_size (bl HB.out)) : w.heap.size ≤ gb753)); have GE753 := am ((by rw [hg]; exact (below_size (bl HB.out)) : w.heap.size ≤ gb753)); replace HB := am (below_step (bl HB.out) hb); clear hb hbox hg; have hcz10_0 : w9.cell? ⟨gb753, 0, none⟩ = some (.slice A0_0 l0_0.length c0_0) := (blk_cell BK753.out 0).trans rfl; have hcz10_1 : w9.cell? ⟨gb753, 1, none⟩ = some (.slice A0_1 l0_1.length c0_1) := (blk_cell BK753.out 1).trans rfl; have hcz10_2 : w9.cell? ⟨gb753, 2, none⟩ = some (.slice A0_2 l0_2.length c0_2) := (blk_cell BK753.out 2).trans rfl; have hfz10_0 := blk_frozen BK753.out 0; have hfz10_1 := blk_frozen BK753.out 1; have hfz10_2 := blk_frozen BK753.out 2) | ((with_reducible refine gate_callee (f := 61) rfl ?_); refine goesL_ (some 9) rfl rfl Try.func61 (by kernel_rfl) rfl #[.agg #[.slice A0_0 l0_0.length c0_0, .slice A0_1 l0_1.length c0_1, .slice A0_2 l0_2.length c0_2], .int .i64 a1] rfl (by (try simp only [List.map_toArray, List.map_cons, List.map_nil]); first | done | rfl | (simp only [List.length_drop, List.length_take]; rfl)) ?_; (with_reducible refine (spec_l1Cell.calls k _ _ l0_0 _ _ l0_1 _ _ l0_2 a1 true _ ?side1 ?side2 ?side3 ?side4 ?side5 ?side6 A3.out).mono ?_); (case side1 => exact cl (Kd.C_below HR0_0.out HB.out)); (case side2 => exact HC0_0.out); (case side3 => exact cl (Kd.C_below HR0_1.out HB.out)); (case side4 => exact HC0_1.out); (case side5 => exact cl (Kd.C_below HR0_2.out HB.out)); (case side6 => exact HC0_2.out); rintro e w11 ⟨rfl, hb⟩; refine ⟨_, rfl, ?_⟩; replace BK753 := am (blk_below (g := gb753) (o := .cells #[.slice A0_0 l0_0.length c0_0, .slice A0_1 l0_1.length c0_1, .slice A0_2 l0_2.length c0_2] 25 (0, 0)) (kl BK753.out) hb); replace HB := am (below_step (bs1 GE753.out HB.out) hb); (try clear hb); (try clear hb2); (try clear hk); (try clear hi); have hcz12_0 : w11.cell? ⟨gb753, 0, none⟩ = some (.slice A0_0 l0_0.length c0_0) := (blk_cell BK753.out 0).trans rfl; have hcz12_1 : w11.cell? ⟨gb753, 1, none⟩ = some (.slice A0_1 l0_1.length c0_1) := (blk_cell BK753.out 1).trans rfl; have hcz12_2 : w11.cell? ⟨gb753, 2, none⟩ = some (.slice A0_2 l0_2.length c0_2) := (blk_cell BK753.out 2).trans rfl; have hfz12_0 := blk_frozen BK753.out 0; have hfz12_1 := blk_frozen BK753.out 1; have hfz12_2 := blk_frozen BK753.out 2) | ((with_reducible refine gate_callee (f := 51) rfl ?_); refine goesL_ (some 14) rfl rfl Try.func51 (by kernel_rfl) rfl #[.agg #[.slice A0_0 l0_0.length c0_0, .slice A0_1 l0_1.length c0_1, .slice A0_2 l0_2.length c0_2], .slice A0_2 l0_2.length c0_2] rfl (by (try simp only [List.map_toArray, List.map_cons, List.map_nil]); first | done | rfl | (simp only [List.length_drop, List.length_take]; rfl)) ?_; (with_reducible refine (spec_l2Distances.calls k _ _ l0_0 _ _ l0_1 _ _ l0_2 _ _ l0_2 t755 _ ?side1 ?side2 ?side3 ?side4 ?side5 ?side6 ?side7 ?side8 A5.out).mono ?_); (case side1 => exact cl (Kd.C_below HR0_0.out HB.out)); (case side2 => exact HC0_0.out); (case side3 => exact cl (Kd.C_below HR0_1.out HB.out)); (case side4 => exact HC0_1.out); (case side5 => exact cl (Kd.C_below HR0_2.out HB.out)); (case side6 => exact HC0_2.out); (case side7 => exact cl (Kd.C_below HR0_2.out HB.out)); (case side8 => exact HC0_2.out); rintro e w13 ⟨v756, rfl, ho0, hb⟩; refine ⟨_, rfl, ?_⟩; have HO757 := am (Kd.R_lower ho0 (below_size (bs1 GE753.out HB.out))); replace BK753 := am (blk_below (g := gb753) (o := .cells #[.slice A0_0 l0_0.length c0_0, .slice A0_1 l0_1.length c0_1, .slice A0_2 l0_2.length c0_2] 25 (0, 0)) (kl BK753.out) hb); replace HB := am (below_step (bs1 GE753.out HB.out) hb); (try clear hb); (try clear hb2); (try clear hk); (try clear hi); (try clear ho0); obtain ⟨Ao14, co14, eo14⟩ := Kd.R_slice HO757.out; subst eo14; have p758 : 0 ≤ (a1 : Int) := of_decide_eq_true (by first | (with_reducible assumption) | assumption); have q758 : a1 < (t755.length : Int) := of_decide_eq_true (by first | (with_reducible assumption) | assumption); obtain ⟨ad758, e758, hx758_0⟩ := Kd.at_int (Kd.R_reads' HO757.out).2.2 a1 p758 q758; cases e758; replace p758 := eq_true p758; replace q758 := eq_true q758))
     go_ret2
     exact ⟨by first | rfl | (simp [errW_none, errW_some] <;> rfl) | (simp [*, errW_none, errW_some] <;> rfl), by exact bs1 GE753.out HB.out⟩
    ·rw [if_neg c8] at H
     have c8b0 : decide ((rd t755 a1) < 0) = false := decide_eq_false c8
     clear c8
     simp only [Option.some.injEq, Prod.mk.injEq] at H
     obtain ⟨rfl, rfl⟩ := H
     go_enter Try.func50, Try.ntmps50
     go_wp2_with (first | ((with_reducible refine gate_dst (N := 2) rfl ?_); refine box_event ?hg (N := 2) ?hd (cs := #[.slice A0_0 l0_0.length c0_0, .slice A0_1 l0_1.length c0_1, .slice A0_2 l0_2.length c0_2]) (t := 25) ?hr ?_; (case hd => rfl); (case hg => rfl); (case hr => first | (go_simp; done) | (go_simp; rfl)); intro gb753 hg w15 hbox hb; have BK753 := am (hbox); have GW753 := am ((by rw [hg]; exact (below_size (bl HB.out)) : w.heap.size ≤ gb753)); have GE753 := am ((by rw [hg]; exact (below_size (bl HB.out)) : w.heap.size ≤ gb753)); replace HB := am (below_step (bl HB.out) hb); clear hb hbox hg; have hcz16_0 : w15.cell? ⟨gb753, 0, none⟩ = some (.slice A0_0 l0_0.length c0_0) := (blk_cell BK753.out 0).trans rfl; have hcz16_1 : w15.cell? ⟨gb753, 1, none⟩ = some (.slice A0_1 l0_1.length c0_1) := (blk_cell BK753.out 1).trans rfl; have hcz16_2 : w15.cell? ⟨gb753, 2, none⟩ = some (.slice A0_2 l0_2.length c0_2) := (blk_cell BK753.out 2).trans rfl; have hfz16_0 := blk_frozen BK753.out 0; have hfz16_1 := blk_frozen BK753.out 1; have hfz16_2 := blk_frozen BK753.out 2) | ((with_reducible refine gate_callee (f := 61) rfl ?_); refine goesL_ (some 9) rfl rfl Try.func61 (by kernel_rfl) rfl #[.agg #[.slice A0_0 l0_0.length c0_0, .slice A0_1 l0_1.length c0_1, .slice A0_2 l0_2.length c0_2], .int .i64 a1] rfl (by (try simp only [List.map_toArray, List.map_cons, List.map_nil]); first | done | rfl | (simp only [List.length_drop, List.length_take]; rfl)) ?_; (with_reducible refine (spec_l1Cell.calls k _ _ l0_0 _ _ l0_1 _ _ l0_2 a1 true _ ?side1 ?side2 ?side3 ?side4 ?side5 ?side6 A3.out).mono ?_); (case side1 => exact cl (Kd.C_below HR0_0.out HB.out)); (case side2 => exact HC0_0.out); (case side3 => exact cl (Kd.C_below HR0_1.out HB.out)); (case side4 => exact HC0_1.out); (case side5 => exact cl (Kd.C_below HR0_2.out HB.out)); (case side6 => exact HC0_2.out); rintro e w17 ⟨rfl, hb⟩; refine ⟨_, rfl, ?_⟩; replace BK753 := am (blk_below (g := gb753) (o := .cells #[.slice A0_0 l0_0.length c0_0, .slice A0_1 l0_1.length c0_1, .slice A0_2 l0_2.length c0_2] 25 (0, 0)) (kl BK753.out) hb); replace HB := am (below_step (bs1 GE753.out HB.out) hb); (try clear hb); (try clear hb2); (try clear hk); (try clear hi); have hcz18_0 : w17.cell? ⟨gb753, 0, none⟩ = some (.slice A0_0 l0_0.length c0_0) := (blk_cell BK753.out 0).trans rfl; have hcz18_1 : w17.cell? ⟨gb753, 1, none⟩ = some (.slice A0_1 l0_1.length c0_1) := (blk_cell BK753.out 1).trans rfl; have hcz18_2 : w17.cell? ⟨gb753, 2, none⟩ = some (.slice A0_2 l0_2.length c0_2) := (blk_cell BK753.out 2).trans rfl; have hfz18_0 := blk_frozen BK753.out 0; have hfz18_1 := blk_frozen BK753.out 1; have hfz18_2 := blk_frozen BK753.out 2) | ((with_reducible refine gate_callee (f := 51) rfl ?_); refine goesL_ (some 14) rfl rfl Try.func51 (by kernel_rfl) rfl #[.agg #[.slice A0_0 l0_0.length c0_0, .slice A0_1 l0_1.length c0_1, .slice A0_2 l0_2.length c0_2], .slice A0_2 l0_2.length c0_2] rfl (by (try simp only [List.map_toArray, List.map_cons, List.map_nil]); first | done | rfl | (simp only [List.length_drop, List.length_take]; rfl)) ?_; (with_reducible refine (spec_l2Distances.calls k _ _ l0_0 _ _ l0_1 _ _ l0_2 _ _ l0_2 t755 _ ?side1 ?side2 ?side3 ?side4 ?side5 ?side6 ?side7 ?side8 A5.out).mono ?_); (case side1 => exact cl (Kd.C_below HR0_0.out HB.out)); (case side2 => exact HC0_0.out); (case side3 => exact cl (Kd.C_below HR0_1.out HB.out)); (case side4 => exact HC0_1.out); (case side5 => exact cl (Kd.C_below HR0_2.out HB.out)); (case side6 => exact HC0_2.out); (case side7 => exact cl (Kd.C_below HR0_2.out HB.out)); (case side8 => exact HC0_2.out); rintro e w19 ⟨v756, rfl, ho0, hb⟩; refine ⟨_, rfl, ?_⟩; have HO757 := am (Kd.R_lower ho0 (below_size (bs1 GE753.out HB.out))); replace BK753 := am (blk_below (g := gb753) (o := .cells #[.slice A0_0 l0_0.length c0_0, .slice A0_1 l0_1.length c0_1, .slice A0_2 l0_2.length c0_2] 25 (0, 0)) (kl BK753.out) hb); replace HB := am (below_step (bs1 GE753.out HB.out) hb); (try clear hb); (try clear hb2); (try clear hk); (try clear hi); (try clear ho0); obtain ⟨Ao20, co20, eo20⟩ := Kd.R_slice HO757.out; subst eo20; have p758 : 0 ≤ (a1 : Int) := of_decide_eq_true (by first | (with_reducible assumption) | assumption); have q758 : a1 < (t755.length : Int) := of_decide_eq_true (by first | (with_reducible assumption) | assumption); obtain ⟨ad758, e758, hx758_0⟩ := Kd.at_int (Kd.R_reads' HO757.out).2.2 a1 p758 q758; cases e758; replace p758 := eq_true p758; replace q758 := eq_true q758; have p759 : 0 ≤ (a1 : Int) := of_decide_eq_true (by first | (with_reducible assumption) | assumption); have q759 : a1 < (t755.length : Int) := of_decide_eq_true (by first | (with_reducible assumption) | assumption); obtain ⟨ad759, e759, hx759_0⟩ := Kd.at_int (Kd.R_reads' HO757.out).2.2 a1 p759 q759; obtain rfl : ad758 = ad759 := (by injection e759); replace p759 := eq_true p759; replace q759 := eq_true q759))
     go_ret2
     exact ⟨by first | rfl | (simp [errW_none, errW_some] <;> rfl) | (simp [*, errW_none, errW_some] <;> rfl), by exact bs1 GE753.out HB.out⟩
   ·rw [if_neg c7] at H
    exact absurd H (by simp)
  ·rw [if_neg c6] at H
   exact absurd H (by simp)
 ·replace c4 := Bool.eq_false_iff.mpr c4
  subst c4
  have H1 : (some (0, false)) = some (r1, r2) := by rw [if_neg (show ¬ (false = true) by decide)] at H; exact H
  clear H
  have H := H1
  clear H1
  simp only [Option.some.injEq, Prod.mk.injEq] at H
  obtain ⟨rfl, rfl⟩ := H
  go_enter Try.func50, Try.ntmps50
  go_wp2_with (first | ((with_reducible refine gate_dst (N := 2) rfl ?_); refine box_event ?hg (N := 2) ?hd (cs := #[.slice A0_0 l0_0.length c0_0, .slice A0_1 l0_1.length c0_1, .slice A0_2 l0_2.length c0_2]) (t := 25) ?hr ?_; (case hd => rfl); (case hg => rfl); (case hr => first | (go_simp; done) | (go_simp; rfl)); intro gb753 hg w21 hbox hb; have BK753 := am (hbox); have GW753 := am ((by rw [hg]; exact (below_size (bl HB.out)) : w.heap.size ≤ gb753)); have GE753 := am ((by rw [hg]; exact (below_size (bl HB.out)) : w.heap.size ≤ gb753)); replace HB := am (below_step (bl HB.out) hb); clear hb hbox hg; have hcz22_0 : w21.cell? ⟨gb753, 0, none⟩ = some (.slice A0_0 l0_0.length c0_0) := (blk_cell BK753.out 0).trans rfl; have hcz22_1 : w21.cell? ⟨gb753, 1, none⟩ = some (.slice A0_1 l0_1.length c0_1) := (blk_cell BK753.out 1).trans rfl; have hcz22_2 : w21.cell? ⟨gb753, 2, none⟩ = some (.slice A0_2 l0_2.length c0_2) := (blk_cell BK753.out 2).trans rfl; have hfz22_0 := blk_frozen BK753.out 0; have hfz22_1 := blk_frozen BK753.out 1; have hfz22_2 := blk_frozen BK753.out 2) | ((with_reducible refine gate_callee (f := 61) rfl ?_); refine goesL_ (some 9) rfl rfl Try.func61 (by kernel_rfl) rfl #[.agg #[.slice A0_0 l0_0.length c0_0, .slice A0_1 l0_1.length c0_1, .slice A0_2 l0_2.length c0_2], .int .i64 a1] rfl (by (try simp only [List.map_toArray, List.map_cons, List.map_nil]); first | done | rfl | (simp only [List.length_drop, List.length_take]; rfl)) ?_; (with_reducible refine (spec_l1Cell.calls k _ _ l0_0 _ _ l0_1 _ _ l0_2 a1 false _ ?side1 ?side2 ?side3 ?side4 ?side5 ?side6 A3.out).mono ?_); (case side1 => exact cl (Kd.C_below HR0_0.out HB.out)); (case side2 => exact HC0_0.out); (case side3 => exact cl (Kd.C_below HR0_1.out HB.out)); (case side4 => exact HC0_1.out); (case side5 => exact cl (Kd.C_below HR0_2.out HB.out)); (case side6 => exact HC0_2.out); rintro e w23 ⟨rfl, hb⟩; refine ⟨_, rfl, ?_⟩; replace BK753 := am (blk_below (g := gb753) (o := .cells #[.slice A0_0 l0_0.length c0_0, .slice A0_1 l0_1.length c0_1, .slice A0_2 l0_2.length c0_2] 25 (0, 0)) (kl BK753.out) hb); replace HB := am (below_step (bs1 GE753.out HB.out) hb); (try clear hb); (try clear hb2); (try clear hk); (try clear hi)))
  go_ret2
  exact ⟨by first | rfl | (simp [errW_none, errW_some] <;> rfl) | (simp [*, errW_none, errW_some] <;> rfl), by exact bs1 GE753.out HB.out⟩

end Go.Proofs.Ytghgpinhghhlgaa.A
