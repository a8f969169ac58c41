/- Contracts of functions of the given program (AImplPathTo). No conditions beyond those stated. -/
import Derived.Test.YtghgpinhghhlgaaA0
import Derived.Test.YtghgpinhghhlgaaAImplDistances
import Derived.Test.YtghgpinhghhlgaaAImplHas
import Derived.Test.YtghgpinhghhlgaaAImplSourcesOf
import Derived.Test.YtghgpinhghhlgaaA0
namespace Go.Proofs.Ytghgpinhghhlgaa.A
open Go.RowKit Go.Proofs.YtghgpinhghhlgaaW.PrintWords Go.Proofs.YtghgpinhghhlgaaW.PrintLast Go.Proofs.YtghgpinhghhlgaaW.PrintMore
attribute [local go_sem] max2_int min2_int max_two min_two max_three min_three max_four min_four   -- for this text's walks alone
set_option linter.unusedVariables false
set_option linter.unusedSimpArgs false

/-! ### impl_PathTo -/
mutual
def impl_PathTo.l0 : Nat → List Int → List Int → List Int → List Int → List Int → Option (List Int × Bool)
 | 0, _, _, _, _, _ => none
 | k + 1, x6, x7, x657000, x657001, x657002 => if 0 < (x7.length : Int) then (if 0 ≤ (rd x7 0) then (if (rd x7 0) < (x6.length : Int) then (if (rd x6 (rd x7 0)) > 1 then ((impl_SourcesOf.f k x657000 x657001 x657002 (rd x7 0)).bind fun t668 => (impl_PathTo.l1 k x6 x7 t668 (t668.length : Int) 0 x657000 x657001 x657002)) else (some (x7, true))) else (none)) else (none)) else (none)
def impl_PathTo.l1 : Nat → List Int → List Int → List Int → Int → Int → List Int → List Int → List Int → Option (List Int × Bool)
 | 0, _, _, _, _, _, _, _, _ => none
 | k + 1, x6, x7, x34, x35, x36, x657000, x657001, x657002 => if x36 < x35 then (if 0 ≤ x36 then (if x36 < (x34.length : Int) then (if 0 ≤ (rd x34 x36) then (if (rd x34 x36) < (x6.length : Int) then (if 0 < (x7.length : Int) then (if 0 ≤ (rd x7 0) then (if (rd x7 0) < (x6.length : Int) then (if (rd x6 (rd x34 x36)) = (wrap64 ((rd x6 (rd x7 0)) - 1)) then ((some (([rd x34 x36] : List Int) : List Int)).bind fun y675 => (if y675.length + x7.length < 17592186044416 then (impl_PathTo.l0 k x6 (y675 ++ x7) x657000 x657001 x657002) else (none))) else (impl_PathTo.l1 k x6 x7 x34 x35 (wrap64 (x36 + 1)) x657000 x657001 x657002)) else (none)) else (none)) else (none)) else (none)) else (none)) else (none)) else (none)) else (impl_PathTo.l0 k x6 x7 x657000 x657001 x657002)
end
def impl_PathTo.f (k : Nat) (l0_0 : List Int) (l0_1 : List Int) (l0_2 : List Int) (a1 : Int) : Option (List Int × Bool) := (impl_has.f k l0_0 l0_1 l0_2 a1).bind fun t657 => (if t657 = true then ((impl_distances.f l0_0 l0_1 l0_2).bind fun t658 => (if 0 ≤ a1 then (if a1 < (t658.length : Int) then (if (rd t658 a1) = 0 then (some (([] : List Int), false)) else (impl_PathTo.l0 k t658 (([a1] : List Int)) l0_0 l0_1 l0_2)) else (none)) else (none))) else (some (([] : List Int), false)))
theorem impl_PathTo.mono_l : ∀ k, (∀ y0 y1 y2 y3 y4, LeO (impl_PathTo.l0 k y0 y1 y2 y3 y4) (impl_PathTo.l0 (k + 1) y0 y1 y2 y3 y4)) ∧ (∀ y0 y1 y2 y3 y4 y5 y6 y7, LeO (impl_PathTo.l1 k y0 y1 y2 y3 y4 y5 y6 y7) (impl_PathTo.l1 (k + 1) y0 y1 y2 y3 y4 y5 y6 y7))
 | 0 => ⟨fun _ _ _ _ _ r h => by simp [impl_PathTo.l0] at h, fun _ _ _ _ _ _ _ _ r h => by simp [impl_PathTo.l1] at h⟩
 | k + 1 => by
  obtain ⟨ih0, ih1⟩ := impl_PathTo.mono_l k
  refine ⟨?_, ?_⟩
  ·intro y0 y1 y2 y3 y4
   unfold impl_PathTo.l0
   repeat' first
   | (with_reducible exact ih0 _ _ _ _ _)
   | (with_reducible exact ih1 _ _ _ _ _ _ _ _)
   | (with_reducible exact impl_SourcesOf.mono _ _ _ _ _)
   | (with_reducible exact impl_has.mono _ _ _ _ _)
   | (with_reducible exact LeO.refl _)
   | (with_reducible exact LeO.none _)
   | (with_reducible refine LeO.ite ?_ ?_)
   | (with_reducible refine LeO.bind ?_ (fun _ => ?_))
   | exact ih0 _ _ _ _ _
   | exact ih1 _ _ _ _ _ _ _ _
   | exact impl_SourcesOf.mono _ _ _ _ _
   | exact impl_has.mono _ _ _ _ _
   | exact LeO.none _
   | refine LeO.ite ?_ ?_
   | refine LeO.bind ?_ (fun _ => ?_)
  ·intro y0 y1 y2 y3 y4 y5 y6 y7
   unfold impl_PathTo.l1
   repeat' first
   | (with_reducible exact ih0 _ _ _ _ _)
   | (with_reducible exact ih1 _ _ _ _ _ _ _ _)
   | (with_reducible exact impl_SourcesOf.mono _ _ _ _ _)
   | (with_reducible exact impl_has.mono _ _ _ _ _)
   | (with_reducible exact LeO.refl _)
   | (with_reducible exact LeO.none _)
   | (with_reducible refine LeO.ite ?_ ?_)
   | (with_reducible refine LeO.bind ?_ (fun _ => ?_))
   | exact ih0 _ _ _ _ _
   | exact ih1 _ _ _ _ _ _ _ _
   | exact impl_SourcesOf.mono _ _ _ _ _
   | exact impl_has.mono _ _ _ _ _
   | exact LeO.none _
   | refine LeO.ite ?_ ?_
   | refine LeO.bind ?_ (fun _ => ?_)
theorem impl_PathTo.mono : ∀ a0 a1 a2 a3 k, LeO (impl_PathTo.f k a0 a1 a2 a3) (impl_PathTo.f (k + 1) a0 a1 a2 a3) := by
 intro a0 a1 a2 a3 k
 obtain ⟨ih0, ih1⟩ := impl_PathTo.mono_l k
 unfold impl_PathTo.f
 repeat' first
   | (with_reducible exact ih0 _ _ _ _ _)
   | (with_reducible exact ih1 _ _ _ _ _ _ _ _)
   | (with_reducible exact impl_SourcesOf.mono _ _ _ _ _)
   | (with_reducible exact impl_has.mono _ _ _ _ _)
   | (with_reducible exact LeO.refl _)
   | (with_reducible exact LeO.none _)
   | (with_reducible refine LeO.ite ?_ ?_)
   | (with_reducible refine LeO.bind ?_ (fun _ => ?_))
   | exact ih0 _ _ _ _ _
   | exact ih1 _ _ _ _ _ _ _ _
   | exact impl_SourcesOf.mono _ _ _ _ _
   | exact impl_has.mono _ _ _ _ _
   | exact LeO.none _
   | refine LeO.ite ?_ ?_
   | refine LeO.bind ?_ (fun _ => ?_)
def impl_PathTo.T11 : Bool × List (List Nat × List Nat) := (true, [([], []), ([], []), ([0, 1], [0, 1]), ([2], [2]), ([], []), ([], []), ([5], [5]), ([6], [6]), ([4, 7], [4, 7]), ([8], [8]), ([9], [9]), ([3, 10], [3, 10])])
def impl_PathTo.B11 : List Nat := [0, 0, 3, 7, 0, 0, 32, 96, 240, 496, 1008, 2047]
theorem impl_PathTo.tab11 : rtab .any (opsOf Try.f28 11) = impl_PathTo.T11 := by kernel_rfl
theorem impl_PathTo.bits11 : waitsOk impl_PathTo.T11.2 impl_PathTo.B11 = true := by kernel_rfl
set_option maxHeartbeats 8000000 in
set_option maxRecDepth 100000 in
theorem impl_PathTo.calls (k : Nat) (A0_0 : Option Addr) (c0_0 : Nat) (l0_0 : List Int) (A0_1 : Option Addr) (c0_1 : Nat) (l0_1 : List Int) (A0_2 : Option Addr) (c0_2 : Nat) (l0_2 : List Int) (a1 : Int) (r1 : List Int) (r2 : Bool) (w : World) (hr0_0 : Kd.C (Kd.int .i64) w A0_0 l0_0.length l0_0) (hc0_0 : l0_0.length ≤ c0_0) (hr0_1 : Kd.C (Kd.int .i64) w A0_1 l0_1.length l0_1) (hc0_1 : l0_1.length ≤ c0_1) (hr0_2 : Kd.C (Kd.int .i64) w A0_2 l0_2.length l0_2) (hc0_2 : l0_2.length ≤ c0_2) (h : impl_PathTo.f k l0_0 l0_1 l0_2 a1 = some (r1, r2)) :
  Calls Try.prog 28 #[.agg #[.slice A0_0 l0_0.length c0_0, .slice A0_1 l0_1.length c0_1, .slice A0_2 l0_2.length c0_2], .int .i64 a1] w fun e w' => ∃ v0_ : Value, e = .returned (.tuple #[v0_, .bool r2]) ∧ Kd.R (Kd.int .i64) 3 w' w.heap.size (fun _ => True) v0_ r1 ∧ Below w.heap.size w w' := by
 have hu25 := Try.underlying25
 have HR0_0 := am hr0_0
 have HC0_0 := am hc0_0
 clear hr0_0 hc0_0
 have HR0_1 := am hr0_1
 have HC0_1 := am hc0_1
 clear hr0_1 hc0_1
 have HR0_2 := am hr0_2
 have HC0_2 := am hc0_2
 clear hr0_2 hc0_2
 have HB := am (Below.refl w.heap.size w)
 have H : ((impl_has.f k l0_0 l0_1 l0_2 a1).bind fun t657 => (if t657 = true then ((impl_distances.f l0_0 l0_1 l0_2).bind fun t658 => (if 0 ≤ a1 then (if a1 < (t658.length : Int) then (if (rd t658 a1) = 0 then (some (([] : List Int), false)) else (impl_PathTo.l0 k t658 (([a1] : List Int)) l0_0 l0_1 l0_2)) else (none)) else (none))) else (some (([] : List Int), false)))) = some (r1, r2) := h
 clear h
 replace H := Option.bind_eq_some_iff.mp H
 obtain ⟨t657, A30, H⟩ := H
 replace H : (if t657 = true then ((impl_distances.f l0_0 l0_1 l0_2).bind fun t658 => (if 0 ≤ a1 then (if a1 < (t658.length : Int) then (if (rd t658 a1) = 0 then (some (([] : List Int), false)) else (impl_PathTo.l0 k t658 (([a1] : List Int)) l0_0 l0_1 l0_2)) else (none)) else (none))) else (some (([] : List Int), false))) = some (r1, r2) := H
 have A3 := am A30
 clear A30
 by_cases c4 : t657 = true
 ·subst c4
  have H1 : ((impl_distances.f l0_0 l0_1 l0_2).bind fun t658 => (if 0 ≤ a1 then (if a1 < (t658.length : Int) then (if (rd t658 a1) = 0 then (some (([] : List Int), false)) else (impl_PathTo.l0 k t658 (([a1] : List Int)) l0_0 l0_1 l0_2)) else (none)) else (none))) = some (r1, r2) := by rw [if_pos rfl] at H; exact H
  clear H
  have H := H1
  clear H1
  replace H := Option.bind_eq_some_iff.mp H
  obtain ⟨t658, A50, H⟩ := H
  replace H : (if 0 ≤ a1 then (if a1 < (t658.length : Int) then (if (rd t658 a1) = 0 then (some (([] : List Int), false)) else (impl_PathTo.l0 k t658 (([a1] : List Int)) l0_0 l0_1 l0_2)) else (none)) else (none)) = some (r1, r2) := H
  have A5 := am A50
  clear A50
  by_cases c6 : 0 ≤ a1
  ·rw [if_pos c6] at H
   have c6b0 : decide (0 ≤ a1) = true := decide_eq_true c6
   clear c6
   by_cases c7 : a1 < (t658.length : Int)
   ·rw [if_pos c7] at H
    have c7b0 : decide (a1 < (t658.length : Int)) = true := decide_eq_true c7
    clear c7
    by_cases c8 : (rd t658 a1) = 0
    ·rw [if_pos c8] at H
     have c8b0 : ((rd t658 a1) == 0) = true := beq_iff_eq.mpr c8
     have c8b1 : ((rd t658 a1) != 0) = false := bne_eq_false_iff_eq.mpr c8
     clear c8
     simp only [Option.some.injEq, Prod.mk.injEq] at H
     obtain ⟨rfl, rfl⟩ := H
     go_enter Try.func28, Try.ntmps28
     go_wp2_with (first | ((with_reducible refine gate_dst (N := 2) rfl ?_); refine box_event ?hg (N := 2) ?hd (cs := #[.slice A0_0 l0_0.length c0_0, .slice A0_1 l0_1.length c0_1, .slice A0_2 l0_2.length c0_2]) (t := 25) ?hr ?_; (case hd => rfl); (case hg => rfl); (case hr => first | (go_simp; done) | (go_simp; rfl)); intro gb656 hg w9 hbox hb; have BK656 := am (hbox); have GW656 := am ((by rw [hg]; exact (below_size (bl HB.out)) : w.heap.size ≤ gb656)); have GE656 := am ((by rw [hg]; exact (below_size (bl HB.out)) : w.heap.size ≤ gb656)); replace HB := am (below_step (bl HB.out) hb); clear hb hbox hg; have hcz10_0 : w9.cell? ⟨gb656, 0, none⟩ = some (.slice A0_0 l0_0.length c0_0) := (blk_cell BK656.out 0).trans rfl; have hcz10_1 : w9.cell? ⟨gb656, 1, none⟩ = some (.slice A0_1 l0_1.length c0_1) := (blk_cell BK656.out 1).trans rfl; have hcz10_2 : w9.cell? ⟨gb656, 2, none⟩ = some (.slice A0_2 l0_2.length c0_2) := (blk_cell BK656.out 2).trans rfl; have hfz10_0 := blk_frozen BK656.out 0; have hfz10_1 := blk_frozen BK656.out 1; have hfz10_2 := blk_frozen BK656.out 2) | ((with_reducible refine gate_callee (f := 47) rfl ?_); refine goesL_ (some 12) rfl rfl Try.func47 (by kernel_rfl) rfl #[.agg #[.slice A0_0 l0_0.length c0_0, .slice A0_1 l0_1.length c0_1, .slice A0_2 l0_2.length c0_2], .int .i64 a1] rfl (by (try simp only [List.map_toArray, List.map_cons, List.map_nil]); first | done | rfl | (simp only [List.length_drop, List.length_take]; rfl)) ?_; (with_reducible refine (impl_has.calls k _ _ l0_0 _ _ l0_1 _ _ l0_2 a1 true _ ?side1 ?side2 ?side3 ?side4 ?side5 ?side6 A3.out).mono ?_); (case side1 => exact cl (Kd.C_below HR0_0.out HB.out)); (case side2 => exact HC0_0.out); (case side3 => exact cl (Kd.C_below HR0_1.out HB.out)); (case side4 => exact HC0_1.out); (case side5 => exact cl (Kd.C_below HR0_2.out HB.out)); (case side6 => exact HC0_2.out); rintro e w11 ⟨rfl, hb⟩; refine ⟨_, rfl, ?_⟩; replace BK656 := am (blk_below (g := gb656) (o := .cells #[.slice A0_0 l0_0.length c0_0, .slice A0_1 l0_1.length c0_1, .slice A0_2 l0_2.length c0_2] 25 (0, 0)) (kl BK656.out) hb); replace HB := am (below_step (bs1 GE656.out HB.out) hb); (try clear hb); (try clear hb2); (try clear hk); (try clear hi); have hcz12_0 : w11.cell? ⟨gb656, 0, none⟩ = some (.slice A0_0 l0_0.length c0_0) := (blk_cell BK656.out 0).trans rfl; have hcz12_1 : w11.cell? ⟨gb656, 1, none⟩ = some (.slice A0_1 l0_1.length c0_1) := (blk_cell BK656.out 1).trans rfl; have hcz12_2 : w11.cell? ⟨gb656, 2, none⟩ = some (.slice A0_2 l0_2.length c0_2) := (blk_cell BK656.out 2).trans rfl; have hfz12_0 := blk_frozen BK656.out 0; have hfz12_1 := blk_frozen BK656.out 1; have hfz12_2 := blk_frozen BK656.out 2) | ((with_reducible refine gate_callee (f := 46) rfl ?_); refine goesL_ (some 15) rfl rfl Try.func46 (by kernel_rfl) rfl #[.agg #[.slice A0_0 l0_0.length c0_0, .slice A0_1 l0_1.length c0_1, .slice A0_2 l0_2.length c0_2]] rfl (by (try simp only [List.map_toArray, List.map_cons, List.map_nil]); first | done | rfl | (simp only [List.length_drop, List.length_take]; rfl)) ?_; (with_reducible refine (impl_distances.calls _ _ l0_0 _ _ l0_1 _ _ l0_2 t658 _ ?side1 ?side2 ?side3 ?side4 ?side5 ?side6 A5.out).mono ?_); (case side1 => exact cl (Kd.C_below HR0_0.out HB.out)); (case side2 => exact HC0_0.out); (case side3 => exact cl (Kd.C_below HR0_1.out HB.out)); (case side4 => exact HC0_1.out); (case side5 => exact cl (Kd.C_below HR0_2.out HB.out)); (case side6 => exact HC0_2.out); rintro e w13 ⟨v659, rfl, ho0, hb⟩; refine ⟨_, rfl, ?_⟩; have HO660 := am (Kd.R_lower ho0 (below_size (bs1 GE656.out HB.out))); replace BK656 := am (blk_below (g := gb656) (o := .cells #[.slice A0_0 l0_0.length c0_0, .slice A0_1 l0_1.length c0_1, .slice A0_2 l0_2.length c0_2] 25 (0, 0)) (kl BK656.out) hb); replace HB := am (below_step (bs1 GE656.out HB.out) hb); (try clear hb); (try clear hb2); (try clear hk); (try clear hi); (try clear ho0); obtain ⟨Ao14, co14, eo14⟩ := Kd.R_slice HO660.out; subst eo14; have p661 : 0 ≤ (a1 : Int) := of_decide_eq_true (by first | (with_reducible assumption) | assumption); have q661 : a1 < (t658.length : Int) := of_decide_eq_true (by first | (with_reducible assumption) | assumption); obtain ⟨ad661, e661, hx661_0⟩ := Kd.at_int (Kd.R_reads' HO660.out).2.2 a1 p661 q661; cases e661; replace p661 := eq_true p661; replace q661 := eq_true q661))
     go_ret2
     exact ⟨_, by first | rfl | (simp [errW_none, errW_some] <;> rfl) | (simp [*, errW_none, errW_some] <;> rfl), by first | exact Kd.R_nil _ _ _ _ _ | exact Kd.N_nil _ _ _ _ _ | exact Kd.V_nil _ _ _ _ _ | exact Kd.Q_nil _ _ _ _ _ | exact Kd.S_nil _ _ _ _ _, by exact bs1 GE656.out HB.out⟩
    ·rw [if_neg c8] at H
     have c8b0 : ((rd t658 a1) == 0) = false := beq_eq_false_iff_ne.mpr c8
     have c8b1 : ((rd t658 a1) != 0) = true := bne_iff_ne.mpr c8
     obtain ⟨y662, hy662⟩ : ∃ y_ : List Int, y_ = (([a1] : List Int)) := ⟨_, rfl⟩
     replace H : (impl_PathTo.l0 k t658 y662 l0_0 l0_1 l0_2) = some (r1, r2) := by first | (rw [hy662]; with_reducible exact H) | (have H2_ := (Option.bind_some _ _).symm.trans H; rw [hy662]; with_reducible exact H2_) | (have H2_ := (Option.bind_some _ _).symm.trans H; with_reducible exact H2_) | with_reducible exact H | (rw [hy662]; exact H) | exact H
     have Ny662 := am hy662
     clear hy662
     have H' := am H
     clear H
     go_enter Try.func28, Try.ntmps28
     go_wp2_with (first | ((with_reducible refine gate_dst (N := 2) rfl ?_); refine box_event ?hg (N := 2) ?hd (cs := #[.slice A0_0 l0_0.length c0_0, .slice A0_1 l0_1.length c0_1, .slice A0_2 l0_2.length c0_2]) (t := 25) ?hr ?_; (case hd => rfl); (case hg => rfl); (case hr => first | (go_simp; done) | (go_simp; rfl)); intro gb656 hg w15 hbox hb; have BK656 := am (hbox); have GW656 := am ((by rw [hg]; exact (below_size (bl HB.out)) : w.heap.size ≤ gb656)); have GE656 := am ((by rw [hg]; exact (below_size (bl HB.out)) : w.heap.size ≤ gb656)); replace HB := am (below_step (bl HB.out) hb); clear hb hbox hg; have hcz16_0 : w15.cell? ⟨gb656, 0, none⟩ = some (.slice A0_0 l0_0.length c0_0) := (blk_cell BK656.out 0).trans rfl; have hcz16_1 : w15.cell? ⟨gb656, 1, none⟩ = some (.slice A0_1 l0_1.length c0_1) := (blk_cell BK656.out 1).trans rfl; have hcz16_2 : w15.cell? ⟨gb656, 2, none⟩ = some (.slice A0_2 l0_2.length c0_2) := (blk_cell BK656.out 2).trans rfl; have hfz16_0 := blk_frozen BK656.out 0; have hfz16_1 := blk_frozen BK656.out 1; have hfz16_2 := blk_frozen BK656.out 2) | ((with_reducible refine gate_callee (f := 47) rfl ?_); refine goesL_ (some 12) rfl rfl Try.func47 (by kernel_rfl) rfl #[.agg #[.slice A0_0 l0_0.length c0_0, .slice A0_1 l0_1.length c0_1, .slice A0_2 l0_2.length c0_2], .int .i64 a1] rfl (by (try simp only [List.map_toArray, List.map_cons, List.map_nil]); first | done | rfl | (simp only [List.length_drop, List.length_take]; rfl)) ?_; (with_reducible refine (impl_has.calls k _ _ l0_0 _ _ l0_1 _ _ l0_2 a1 true _ ?side1 ?side2 ?side3 ?side4 ?side5 ?side6 A3.out).mono ?_); (case side1 => exact cl (Kd.C_below HR0_0.out HB.out)); (case side2 => exact HC0_0.out); (case side3 => exact cl (Kd.C_below HR0_1.out HB.out)); (case side4 => exact HC0_1.out); (case side5 => exact cl (Kd.C_below HR0_2.out HB.out)); (case side6 => exact HC0_2.out); rintro e w17 ⟨rfl, hb⟩; refine ⟨_, rfl, ?_⟩; replace BK656 := am (blk_below (g := gb656) (o := .cells #[.slice A0_0 l0_0.length c0_0, .slice A0_1 l0_1.length c0_1, .slice A0_2 l0_2.length c0_2] 25 (0, 0)) (kl BK656.out) hb); replace HB := am (below_step (bs1 GE656.out HB.out) hb); (try clear hb); (try clear hb2); (try clear hk); (try clear hi); have hcz18_0 : w17.cell? ⟨gb656, 0, none⟩ = some (.slice A0_0 l0_0.length c0_0) := (blk_cell BK656.out 0).trans rfl; have hcz18_1 : w17.cell? ⟨gb656, 1, none⟩ = some (.slice A0_1 l0_1.length c0_1) := (blk_cell BK656.out 1).trans rfl; have hcz18_2 : w17.cell? ⟨gb656, 2, none⟩ = some (.slice A0_2 l0_2.length c0_2) := (blk_cell BK656.out 2).trans rfl; have hfz18_0 := blk_frozen BK656.out 0; have hfz18_1 := blk_frozen BK656.out 1; have hfz18_2 := blk_frozen BK656.out 2) | ((with_reducible refine gate_callee (f := 46) rfl ?_); refine goesL_ (some 15) rfl rfl Try.func46 (by kernel_rfl) rfl #[.agg #[.slice A0_0 l0_0.length c0_0, .slice A0_1 l0_1.length c0_1, .slice A0_2 l0_2.length c0_2]] rfl (by (try simp only [List.map_toArray, List.map_cons, List.map_nil]); first | done | rfl | (simp only [List.length_drop, List.length_take]; rfl)) ?_; (with_reducible refine (impl_distances.calls _ _ l0_0 _ _ l0_1 _ _ l0_2 t658 _ ?side1 ?side2 ?side3 ?side4 ?side5 ?side6 A5.out).mono ?_); (case side1 => exact cl (Kd.C_below HR0_0.out HB.out)); (case side2 => exact HC0_0.out); (case side3 => exact cl (Kd.C_below HR0_1.out HB.out)); (case side4 => exact HC0_1.out); (case side5 => exact cl (Kd.C_below HR0_2.out HB.out)); (case side6 => exact HC0_2.out); rintro e w19 ⟨v659, rfl, ho0, hb⟩; refine ⟨_, rfl, ?_⟩; have HO660 := am (Kd.R_lower ho0 (below_size (bs1 GE656.out HB.out))); replace BK656 := am (blk_below (g := gb656) (o := .cells #[.slice A0_0 l0_0.length c0_0, .slice A0_1 l0_1.length c0_1, .slice A0_2 l0_2.length c0_2] 25 (0, 0)) (kl BK656.out) hb); replace HB := am (below_step (bs1 GE656.out HB.out) hb); (try clear hb); (try clear hb2); (try clear hk); (try clear hi); (try clear ho0); obtain ⟨Ao20, co20, eo20⟩ := Kd.R_slice HO660.out; subst eo20; have p661 : 0 ≤ (a1 : Int) := of_decide_eq_true (by first | (with_reducible assumption) | assumption); have q661 : a1 < (t658.length : Int) := of_decide_eq_true (by first | (with_reducible assumption) | assumption); obtain ⟨ad661, e661, hx661_0⟩ := Kd.at_int (Kd.R_reads' HO660.out).2.2 a1 p661 q661; cases e661; replace p661 := eq_true p661; replace q661 := eq_true q661) | ((with_reducible refine gate_dst (N := 22) rfl ?_); refine Kd.R_lit (Kd.int .i64) _ 3 ?hg (N := 22) ?hd (xs := ([a1] : List Int)) (inner := [.int .i64 a1]) (ok := fun _ => True) (okp := fun _ => True) ?hr ?hp (fun _ hk => hk) trivial (Below.refl _ _) (Nat.le_refl _) (by simp) ?_; (case hd => rfl); (case hg => rfl); (case hr => first | (go_simp; done) | (go_simp; rfl)); (case hp => exact (Reps.one (show Kd.M (Kd.int .i64) _ _ _ a1 [.int .i64 a1] from rfl) (Reps.none _ _))); intro v663 w21 ho22 hb hg_ hnew_; clear hg_ hnew_; (first | rw [← Ny662.out] at ho22 | (simp only [Int.reduceToNat] at ho22; rw [← Ny662.out] at ho22)); have HO664 := am (Kd.R_lower (Kd.R_new' ho22 (Kd.R_lt (rl HO660.out))) (below_size (bs1 GE656.out HB.out))); replace HO660 := am (Kd.R_elder' (rl HO660.out) (Kd.R_base ho22) hb); replace BK656 := am (blk_below (g := gb656) (o := .cells #[.slice A0_0 l0_0.length c0_0, .slice A0_1 l0_1.length c0_1, .slice A0_2 l0_2.length c0_2] 25 (0, 0)) (kl BK656.out) hb); replace HB := am (below_step (bs1 GE656.out HB.out) hb); clear hb ho22))
     go_loopg [7] k (fun kq v7 w' => ∃ (x7_1 : List Int), Aside0 (impl_PathTo.l0 kq t658 x7_1 l0_0 l0_1 l0_2 = some (r1, r2)) ∧ Aside0 (kq ≤ k) ∧ Aside0 (Kd.R (Kd.int .i64) 3 w' w.heap.size (fun k_ => some k_ ≠ (v7 : Value).ownBlock) (.slice (some ad661) t658.length co20) t658) ∧ Aside0 (Kd.R (Kd.int .i64) 3 w' w.heap.size (fun k_ => some k_ ≠ ((.slice (some ad661) t658.length co20) : Value).ownBlock) v7 x7_1) ∧ Aside0 (w'.heap[gb656]? = some (.cells #[(.slice A0_0 l0_0.length c0_0), (.slice A0_1 l0_1.length c0_1), (.slice A0_2 l0_2.length c0_2)] 25 (0, 0))) ∧ Aside0 (Below w.heap.size w w'))
     case atStart => exact ⟨(y662), H', ⟨Nat.le_refl _⟩, ⟨rl (Kd.R_mono HO660.out (fun _ hk => by first | exact hk.2 | (simp only [ne_eq] at hk ⊢; simp only [hk, not_false_eq_true, and_self])))⟩, ⟨rl (Kd.R_mono HO664.out (fun _ hk => by first | exact hk.2 | (simp only [ne_eq] at hk ⊢; simp only [hk, not_false_eq_true, and_self])))⟩, ⟨kl BK656.out⟩, ⟨by exact bs1 GE656.out HB.out⟩⟩
     case round =>
      clear H'
      try clear c2
      try clear p2
      try clear c4
      try clear c6
      try clear c6b0
      try clear p6
      try clear q6
      try clear hx6
      try clear c7
      try clear c7b0
      try clear c8
      try clear c8b0
      try clear c8b1
      try clear hcz10_0
      try clear hcz10_1
      try clear hcz10_2
      try clear hcz12_0
      try clear hcz12_1
      try clear hcz12_2
      try clear hcz16_0
      try clear hcz16_1
      try clear hcz16_2
      try clear hcz18_0
      try clear hcz18_1
      try clear hcz18_2
      try clear hfz10_0
      try clear hfz10_1
      try clear hfz10_2
      try clear hfz12_0
      try clear hfz12_1
      try clear hfz12_2
      try clear hfz16_0
      try clear hfz16_1
      try clear hfz16_2
      try clear hfz18_0
      try clear hfz18_1
      try clear hfz18_2
      try clear hx661_0
      try clear p661
      try clear q661
      obtain ⟨x7_1, HA, HK1, HO_6, HO_7, BK656, HB⟩ := hrel
      cases gk with
      | zero => exact absurd HA.out (by simp [impl_PathTo.l0])
      | succ k1 =>
       have H := HA.out
       clear HA
       simp only [impl_PathTo.l0] at H
       by_cases c23 : 0 < (x7_1.length : Int)
       ·rw [if_pos c23] at H
        have c23b0 : decide (0 < (x7_1.length : Int)) = true := decide_eq_true c23
        have c23b1 : decide (0 < x7_1.length) = true := decide_eq_true (by omega)
        clear c23
        by_cases c24 : 0 ≤ (rd x7_1 0)
        ·rw [if_pos c24] at H
         have c24b0 : decide (0 ≤ (rd x7_1 0)) = true := decide_eq_true c24
         clear c24
         by_cases c25 : (rd x7_1 0) < (t658.length : Int)
         ·rw [if_pos c25] at H
          have c25b0 : decide ((rd x7_1 0) < (t658.length : Int)) = true := decide_eq_true c25
          clear c25
          by_cases c26 : (rd t658 (rd x7_1 0)) > 1
          ·rw [if_pos c26] at H
           have c26b0 : decide (1 < (rd t658 (rd x7_1 0))) = true := decide_eq_true c26
           clear c26
           replace H := Option.bind_eq_some_iff.mp H
           obtain ⟨t668, A270, H⟩ := H
           replace H : (impl_PathTo.l1 k1 t658 x7_1 t668 (t668.length : Int) 0 l0_0 l0_1 l0_2) = some (r1, r2) := H
           have A27 := am A270
           clear A270
           have H' := am H
           clear H
           obtain ⟨Ao28, co28, eo28⟩ := Kd.R_slice HO_7.out
           subst eo28
           have p665 : 0 ≤ (0 : Int) := (by omega)
           have q665 : 0 < (x7_1.length : Int) := of_decide_eq_true (by first | (with_reducible assumption) | assumption)
           obtain ⟨ad665, e665, hx665_0⟩ := Kd.at_int (Kd.R_reads' HO_7.out).2.2 0 p665 q665
           cases e665
           have qi665 : (0 < x7_1.length) = True := eq_true (by omega)
           (try rw [show ((0 : Int)).toNat = 0 from rfl] at hx665_0)
           (try rw [Addr.add_zero'] at hx665_0)
           replace p665 := eq_true p665
           replace q665 := eq_true q665
           have p666 : 0 ≤ ((rd x7_1 0) : Int) := of_decide_eq_true (by first | (with_reducible assumption) | assumption)
           have q666 : (rd x7_1 0) < (t658.length : Int) := of_decide_eq_true (by first | (with_reducible assumption) | assumption)
           obtain ⟨ad666, e666, hx666_0⟩ := Kd.at_int (Kd.R_reads' HO_6.out).2.2 (rd x7_1 0) p666 q666
           obtain rfl : ad661 = ad666 := (by injection e666)
           replace p666 := eq_true p666
           replace q666 := eq_true q666
           try go_wp2
           replace HO_6 := am (Kd.R_drew HO_6.out)
           replace HO_7 := am (Kd.R_drew HO_7.out)
           replace BK656 := am (blk_drew BK656.out)
           replace HB := am (below_drew1 HB.out)
           have p667 : 0 ≤ (0 : Int) := (by omega)
           have q667 : 0 < (x7_1.length : Int) := of_decide_eq_true (by first | (with_reducible assumption) | assumption)
           obtain ⟨ad667, e667, hx667_0⟩ := Kd.at_int (Kd.R_reads' HO_7.out).2.2 0 p667 q667
           obtain rfl : ad665 = ad667 := (by injection e667)
           have qi667 : (0 < x7_1.length) = True := eq_true (by omega)
           (try rw [show ((0 : Int)).toNat = 0 from rfl] at hx667_0)
           (try rw [Addr.add_zero'] at hx667_0)
           replace p667 := eq_true p667
           replace q667 := eq_true q667
           refine start_ (n := 7) (S := fun w' => w'.cell? ⟨gb656, 0, none⟩ = some (.slice A0_0 l0_0.length c0_0) ∧ w'.cell? ⟨gb656, 1, none⟩ = some (.slice A0_1 l0_1.length c0_1) ∧ w'.cell? ⟨gb656, 2, none⟩ = some (.slice A0_2 l0_2.length c0_2) ∧ w'.cell? ad665 = some (.int .i64 (rd x7_1 0))) (ds := []) #[false, false, false, false, false, false, false] (by kernel_rfl) rfl rfl ⟨(blk_cell BK656.out 0).trans rfl, (blk_cell BK656.out 1).trans rfl, (blk_cell BK656.out 2).trans rfl, hx667_0⟩ (fun hHeld => ?_)
           generalize wr.drew = w29 at HO_6 HO_7 BK656 HB hx667_0 hHeld ⊢
           refine pure_ (i := 1) (N := some 31) (v := ?_) (a' := ?_) #[false, true, false, false, false, false, false] rfl rfl (by kernel_rfl) (fun _ _ _ h => h) (Or.inl ⟨by rfl, ?_⟩) ?_ ?_
           rotate_left
           ·intro w'
            go_simp
            with_reducible rfl
           rotate_left
           ·simp only [Act.put, List.setIfInBounds_toArray, List.set_cons_zero, List.set_cons_succ, i64_w, i32_w]
            rfl
           refine pure_ (i := 2) (N := some 32) (v := ?_) (a' := ?_) #[false, true, true, false, false, false, false] rfl rfl (by kernel_rfl) (fun _ _ _ h => h) (Or.inl ⟨by rfl, ?_⟩) ?_ ?_
           rotate_left
           ·intro w'
            go_simp
            with_reducible rfl
           rotate_left
           ·simp only [Act.put, List.setIfInBounds_toArray, List.set_cons_zero, List.set_cons_succ, i64_w, i32_w]
            rfl
           refine pure_ (i := 6) (N := some 36) (v := ?_) (a' := ?_) #[false, true, true, false, false, false, true] rfl rfl (by kernel_rfl) (fun _ _ _ h => h) (Or.inl ⟨by rfl, ?_⟩) ?_ ?_
           rotate_left
           ·intro w'
            go_simp
            with_reducible rfl
           rotate_left
           ·simp only [Act.put, List.setIfInBounds_toArray, List.set_cons_zero, List.set_cons_succ, i64_w, i32_w]
            rfl
           refine take_ (i := 0) (N := some 30) (v := ?_) (a' := ?_) #[true, true, true, false, false, false, true] rfl rfl (by kernel_rfl) (fun _ _ _ h => h) (Or.inl ⟨by rfl, ?_⟩) hHeld ?_ ?_
           rotate_left
           ·rintro w' ⟨s0, s1, s2, s3⟩
            go_simp
            with_reducible rfl
           rotate_left
           ·simp only [Act.put, List.setIfInBounds_toArray, List.set_cons_zero, List.set_cons_succ, i64_w, i32_w]
            rfl
           refine take_ (i := 3) (N := some 33) (v := ?_) (a' := ?_) #[true, true, true, true, false, false, true] rfl rfl (by kernel_rfl) (fun _ _ _ h => h) (Or.inl ⟨by rfl, ?_⟩) hHeld ?_ ?_
           rotate_left
           ·rintro w' ⟨s0, s1, s2, s3⟩
            go_simp
            with_reducible rfl
           rotate_left
           ·simp only [Act.put, List.setIfInBounds_toArray, List.set_cons_zero, List.set_cons_succ, i64_w, i32_w]
            rfl
           refine one_ (i := 4) (N := some 34) #[true, true, true, true, true, false, true] rfl rfl (by kernel_rfl) (by decide) (fun K hK => ?_)
           refine goes_ Try.func48 (by kernel_rfl) rfl #[.agg #[.slice A0_0 l0_0.length c0_0, .slice A0_1 l0_1.length c0_1, .slice A0_2 l0_2.length c0_2], .int .i64 (rd x7_1 0)] (by rfl) rfl rfl (by (try simp only [List.map_toArray, List.map_cons, List.map_nil]); first | done | rfl | (simp only [List.length_drop, List.length_take]; rfl)) ?_
           with_reducible refine (impl_SourcesOf.calls k1 _ _ l0_0 _ _ l0_1 _ _ l0_2 (rd x7_1 0) t668 _ ?side1 ?side2 ?side3 ?side4 ?side5 ?side6 A27.out).mono ?_
           (case side1 => exact cl (Kd.C_below HR0_0.out HB.out))
           (case side2 => exact HC0_0.out)
           (case side3 => exact cl (Kd.C_below HR0_1.out HB.out))
           (case side4 => exact HC0_1.out)
           (case side5 => exact cl (Kd.C_below HR0_2.out HB.out))
           (case side6 => exact HC0_2.out)
           rintro e w30 ⟨v669, rfl, ho0, hb⟩
           have HS3_ := (hb.cell (World.block_lt_of_cell? _ _ (hHeld.2.2.2))).trans (hHeld.2.2.2)
           refine ⟨_, rfl, ?_⟩
           have HO670 := am (Kd.R_lower (Kd.R_new' (Kd.R_new' ho0 (Kd.R_lt (rl HO_6.out))) (Kd.R_lt (rl HO_7.out))) (below_size (bs1 GE656.out HB.out)))
           replace HO_6 := am (Kd.R_elder' (rl HO_6.out) (Kd.R_base ho0) hb)
           replace HO_7 := am (Kd.R_elder' (rl HO_7.out) (Kd.R_base ho0) hb)
           replace BK656 := am (blk_below (g := gb656) (o := .cells #[.slice A0_0 l0_0.length c0_0, .slice A0_1 l0_1.length c0_1, .slice A0_2 l0_2.length c0_2] 25 (0, 0)) (kl BK656.out) hb)
           replace HB := am (below_step (bs1 GE656.out HB.out) hb)
           (try clear hb)
           (try clear hb2)
           (try clear hk)
           (try clear hi)
           (try clear ho0)
           obtain ⟨Ao31, co31, eo31⟩ := Kd.R_slice HO670.out
           (first | subst eo31 | (injection eo31 with f1_ f2_ f3_; have f4_ := f1_.symm; have f5_ := f3_.symm; clear f1_ f2_ f3_; subst f4_; subst f5_))
           refine hK.out _ _ ⟨(blk_cell BK656.out 0).trans rfl, (blk_cell BK656.out 1).trans rfl, (blk_cell BK656.out 2).trans rfl, HS3_⟩ (fun hHeld => ?_)
           clear hK K
           refine norm_ (a' := ?_) ?_ ?_
           rotate_left
           ·show Act.put _ (some 34) _ = _
            simp only [Act.put, List.setIfInBounds_toArray, List.set_cons_zero, List.set_cons_succ, i64_w, i32_w]
            rfl
           refine pure_ (i := 5) (N := some 35) (v := ?_) (a' := ?_) #[true, true, true, true, true, true, true] rfl rfl (by kernel_rfl) (fun _ _ _ h => h) (Or.inl ⟨by rfl, ?_⟩) ?_ ?_
           rotate_left
           ·intro w'
            go_simp
            with_reducible rfl
           rotate_left
           ·simp only [Act.put, List.setIfInBounds_toArray, List.set_cons_zero, List.set_cons_succ, i64_w, i32_w]
            rfl
           refine done_ (by kernel_rfl) ?_
           try go_wp2
           go_loopg [7, 36] k1 (fun kq v7 v36 w' => ∃ (x7_2 : List Int) (x36_2 : Int), v36 = .int .i64 x36_2 ∧ Aside0 (impl_PathTo.l1 kq t658 x7_2 t668 (t668.length : Int) x36_2 l0_0 l0_1 l0_2 = some (r1, r2)) ∧ Aside0 (kq ≤ k1) ∧ Aside0 (Kd.R (Kd.int .i64) 3 w' w.heap.size (fun k_ => some k_ ≠ (v7 : Value).ownBlock ∧ some k_ ≠ ((.slice Ao31 t668.length co31) : Value).ownBlock) (.slice (some ad661) t658.length co20) t658) ∧ Aside0 (Kd.R (Kd.int .i64) 3 w' w.heap.size (fun k_ => some k_ ≠ ((.slice (some ad661) t658.length co20) : Value).ownBlock ∧ some k_ ≠ ((.slice Ao31 t668.length co31) : Value).ownBlock) v7 x7_2) ∧ Aside0 (Kd.R (Kd.int .i64) 3 w' w.heap.size (fun k_ => some k_ ≠ ((.slice (some ad661) t658.length co20) : Value).ownBlock ∧ some k_ ≠ (v7 : Value).ownBlock) (.slice Ao31 t668.length co31) t668) ∧ Aside0 (w'.heap[gb656]? = some (.cells #[(.slice A0_0 l0_0.length c0_0), (.slice A0_1 l0_1.length c0_1), (.slice A0_2 l0_2.length c0_2)] 25 (0, 0))) ∧ Aside0 (Below w.heap.size w w'))
           case atStart => exact ⟨(x7_1), (0), (by first | rfl | (simp; done) | (simp [*]; done)), H', ⟨Nat.le_refl _⟩, ⟨rl HO_6.out⟩, ⟨rl HO_7.out⟩, ⟨rl (Kd.R_mono HO670.out (fun _ hk => by first | exact ⟨hk.1.2, hk.2⟩ | (simp only [ne_eq] at hk ⊢; simp only [hk, not_false_eq_true, and_self])))⟩, ⟨kl BK656.out⟩, ⟨by exact bs1 GE656.out HB.out⟩⟩
           case round =>
            clear H'
            try clear c2
            try clear p2
            try clear c4
            try clear c6
            try clear c6b0
            try clear p6
            try clear q6
            try clear hx6
            try clear qi6
            try clear c7
            try clear c7b0
            try clear c8
            try clear c8b0
            try clear c8b1
            try clear c23
            try clear c23b0
            try clear c23b1
            try clear c24
            try clear c24b0
            try clear c25
            try clear c25b0
            try clear c26
            try clear c26b0
            try clear c28
            try clear hcz10_0
            try clear hcz10_1
            try clear hcz10_2
            try clear hcz12_0
            try clear hcz12_1
            try clear hcz12_2
            try clear hcz16_0
            try clear hcz16_1
            try clear hcz16_2
            try clear hcz18_0
            try clear hcz18_1
            try clear hcz18_2
            try clear hfz10_0
            try clear hfz10_1
            try clear hfz10_2
            try clear hfz12_0
            try clear hfz12_1
            try clear hfz12_2
            try clear hfz16_0
            try clear hfz16_1
            try clear hfz16_2
            try clear hfz18_0
            try clear hfz18_1
            try clear hfz18_2
            try clear hx661_0
            try clear hx665_0
            try clear hx666_0
            try clear hx667_0
            try clear p2
            try clear p6
            try clear p661
            try clear p665
            try clear p666
            try clear p667
            try clear q6
            try clear q661
            try clear q665
            try clear q666
            try clear q667
            obtain ⟨x7_2, x36_2, rfl, HA, HK2, HO_6, HO_7, HO_34, BK656, HB⟩ := hrel
            cases gk with
            | zero => exact absurd HA.out (by simp [impl_PathTo.l1])
            | succ k2 =>
             have H := HA.out
             clear HA
             simp only [impl_PathTo.l1] at H
             by_cases c32 : x36_2 < (t668.length : Int)
             ·rw [if_pos c32] at H
              have c32b0 : decide (x36_2 < (t668.length : Int)) = true := decide_eq_true c32
              clear c32
              by_cases c33 : 0 ≤ x36_2
              ·rw [if_pos c33] at H
               have c33b0 : decide (0 ≤ x36_2) = true := decide_eq_true c33
               clear c33
               by_cases c34 : x36_2 < (t668.length : Int)
               ·rw [if_pos c34] at H
                have c34b0 : decide (x36_2 < (t668.length : Int)) = true := decide_eq_true c34
                clear c34
                by_cases c35 : 0 ≤ (rd t668 x36_2)
                ·rw [if_pos c35] at H
                 have c35b0 : decide (0 ≤ (rd t668 x36_2)) = true := decide_eq_true c35
                 clear c35
                 by_cases c36 : (rd t668 x36_2) < (t658.length : Int)
                 ·rw [if_pos c36] at H
                  have c36b0 : decide ((rd t668 x36_2) < (t658.length : Int)) = true := decide_eq_true c36
                  clear c36
                  by_cases c37 : 0 < (x7_2.length : Int)
                  ·rw [if_pos c37] at H
                   have c37b0 : decide (0 < (x7_2.length : Int)) = true := decide_eq_true c37
                   have c37b1 : decide (0 < x7_2.length) = true := decide_eq_true (by omega)
                   clear c37
                   by_cases c38 : 0 ≤ (rd x7_2 0)
                   ·rw [if_pos c38] at H
                    have c38b0 : decide (0 ≤ (rd x7_2 0)) = true := decide_eq_true c38
                    clear c38
                    by_cases c39 : (rd x7_2 0) < (t658.length : Int)
                    ·rw [if_pos c39] at H
                     have c39b0 : decide ((rd x7_2 0) < (t658.length : Int)) = true := decide_eq_true c39
                     clear c39
                     by_cases c40 : (rd t658 (rd t668 x36_2)) = (wrap64 ((rd t658 (rd x7_2 0)) - 1))
                     ·rw [if_pos c40] at H
                      have c40b0 : ((rd t658 (rd t668 x36_2)) == (wrap64 ((rd t658 (rd x7_2 0)) - 1))) = true := beq_iff_eq.mpr c40
                      have c40b1 : ((rd t658 (rd t668 x36_2)) != (wrap64 ((rd t658 (rd x7_2 0)) - 1))) = false := bne_eq_false_iff_eq.mpr c40
                      clear c40
                      obtain ⟨y675, hy675⟩ : ∃ y_ : List Int, y_ = (([rd t668 x36_2] : List Int)) := ⟨_, rfl⟩
                      replace H : (if y675.length + x7_2.length < 17592186044416 then (impl_PathTo.l0 k2 t658 (y675 ++ x7_2) l0_0 l0_1 l0_2) else (none)) = some (r1, r2) := by first | (rw [hy675]; with_reducible exact H) | (have H2_ := (Option.bind_some _ _).symm.trans H; rw [hy675]; with_reducible exact H2_) | (have H2_ := (Option.bind_some _ _).symm.trans H; with_reducible exact H2_) | with_reducible exact H | (rw [hy675]; exact H) | exact H
                      have Ny675 := am hy675
                      clear hy675
                      by_cases c41 : y675.length + x7_2.length < 17592186044416
                      ·rw [if_pos c41] at H
                       have LMc41 := am c41
                       clear c41
                       obtain ⟨y678, hy678⟩ : ∃ y_ : List Int, y_ = (y675 ++ x7_2) := ⟨_, rfl⟩
                       replace H : (impl_PathTo.l0 k2 t658 y678 l0_0 l0_1 l0_2) = some (r1, r2) := by first | (rw [hy678]; with_reducible exact H) | (have H2_ := (Option.bind_some _ _).symm.trans H; rw [hy678]; with_reducible exact H2_) | (have H2_ := (Option.bind_some _ _).symm.trans H; with_reducible exact H2_) | with_reducible exact H | (rw [hy678]; exact H) | exact H
                       have Ny678 := am hy678
                       clear hy678
                       have H' := am H
                       clear H
                       have p671 : 0 ≤ (x36_2 : Int) := of_decide_eq_true (by first | (with_reducible assumption) | assumption)
                       have q671 : x36_2 < (t668.length : Int) := of_decide_eq_true (by first | (with_reducible assumption) | assumption)
                       obtain ⟨ad671, e671, hx671_0⟩ := Kd.at_int (Kd.R_reads' HO_34.out).2.2 x36_2 p671 q671
                       cases e671
                       replace p671 := eq_true p671
                       replace q671 := eq_true q671
                       try go_wp2
                       replace HO_6 := am (Kd.R_drew HO_6.out)
                       replace HO_7 := am (Kd.R_drew HO_7.out)
                       replace HO_34 := am (Kd.R_drew HO_34.out)
                       replace BK656 := am (blk_drew BK656.out)
                       replace HB := am (below_drew1 HB.out)
                       have p672 : 0 ≤ ((rd t668 x36_2) : Int) := of_decide_eq_true (by first | (with_reducible assumption) | assumption)
                       have q672 : (rd t668 x36_2) < (t658.length : Int) := of_decide_eq_true (by first | (with_reducible assumption) | assumption)
                       obtain ⟨ad672, e672, hx672_0⟩ := Kd.at_int (Kd.R_reads' HO_6.out).2.2 (rd t668 x36_2) p672 q672
                       obtain rfl : ad661 = ad672 := (by injection e672)
                       replace p672 := eq_true p672
                       replace q672 := eq_true q672
                       obtain ⟨Ao43, co43, eo43⟩ := Kd.R_slice HO_7.out
                       (first | subst eo43 | (injection eo43 with f1_ f2_ f3_; have f4_ := f1_.symm; have f5_ := f3_.symm; clear f1_ f2_ f3_; subst f4_; subst f5_))
                       have p673 : 0 ≤ (0 : Int) := (by omega)
                       have q673 : 0 < (x7_2.length : Int) := of_decide_eq_true (by first | (with_reducible assumption) | assumption)
                       obtain ⟨ad673, e673, hx673_0⟩ := Kd.at_int (Kd.R_reads' HO_7.out).2.2 0 p673 q673
                       cases e673
                       have qi673 : (0 < x7_2.length) = True := eq_true (by omega)
                       (try rw [show ((0 : Int)).toNat = 0 from rfl] at hx673_0)
                       (try rw [Addr.add_zero'] at hx673_0)
                       replace p673 := eq_true p673
                       replace q673 := eq_true q673
                       have p674 : 0 ≤ ((rd x7_2 0) : Int) := of_decide_eq_true (by first | (with_reducible assumption) | assumption)
                       have q674 : (rd x7_2 0) < (t658.length : Int) := of_decide_eq_true (by first | (with_reducible assumption) | assumption)
                       obtain ⟨ad674, e674, hx674_0⟩ := Kd.at_int (Kd.R_reads' HO_6.out).2.2 (rd x7_2 0) p674 q674
                       obtain rfl : ad661 = ad674 := (by injection e674)
                       replace p674 := eq_true p674
                       replace q674 := eq_true q674
                       refine start_ (n := 12) (S := fun w' => w'.cell? (ad661.add ((rd t668 x36_2)).toNat) = some (.int .i64 (rd t658 (rd t668 x36_2))) ∧ w'.cell? ad673 = some (.int .i64 (rd x7_2 0)) ∧ w'.cell? (ad661.add ((rd x7_2 0)).toNat) = some (.int .i64 (rd t658 (rd x7_2 0)))) (ds := []) #[false, false, false, false, false, false, false, false, false, false, false, false] (by kernel_rfl) rfl rfl ⟨hx672_0, hx673_0, hx674_0⟩ (fun hHeld => ?_); refine with_tabW impl_PathTo.tab11 impl_PathTo.bits11 (fun HT_ HW_ => ?_)
                       generalize wr.drew = w42 at HO_6 HO_7 HO_34 BK656 HB hx672_0 hx673_0 hx674_0 hHeld ⊢
                       refine pure_ (i := 0) (N := some 40) (v := ?_) (a' := ?_) #[true, false, false, false, false, false, false, false, false, false, false, false] rfl rfl (any_of HT_.out (by kernel_rfl)) (fun _ _ _ h => h) (Or.inl ⟨by rfl, ?_⟩) ?_ ?_
                       rotate_left
                       ·intro w'
                        go_simp
                        with_reducible rfl
                       rotate_left
                       ·simp only [Act.put, List.setIfInBounds_toArray, List.set_cons_zero, List.set_cons_succ, i64_w, i32_w]
                        rfl
                       refine pure_ (i := 1) (N := some 41) (v := ?_) (a' := ?_) #[true, true, false, false, false, false, false, false, false, false, false, false] rfl rfl (any_of HT_.out (by kernel_rfl)) (fun _ _ _ h => h) (Or.inl ⟨by rfl, ?_⟩) ?_ ?_
                       rotate_left
                       ·intro w'
                        go_simp
                        with_reducible rfl
                       rotate_left
                       ·simp only [Act.put, List.setIfInBounds_toArray, List.set_cons_zero, List.set_cons_succ, i64_w, i32_w]
                        rfl
                       refine pure_ (i := 2) (N := some 42) (v := ?_) (a' := ?_) #[true, true, true, false, false, false, false, false, false, false, false, false] rfl rfl (any_of HT_.out (by kernel_rfl)) (fun _ _ _ h => h) (Or.inl ⟨by rfl, ?_⟩) ?_ ?_
                       rotate_left
                       ·intro w'
                        go_simp
                        with_reducible rfl
                       rotate_left
                       ·simp only [Act.put, List.setIfInBounds_toArray, List.set_cons_zero, List.set_cons_succ, i64_w, i32_w]
                        rfl
                       refine pure_ (i := 4) (N := some 44) (v := ?_) (a' := ?_) #[true, true, true, false, true, false, false, false, false, false, false, false] rfl rfl (any_of HT_.out (by kernel_rfl)) (fun _ _ _ h => h) (Or.inl ⟨by rfl, ?_⟩) ?_ ?_
                       rotate_left
                       ·intro w'
                        go_simp
                        with_reducible rfl
                       rotate_left
                       ·simp only [Act.put, List.setIfInBounds_toArray, List.set_cons_zero, List.set_cons_succ, i64_w, i32_w]
                        rfl
                       refine pure_ (i := 5) (N := some 45) (v := ?_) (a' := ?_) #[true, true, true, false, true, true, false, false, false, false, false, false] rfl rfl (any_of HT_.out (by kernel_rfl)) (fun _ _ _ h => h) (Or.inl ⟨by rfl, ?_⟩) ?_ ?_
                       rotate_left
                       ·intro w'
                        go_simp
                        with_reducible rfl
                       rotate_left
                       ·simp only [Act.put, List.setIfInBounds_toArray, List.set_cons_zero, List.set_cons_succ, i64_w, i32_w]
                        rfl
                       refine pure_ (i := 6) (N := some 46) (v := ?_) (a' := ?_) #[true, true, true, false, true, true, true, false, false, false, false, false] rfl rfl (any_of HT_.out (by kernel_rfl)) (fun _ _ _ h => h) (Or.inl ⟨by rfl, ?_⟩) ?_ ?_
                       rotate_left
                       ·intro w'
                        go_simp
                        with_reducible rfl
                       rotate_left
                       ·simp only [Act.put, List.setIfInBounds_toArray, List.set_cons_zero, List.set_cons_succ, i64_w, i32_w]
                        rfl
                       refine take_ (i := 3) (N := some 43) (v := ?_) (a' := ?_) #[true, true, true, true, true, true, true, false, false, false, false, false] rfl rfl (take_ofW HT_.out HW_.out (by kernel_rfl)) (fun _ _ _ h => h) (Or.inl ⟨by rfl, ?_⟩) hHeld ?_ ?_
                       rotate_left
                       ·rintro w' ⟨s0, s1, s2⟩
                        go_simp
                        with_reducible rfl
                       rotate_left
                       ·simp only [Act.put, List.setIfInBounds_toArray, List.set_cons_zero, List.set_cons_succ, i64_w, i32_w]
                        rfl
                       refine take_ (i := 7) (N := some 47) (v := ?_) (a' := ?_) #[true, true, true, true, true, true, true, true, false, false, false, false] rfl rfl (take_ofW HT_.out HW_.out (by kernel_rfl)) (fun _ _ _ h => h) (Or.inl ⟨by rfl, ?_⟩) hHeld ?_ ?_
                       rotate_left
                       ·rintro w' ⟨s0, s1, s2⟩
                        go_simp
                        with_reducible rfl
                       rotate_left
                       ·simp only [Act.put, List.setIfInBounds_toArray, List.set_cons_zero, List.set_cons_succ, i64_w, i32_w]
                        rfl
                       refine pure_ (i := 8) (N := some 48) (v := ?_) (a' := ?_) #[true, true, true, true, true, true, true, true, true, false, false, false] rfl rfl (any_of HT_.out (by kernel_rfl)) (fun _ _ _ h => h) (Or.inl ⟨by rfl, ?_⟩) ?_ ?_
                       rotate_left
                       ·intro w'
                        go_simp
                        with_reducible rfl
                       rotate_left
                       ·simp only [Act.put, List.setIfInBounds_toArray, List.set_cons_zero, List.set_cons_succ, i64_w, i32_w]
                        rfl
                       refine take_ (i := 9) (N := some 49) (v := ?_) (a' := ?_) #[true, true, true, true, true, true, true, true, true, true, false, false] rfl rfl (take_ofW HT_.out HW_.out (by kernel_rfl)) (fun _ _ _ h => h) (Or.inl ⟨by rfl, ?_⟩) hHeld ?_ ?_
                       rotate_left
                       ·rintro w' ⟨s0, s1, s2⟩
                        go_simp
                        with_reducible rfl
                       rotate_left
                       ·simp only [Act.put, List.setIfInBounds_toArray, List.set_cons_zero, List.set_cons_succ, i64_w, i32_w]
                        rfl
                       refine pure_ (i := 10) (N := some 50) (v := ?_) (a' := ?_) #[true, true, true, true, true, true, true, true, true, true, true, false] rfl rfl (any_of HT_.out (by kernel_rfl)) (fun _ _ _ h => h) (Or.inl ⟨by rfl, ?_⟩) ?_ ?_
                       rotate_left
                       ·intro w'
                        go_simp
                        with_reducible rfl
                       rotate_left
                       ·simp only [Act.put, List.setIfInBounds_toArray, List.set_cons_zero, List.set_cons_succ, i64_w, i32_w]
                        rfl
                       refine pure_ (i := 11) (N := some 51) (v := ?_) (a' := ?_) #[true, true, true, true, true, true, true, true, true, true, true, true] rfl rfl (any_of HT_.out (by kernel_rfl)) (fun _ _ _ h => h) (Or.inl ⟨by rfl, ?_⟩) ?_ ?_
                       rotate_left
                       ·intro w'
                        go_simp
                        with_reducible rfl
                       rotate_left
                       ·simp only [Act.put, List.setIfInBounds_toArray, List.set_cons_zero, List.set_cons_succ, i64_w, i32_w]
                        rfl
                       refine done_ (done_of HT_.out (by kernel_rfl)) ?_
                       try go_wp2_with (first | ((with_reducible refine gate_dst (N := 53) rfl ?_); refine Kd.R_lit (Kd.int .i64) _ 3 ?hg (N := 53) ?hd (xs := ([rd t668 x36_2] : List Int)) (inner := [.int .i64 (rd t668 x36_2)]) (ok := fun _ => True) (okp := fun _ => True) ?hr ?hp (fun _ hk => hk) trivial (Below.refl _ _) (Nat.le_refl _) (by simp) ?_; (case hd => rfl); (case hg => rfl); (case hr => first | (go_simp; done) | (go_simp; rfl)); (case hp => exact (Reps.one (show Kd.M (Kd.int .i64) _ _ _ (rd t668 x36_2) [.int .i64 (rd t668 x36_2)] from rfl) (Reps.none _ _))); intro v676 w44 ho45 hb hg_ hnew_; clear hg_ hnew_; (first | rw [← Ny675.out] at ho45 | (simp only [Int.reduceToNat] at ho45; rw [← Ny675.out] at ho45)); have HO677 := am (Kd.R_lower (Kd.R_new' (Kd.R_new' (Kd.R_new' ho45 (Kd.R_lt (rl HO_6.out))) (Kd.R_lt (rl HO_7.out))) (Kd.R_lt (rl HO_34.out))) (below_size (bs1 GE656.out HB.out))); replace HO_6 := am (Kd.R_elder' (rl HO_6.out) (Kd.R_base ho45) hb); replace HO_7 := am (Kd.R_elder' (rl HO_7.out) (Kd.R_base ho45) hb); replace HO_34 := am (Kd.R_elder' (rl HO_34.out) (Kd.R_base ho45) hb); replace BK656 := am (blk_below (g := gb656) (o := .cells #[.slice A0_0 l0_0.length c0_0, .slice A0_1 l0_1.length c0_1, .slice A0_2 l0_2.length c0_2] 25 (0, 0)) (kl BK656.out) hb); replace HB := am (below_step (bs1 GE656.out HB.out) hb); clear hb ho45) | ((with_reducible refine gate_builtin (b := .append) (xs := #[.tmp 53, .tmp 54]) rfl ?_); at_builtin; refine Kd.R_append_rows (Kd.int .i64) (w0 := w) w.heap.size rfl (.tmp 53) (.tmp 54) 23 3 (.int .i64 0) 8 rfl Try.underlying23 info3 rfl (by decide) (by omega) v676 y675 x7_2 _ _ _ (fun k_ => some k_ ≠ (.slice (some ad661) t658.length co20 : Value).ownBlock ∧ some k_ ≠ (.slice (some ad673) x7_2.length co43 : Value).ownBlock ∧ some k_ ≠ (.slice (some ad671) t668.length co31 : Value).ownBlock) (fun _ => False) rfl rfl ?aO ?aR (fun _ _ h => h) (fun _ h => h.elim) ?aF ?aB ?aS ?aL ?_; (case aR => exact cl ((Kd.R_reads' HO_7.out).2.2)); (case aB => exact (bs1 GE656.out HB.out)); (case aF => exact (fun k_ hk => ⟨Kd.fresh' (Kd.R_lt (rl HO_6.out)) k_ hk, Kd.fresh' (Kd.R_lt (rl HO_7.out)) k_ hk, Kd.fresh' (Kd.R_lt (rl HO_34.out)) k_ hk⟩)); (case aO => exact (rl (Kd.R_mono HO677.out (fun _ hk => by first | exact ⟨hk.1.1.2, ⟨hk.1.2, hk.2⟩⟩ | (simp only [ne_eq] at hk ⊢; simp only [hk, not_false_eq_true, and_self]))))); (case aS => exact (below_size (bs1 GE656.out HB.out))); (case aL => have := LMc41.out; omega); intro v679 w46 ho hb hg hat; rw [← Ny678.out] at ho; replace HO_6 := am (Kd.R_after (ok := (fun k_ => some k_ ≠ (.slice (some ad673) x7_2.length co43 : Value).ownBlock ∧ some k_ ≠ (.slice (some ad671) t668.length co31 : Value).ownBlock)) (rl HO_6.out) hg hat); replace HO_7 := am (Kd.R_after (ok := (fun k_ => some k_ ≠ (.slice (some ad661) t658.length co20 : Value).ownBlock ∧ some k_ ≠ (.slice (some ad671) t668.length co31 : Value).ownBlock)) (rl HO_7.out) hg hat); replace HO_34 := am (Kd.R_after (ok := (fun k_ => some k_ ≠ (.slice (some ad661) t658.length co20 : Value).ownBlock ∧ some k_ ≠ (.slice (some ad673) x7_2.length co43 : Value).ownBlock)) (rl HO_34.out) hg hat); replace BK656 := am (blk_grown (g := gb656) (o := .cells #[.slice A0_0 l0_0.length c0_0, .slice A0_1 l0_1.length c0_1, .slice A0_2 l0_2.length c0_2] 25 (0, 0)) (kl BK656.out) hg (Kd.R_ne HO677.out BK656.out (by decide))); replace HB := am (hb); have HO680 := am (ho); clear HO677; clear ho hb hg hat))
                       go_roundg k2
                       case measure => have := HK1.out; have := HK2.out; omega
                       case rel => exact ⟨(y678), H', ⟨by have := HK1.out; have := HK2.out; omega⟩, ⟨rl (Kd.R_mono HO_6.out (fun _ hk => by first | exact hk.2 | (simp only [ne_eq] at hk ⊢; simp only [hk, not_false_eq_true, and_self])))⟩, ⟨rl (Kd.R_mono HO680.out (fun _ hk => by first | exact hk.1 | (simp only [ne_eq] at hk ⊢; simp only [hk, not_false_eq_true, and_self])))⟩, ⟨kl BK656.out⟩, ⟨by exact bs1 GE656.out HB.out⟩⟩
                      ·rw [if_neg c41] at H
                       exact absurd H (by simp)
                     ·rw [if_neg c40] at H
                      have c40b0 : ((rd t658 (rd t668 x36_2)) == (wrap64 ((rd t658 (rd x7_2 0)) - 1))) = false := beq_eq_false_iff_ne.mpr c40
                      have c40b1 : ((rd t658 (rd t668 x36_2)) != (wrap64 ((rd t658 (rd x7_2 0)) - 1))) = true := bne_iff_ne.mpr c40
                      have H' := am H
                      clear H
                      have p671 : 0 ≤ (x36_2 : Int) := of_decide_eq_true (by first | (with_reducible assumption) | assumption)
                      have q671 : x36_2 < (t668.length : Int) := of_decide_eq_true (by first | (with_reducible assumption) | assumption)
                      obtain ⟨ad671, e671, hx671_0⟩ := Kd.at_int (Kd.R_reads' HO_34.out).2.2 x36_2 p671 q671
                      cases e671
                      replace p671 := eq_true p671
                      replace q671 := eq_true q671
                      try go_wp2
                      replace HO_6 := am (Kd.R_drew HO_6.out)
                      replace HO_7 := am (Kd.R_drew HO_7.out)
                      replace HO_34 := am (Kd.R_drew HO_34.out)
                      replace BK656 := am (blk_drew BK656.out)
                      replace HB := am (below_drew1 HB.out)
                      have p672 : 0 ≤ ((rd t668 x36_2) : Int) := of_decide_eq_true (by first | (with_reducible assumption) | assumption)
                      have q672 : (rd t668 x36_2) < (t658.length : Int) := of_decide_eq_true (by first | (with_reducible assumption) | assumption)
                      obtain ⟨ad672, e672, hx672_0⟩ := Kd.at_int (Kd.R_reads' HO_6.out).2.2 (rd t668 x36_2) p672 q672
                      obtain rfl : ad661 = ad672 := (by injection e672)
                      replace p672 := eq_true p672
                      replace q672 := eq_true q672
                      obtain ⟨Ao48, co48, eo48⟩ := Kd.R_slice HO_7.out
                      (first | subst eo48 | (injection eo48 with f1_ f2_ f3_; have f4_ := f1_.symm; have f5_ := f3_.symm; clear f1_ f2_ f3_; subst f4_; subst f5_))
                      have p673 : 0 ≤ (0 : Int) := (by omega)
                      have q673 : 0 < (x7_2.length : Int) := of_decide_eq_true (by first | (with_reducible assumption) | assumption)
                      obtain ⟨ad673, e673, hx673_0⟩ := Kd.at_int (Kd.R_reads' HO_7.out).2.2 0 p673 q673
                      cases e673
                      have qi673 : (0 < x7_2.length) = True := eq_true (by omega)
                      (try rw [show ((0 : Int)).toNat = 0 from rfl] at hx673_0)
                      (try rw [Addr.add_zero'] at hx673_0)
                      replace p673 := eq_true p673
                      replace q673 := eq_true q673
                      have p674 : 0 ≤ ((rd x7_2 0) : Int) := of_decide_eq_true (by first | (with_reducible assumption) | assumption)
                      have q674 : (rd x7_2 0) < (t658.length : Int) := of_decide_eq_true (by first | (with_reducible assumption) | assumption)
                      obtain ⟨ad674, e674, hx674_0⟩ := Kd.at_int (Kd.R_reads' HO_6.out).2.2 (rd x7_2 0) p674 q674
                      obtain rfl : ad661 = ad674 := (by injection e674)
                      replace p674 := eq_true p674
                      replace q674 := eq_true q674
                      refine start_ (n := 12) (S := fun w' => w'.cell? (ad661.add ((rd t668 x36_2)).toNat) = some (.int .i64 (rd t658 (rd t668 x36_2))) ∧ w'.cell? ad673 = some (.int .i64 (rd x7_2 0)) ∧ w'.cell? (ad661.add ((rd x7_2 0)).toNat) = some (.int .i64 (rd t658 (rd x7_2 0)))) (ds := []) #[false, false, false, false, false, false, false, false, false, false, false, false] (by kernel_rfl) rfl rfl ⟨hx672_0, hx673_0, hx674_0⟩ (fun hHeld => ?_); refine with_tabW impl_PathTo.tab11 impl_PathTo.bits11 (fun HT_ HW_ => ?_)
                      generalize wr.drew = w47 at HO_6 HO_7 HO_34 BK656 HB hx672_0 hx673_0 hx674_0 hHeld ⊢
                      refine pure_ (i := 0) (N := some 40) (v := ?_) (a' := ?_) #[true, false, false, false, false, false, false, false, false, false, false, false] rfl rfl (any_of HT_.out (by kernel_rfl)) (fun _ _ _ h => h) (Or.inl ⟨by rfl, ?_⟩) ?_ ?_
                      rotate_left
                      ·intro w'
                       go_simp
                       with_reducible rfl
                      rotate_left
                      ·simp only [Act.put, List.setIfInBounds_toArray, List.set_cons_zero, List.set_cons_succ, i64_w, i32_w]
                       rfl
                      refine pure_ (i := 1) (N := some 41) (v := ?_) (a' := ?_) #[true, true, false, false, false, false, false, false, false, false, false, false] rfl rfl (any_of HT_.out (by kernel_rfl)) (fun _ _ _ h => h) (Or.inl ⟨by rfl, ?_⟩) ?_ ?_
                      rotate_left
                      ·intro w'
                       go_simp
                       with_reducible rfl
                      rotate_left
                      ·simp only [Act.put, List.setIfInBounds_toArray, List.set_cons_zero, List.set_cons_succ, i64_w, i32_w]
                       rfl
                      refine pure_ (i := 2) (N := some 42) (v := ?_) (a' := ?_) #[true, true, true, false, false, false, false, false, false, false, false, false] rfl rfl (any_of HT_.out (by kernel_rfl)) (fun _ _ _ h => h) (Or.inl ⟨by rfl, ?_⟩) ?_ ?_
                      rotate_left
                      ·intro w'
                       go_simp
                       with_reducible rfl
                      rotate_left
                      ·simp only [Act.put, List.setIfInBounds_toArray, List.set_cons_zero, List.set_cons_succ, i64_w, i32_w]
                       rfl
                      refine pure_ (i := 4) (N := some 44) (v := ?_) (a' := ?_) #[true, true, true, false, true, false, false, false, false, false, false, false] rfl rfl (any_of HT_.out (by kernel_rfl)) (fun _ _ _ h => h) (Or.inl ⟨by rfl, ?_⟩) ?_ ?_
                      rotate_left
                      ·intro w'
                       go_simp
                       with_reducible rfl
                      rotate_left
                      ·simp only [Act.put, List.setIfInBounds_toArray, List.set_cons_zero, List.set_cons_succ, i64_w, i32_w]
                       rfl
                      refine pure_ (i := 5) (N := some 45) (v := ?_) (a' := ?_) #[true, true, true, false, true, true, false, false, false, false, false, false] rfl rfl (any_of HT_.out (by kernel_rfl)) (fun _ _ _ h => h) (Or.inl ⟨by rfl, ?_⟩) ?_ ?_
                      rotate_left
                      ·intro w'
                       go_simp
                       with_reducible rfl
                      rotate_left
                      ·simp only [Act.put, List.setIfInBounds_toArray, List.set_cons_zero, List.set_cons_succ, i64_w, i32_w]
                       rfl
                      refine pure_ (i := 6) (N := some 46) (v := ?_) (a' := ?_) #[true, true, true, false, true, true, true, false, false, false, false, false] rfl rfl (any_of HT_.out (by kernel_rfl)) (fun _ _ _ h => h) (Or.inl ⟨by rfl, ?_⟩) ?_ ?_
                      rotate_left
                      ·intro w'
                       go_simp
                       with_reducible rfl
                      rotate_left
                      ·simp only [Act.put, List.setIfInBounds_toArray, List.set_cons_zero, List.set_cons_succ, i64_w, i32_w]
                       rfl
                      refine take_ (i := 3) (N := some 43) (v := ?_) (a' := ?_) #[true, true, true, true, true, true, true, false, false, false, false, false] rfl rfl (take_ofW HT_.out HW_.out (by kernel_rfl)) (fun _ _ _ h => h) (Or.inl ⟨by rfl, ?_⟩) hHeld ?_ ?_
                      rotate_left
                      ·rintro w' ⟨s0, s1, s2⟩
                       go_simp
                       with_reducible rfl
                      rotate_left
                      ·simp only [Act.put, List.setIfInBounds_toArray, List.set_cons_zero, List.set_cons_succ, i64_w, i32_w]
                       rfl
                      refine take_ (i := 7) (N := some 47) (v := ?_) (a' := ?_) #[true, true, true, true, true, true, true, true, false, false, false, false] rfl rfl (take_ofW HT_.out HW_.out (by kernel_rfl)) (fun _ _ _ h => h) (Or.inl ⟨by rfl, ?_⟩) hHeld ?_ ?_
                      rotate_left
                      ·rintro w' ⟨s0, s1, s2⟩
                       go_simp
                       with_reducible rfl
                      rotate_left
                      ·simp only [Act.put, List.setIfInBounds_toArray, List.set_cons_zero, List.set_cons_succ, i64_w, i32_w]
                       rfl
                      refine pure_ (i := 8) (N := some 48) (v := ?_) (a' := ?_) #[true, true, true, true, true, true, true, true, true, false, false, false] rfl rfl (any_of HT_.out (by kernel_rfl)) (fun _ _ _ h => h) (Or.inl ⟨by rfl, ?_⟩) ?_ ?_
                      rotate_left
                      ·intro w'
                       go_simp
                       with_reducible rfl
                      rotate_left
                      ·simp only [Act.put, List.setIfInBounds_toArray, List.set_cons_zero, List.set_cons_succ, i64_w, i32_w]
                       rfl
                      refine take_ (i := 9) (N := some 49) (v := ?_) (a' := ?_) #[true, true, true, true, true, true, true, true, true, true, false, false] rfl rfl (take_ofW HT_.out HW_.out (by kernel_rfl)) (fun _ _ _ h => h) (Or.inl ⟨by rfl, ?_⟩) hHeld ?_ ?_
                      rotate_left
                      ·rintro w' ⟨s0, s1, s2⟩
                       go_simp
                       with_reducible rfl
                      rotate_left
                      ·simp only [Act.put, List.setIfInBounds_toArray, List.set_cons_zero, List.set_cons_succ, i64_w, i32_w]
                       rfl
                      refine pure_ (i := 10) (N := some 50) (v := ?_) (a' := ?_) #[true, true, true, true, true, true, true, true, true, true, true, false] rfl rfl (any_of HT_.out (by kernel_rfl)) (fun _ _ _ h => h) (Or.inl ⟨by rfl, ?_⟩) ?_ ?_
                      rotate_left
                      ·intro w'
                       go_simp
                       with_reducible rfl
                      rotate_left
                      ·simp only [Act.put, List.setIfInBounds_toArray, List.set_cons_zero, List.set_cons_succ, i64_w, i32_w]
                       rfl
                      refine pure_ (i := 11) (N := some 51) (v := ?_) (a' := ?_) #[true, true, true, true, true, true, true, true, true, true, true, true] rfl rfl (any_of HT_.out (by kernel_rfl)) (fun _ _ _ h => h) (Or.inl ⟨by rfl, ?_⟩) ?_ ?_
                      rotate_left
                      ·intro w'
                       go_simp
                       with_reducible rfl
                      rotate_left
                      ·simp only [Act.put, List.setIfInBounds_toArray, List.set_cons_zero, List.set_cons_succ, i64_w, i32_w]
                       rfl
                      refine done_ (done_of HT_.out (by kernel_rfl)) ?_
                      try go_wp2
                      go_roundg k2
                      case measure => have := HK1.out; have := HK2.out; omega
                      case rel => exact ⟨(x7_2), (wrap64 (x36_2 + 1)), (by first | rfl | (simp; done) | (simp [*]; done)), H', ⟨by have := HK1.out; have := HK2.out; omega⟩, ⟨rl HO_6.out⟩, ⟨rl HO_7.out⟩, ⟨rl HO_34.out⟩, ⟨kl BK656.out⟩, ⟨by exact bs1 GE656.out HB.out⟩⟩
                    ·rw [if_neg c39] at H
                     exact absurd H (by simp)
                   ·rw [if_neg c38] at H
                    exact absurd H (by simp)
                  ·rw [if_neg c37] at H
                   exact absurd H (by simp)
                 ·rw [if_neg c36] at H
                  exact absurd H (by simp)
                ·rw [if_neg c35] at H
                 exact absurd H (by simp)
               ·rw [if_neg c34] at H
                exact absurd H (by simp)
              ·rw [if_neg c33] at H
               exact absurd H (by simp)
             ·rw [if_neg c32] at H
              have c32b0 : decide (x36_2 < (t668.length : Int)) = false := decide_eq_false c32
              clear c32
              have H' := am H
              clear H
              go_wp2
              go_roundg k2
              case measure => have := HK1.out; have := HK2.out; omega
              case rel => exact ⟨(x7_2), H', ⟨by have := HK1.out; have := HK2.out; omega⟩, ⟨rl (Kd.R_mono HO_6.out (fun _ hk => by first | exact hk.1 | (simp only [ne_eq] at hk ⊢; simp only [hk, not_false_eq_true, and_self])))⟩, ⟨rl (Kd.R_mono HO_7.out (fun _ hk => by first | exact hk.1 | (simp only [ne_eq] at hk ⊢; simp only [hk, not_false_eq_true, and_self])))⟩, ⟨kl BK656.out⟩, ⟨by exact bs1 GE656.out HB.out⟩⟩
          ·rw [if_neg c26] at H
           have c26b0 : decide (1 < (rd t658 (rd x7_1 0))) = false := decide_eq_false c26
           clear c26
           simp only [Option.some.injEq, Prod.mk.injEq] at H
           obtain ⟨rfl, rfl⟩ := H
           obtain ⟨Ao49, co49, eo49⟩ := Kd.R_slice HO_7.out
           subst eo49
           have p665 : 0 ≤ (0 : Int) := (by omega)
           have q665 : 0 < (x7_1.length : Int) := of_decide_eq_true (by first | (with_reducible assumption) | assumption)
           obtain ⟨ad665, e665, hx665_0⟩ := Kd.at_int (Kd.R_reads' HO_7.out).2.2 0 p665 q665
           cases e665
           have qi665 : (0 < x7_1.length) = True := eq_true (by omega)
           (try rw [show ((0 : Int)).toNat = 0 from rfl] at hx665_0)
           (try rw [Addr.add_zero'] at hx665_0)
           replace p665 := eq_true p665
           replace q665 := eq_true q665
           have p666 : 0 ≤ ((rd x7_1 0) : Int) := of_decide_eq_true (by first | (with_reducible assumption) | assumption)
           have q666 : (rd x7_1 0) < (t658.length : Int) := of_decide_eq_true (by first | (with_reducible assumption) | assumption)
           obtain ⟨ad666, e666, hx666_0⟩ := Kd.at_int (Kd.R_reads' HO_6.out).2.2 (rd x7_1 0) p666 q666
           obtain rfl : ad661 = ad666 := (by injection e666)
           replace p666 := eq_true p666
           replace q666 := eq_true q666
           go_wp2
           go_ret2
           exact ⟨_, by first | rfl | (simp [errW_none, errW_some] <;> rfl) | (simp [*, errW_none, errW_some] <;> rfl), by (with_reducible repeat (first | apply Kd.R_alloc | apply Kd.R_drewN | apply Kd.R_drew)); exact Kd.R_mono HO_7.out (fun _ hk => trivial), by exact bs1 GE656.out HB.out⟩
         ·rw [if_neg c25] at H
          exact absurd H (by simp)
        ·rw [if_neg c24] at H
         exact absurd H (by simp)
       ·rw [if_neg c23] at H
        exact absurd H (by simp)
   ·rw [if_neg c7] at H
    exact absurd H (by simp)
  ·rw [if_neg c6] at H
   exact absurd H (by simp)
 ·replace c4 := Bool.eq_false_iff.mpr c4
  subst c4
  have H1 : (some (([] : List Int), false)) = some (r1, r2) := by rw [if_neg (show ¬ (false = true) by decide)] at H; exact H
  clear H
  have H := H1
  clear H1
  simp only [Option.some.injEq, Prod.mk.injEq] at H
  obtain ⟨rfl, rfl⟩ := H
  go_enter Try.func28, Try.ntmps28
  go_wp2_with (first | ((with_reducible refine gate_dst (N := 2) rfl ?_); refine box_event ?hg (N := 2) ?hd (cs := #[.slice A0_0 l0_0.length c0_0, .slice A0_1 l0_1.length c0_1, .slice A0_2 l0_2.length c0_2]) (t := 25) ?hr ?_; (case hd => rfl); (case hg => rfl); (case hr => first | (go_simp; done) | (go_simp; rfl)); intro gb656 hg w50 hbox hb; have BK656 := am (hbox); have GW656 := am ((by rw [hg]; exact (below_size (bl HB.out)) : w.heap.size ≤ gb656)); have GE656 := am ((by rw [hg]; exact (below_size (bl HB.out)) : w.heap.size ≤ gb656)); replace HB := am (below_step (bl HB.out) hb); clear hb hbox hg; have hcz51_0 : w50.cell? ⟨gb656, 0, none⟩ = some (.slice A0_0 l0_0.length c0_0) := (blk_cell BK656.out 0).trans rfl; have hcz51_1 : w50.cell? ⟨gb656, 1, none⟩ = some (.slice A0_1 l0_1.length c0_1) := (blk_cell BK656.out 1).trans rfl; have hcz51_2 : w50.cell? ⟨gb656, 2, none⟩ = some (.slice A0_2 l0_2.length c0_2) := (blk_cell BK656.out 2).trans rfl; have hfz51_0 := blk_frozen BK656.out 0; have hfz51_1 := blk_frozen BK656.out 1; have hfz51_2 := blk_frozen BK656.out 2) | ((with_reducible refine gate_callee (f := 47) rfl ?_); refine goesL_ (some 12) rfl rfl Try.func47 (by kernel_rfl) rfl #[.agg #[.slice A0_0 l0_0.length c0_0, .slice A0_1 l0_1.length c0_1, .slice A0_2 l0_2.length c0_2], .int .i64 a1] rfl (by (try simp only [List.map_toArray, List.map_cons, List.map_nil]); first | done | rfl | (simp only [List.length_drop, List.length_take]; rfl)) ?_; (with_reducible refine (impl_has.calls k _ _ l0_0 _ _ l0_1 _ _ l0_2 a1 false _ ?side1 ?side2 ?side3 ?side4 ?side5 ?side6 A3.out).mono ?_); (case side1 => exact cl (Kd.C_below HR0_0.out HB.out)); (case side2 => exact HC0_0.out); (case side3 => exact cl (Kd.C_below HR0_1.out HB.out)); (case side4 => exact HC0_1.out); (case side5 => exact cl (Kd.C_below HR0_2.out HB.out)); (case side6 => exact HC0_2.out); rintro e w52 ⟨rfl, hb⟩; refine ⟨_, rfl, ?_⟩; replace BK656 := am (blk_below (g := gb656) (o := .cells #[.slice A0_0 l0_0.length c0_0, .slice A0_1 l0_1.length c0_1, .slice A0_2 l0_2.length c0_2] 25 (0, 0)) (kl BK656.out) hb); replace HB := am (below_step (bs1 GE656.out HB.out) hb); (try clear hb); (try clear hb2); (try clear hk); (try clear hi)))
  go_ret2
  exact ⟨_, by first | rfl | (simp [errW_none, errW_some] <;> rfl) | (simp [*, errW_none, errW_some] <;> rfl), by first | exact Kd.R_nil _ _ _ _ _ | exact Kd.N_nil _ _ _ _ _ | exact Kd.V_nil _ _ _ _ _ | exact Kd.Q_nil _ _ _ _ _ | exact Kd.S_nil _ _ _ _ _, by exact bs1 GE656.out HB.out⟩

end Go.Proofs.Ytghgpinhghhlgaa.A
