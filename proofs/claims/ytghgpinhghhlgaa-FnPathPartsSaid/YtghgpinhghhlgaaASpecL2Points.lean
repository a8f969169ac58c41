/- Contracts of functions of the given program (ASpecL2Points). No conditions beyond those stated. -/
import Derived.Test.YtghgpinhghhlgaaA0
import Derived.Test.YtghgpinhghhlgaaA0
namespace Go.Proofs.Ytghgpinhghhlgaa.A
open Go.RowKit Go.Proofs.YtghgpinhghhlgaaW.PrintWords Go.Proofs.YtghgpinhghhlgaaW.PrintLast Go.Proofs.YtghgpinhghhlgaaW.PrintMore
attribute [local go_sem] max2_int min2_int max_two min_two max_three min_three max_four min_four   -- for this text's walks alone
set_option linter.unusedVariables false
set_option linter.unusedSimpArgs false

/-! ### spec_l2Points -/
def spec_l2Points.f (l0_0 : List Int) (l0_1 : List Int) (l0_2 : List Int) (a1 : Int) (a2 : Int) : Option (Bool) := if 0 ≤ a1 then (if a1 < (l0_0.length : Int) then (if (rd l0_0 a1) = a2 then (some true) else (if a1 < (l0_1.length : Int) then (some ((rd l0_1 a1) == a2)) else (none))) else (none)) else (none)
set_option maxHeartbeats 8000000 in
set_option maxRecDepth 100000 in
theorem spec_l2Points.calls (A0_0 : Option Addr) (c0_0 : Nat) (l0_0 : List Int) (A0_1 : Option Addr) (c0_1 : Nat) (l0_1 : List Int) (A0_2 : Option Addr) (c0_2 : Nat) (l0_2 : List Int) (a1 : Int) (a2 : Int) (r : Bool) (w : World) (hr0_0 : Kd.C (Kd.int .i64) w A0_0 l0_0.length l0_0) (hc0_0 : l0_0.length ≤ c0_0) (hr0_1 : Kd.C (Kd.int .i64) w A0_1 l0_1.length l0_1) (hc0_1 : l0_1.length ≤ c0_1) (hr0_2 : Kd.C (Kd.int .i64) w A0_2 l0_2.length l0_2) (hc0_2 : l0_2.length ≤ c0_2) (h : spec_l2Points.f l0_0 l0_1 l0_2 a1 a2 = some r) :
  Calls Try.prog 52 #[.agg #[.slice A0_0 l0_0.length c0_0, .slice A0_1 l0_1.length c0_1, .slice A0_2 l0_2.length c0_2], .int .i64 a1, .int .i64 a2] w fun e w' => e = .returned (.bool r) ∧ Below w.heap.size w w' := by
 have hu25 := Try.underlying25
 have HR0_0 := am hr0_0
 have HC0_0 := am hc0_0
 clear hr0_0 hc0_0
 have HR0_1 := am hr0_1
 have HC0_1 := am hc0_1
 clear hr0_1 hc0_1
 have HR0_2 := am hr0_2
 have HC0_2 := am hc0_2
 clear hr0_2 hc0_2
 have HB := am (Below.refl w.heap.size w)
 have H : (if 0 ≤ a1 then (if a1 < (l0_0.length : Int) then (if (rd l0_0 a1) = a2 then (some true) else (if a1 < (l0_1.length : Int) then (some ((rd l0_1 a1) == a2)) else (none))) else (none)) else (none)) = some r := h
 clear h
 by_cases c4 : 0 ≤ a1
 ·rw [if_pos c4] at H
  have c4b0 : decide (0 ≤ a1) = true := decide_eq_true c4
  clear c4
  by_cases c5 : a1 < (l0_0.length : Int)
  ·rw [if_pos c5] at H
   have c5b0 : decide (a1 < (l0_0.length : Int)) = true := decide_eq_true c5
   clear c5
   by_cases c6 : (rd l0_0 a1) = a2
   ·rw [if_pos c6] at H
    have c6b0 : ((rd l0_0 a1) == a2) = true := beq_iff_eq.mpr c6
    have c6b1 : ((rd l0_0 a1) != a2) = false := bne_eq_false_iff_eq.mpr c6
    clear c6
    obtain rfl := Option.some.inj H
    go_enter Try.func52, Try.ntmps52
    go_wp2_with (first | ((with_reducible refine gate_dst (N := 3) rfl ?_); refine box_event ?hg (N := 3) ?hd (cs := #[.slice A0_0 l0_0.length c0_0, .slice A0_1 l0_1.length c0_1, .slice A0_2 l0_2.length c0_2]) (t := 25) ?hr ?_; (case hd => rfl); (case hg => rfl); (case hr => first | (go_simp; done) | (go_simp; rfl)); intro gb760 hg w7 hbox hb; have BK760 := am (hbox); have GW760 := am ((by rw [hg]; exact (below_size (bl HB.out)) : w.heap.size ≤ gb760)); have GE760 := am ((by rw [hg]; exact (below_size (bl HB.out)) : w.heap.size ≤ gb760)); replace HB := am (below_step (bl HB.out) hb); clear hb hbox hg; have hcz8_0 : w7.cell? ⟨gb760, 0, none⟩ = some (.slice A0_0 l0_0.length c0_0) := (blk_cell BK760.out 0).trans rfl; have hcz8_1 : w7.cell? ⟨gb760, 1, none⟩ = some (.slice A0_1 l0_1.length c0_1) := (blk_cell BK760.out 1).trans rfl; have hcz8_2 : w7.cell? ⟨gb760, 2, none⟩ = some (.slice A0_2 l0_2.length c0_2) := (blk_cell BK760.out 2).trans rfl; have hfz8_0 := blk_frozen BK760.out 0; have hfz8_1 := blk_frozen BK760.out 1; have hfz8_2 := blk_frozen BK760.out 2; have p761 : 0 ≤ (a1 : Int) := of_decide_eq_true (by first | (with_reducible assumption) | assumption); have q761 : a1 < (l0_0.length : Int) := of_decide_eq_true (by first | (with_reducible assumption) | assumption); obtain ⟨ad761, e761, hx761_0⟩ := Kd.at_int HR0_0.out a1 p761 q761; cases e761; replace hx761_0 := (HB.out.cell (World.block_lt_of_cell? w _ hx761_0)).trans hx761_0; replace p761 := eq_true p761; replace q761 := eq_true q761))
    go_ret
    exact ⟨by first | rfl | (simp [errW_none, errW_some] <;> rfl) | (simp [*, errW_none, errW_some] <;> rfl), by exact bs1 GE760.out HB.out⟩
   ·rw [if_neg c6] at H
    have c6b0 : ((rd l0_0 a1) == a2) = false := beq_eq_false_iff_ne.mpr c6
    have c6b1 : ((rd l0_0 a1) != a2) = true := bne_iff_ne.mpr c6
    by_cases c9 : a1 < (l0_1.length : Int)
    ·rw [if_pos c9] at H
     have c9b0 : decide (a1 < (l0_1.length : Int)) = true := decide_eq_true c9
     clear c9
     obtain rfl := Option.some.inj H
     go_enter Try.func52, Try.ntmps52
     go_wp2_with (first | ((with_reducible refine gate_dst (N := 3) rfl ?_); refine box_event ?hg (N := 3) ?hd (cs := #[.slice A0_0 l0_0.length c0_0, .slice A0_1 l0_1.length c0_1, .slice A0_2 l0_2.length c0_2]) (t := 25) ?hr ?_; (case hd => rfl); (case hg => rfl); (case hr => first | (go_simp; done) | (go_simp; rfl)); intro gb760 hg w10 hbox hb; have BK760 := am (hbox); have GW760 := am ((by rw [hg]; exact (below_size (bl HB.out)) : w.heap.size ≤ gb760)); have GE760 := am ((by rw [hg]; exact (below_size (bl HB.out)) : w.heap.size ≤ gb760)); replace HB := am (below_step (bl HB.out) hb); clear hb hbox hg; have hcz11_0 : w10.cell? ⟨gb760, 0, none⟩ = some (.slice A0_0 l0_0.length c0_0) := (blk_cell BK760.out 0).trans rfl; have hcz11_1 : w10.cell? ⟨gb760, 1, none⟩ = some (.slice A0_1 l0_1.length c0_1) := (blk_cell BK760.out 1).trans rfl; have hcz11_2 : w10.cell? ⟨gb760, 2, none⟩ = some (.slice A0_2 l0_2.length c0_2) := (blk_cell BK760.out 2).trans rfl; have hfz11_0 := blk_frozen BK760.out 0; have hfz11_1 := blk_frozen BK760.out 1; have hfz11_2 := blk_frozen BK760.out 2; have p761 : 0 ≤ (a1 : Int) := of_decide_eq_true (by first | (with_reducible assumption) | assumption); have q761 : a1 < (l0_0.length : Int) := of_decide_eq_true (by first | (with_reducible assumption) | assumption); obtain ⟨ad761, e761, hx761_0⟩ := Kd.at_int HR0_0.out a1 p761 q761; cases e761; replace hx761_0 := (HB.out.cell (World.block_lt_of_cell? w _ hx761_0)).trans hx761_0; replace p761 := eq_true p761; replace q761 := eq_true q761; have p762 : 0 ≤ (a1 : Int) := of_decide_eq_true (by first | (with_reducible assumption) | assumption); have q762 : a1 < (l0_1.length : Int) := of_decide_eq_true (by first | (with_reducible assumption) | assumption); obtain ⟨ad762, e762, hx762_0⟩ := Kd.at_int HR0_1.out a1 p762 q762; cases e762; replace hx762_0 := (HB.out.cell (World.block_lt_of_cell? w _ hx762_0)).trans hx762_0; replace p762 := eq_true p762; replace q762 := eq_true q762))
     go_ret
     exact ⟨by first | rfl | (simp [errW_none, errW_some] <;> rfl) | (simp [*, errW_none, errW_some] <;> rfl), by exact bs1 GE760.out HB.out⟩
    ·rw [if_neg c9] at H
     exact absurd H (by simp)
  ·rw [if_neg c5] at H
   exact absurd H (by simp)
 ·rw [if_neg c4] at H
  exact absurd H (by simp)

end Go.Proofs.Ytghgpinhghhlgaa.A
