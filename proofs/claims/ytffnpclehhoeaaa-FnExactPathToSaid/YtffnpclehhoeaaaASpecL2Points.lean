/- Contracts of functions of the given program (ASpecL2Points). No conditions beyond those stated. -/
import Derived.Test.YtffnpclehhoeaaaA0
import Derived.Test.YtffnpclehhoeaaaA0
namespace Go.Proofs.Ytffnpclehhoeaaa.A
open Go.RowKit Go.Proofs.YtffnpclehhoeaaaW.PrintWords Go.Proofs.YtffnpclehhoeaaaW.PrintLast Go.Proofs.YtffnpclehhoeaaaW.PrintMore
attribute [local go_sem] max2_int min2_int max_two min_two max_three min_three max_four min_four   -- for this text's walks alone
set_option linter.unusedVariables false
set_option linter.unusedSimpArgs false

/-! ### spec_l2Points -/
def spec_l2Points.f (l0_0 : List Int) (l0_1 : List Int) (l0_2 : List Int) (a1 : Int) (a2 : Int) : Option (Bool) := if 0 ≤ a1 then (if a1 < (l0_0.length : Int) then (if (rd l0_0 a1) = a2 then (some true) else (if a1 < (l0_1.length : Int) then (some ((rd l0_1 a1) == a2)) else (none))) else (none)) else (none)
set_option maxHeartbeats 8000000 in
set_option maxRecDepth 100000 in
theorem spec_l2Points.calls (A0_0 : Option Addr) (c0_0 : Nat) (l0_0 : List Int) (A0_1 : Option Addr) (c0_1 : Nat) (l0_1 : List Int) (A0_2 : Option Addr) (c0_2 : Nat) (l0_2 : List Int) (a1 : Int) (a2 : Int) (r : Bool) (w : World) (hr0_0 : Kd.C (Kd.int .i64) w A0_0 l0_0.length l0_0) (hc0_0 : l0_0.length ≤ c0_0) (hr0_1 : Kd.C (Kd.int .i64) w A0_1 l0_1.length l0_1) (hc0_1 : l0_1.length ≤ c0_1) (hr0_2 : Kd.C (Kd.int .i64) w A0_2 l0_2.length l0_2) (hc0_2 : l0_2.length ≤ c0_2) (h : spec_l2Points.f l0_0 l0_1 l0_2 a1 a2 = some r) :
    Calls Try.prog 71 #[.agg #[.slice A0_0 l0_0.length c0_0, .slice A0_1 l0_1.length c0_1, .slice A0_2 l0_2.length c0_2], .int .i64 a1, .int .i64 a2] w fun e w' => e = .returned (.bool r) ∧ Below w.heap.size w w' := by
  have hu28 := Try.underlying28
  have HR0_0 := am hr0_0
  have HC0_0 := am hc0_0
  clear hr0_0 hc0_0
  have HR0_1 := am hr0_1
  have HC0_1 := am hc0_1
  clear hr0_1 hc0_1
  have HR0_2 := am hr0_2
  have HC0_2 := am hc0_2
  clear hr0_2 hc0_2
  have HB := am (Below.refl w.heap.size w)
  have H : (if 0 ≤ a1 then (if a1 < (l0_0.length : Int) then (if (rd l0_0 a1) = a2 then (some true) else (if a1 < (l0_1.length : Int) then (some ((rd l0_1 a1) == a2)) else (none))) else (none)) else (none)) = some r := h
  clear h
  by_cases c4 : 0 ≤ a1
  · rw [if_pos c4] at H
    have c4b0 : decide (0 ≤ a1) = true := decide_eq_true c4
    clear c4
    by_cases c5 : a1 < (l0_0.length : Int)
    · rw [if_pos c5] at H
      have c5b0 : decide (a1 < (l0_0.length : Int)) = true := decide_eq_true c5
      clear c5
      by_cases c6 : (rd l0_0 a1) = a2
      · rw [if_pos c6] at H
        have c6b0 : ((rd l0_0 a1) == a2) = true := beq_iff_eq.mpr c6
        have c6b1 : ((rd l0_0 a1) != a2) = false := bne_eq_false_iff_eq.mpr c6
        clear c6
        obtain rfl := Option.some.inj H
        go_enter Try.func71, Try.ntmps71
        go_wp2_with (first | ((with_reducible refine gate_dst (N := 3) rfl ?_); refine box_event ?hg (N := 3) ?hd (cs := #[.slice A0_0 l0_0.length c0_0, .slice A0_1 l0_1.length c0_1, .slice A0_2 l0_2.length c0_2]) (t := 28) ?hr ?_; (case hd => rfl); (case hg => rfl); (case hr => first | (go_simp; done) | (go_simp; rfl)); intro gb970 hg w7 hbox hb; have n0_ := am (below_step (bl HB.out) hb); have n1_ := am (hbox); have n2_ := am ((by rw [hg]; exact (below_size (bl HB.out)) : w.heap.size ≤ gb970)); have n3_ := am ((by rw [hg]; exact (below_size (bl HB.out)) : w.heap.size ≤ gb970)); clear HB; have HB := n0_; have BK970 := n1_; have GW970 := n2_; have GE970 := n3_; clear n0_ n1_ n2_ n3_; clear hb hbox hg; have hcz8_0 : w7.cell? ⟨gb970, 0, none⟩ = some (.slice A0_0 l0_0.length c0_0) := (blk_cell BK970.out 0).trans rfl; have hcz8_1 : w7.cell? ⟨gb970, 1, none⟩ = some (.slice A0_1 l0_1.length c0_1) := (blk_cell BK970.out 1).trans rfl; have hcz8_2 : w7.cell? ⟨gb970, 2, none⟩ = some (.slice A0_2 l0_2.length c0_2) := (blk_cell BK970.out 2).trans rfl; have hfz8_0 := blk_frozen BK970.out 0; have hfz8_1 := blk_frozen BK970.out 1; have hfz8_2 := blk_frozen BK970.out 2; have p971 : 0 ≤ (a1 : Int) := of_decide_eq_true (by first | (with_reducible assumption) | assumption); have q971 : a1 < (l0_0.length : Int) := of_decide_eq_true (by first | (with_reducible assumption) | assumption); obtain ⟨ad971, e971, hx971_0⟩ := Kd.at_int HR0_0.out a1 p971 q971; cases e971; replace hx971_0 := (HB.out.cell (World.block_lt_of_cell? w _ hx971_0)).trans hx971_0; replace p971 := eq_true p971; replace q971 := eq_true q971))
        go_ret
        exact ⟨by first | rfl | (simp [errW_none, errW_some] <;> rfl) | (simp [*, errW_none, errW_some] <;> rfl), by repeat (first | (with_reducible first | exact HB.out | apply below_alloc | apply pw_below_drewN | apply below_drew1 | refine below_set ?_ GE970.out) | exact HB.out)⟩
      · rw [if_neg c6] at H
        have c6b0 : ((rd l0_0 a1) == a2) = false := beq_eq_false_iff_ne.mpr c6
        have c6b1 : ((rd l0_0 a1) != a2) = true := bne_iff_ne.mpr c6
        by_cases c9 : a1 < (l0_1.length : Int)
        · rw [if_pos c9] at H
          have c9b0 : decide (a1 < (l0_1.length : Int)) = true := decide_eq_true c9
          clear c9
          obtain rfl := Option.some.inj H
          go_enter Try.func71, Try.ntmps71
          go_wp2_with (first | ((with_reducible refine gate_dst (N := 3) rfl ?_); refine box_event ?hg (N := 3) ?hd (cs := #[.slice A0_0 l0_0.length c0_0, .slice A0_1 l0_1.length c0_1, .slice A0_2 l0_2.length c0_2]) (t := 28) ?hr ?_; (case hd => rfl); (case hg => rfl); (case hr => first | (go_simp; done) | (go_simp; rfl)); intro gb970 hg w10 hbox hb; have n0_ := am (below_step (bl HB.out) hb); have n1_ := am (hbox); have n2_ := am ((by rw [hg]; exact (below_size (bl HB.out)) : w.heap.size ≤ gb970)); have n3_ := am ((by rw [hg]; exact (below_size (bl HB.out)) : w.heap.size ≤ gb970)); clear HB; have HB := n0_; have BK970 := n1_; have GW970 := n2_; have GE970 := n3_; clear n0_ n1_ n2_ n3_; clear hb hbox hg; have hcz11_0 : w10.cell? ⟨gb970, 0, none⟩ = some (.slice A0_0 l0_0.length c0_0) := (blk_cell BK970.out 0).trans rfl; have hcz11_1 : w10.cell? ⟨gb970, 1, none⟩ = some (.slice A0_1 l0_1.length c0_1) := (blk_cell BK970.out 1).trans rfl; have hcz11_2 : w10.cell? ⟨gb970, 2, none⟩ = some (.slice A0_2 l0_2.length c0_2) := (blk_cell BK970.out 2).trans rfl; have hfz11_0 := blk_frozen BK970.out 0; have hfz11_1 := blk_frozen BK970.out 1; have hfz11_2 := blk_frozen BK970.out 2; have p971 : 0 ≤ (a1 : Int) := of_decide_eq_true (by first | (with_reducible assumption) | assumption); have q971 : a1 < (l0_0.length : Int) := of_decide_eq_true (by first | (with_reducible assumption) | assumption); obtain ⟨ad971, e971, hx971_0⟩ := Kd.at_int HR0_0.out a1 p971 q971; cases e971; replace hx971_0 := (HB.out.cell (World.block_lt_of_cell? w _ hx971_0)).trans hx971_0; replace p971 := eq_true p971; replace q971 := eq_true q971; have p972 : 0 ≤ (a1 : Int) := of_decide_eq_true (by first | (with_reducible assumption) | assumption); have q972 : a1 < (l0_1.length : Int) := of_decide_eq_true (by first | (with_reducible assumption) | assumption); obtain ⟨ad972, e972, hx972_0⟩ := Kd.at_int HR0_1.out a1 p972 q972; cases e972; replace hx972_0 := (HB.out.cell (World.block_lt_of_cell? w _ hx972_0)).trans hx972_0; replace p972 := eq_true p972; replace q972 := eq_true q972))
          go_ret
          exact ⟨by first | rfl | (simp [errW_none, errW_some] <;> rfl) | (simp [*, errW_none, errW_some] <;> rfl), by repeat (first | (with_reducible first | exact HB.out | apply below_alloc | apply pw_below_drewN | apply below_drew1 | refine below_set ?_ GE970.out) | exact HB.out)⟩
        · rw [if_neg c9] at H
          exact absurd H (by simp)
    · rw [if_neg c5] at H
      exact absurd H (by simp)
  · rw [if_neg c4] at H
    exact absurd H (by simp)

end Go.Proofs.Ytffnpclehhoeaaa.A
