/- Contracts of functions of the given program (CLawsFnExactSourcesOf). No conditions beyond those stated. -/
import Derived.Test.YthkipbdnfkpbgaaA0
import Derived.Test.YthkipbdnfkpbgaaAImplSourcesOf
import Derived.Test.YthkipbdnfkpbgaaALawsEqHeap
import Derived.Test.YthkipbdnfkpbgaaALawsEqIntS
import Derived.Test.YthkipbdnfkpbgaaALawsHeldIntS
import Derived.Test.YthkipbdnfkpbgaaALawsMarkHeap
import Derived.Test.YthkipbdnfkpbgaaALawsMarkIntS
import Derived.Test.YthkipbdnfkpbgaaALawsSzHeap
import Derived.Test.YthkipbdnfkpbgaaALawsToHeap
import Derived.Test.YthkipbdnfkpbgaaASpecSourcesOf
import Derived.Test.YthkipbdnfkpbgaaA0
namespace Go.Proofs.Ythkipbdnfkpbgaa.A
open Go.RowKit Go.Proofs.YthkipbdnfkpbgaaW.PrintWords Go.Proofs.YthkipbdnfkpbgaaW.PrintLast Go.Proofs.YthkipbdnfkpbgaaW.PrintMore
attribute [local go_sem] max2_int min2_int max_two min_two max_three min_three max_four min_four   -- for this text's walks alone
set_option linter.unusedVariables false
set_option linter.unusedSimpArgs false

/-! ### laws_FnExactSourcesOf -/
def laws_FnExactSourcesOf.j0 : Nat → Int → List Int → List Int → Bool → List Int → List Int → List Int → Option (Bool)
  | 0, _, _, _, _, _, _, _ => none
  | k + 1, x1, x6, x8, x46, x644000, x644001, x644002 => if x46 = true then (none) else ((laws_markIntS.f k x8 1).bind fun bt686 => ((laws_heldIntS.f k bt686.2 1).bind fun t688 => (if t688 < 0 then (none) else (if t688 = bt686.1 then ((laws_toHeap.f k x644000 x644001 x644002).bind fun bt689 => ((impl_SourcesOf.f k bt689.1 bt689.2.1 bt689.2.2 x1).bind fun t698 => ((laws_eqIntS.f k t698 x6).bind fun t701 => (if t701 = true then ((laws_heldIntS.f k bt686.2 1).bind fun t702 => (if t702 < 0 then (none) else (if t702 = bt686.1 then (some true) else (none)))) else (none))))) else (none)))))
def laws_FnExactSourcesOf.f (k : Nat) (l0_0 : List Int) (l0_1 : List Int) (l0_2 : List Int) (a1 : Int) : Option (Bool) := (laws_szHeap.f l0_0 l0_1 l0_2 1048576).bind fun t644 => (if t644 < 0 then (some true) else ((laws_toHeap.f k l0_0 l0_1 l0_2).bind fun bt645 => ((spec_SourcesOf.f k bt645.1 bt645.2.1 bt645.2.2 a1).bind fun t654 => ((laws_toHeap.f k l0_0 l0_1 l0_2).bind fun bt657 => ((impl_SourcesOf.f k bt657.1 bt657.2.1 bt657.2.2 a1).bind fun t667 => ((laws_eqIntS.f k t667 t654).bind fun t670 => (if t670 = true then ((laws_toHeap.f k l0_0 l0_1 l0_2).bind fun bt671 => ((laws_eqHeap.f k bt657.1 bt657.2.1 bt657.2.2 bt671.1 bt671.2.1 bt671.2.2).bind fun t680 => (if t680 = true then ((laws_markHeap.f k bt657.1 bt657.2.1 bt657.2.2 1).bind fun bt681 => (if bt681.1 < 0 then (laws_FnExactSourcesOf.j0 k a1 t654 t667 true l0_0 l0_1 l0_2) else ((laws_eqIntS.f k t667 t654).bind fun t685 => (laws_FnExactSourcesOf.j0 k a1 t654 t667 (!t685) l0_0 l0_1 l0_2)))) else (none)))) else (none))))))))
theorem laws_FnExactSourcesOf.mono_l : ∀ k, (∀ y0 y1 y2 y3 y4 y5 y6, LeO (laws_FnExactSourcesOf.j0 k y0 y1 y2 y3 y4 y5 y6) (laws_FnExactSourcesOf.j0 (k + 1) y0 y1 y2 y3 y4 y5 y6))
  | 0 => fun _ _ _ _ _ _ _ r h => by simp [laws_FnExactSourcesOf.j0] at h
  | k + 1 => by
    have ih0 := laws_FnExactSourcesOf.mono_l k
    · intro y0 y1 y2 y3 y4 y5 y6
      unfold laws_FnExactSourcesOf.j0
      repeat' first
      | (with_reducible exact ih0 _ _ _ _ _ _ _)
      | (with_reducible exact impl_SourcesOf.mono _ _ _ _ _)
      | (with_reducible exact laws_eqHeap.mono _ _ _ _ _ _ _)
      | (with_reducible exact laws_eqIntS.mono _ _ _)
      | (with_reducible exact laws_heldIntS.mono _ _ _)
      | (with_reducible exact laws_markHeap.mono _ _ _ _ _)
      | (with_reducible exact laws_markIntS.mono _ _ _)
      | (with_reducible exact laws_toHeap.mono _ _ _ _)
      | (with_reducible exact spec_SourcesOf.mono _ _ _ _ _)
      | (with_reducible exact LeO.refl _)
      | (with_reducible exact LeO.none _)
      | (with_reducible refine LeO.ite ?_ ?_)
      | (with_reducible refine LeO.bind ?_ (fun _ => ?_))
      | exact ih0 _ _ _ _ _ _ _
      | exact impl_SourcesOf.mono _ _ _ _ _
      | exact laws_eqHeap.mono _ _ _ _ _ _ _
      | exact laws_eqIntS.mono _ _ _
      | exact laws_heldIntS.mono _ _ _
      | exact laws_markHeap.mono _ _ _ _ _
      | exact laws_markIntS.mono _ _ _
      | exact laws_toHeap.mono _ _ _ _
      | exact spec_SourcesOf.mono _ _ _ _ _
      | exact LeO.none _
      | refine LeO.ite ?_ ?_
      | refine LeO.bind ?_ (fun _ => ?_)
theorem laws_FnExactSourcesOf.mono : ∀ a0 a1 a2 a3 k, LeO (laws_FnExactSourcesOf.f k a0 a1 a2 a3) (laws_FnExactSourcesOf.f (k + 1) a0 a1 a2 a3) := by
  intro a0 a1 a2 a3 k
  have ih0 := laws_FnExactSourcesOf.mono_l k
  unfold laws_FnExactSourcesOf.f
  repeat' first
      | (with_reducible exact ih0 _ _ _ _ _ _ _)
      | (with_reducible exact impl_SourcesOf.mono _ _ _ _ _)
      | (with_reducible exact laws_eqHeap.mono _ _ _ _ _ _ _)
      | (with_reducible exact laws_eqIntS.mono _ _ _)
      | (with_reducible exact laws_heldIntS.mono _ _ _)
      | (with_reducible exact laws_markHeap.mono _ _ _ _ _)
      | (with_reducible exact laws_markIntS.mono _ _ _)
      | (with_reducible exact laws_toHeap.mono _ _ _ _)
      | (with_reducible exact spec_SourcesOf.mono _ _ _ _ _)
      | (with_reducible exact LeO.refl _)
      | (with_reducible exact LeO.none _)
      | (with_reducible refine LeO.ite ?_ ?_)
      | (with_reducible refine LeO.bind ?_ (fun _ => ?_))
      | exact ih0 _ _ _ _ _ _ _
      | exact impl_SourcesOf.mono _ _ _ _ _
      | exact laws_eqHeap.mono _ _ _ _ _ _ _
      | exact laws_eqIntS.mono _ _ _
      | exact laws_heldIntS.mono _ _ _
      | exact laws_markHeap.mono _ _ _ _ _
      | exact laws_markIntS.mono _ _ _
      | exact laws_toHeap.mono _ _ _ _
      | exact spec_SourcesOf.mono _ _ _ _ _
      | exact LeO.none _
      | refine LeO.ite ?_ ?_
      | refine LeO.bind ?_ (fun _ => ?_)
set_option maxHeartbeats 8000000 in
set_option maxRecDepth 100000 in
theorem laws_FnExactSourcesOf.calls (k : Nat) (A0_0 : Option Addr) (c0_0 : Nat) (l0_0 : List Int) (A0_1 : Option Addr) (c0_1 : Nat) (l0_1 : List Int) (A0_2 : Option Addr) (c0_2 : Nat) (l0_2 : List Int) (a1 : Int) (r : Bool) (w : World) (hr0_0 : Kd.C (Kd.int .i64) w A0_0 l0_0.length l0_0) (hc0_0 : l0_0.length ≤ c0_0) (hr0_1 : Kd.C (Kd.int .i64) w A0_1 l0_1.length l0_1) (hc0_1 : l0_1.length ≤ c0_1) (hr0_2 : Kd.C (Kd.int .i64) w A0_2 l0_2.length l0_2) (hc0_2 : l0_2.length ≤ c0_2) (h : laws_FnExactSourcesOf.f k l0_0 l0_1 l0_2 a1 = some r) :
    Calls Try.prog 9 #[.agg #[.slice A0_0 l0_0.length c0_0, .slice A0_1 l0_1.length c0_1, .slice A0_2 l0_2.length c0_2], .int .i64 a1] w fun e w' => e = .returned (.bool r) ∧ Below w.heap.size w w' := by
  have hu25 := Try.underlying25
  have hu28 := Try.underlying28
  have HR0_0 := Aside0.mk hr0_0
  have HC0_0 := Aside0.mk hc0_0
  clear hr0_0 hc0_0
  have HR0_1 := Aside0.mk hr0_1
  have HC0_1 := Aside0.mk hc0_1
  clear hr0_1 hc0_1
  have HR0_2 := Aside0.mk hr0_2
  have HC0_2 := Aside0.mk hc0_2
  clear hr0_2 hc0_2
  have HB := Aside0.mk (Below.refl w.heap.size w)
  have H : ((laws_szHeap.f l0_0 l0_1 l0_2 1048576).bind fun t644 => (if t644 < 0 then (some true) else ((laws_toHeap.f k l0_0 l0_1 l0_2).bind fun bt645 => ((spec_SourcesOf.f k bt645.1 bt645.2.1 bt645.2.2 a1).bind fun t654 => ((laws_toHeap.f k l0_0 l0_1 l0_2).bind fun bt657 => ((impl_SourcesOf.f k bt657.1 bt657.2.1 bt657.2.2 a1).bind fun t667 => ((laws_eqIntS.f k t667 t654).bind fun t670 => (if t670 = true then ((laws_toHeap.f k l0_0 l0_1 l0_2).bind fun bt671 => ((laws_eqHeap.f k bt657.1 bt657.2.1 bt657.2.2 bt671.1 bt671.2.1 bt671.2.2).bind fun t680 => (if t680 = true then ((laws_markHeap.f k bt657.1 bt657.2.1 bt657.2.2 1).bind fun bt681 => (if bt681.1 < 0 then (laws_FnExactSourcesOf.j0 k a1 t654 t667 true l0_0 l0_1 l0_2) else ((laws_eqIntS.f k t667 t654).bind fun t685 => (laws_FnExactSourcesOf.j0 k a1 t654 t667 (!t685) l0_0 l0_1 l0_2)))) else (none)))) else (none))))))))) = some r := h
  clear h
  replace H := Option.bind_eq_some_iff.mp H
  obtain ⟨t644, A30, H⟩ := H
  replace H : (if t644 < 0 then (some true) else ((laws_toHeap.f k l0_0 l0_1 l0_2).bind fun bt645 => ((spec_SourcesOf.f k bt645.1 bt645.2.1 bt645.2.2 a1).bind fun t654 => ((laws_toHeap.f k l0_0 l0_1 l0_2).bind fun bt657 => ((impl_SourcesOf.f k bt657.1 bt657.2.1 bt657.2.2 a1).bind fun t667 => ((laws_eqIntS.f k t667 t654).bind fun t670 => (if t670 = true then ((laws_toHeap.f k l0_0 l0_1 l0_2).bind fun bt671 => ((laws_eqHeap.f k bt657.1 bt657.2.1 bt657.2.2 bt671.1 bt671.2.1 bt671.2.2).bind fun t680 => (if t680 = true then ((laws_markHeap.f k bt657.1 bt657.2.1 bt657.2.2 1).bind fun bt681 => (if bt681.1 < 0 then (laws_FnExactSourcesOf.j0 k a1 t654 t667 true l0_0 l0_1 l0_2) else ((laws_eqIntS.f k t667 t654).bind fun t685 => (laws_FnExactSourcesOf.j0 k a1 t654 t667 (!t685) l0_0 l0_1 l0_2)))) else (none)))) else (none)))))))) = some r := H
  have A3 := Aside0.mk A30
  clear A30
  by_cases c4 : t644 < 0
  · rw [if_pos c4] at H
    have c4b0 : decide (t644 < 0) = true := decide_eq_true c4
    clear c4
    obtain rfl := Option.some.inj H
    go_enter Try.func9, Try.ntmps9
    go_wp2_with (first | ((with_reducible refine gate_dst (N := 2) rfl ?_); refine box_event ?hg (N := 2) ?hd (cs := #[.slice A0_0 l0_0.length c0_0, .slice A0_1 l0_1.length c0_1, .slice A0_2 l0_2.length c0_2]) (t := 25) ?hr ?_; (case hd => rfl); (case hg => rfl); (case hr => first | (go_simp; done) | (go_simp; rfl)); intro gb643 hg w5 hbox hb; have n0_ := Aside0.mk (below_step (by repeat (first | (with_reducible first | exact HB.out | apply below_alloc | apply pw_below_drewN | apply below_drew1) | exact HB.out)) hb); have n1_ := Aside0.mk (hbox); have n2_ := Aside0.mk ((by rw [hg]; exact (below_size (by repeat (first | (with_reducible first | exact HB.out | apply below_alloc | apply pw_below_drewN | apply below_drew1) | exact HB.out))) : w.heap.size ≤ gb643)); have n3_ := Aside0.mk ((by rw [hg]; exact (below_size (by repeat (first | (with_reducible first | exact HB.out | apply below_alloc | apply pw_below_drewN | apply below_drew1) | exact HB.out))) : w.heap.size ≤ gb643)); clear HB; have HB := n0_; have BK643 := n1_; have GW643 := n2_; have GE643 := n3_; clear n0_ n1_ n2_ n3_; clear hb hbox hg; have hcz6_0 : w5.cell? ⟨gb643, 0, none⟩ = some (.slice A0_0 l0_0.length c0_0) := (blk_cell BK643.out 0).trans rfl; have hcz6_1 : w5.cell? ⟨gb643, 1, none⟩ = some (.slice A0_1 l0_1.length c0_1) := (blk_cell BK643.out 1).trans rfl; have hcz6_2 : w5.cell? ⟨gb643, 2, none⟩ = some (.slice A0_2 l0_2.length c0_2) := (blk_cell BK643.out 2).trans rfl; have hfz6_0 := blk_frozen BK643.out 0; have hfz6_1 := blk_frozen BK643.out 1; have hfz6_2 := blk_frozen BK643.out 2) | ((with_reducible refine gate_callee (f := 14) rfl ?_); refine goesL_ (some 15) rfl rfl Try.func14 (by kernel_rfl) rfl #[.agg #[.slice A0_0 l0_0.length c0_0, .slice A0_1 l0_1.length c0_1, .slice A0_2 l0_2.length c0_2], .int .i64 1048576] rfl (by (try simp only [List.map_toArray, List.map_cons, List.map_nil]); first | done | rfl | (simp only [List.length_drop, List.length_take]; rfl)) ?_; (with_reducible refine (laws_szHeap.calls _ _ l0_0 _ _ l0_1 _ _ l0_2 1048576 t644 _ ?side1 ?side2 ?side3 ?side4 ?side5 ?side6 A3.out).mono ?_); (case side1 => repeat (first | exact (Kd.C_below HR0_0.out HB.out) | (with_reducible refine Kd.C_alloc ?_ _) | (with_reducible refine Kd.C_drewN ?_ _) | (with_reducible refine Kd.C_drew ?_))); (case side2 => exact HC0_0.out); (case side3 => repeat (first | exact (Kd.C_below HR0_1.out HB.out) | (with_reducible refine Kd.C_alloc ?_ _) | (with_reducible refine Kd.C_drewN ?_ _) | (with_reducible refine Kd.C_drew ?_))); (case side4 => exact HC0_1.out); (case side5 => repeat (first | exact (Kd.C_below HR0_2.out HB.out) | (with_reducible refine Kd.C_alloc ?_ _) | (with_reducible refine Kd.C_drewN ?_ _) | (with_reducible refine Kd.C_drew ?_))); (case side6 => exact HC0_2.out); rintro e w7 ⟨rfl, hb⟩; refine ⟨_, rfl, ?_⟩; have n0_ := Aside0.mk (blk_below (g := gb643) (o := .cells #[.slice A0_0 l0_0.length c0_0, .slice A0_1 l0_1.length c0_1, .slice A0_2 l0_2.length c0_2] 25 (0, 0)) (by (with_reducible repeat (first | refine blk_drewN ?_ _ | refine blk_drew ?_ | refine blk_alloc ?_ _)); exact BK643.out) hb); have n1_ := Aside0.mk (below_step (by repeat (first | (with_reducible first | exact HB.out | apply below_alloc | apply pw_below_drewN | apply below_drew1 | refine below_set ?_ GE643.out) | exact HB.out)) hb); clear BK643; clear HB; have BK643 := n0_; have HB := n1_; clear n0_ n1_; (try clear hb); (try clear hb2); (try clear hk); (try clear hi)))
    go_ret
    exact ⟨by first | rfl | (simp [errW_none, errW_some] <;> rfl) | (simp [*, errW_none, errW_some] <;> rfl), by repeat (first | (with_reducible first | exact HB.out | apply below_alloc | apply pw_below_drewN | apply below_drew1 | refine below_set ?_ GE643.out) | exact HB.out)⟩
  · rw [if_neg c4] at H
    have c4b0 : decide (t644 < 0) = false := decide_eq_false c4
    clear c4
    replace H := Option.bind_eq_some_iff.mp H
    obtain ⟨⟨t645, t648, t651⟩, A80, H⟩ := H
    replace H : ((spec_SourcesOf.f k t645 t648 t651 a1).bind fun t654 => ((laws_toHeap.f k l0_0 l0_1 l0_2).bind fun bt657 => ((impl_SourcesOf.f k bt657.1 bt657.2.1 bt657.2.2 a1).bind fun t667 => ((laws_eqIntS.f k t667 t654).bind fun t670 => (if t670 = true then ((laws_toHeap.f k l0_0 l0_1 l0_2).bind fun bt671 => ((laws_eqHeap.f k bt657.1 bt657.2.1 bt657.2.2 bt671.1 bt671.2.1 bt671.2.2).bind fun t680 => (if t680 = true then ((laws_markHeap.f k bt657.1 bt657.2.1 bt657.2.2 1).bind fun bt681 => (if bt681.1 < 0 then (laws_FnExactSourcesOf.j0 k a1 t654 t667 true l0_0 l0_1 l0_2) else ((laws_eqIntS.f k t667 t654).bind fun t685 => (laws_FnExactSourcesOf.j0 k a1 t654 t667 (!t685) l0_0 l0_1 l0_2)))) else (none)))) else (none)))))) = some r := H
    have A8 := Aside0.mk A80
    clear A80
    replace H := Option.bind_eq_some_iff.mp H
    obtain ⟨t654, A90, H⟩ := H
    replace H : ((laws_toHeap.f k l0_0 l0_1 l0_2).bind fun bt657 => ((impl_SourcesOf.f k bt657.1 bt657.2.1 bt657.2.2 a1).bind fun t667 => ((laws_eqIntS.f k t667 t654).bind fun t670 => (if t670 = true then ((laws_toHeap.f k l0_0 l0_1 l0_2).bind fun bt671 => ((laws_eqHeap.f k bt657.1 bt657.2.1 bt657.2.2 bt671.1 bt671.2.1 bt671.2.2).bind fun t680 => (if t680 = true then ((laws_markHeap.f k bt657.1 bt657.2.1 bt657.2.2 1).bind fun bt681 => (if bt681.1 < 0 then (laws_FnExactSourcesOf.j0 k a1 t654 t667 true l0_0 l0_1 l0_2) else ((laws_eqIntS.f k t667 t654).bind fun t685 => (laws_FnExactSourcesOf.j0 k a1 t654 t667 (!t685) l0_0 l0_1 l0_2)))) else (none)))) else (none))))) = some r := H
    have A9 := Aside0.mk A90
    clear A90
    replace H := Option.bind_eq_some_iff.mp H
    obtain ⟨⟨t657, t660, t663⟩, A100, H⟩ := H
    replace H : ((impl_SourcesOf.f k t657 t660 t663 a1).bind fun t667 => ((laws_eqIntS.f k t667 t654).bind fun t670 => (if t670 = true then ((laws_toHeap.f k l0_0 l0_1 l0_2).bind fun bt671 => ((laws_eqHeap.f k t657 t660 t663 bt671.1 bt671.2.1 bt671.2.2).bind fun t680 => (if t680 = true then ((laws_markHeap.f k t657 t660 t663 1).bind fun bt681 => (if bt681.1 < 0 then (laws_FnExactSourcesOf.j0 k a1 t654 t667 true l0_0 l0_1 l0_2) else ((laws_eqIntS.f k t667 t654).bind fun t685 => (laws_FnExactSourcesOf.j0 k a1 t654 t667 (!t685) l0_0 l0_1 l0_2)))) else (none)))) else (none)))) = some r := H
    have A10 := Aside0.mk A100
    clear A100
    replace H := Option.bind_eq_some_iff.mp H
    obtain ⟨t667, A110, H⟩ := H
    replace H : ((laws_eqIntS.f k t667 t654).bind fun t670 => (if t670 = true then ((laws_toHeap.f k l0_0 l0_1 l0_2).bind fun bt671 => ((laws_eqHeap.f k t657 t660 t663 bt671.1 bt671.2.1 bt671.2.2).bind fun t680 => (if t680 = true then ((laws_markHeap.f k t657 t660 t663 1).bind fun bt681 => (if bt681.1 < 0 then (laws_FnExactSourcesOf.j0 k a1 t654 t667 true l0_0 l0_1 l0_2) else ((laws_eqIntS.f k t667 t654).bind fun t685 => (laws_FnExactSourcesOf.j0 k a1 t654 t667 (!t685) l0_0 l0_1 l0_2)))) else (none)))) else (none))) = some r := H
    have A11 := Aside0.mk A110
    clear A110
    replace H := Option.bind_eq_some_iff.mp H
    obtain ⟨t670, A120, H⟩ := H
    replace H : (if t670 = true then ((laws_toHeap.f k l0_0 l0_1 l0_2).bind fun bt671 => ((laws_eqHeap.f k t657 t660 t663 bt671.1 bt671.2.1 bt671.2.2).bind fun t680 => (if t680 = true then ((laws_markHeap.f k t657 t660 t663 1).bind fun bt681 => (if bt681.1 < 0 then (laws_FnExactSourcesOf.j0 k a1 t654 t667 true l0_0 l0_1 l0_2) else ((laws_eqIntS.f k t667 t654).bind fun t685 => (laws_FnExactSourcesOf.j0 k a1 t654 t667 (!t685) l0_0 l0_1 l0_2)))) else (none)))) else (none)) = some r := H
    have A12 := Aside0.mk A120
    clear A120
    by_cases c13 : t670 = true
    · subst c13
      have H1 : ((laws_toHeap.f k l0_0 l0_1 l0_2).bind fun bt671 => ((laws_eqHeap.f k t657 t660 t663 bt671.1 bt671.2.1 bt671.2.2).bind fun t680 => (if t680 = true then ((laws_markHeap.f k t657 t660 t663 1).bind fun bt681 => (if bt681.1 < 0 then (laws_FnExactSourcesOf.j0 k a1 t654 t667 true l0_0 l0_1 l0_2) else ((laws_eqIntS.f k t667 t654).bind fun t685 => (laws_FnExactSourcesOf.j0 k a1 t654 t667 (!t685) l0_0 l0_1 l0_2)))) else (none)))) = some r := by rw [if_pos rfl] at H; exact H
      clear H
      have H := H1
      clear H1
      replace H := Option.bind_eq_some_iff.mp H
      obtain ⟨⟨t671, t674, t677⟩, A140, H⟩ := H
      replace H : ((laws_eqHeap.f k t657 t660 t663 t671 t674 t677).bind fun t680 => (if t680 = true then ((laws_markHeap.f k t657 t660 t663 1).bind fun bt681 => (if bt681.1 < 0 then (laws_FnExactSourcesOf.j0 k a1 t654 t667 true l0_0 l0_1 l0_2) else ((laws_eqIntS.f k t667 t654).bind fun t685 => (laws_FnExactSourcesOf.j0 k a1 t654 t667 (!t685) l0_0 l0_1 l0_2)))) else (none))) = some r := H
      have A14 := Aside0.mk A140
      clear A140
      replace H := Option.bind_eq_some_iff.mp H
      obtain ⟨t680, A150, H⟩ := H
      replace H : (if t680 = true then ((laws_markHeap.f k t657 t660 t663 1).bind fun bt681 => (if bt681.1 < 0 then (laws_FnExactSourcesOf.j0 k a1 t654 t667 true l0_0 l0_1 l0_2) else ((laws_eqIntS.f k t667 t654).bind fun t685 => (laws_FnExactSourcesOf.j0 k a1 t654 t667 (!t685) l0_0 l0_1 l0_2)))) else (none)) = some r := H
      have A15 := Aside0.mk A150
      clear A150
      by_cases c16 : t680 = true
      · subst c16
        have H1 : ((laws_markHeap.f k t657 t660 t663 1).bind fun bt681 => (if bt681.1 < 0 then (laws_FnExactSourcesOf.j0 k a1 t654 t667 true l0_0 l0_1 l0_2) else ((laws_eqIntS.f k t667 t654).bind fun t685 => (laws_FnExactSourcesOf.j0 k a1 t654 t667 (!t685) l0_0 l0_1 l0_2)))) = some r := by rw [if_pos rfl] at H; exact H
        clear H
        have H := H1
        clear H1
        replace H := Option.bind_eq_some_iff.mp H
        obtain ⟨⟨t681, t682, t683, t684⟩, A170, H⟩ := H
        replace H : (if t681 < 0 then (laws_FnExactSourcesOf.j0 k a1 t654 t667 true l0_0 l0_1 l0_2) else ((laws_eqIntS.f k t667 t654).bind fun t685 => (laws_FnExactSourcesOf.j0 k a1 t654 t667 (!t685) l0_0 l0_1 l0_2))) = some r := H
        have A17 := Aside0.mk A170
        clear A170
        have HC18 := Aside0.mk H
        clear H
        go_enter Try.func9, Try.ntmps9
        try go_wp2_with (first | ((with_reducible refine gate_dst (N := 2) rfl ?_); refine box_event ?hg (N := 2) ?hd (cs := #[.slice A0_0 l0_0.length c0_0, .slice A0_1 l0_1.length c0_1, .slice A0_2 l0_2.length c0_2]) (t := 25) ?hr ?_; (case hd => rfl); (case hg => rfl); (case hr => first | (go_simp; done) | (go_simp; rfl)); intro gb643 hg w19 hbox hb; have n0_ := Aside0.mk (below_step (by repeat (first | (with_reducible first | exact HB.out | apply below_alloc | apply pw_below_drewN | apply below_drew1) | exact HB.out)) hb); have n1_ := Aside0.mk (hbox); have n2_ := Aside0.mk ((by rw [hg]; exact (below_size (by repeat (first | (with_reducible first | exact HB.out | apply below_alloc | apply pw_below_drewN | apply below_drew1) | exact HB.out))) : w.heap.size ≤ gb643)); have n3_ := Aside0.mk ((by rw [hg]; exact (below_size (by repeat (first | (with_reducible first | exact HB.out | apply below_alloc | apply pw_below_drewN | apply below_drew1) | exact HB.out))) : w.heap.size ≤ gb643)); clear HB; have HB := n0_; have BK643 := n1_; have GW643 := n2_; have GE643 := n3_; clear n0_ n1_ n2_ n3_; clear hb hbox hg; have hcz20_0 : w19.cell? ⟨gb643, 0, none⟩ = some (.slice A0_0 l0_0.length c0_0) := (blk_cell BK643.out 0).trans rfl; have hcz20_1 : w19.cell? ⟨gb643, 1, none⟩ = some (.slice A0_1 l0_1.length c0_1) := (blk_cell BK643.out 1).trans rfl; have hcz20_2 : w19.cell? ⟨gb643, 2, none⟩ = some (.slice A0_2 l0_2.length c0_2) := (blk_cell BK643.out 2).trans rfl; have hfz20_0 := blk_frozen BK643.out 0; have hfz20_1 := blk_frozen BK643.out 1; have hfz20_2 := blk_frozen BK643.out 2) | ((with_reducible refine gate_callee (f := 14) rfl ?_); refine goesL_ (some 15) rfl rfl Try.func14 (by kernel_rfl) rfl #[.agg #[.slice A0_0 l0_0.length c0_0, .slice A0_1 l0_1.length c0_1, .slice A0_2 l0_2.length c0_2], .int .i64 1048576] rfl (by (try simp only [List.map_toArray, List.map_cons, List.map_nil]); first | done | rfl | (simp only [List.length_drop, List.length_take]; rfl)) ?_; (with_reducible refine (laws_szHeap.calls _ _ l0_0 _ _ l0_1 _ _ l0_2 1048576 t644 _ ?side1 ?side2 ?side3 ?side4 ?side5 ?side6 A3.out).mono ?_); (case side1 => repeat (first | exact (Kd.C_below HR0_0.out HB.out) | (with_reducible refine Kd.C_alloc ?_ _) | (with_reducible refine Kd.C_drewN ?_ _) | (with_reducible refine Kd.C_drew ?_))); (case side2 => exact HC0_0.out); (case side3 => repeat (first | exact (Kd.C_below HR0_1.out HB.out) | (with_reducible refine Kd.C_alloc ?_ _) | (with_reducible refine Kd.C_drewN ?_ _) | (with_reducible refine Kd.C_drew ?_))); (case side4 => exact HC0_1.out); (case side5 => repeat (first | exact (Kd.C_below HR0_2.out HB.out) | (with_reducible refine Kd.C_alloc ?_ _) | (with_reducible refine Kd.C_drewN ?_ _) | (with_reducible refine Kd.C_drew ?_))); (case side6 => exact HC0_2.out); rintro e w21 ⟨rfl, hb⟩; refine ⟨_, rfl, ?_⟩; have n0_ := Aside0.mk (blk_below (g := gb643) (o := .cells #[.slice A0_0 l0_0.length c0_0, .slice A0_1 l0_1.length c0_1, .slice A0_2 l0_2.length c0_2] 25 (0, 0)) (by (with_reducible repeat (first | refine blk_drewN ?_ _ | refine blk_drew ?_ | refine blk_alloc ?_ _)); exact BK643.out) hb); have n1_ := Aside0.mk (below_step (by repeat (first | (with_reducible first | exact HB.out | apply below_alloc | apply pw_below_drewN | apply below_drew1 | refine below_set ?_ GE643.out) | exact HB.out)) hb); clear BK643; clear HB; have BK643 := n0_; have HB := n1_; clear n0_ n1_; (try clear hb); (try clear hb2); (try clear hk); (try clear hi); have hcz22_0 : w21.cell? ⟨gb643, 0, none⟩ = some (.slice A0_0 l0_0.length c0_0) := (blk_cell BK643.out 0).trans rfl; have hcz22_1 : w21.cell? ⟨gb643, 1, none⟩ = some (.slice A0_1 l0_1.length c0_1) := (blk_cell BK643.out 1).trans rfl; have hcz22_2 : w21.cell? ⟨gb643, 2, none⟩ = some (.slice A0_2 l0_2.length c0_2) := (blk_cell BK643.out 2).trans rfl; have hfz22_0 := blk_frozen BK643.out 0; have hfz22_1 := blk_frozen BK643.out 1; have hfz22_2 := blk_frozen BK643.out 2) | ((with_reducible refine gate_callee (f := 16) rfl ?_); refine goesL_ (some 19) rfl rfl Try.func16 (by kernel_rfl) rfl #[.agg #[.slice A0_0 l0_0.length c0_0, .slice A0_1 l0_1.length c0_1, .slice A0_2 l0_2.length c0_2]] rfl (by (try simp only [List.map_toArray, List.map_cons, List.map_nil]); first | done | rfl | (simp only [List.length_drop, List.length_take]; rfl)) ?_; (with_reducible refine (laws_toHeap.calls k _ _ l0_0 _ _ l0_1 _ _ l0_2 t645 t648 t651 _ ?side1 ?side2 ?side3 ?side4 ?side5 ?side6 A8.out).mono ?_); (case side1 => repeat (first | exact (Kd.C_below HR0_0.out HB.out) | (with_reducible refine Kd.C_alloc ?_ _) | (with_reducible refine Kd.C_drewN ?_ _) | (with_reducible refine Kd.C_drew ?_))); (case side2 => exact HC0_0.out); (case side3 => repeat (first | exact (Kd.C_below HR0_1.out HB.out) | (with_reducible refine Kd.C_alloc ?_ _) | (with_reducible refine Kd.C_drewN ?_ _) | (with_reducible refine Kd.C_drew ?_))); (case side4 => exact HC0_1.out); (case side5 => repeat (first | exact (Kd.C_below HR0_2.out HB.out) | (with_reducible refine Kd.C_alloc ?_ _) | (with_reducible refine Kd.C_drewN ?_ _) | (with_reducible refine Kd.C_drew ?_))); (case side6 => exact HC0_2.out); rintro e w23 ⟨v646, v649, v652, rfl, ho0, ho1, ho2, hb⟩; refine ⟨_, rfl, ?_⟩; have n0_ := Aside0.mk (Kd.R_lower ho0 (below_size (by repeat (first | (with_reducible first | exact HB.out | apply below_alloc | apply pw_below_drewN | apply below_drew1 | refine below_set ?_ GE643.out) | exact HB.out)))); have n1_ := Aside0.mk (Kd.R_lower ho1 (below_size (by repeat (first | (with_reducible first | exact HB.out | apply below_alloc | apply pw_below_drewN | apply below_drew1 | refine below_set ?_ GE643.out) | exact HB.out)))); have n2_ := Aside0.mk (Kd.R_lower ho2 (below_size (by repeat (first | (with_reducible first | exact HB.out | apply below_alloc | apply pw_below_drewN | apply below_drew1 | refine below_set ?_ GE643.out) | exact HB.out)))); have n3_ := Aside0.mk (blk_below (g := gb643) (o := .cells #[.slice A0_0 l0_0.length c0_0, .slice A0_1 l0_1.length c0_1, .slice A0_2 l0_2.length c0_2] 25 (0, 0)) (by (with_reducible repeat (first | refine blk_drewN ?_ _ | refine blk_drew ?_ | refine blk_alloc ?_ _)); exact BK643.out) hb); have n4_ := Aside0.mk (below_step (by repeat (first | (with_reducible first | exact HB.out | apply below_alloc | apply pw_below_drewN | apply below_drew1 | refine below_set ?_ GE643.out) | exact HB.out)) hb); clear BK643; clear HB; have HO647 := n0_; have HO650 := n1_; have HO653 := n2_; have BK643 := n3_; have HB := n4_; clear n0_ n1_ n2_ n3_ n4_; (try clear hb); (try clear hb2); (try clear hk); (try clear hi); (try clear ho0); (try clear ho1); (try clear ho2); obtain ⟨Ao24, co24, eo24⟩ := Kd.R_slice HO647.out; subst eo24; obtain ⟨Ao25, co25, eo25⟩ := Kd.R_slice HO650.out; subst eo25; obtain ⟨Ao26, co26, eo26⟩ := Kd.R_slice HO653.out; subst eo26) | ((with_reducible refine gate_callee (f := 31) rfl ?_); refine goesL_ (some 21) rfl rfl Try.func31 (by kernel_rfl) rfl #[.agg #[.slice Ao24 t645.length co24, .slice Ao25 t648.length co25, .slice Ao26 t651.length co26], .int .i64 a1] rfl (by (try simp only [List.map_toArray, List.map_cons, List.map_nil]); first | done | rfl | (simp only [List.length_drop, List.length_take]; rfl)) ?_; (with_reducible refine (spec_SourcesOf.calls k _ _ t645 _ _ t648 _ _ t651 a1 t654 _ ?side1 ?side2 ?side3 ?side4 ?side5 ?side6 A9.out).mono ?_); (case side1 => repeat (first | exact (Kd.R_reads' HO647.out).2.2 | (with_reducible refine Kd.C_alloc ?_ _) | (with_reducible refine Kd.C_drewN ?_ _) | (with_reducible refine Kd.C_drew ?_))); (case side2 => exact (Kd.R_reads' HO647.out).2.1); (case side3 => repeat (first | exact (Kd.R_reads' HO650.out).2.2 | (with_reducible refine Kd.C_alloc ?_ _) | (with_reducible refine Kd.C_drewN ?_ _) | (with_reducible refine Kd.C_drew ?_))); (case side4 => exact (Kd.R_reads' HO650.out).2.1); (case side5 => repeat (first | exact (Kd.R_reads' HO653.out).2.2 | (with_reducible refine Kd.C_alloc ?_ _) | (with_reducible refine Kd.C_drewN ?_ _) | (with_reducible refine Kd.C_drew ?_))); (case side6 => exact (Kd.R_reads' HO653.out).2.1); rintro e w27 ⟨v655, rfl, ho0, hb⟩; refine ⟨_, rfl, ?_⟩; have n0_ := Aside0.mk (Kd.R_elder' (by (with_reducible repeat (first | apply Kd.R_alloc | apply Kd.R_drewN | apply Kd.R_drew)); exact HO647.out) (Kd.R_base ho0) hb); have n1_ := Aside0.mk (Kd.R_elder' (by (with_reducible repeat (first | apply Kd.R_alloc | apply Kd.R_drewN | apply Kd.R_drew)); exact HO650.out) (Kd.R_base ho0) hb); have n2_ := Aside0.mk (Kd.R_elder' (by (with_reducible repeat (first | apply Kd.R_alloc | apply Kd.R_drewN | apply Kd.R_drew)); exact HO653.out) (Kd.R_base ho0) hb); have n3_ := Aside0.mk (Kd.R_lower (Kd.R_new' (Kd.R_new' (Kd.R_new' ho0 (Kd.R_lt (by (with_reducible repeat (first | apply Kd.R_alloc | apply Kd.R_drewN | apply Kd.R_drew)); exact HO647.out))) (Kd.R_lt (by (with_reducible repeat (first | apply Kd.R_alloc | apply Kd.R_drewN | apply Kd.R_drew)); exact HO650.out))) (Kd.R_lt (by (with_reducible repeat (first | apply Kd.R_alloc | apply Kd.R_drewN | apply Kd.R_drew)); exact HO653.out))) (below_size (by repeat (first | (with_reducible first | exact HB.out | apply below_alloc | apply pw_below_drewN | apply below_drew1 | refine below_set ?_ GE643.out) | exact HB.out)))); have n4_ := Aside0.mk (blk_below (g := gb643) (o := .cells #[.slice A0_0 l0_0.length c0_0, .slice A0_1 l0_1.length c0_1, .slice A0_2 l0_2.length c0_2] 25 (0, 0)) (by (with_reducible repeat (first | refine blk_drewN ?_ _ | refine blk_drew ?_ | refine blk_alloc ?_ _)); exact BK643.out) hb); have n5_ := Aside0.mk (below_step (by repeat (first | (with_reducible first | exact HB.out | apply below_alloc | apply pw_below_drewN | apply below_drew1 | refine below_set ?_ GE643.out) | exact HB.out)) hb); clear HO647; clear HO650; clear HO653; clear BK643; clear HB; have HO647 := n0_; have HO650 := n1_; have HO653 := n2_; have HO656 := n3_; have BK643 := n4_; have HB := n5_; clear n0_ n1_ n2_ n3_ n4_ n5_; (try clear hb); (try clear hb2); (try clear hk); (try clear hi); (try clear ho0); have hcz28_0 : w27.cell? ⟨gb643, 0, none⟩ = some (.slice A0_0 l0_0.length c0_0) := (blk_cell BK643.out 0).trans rfl; have hcz28_1 : w27.cell? ⟨gb643, 1, none⟩ = some (.slice A0_1 l0_1.length c0_1) := (blk_cell BK643.out 1).trans rfl; have hcz28_2 : w27.cell? ⟨gb643, 2, none⟩ = some (.slice A0_2 l0_2.length c0_2) := (blk_cell BK643.out 2).trans rfl; have hfz28_0 := blk_frozen BK643.out 0; have hfz28_1 := blk_frozen BK643.out 1; have hfz28_2 := blk_frozen BK643.out 2) | ((with_reducible refine gate_callee (f := 16) rfl ?_); refine goesL_ (some 23) rfl rfl Try.func16 (by kernel_rfl) rfl #[.agg #[.slice A0_0 l0_0.length c0_0, .slice A0_1 l0_1.length c0_1, .slice A0_2 l0_2.length c0_2]] rfl (by (try simp only [List.map_toArray, List.map_cons, List.map_nil]); first | done | rfl | (simp only [List.length_drop, List.length_take]; rfl)) ?_; (with_reducible refine (laws_toHeap.calls k _ _ l0_0 _ _ l0_1 _ _ l0_2 t657 t660 t663 _ ?side1 ?side2 ?side3 ?side4 ?side5 ?side6 A10.out).mono ?_); (case side1 => repeat (first | exact (Kd.C_below HR0_0.out HB.out) | (with_reducible refine Kd.C_alloc ?_ _) | (with_reducible refine Kd.C_drewN ?_ _) | (with_reducible refine Kd.C_drew ?_))); (case side2 => exact HC0_0.out); (case side3 => repeat (first | exact (Kd.C_below HR0_1.out HB.out) | (with_reducible refine Kd.C_alloc ?_ _) | (with_reducible refine Kd.C_drewN ?_ _) | (with_reducible refine Kd.C_drew ?_))); (case side4 => exact HC0_1.out); (case side5 => repeat (first | exact (Kd.C_below HR0_2.out HB.out) | (with_reducible refine Kd.C_alloc ?_ _) | (with_reducible refine Kd.C_drewN ?_ _) | (with_reducible refine Kd.C_drew ?_))); (case side6 => exact HC0_2.out); rintro e w29 ⟨v658, v661, v664, rfl, ho0, ho1, ho2, hb⟩; refine ⟨_, rfl, ?_⟩; have n0_ := Aside0.mk (Kd.R_mono (Kd.R_told (Kd.R_told (Kd.R_told (Kd.R_old (by (with_reducible repeat (first | apply Kd.R_alloc | apply Kd.R_drewN | apply Kd.R_drew)); exact HO647.out) hb) (Kd.R_base ho0)) (Kd.R_base ho1)) (Kd.R_base ho2)) (fun _ h_ => h_.1)); have n1_ := Aside0.mk (Kd.R_mono (Kd.R_told (Kd.R_told (Kd.R_told (Kd.R_old (by (with_reducible repeat (first | apply Kd.R_alloc | apply Kd.R_drewN | apply Kd.R_drew)); exact HO650.out) hb) (Kd.R_base ho0)) (Kd.R_base ho1)) (Kd.R_base ho2)) (fun _ h_ => h_.1)); have n2_ := Aside0.mk (Kd.R_mono (Kd.R_told (Kd.R_told (Kd.R_told (Kd.R_old (by (with_reducible repeat (first | apply Kd.R_alloc | apply Kd.R_drewN | apply Kd.R_drew)); exact HO653.out) hb) (Kd.R_base ho0)) (Kd.R_base ho1)) (Kd.R_base ho2)) (fun _ h_ => h_.1)); have n3_ := Aside0.mk (Kd.R_mono (Kd.R_told (Kd.R_told (Kd.R_told (Kd.R_old (by (with_reducible repeat (first | apply Kd.R_alloc | apply Kd.R_drewN | apply Kd.R_drew)); exact HO656.out) hb) (Kd.R_base ho0)) (Kd.R_base ho1)) (Kd.R_base ho2)) (fun _ h_ => h_.1)); have n4_ := Aside0.mk (Kd.R_lower (Kd.R_new' (Kd.R_new' (Kd.R_new' (Kd.R_new' ho0 (Kd.R_lt (by (with_reducible repeat (first | apply Kd.R_alloc | apply Kd.R_drewN | apply Kd.R_drew)); exact HO647.out))) (Kd.R_lt (by (with_reducible repeat (first | apply Kd.R_alloc | apply Kd.R_drewN | apply Kd.R_drew)); exact HO650.out))) (Kd.R_lt (by (with_reducible repeat (first | apply Kd.R_alloc | apply Kd.R_drewN | apply Kd.R_drew)); exact HO653.out))) (Kd.R_lt (by (with_reducible repeat (first | apply Kd.R_alloc | apply Kd.R_drewN | apply Kd.R_drew)); exact HO656.out))) (below_size (by repeat (first | (with_reducible first | exact HB.out | apply below_alloc | apply pw_below_drewN | apply below_drew1 | refine below_set ?_ GE643.out) | exact HB.out)))); have n5_ := Aside0.mk (Kd.R_lower (Kd.R_new' (Kd.R_new' (Kd.R_new' (Kd.R_new' ho1 (Kd.R_lt (by (with_reducible repeat (first | apply Kd.R_alloc | apply Kd.R_drewN | apply Kd.R_drew)); exact HO647.out))) (Kd.R_lt (by (with_reducible repeat (first | apply Kd.R_alloc | apply Kd.R_drewN | apply Kd.R_drew)); exact HO650.out))) (Kd.R_lt (by (with_reducible repeat (first | apply Kd.R_alloc | apply Kd.R_drewN | apply Kd.R_drew)); exact HO653.out))) (Kd.R_lt (by (with_reducible repeat (first | apply Kd.R_alloc | apply Kd.R_drewN | apply Kd.R_drew)); exact HO656.out))) (below_size (by repeat (first | (with_reducible first | exact HB.out | apply below_alloc | apply pw_below_drewN | apply below_drew1 | refine below_set ?_ GE643.out) | exact HB.out)))); have n6_ := Aside0.mk (Kd.R_lower (Kd.R_new' (Kd.R_new' (Kd.R_new' (Kd.R_new' ho2 (Kd.R_lt (by (with_reducible repeat (first | apply Kd.R_alloc | apply Kd.R_drewN | apply Kd.R_drew)); exact HO647.out))) (Kd.R_lt (by (with_reducible repeat (first | apply Kd.R_alloc | apply Kd.R_drewN | apply Kd.R_drew)); exact HO650.out))) (Kd.R_lt (by (with_reducible repeat (first | apply Kd.R_alloc | apply Kd.R_drewN | apply Kd.R_drew)); exact HO653.out))) (Kd.R_lt (by (with_reducible repeat (first | apply Kd.R_alloc | apply Kd.R_drewN | apply Kd.R_drew)); exact HO656.out))) (below_size (by repeat (first | (with_reducible first | exact HB.out | apply below_alloc | apply pw_below_drewN | apply below_drew1 | refine below_set ?_ GE643.out) | exact HB.out)))); have n7_ := Aside0.mk (blk_below (g := gb643) (o := .cells #[.slice A0_0 l0_0.length c0_0, .slice A0_1 l0_1.length c0_1, .slice A0_2 l0_2.length c0_2] 25 (0, 0)) (by (with_reducible repeat (first | refine blk_drewN ?_ _ | refine blk_drew ?_ | refine blk_alloc ?_ _)); exact BK643.out) hb); have n8_ := Aside0.mk (below_step (by repeat (first | (with_reducible first | exact HB.out | apply below_alloc | apply pw_below_drewN | apply below_drew1 | refine below_set ?_ GE643.out) | exact HB.out)) hb); clear HO647; clear HO650; clear HO653; clear HO656; clear BK643; clear HB; have HO647 := n0_; have HO650 := n1_; have HO653 := n2_; have HO656 := n3_; have HO659 := n4_; have HO662 := n5_; have HO665 := n6_; have BK643 := n7_; have HB := n8_; clear n0_ n1_ n2_ n3_ n4_ n5_ n6_ n7_ n8_; (try clear hb); (try clear hb2); (try clear hk); (try clear hi); (try clear ho0); (try clear ho1); (try clear ho2)) | ((with_reducible refine gate_dst (N := 7) rfl ?_); refine box_event ?hg (N := 7) ?hd (cs := #[.slice none 0 0, .slice none 0 0, .slice none 0 0]) (t := 28) ?hr ?_; (case hd => rfl); (case hg => rfl); (case hr => first | (go_simp; done) | (go_simp; rfl)); intro gb666 hg w30 hbox hb; have n0_ := Aside0.mk (Kd.R_below (by (with_reducible repeat (first | apply Kd.R_alloc | apply Kd.R_drewN | apply Kd.R_drew)); exact HO647.out) hb); have n1_ := Aside0.mk (Kd.R_below (by (with_reducible repeat (first | apply Kd.R_alloc | apply Kd.R_drewN | apply Kd.R_drew)); exact HO650.out) hb); have n2_ := Aside0.mk (Kd.R_below (by (with_reducible repeat (first | apply Kd.R_alloc | apply Kd.R_drewN | apply Kd.R_drew)); exact HO653.out) hb); have n3_ := Aside0.mk (Kd.R_below (by (with_reducible repeat (first | apply Kd.R_alloc | apply Kd.R_drewN | apply Kd.R_drew)); exact HO656.out) hb); have n4_ := Aside0.mk (Kd.R_below (by (with_reducible repeat (first | apply Kd.R_alloc | apply Kd.R_drewN | apply Kd.R_drew)); exact HO659.out) hb); have n5_ := Aside0.mk (Kd.R_below (by (with_reducible repeat (first | apply Kd.R_alloc | apply Kd.R_drewN | apply Kd.R_drew)); exact HO662.out) hb); have n6_ := Aside0.mk (Kd.R_below (by (with_reducible repeat (first | apply Kd.R_alloc | apply Kd.R_drewN | apply Kd.R_drew)); exact HO665.out) hb); have n7_ := Aside0.mk (blk_below (g := gb643) (o := .cells #[.slice A0_0 l0_0.length c0_0, .slice A0_1 l0_1.length c0_1, .slice A0_2 l0_2.length c0_2] 25 (0, 0)) (by (with_reducible repeat (first | refine blk_drewN ?_ _ | refine blk_drew ?_ | refine blk_alloc ?_ _)); exact BK643.out) hb); have n8_ := Aside0.mk (below_step (by repeat (first | (with_reducible first | exact HB.out | apply below_alloc | apply pw_below_drewN | apply below_drew1 | refine below_set ?_ GE643.out) | exact HB.out)) hb); have n9_ := Aside0.mk (hbox); have n10_ := Aside0.mk ((by rw [hg]; exact (below_size (by repeat (first | (with_reducible first | exact HB.out | apply below_alloc | apply pw_below_drewN | apply below_drew1 | refine below_set ?_ GE643.out) | exact HB.out))) : w.heap.size ≤ gb666)); have n11_ := Aside0.mk ((by rw [hg]; exact (below_size (by repeat (first | (with_reducible first | exact HB.out | apply below_alloc | apply pw_below_drewN | apply below_drew1 | refine below_set ?_ GE643.out) | exact HB.out))) : w.heap.size ≤ gb666)); have n12_ := Aside0.mk ((by rw [hg]; exact Nat.ne_of_lt (blk_lt (g := gb643) (o := .cells #[.slice A0_0 l0_0.length c0_0, .slice A0_1 l0_1.length c0_1, .slice A0_2 l0_2.length c0_2] 25 (0, 0)) (by (with_reducible repeat (first | refine blk_drewN ?_ _ | refine blk_drew ?_ | refine blk_alloc ?_ _)); exact BK643.out)) : gb643 ≠ gb666)); have n13_ := Aside0.mk ((by rw [hg]; exact Nat.ne_of_gt (blk_lt (g := gb643) (o := .cells #[.slice A0_0 l0_0.length c0_0, .slice A0_1 l0_1.length c0_1, .slice A0_2 l0_2.length c0_2] 25 (0, 0)) (by (with_reducible repeat (first | refine blk_drewN ?_ _ | refine blk_drew ?_ | refine blk_alloc ?_ _)); exact BK643.out)) : gb666 ≠ gb643)); clear HO647; clear HO650; clear HO653; clear HO656; clear HO659; clear HO662; clear HO665; clear BK643; clear HB; have HO647 := n0_; have HO650 := n1_; have HO653 := n2_; have HO656 := n3_; have HO659 := n4_; have HO662 := n5_; have HO665 := n6_; have BK643 := n7_; have HB := n8_; have BK666 := n9_; have GW666 := n10_; have GE666 := n11_; have NB643_666 := n12_; have NB666_643 := n13_; clear n0_ n1_ n2_ n3_ n4_ n5_ n6_ n7_ n8_ n9_ n10_ n11_ n12_ n13_; clear hb hbox hg; obtain ⟨Ao31, co31, eo31⟩ := Kd.R_slice HO659.out; subst eo31; have hnb32 := NB666_643.out; have hnc32 := NB643_666.out; have hcz33_0 : w30.cell? ⟨gb666, 0, none⟩ = some (.slice none 0 0) := (blk_cell BK666.out 0).trans rfl; have hcz33_1 : w30.cell? ⟨gb666, 1, none⟩ = some (.slice none 0 0) := (blk_cell BK666.out 1).trans rfl; have hcz33_2 : w30.cell? ⟨gb666, 2, none⟩ = some (.slice none 0 0) := (blk_cell BK666.out 2).trans rfl; have hfz33_0 := blk_frozen BK666.out 0; have hfz33_1 := blk_frozen BK666.out 1; have hfz33_2 := blk_frozen BK666.out 2; obtain ⟨Ao34, co34, eo34⟩ := Kd.R_slice HO662.out; subst eo34; obtain ⟨Ao35, co35, eo35⟩ := Kd.R_slice HO665.out; subst eo35) | ((with_reducible refine gate_callee (f := 32) rfl ?_); refine goesL_ (some 26) rfl rfl Try.func32 (by kernel_rfl) rfl #[.agg #[.slice Ao31 t657.length co31, .slice Ao34 t660.length co34, .slice Ao35 t663.length co35], .int .i64 a1] rfl (by (try simp only [List.map_toArray, List.map_cons, List.map_nil]); first | done | rfl | (simp only [List.length_drop, List.length_take]; rfl)) ?_; (with_reducible refine (impl_SourcesOf.calls k _ _ t657 _ _ t660 _ _ t663 a1 t667 _ ?side1 ?side2 ?side3 ?side4 ?side5 ?side6 A11.out).mono ?_); (case side1 => refine (Kd.R_reads' (e := 3) (base := w.heap.size) (ok := fun k_ => (((((some k_ ≠ (.slice Ao34 t660.length co34 : Value).ownBlock ∧ some k_ ≠ (.slice Ao35 t663.length co35 : Value).ownBlock) ∧ some k_ ≠ (.slice Ao24 t645.length co24 : Value).ownBlock) ∧ some k_ ≠ (.slice Ao25 t648.length co25 : Value).ownBlock) ∧ some k_ ≠ (.slice Ao26 t651.length co26 : Value).ownBlock) ∧ some k_ ≠ (v655 : Value).ownBlock)) (n := t657.length) (c := co31) ?_).2.2; exact (by (with_reducible repeat (first | apply Kd.R_alloc | apply Kd.R_drewN | apply Kd.R_drew)); exact (far3 HO659.out BK666.out (by decide) (.slice Ao31 t657.length co31) (.slice Ao34 t660.length co34) (.slice Ao35 t663.length co35)))); (case side2 => exact (Kd.R_reads' HO659.out).2.1); (case side3 => refine (Kd.R_reads' (e := 3) (base := w.heap.size) (ok := fun k_ => (((((some k_ ≠ (.slice Ao31 t657.length co31 : Value).ownBlock ∧ some k_ ≠ (.slice Ao35 t663.length co35 : Value).ownBlock) ∧ some k_ ≠ (.slice Ao24 t645.length co24 : Value).ownBlock) ∧ some k_ ≠ (.slice Ao25 t648.length co25 : Value).ownBlock) ∧ some k_ ≠ (.slice Ao26 t651.length co26 : Value).ownBlock) ∧ some k_ ≠ (v655 : Value).ownBlock)) (n := t660.length) (c := co34) ?_).2.2; exact (by (with_reducible repeat (first | apply Kd.R_alloc | apply Kd.R_drewN | apply Kd.R_drew)); exact (far3 HO662.out BK666.out (by decide) (.slice Ao31 t657.length co31) (.slice Ao34 t660.length co34) (.slice Ao35 t663.length co35)))); (case side4 => exact (Kd.R_reads' HO662.out).2.1); (case side5 => refine (Kd.R_reads' (e := 3) (base := w.heap.size) (ok := fun k_ => (((((some k_ ≠ (.slice Ao31 t657.length co31 : Value).ownBlock ∧ some k_ ≠ (.slice Ao34 t660.length co34 : Value).ownBlock) ∧ some k_ ≠ (.slice Ao24 t645.length co24 : Value).ownBlock) ∧ some k_ ≠ (.slice Ao25 t648.length co25 : Value).ownBlock) ∧ some k_ ≠ (.slice Ao26 t651.length co26 : Value).ownBlock) ∧ some k_ ≠ (v655 : Value).ownBlock)) (n := t663.length) (c := co35) ?_).2.2; exact (by (with_reducible repeat (first | apply Kd.R_alloc | apply Kd.R_drewN | apply Kd.R_drew)); exact (far3 HO665.out BK666.out (by decide) (.slice Ao31 t657.length co31) (.slice Ao34 t660.length co34) (.slice Ao35 t663.length co35)))); (case side6 => exact (Kd.R_reads' HO665.out).2.1); rintro e w36 ⟨v668, rfl, ho0, hb⟩; refine ⟨_, rfl, ?_⟩; have n0_ := Aside0.mk (Kd.R_elder' (by (with_reducible repeat (first | apply Kd.R_alloc | apply Kd.R_drewN | apply Kd.R_drew)); exact (far3 HO647.out BK666.out (by decide) (.slice Ao31 t657.length co31) (.slice Ao34 t660.length co34) (.slice Ao35 t663.length co35))) (Kd.R_base ho0) hb); have n1_ := Aside0.mk (Kd.R_elder' (by (with_reducible repeat (first | apply Kd.R_alloc | apply Kd.R_drewN | apply Kd.R_drew)); exact (far3 HO650.out BK666.out (by decide) (.slice Ao31 t657.length co31) (.slice Ao34 t660.length co34) (.slice Ao35 t663.length co35))) (Kd.R_base ho0) hb); have n2_ := Aside0.mk (Kd.R_elder' (by (with_reducible repeat (first | apply Kd.R_alloc | apply Kd.R_drewN | apply Kd.R_drew)); exact (far3 HO653.out BK666.out (by decide) (.slice Ao31 t657.length co31) (.slice Ao34 t660.length co34) (.slice Ao35 t663.length co35))) (Kd.R_base ho0) hb); have n3_ := Aside0.mk (Kd.R_elder' (by (with_reducible repeat (first | apply Kd.R_alloc | apply Kd.R_drewN | apply Kd.R_drew)); exact (far3 HO656.out BK666.out (by decide) (.slice Ao31 t657.length co31) (.slice Ao34 t660.length co34) (.slice Ao35 t663.length co35))) (Kd.R_base ho0) hb); have n4_ := Aside0.mk (Kd.R_elder' (by (with_reducible repeat (first | apply Kd.R_alloc | apply Kd.R_drewN | apply Kd.R_drew)); exact (far3 HO659.out BK666.out (by decide) (.slice Ao31 t657.length co31) (.slice Ao34 t660.length co34) (.slice Ao35 t663.length co35))) (Kd.R_base ho0) hb); have n5_ := Aside0.mk (Kd.R_elder' (by (with_reducible repeat (first | apply Kd.R_alloc | apply Kd.R_drewN | apply Kd.R_drew)); exact (far3 HO662.out BK666.out (by decide) (.slice Ao31 t657.length co31) (.slice Ao34 t660.length co34) (.slice Ao35 t663.length co35))) (Kd.R_base ho0) hb); have n6_ := Aside0.mk (Kd.R_elder' (by (with_reducible repeat (first | apply Kd.R_alloc | apply Kd.R_drewN | apply Kd.R_drew)); exact (far3 HO665.out BK666.out (by decide) (.slice Ao31 t657.length co31) (.slice Ao34 t660.length co34) (.slice Ao35 t663.length co35))) (Kd.R_base ho0) hb); have n7_ := Aside0.mk (Kd.R_lower (Kd.R_new' (Kd.R_new' (Kd.R_new' (Kd.R_new' (Kd.R_new' (Kd.R_new' (Kd.R_new' ho0 (Kd.R_lt (by (with_reducible repeat (first | apply Kd.R_alloc | apply Kd.R_drewN | apply Kd.R_drew)); exact (far3 HO647.out BK666.out (by decide) (.slice Ao31 t657.length co31) (.slice Ao34 t660.length co34) (.slice Ao35 t663.length co35))))) (Kd.R_lt (by (with_reducible repeat (first | apply Kd.R_alloc | apply Kd.R_drewN | apply Kd.R_drew)); exact (far3 HO650.out BK666.out (by decide) (.slice Ao31 t657.length co31) (.slice Ao34 t660.length co34) (.slice Ao35 t663.length co35))))) (Kd.R_lt (by (with_reducible repeat (first | apply Kd.R_alloc | apply Kd.R_drewN | apply Kd.R_drew)); exact (far3 HO653.out BK666.out (by decide) (.slice Ao31 t657.length co31) (.slice Ao34 t660.length co34) (.slice Ao35 t663.length co35))))) (Kd.R_lt (by (with_reducible repeat (first | apply Kd.R_alloc | apply Kd.R_drewN | apply Kd.R_drew)); exact (far3 HO656.out BK666.out (by decide) (.slice Ao31 t657.length co31) (.slice Ao34 t660.length co34) (.slice Ao35 t663.length co35))))) (Kd.R_lt (by (with_reducible repeat (first | apply Kd.R_alloc | apply Kd.R_drewN | apply Kd.R_drew)); exact (far3 HO659.out BK666.out (by decide) (.slice Ao31 t657.length co31) (.slice Ao34 t660.length co34) (.slice Ao35 t663.length co35))))) (Kd.R_lt (by (with_reducible repeat (first | apply Kd.R_alloc | apply Kd.R_drewN | apply Kd.R_drew)); exact (far3 HO662.out BK666.out (by decide) (.slice Ao31 t657.length co31) (.slice Ao34 t660.length co34) (.slice Ao35 t663.length co35))))) (Kd.R_lt (by (with_reducible repeat (first | apply Kd.R_alloc | apply Kd.R_drewN | apply Kd.R_drew)); exact (far3 HO665.out BK666.out (by decide) (.slice Ao31 t657.length co31) (.slice Ao34 t660.length co34) (.slice Ao35 t663.length co35))))) (below_size (by repeat (first | (with_reducible first | exact HB.out | apply below_alloc | apply pw_below_drewN | apply below_drew1 | refine below_set ?_ GE643.out | refine below_set ?_ GE666.out) | exact HB.out)))); have n8_ := Aside0.mk (blk_below (g := gb643) (o := .cells #[.slice A0_0 l0_0.length c0_0, .slice A0_1 l0_1.length c0_1, .slice A0_2 l0_2.length c0_2] 25 (0, 0)) (by (with_reducible repeat (first | refine blk_drewN ?_ _ | refine blk_drew ?_ | refine blk_alloc ?_ _)); refine blk_far ?_ NB643_666.out _; (with_reducible repeat (first | refine blk_drewN ?_ _ | refine blk_drew ?_ | refine blk_alloc ?_ _)); refine blk_far ?_ NB643_666.out _; (with_reducible repeat (first | refine blk_drewN ?_ _ | refine blk_drew ?_ | refine blk_alloc ?_ _)); refine blk_far ?_ NB643_666.out _; (with_reducible repeat (first | refine blk_drewN ?_ _ | refine blk_drew ?_ | refine blk_alloc ?_ _)); exact BK643.out) hb); have n9_ := Aside0.mk (blk_below (g := gb666) (o := .cells #[.slice Ao31 t657.length co31, .slice Ao34 t660.length co34, .slice Ao35 t663.length co35] 28 (0, 0)) (by (with_reducible repeat (first | refine blk_drewN ?_ _ | refine blk_drew ?_ | refine blk_alloc ?_ _)); refine blk_put (cs := #[.slice Ao31 t657.length co31, .slice Ao34 t660.length co34, .slice none 0 0]) ?_ 2 _ rfl; (with_reducible repeat (first | refine blk_drewN ?_ _ | refine blk_drew ?_ | refine blk_alloc ?_ _)); refine blk_put (cs := #[.slice Ao31 t657.length co31, .slice none 0 0, .slice none 0 0]) ?_ 1 _ rfl; (with_reducible repeat (first | refine blk_drewN ?_ _ | refine blk_drew ?_ | refine blk_alloc ?_ _)); refine blk_put (cs := #[.slice none 0 0, .slice none 0 0, .slice none 0 0]) ?_ 0 _ rfl; (with_reducible repeat (first | refine blk_drewN ?_ _ | refine blk_drew ?_ | refine blk_alloc ?_ _)); exact BK666.out) hb); have n10_ := Aside0.mk (below_step (by repeat (first | (with_reducible first | exact HB.out | apply below_alloc | apply pw_below_drewN | apply below_drew1 | refine below_set ?_ GE643.out | refine below_set ?_ GE666.out) | exact HB.out)) hb); clear HO647; clear HO650; clear HO653; clear HO656; clear HO659; clear HO662; clear HO665; clear BK643; clear BK666; clear HB; have HO647 := n0_; have HO650 := n1_; have HO653 := n2_; have HO656 := n3_; have HO659 := n4_; have HO662 := n5_; have HO665 := n6_; have HO669 := n7_; have BK643 := n8_; have BK666 := n9_; have HB := n10_; clear n0_ n1_ n2_ n3_ n4_ n5_ n6_ n7_ n8_ n9_ n10_; (try clear hb); (try clear hb2); (try clear hk); (try clear hi); (try clear ho0); obtain ⟨Ao37, co37, eo37⟩ := Kd.R_slice HO669.out; subst eo37; obtain ⟨Ao38, co38, eo38⟩ := Kd.R_slice HO656.out; subst eo38) | ((with_reducible refine gate_callee (f := 33) rfl ?_); refine goesL_ (some 29) rfl rfl Try.func33 (by kernel_rfl) rfl #[.slice Ao37 t667.length co37, .slice Ao38 t654.length co38] rfl (by (try simp only [List.map_toArray, List.map_cons, List.map_nil]); first | done | rfl | (simp only [List.length_drop, List.length_take]; rfl)) ?_; (with_reducible refine (laws_eqIntS.calls k _ _ t667 _ _ t654 true _ ?side1 ?side2 ?side3 ?side4 A12.out).mono ?_); (case side1 => repeat (first | exact (Kd.R_reads' HO669.out).2.2 | (with_reducible refine Kd.C_alloc ?_ _) | (with_reducible refine Kd.C_drewN ?_ _) | (with_reducible refine Kd.C_drew ?_))); (case side2 => exact (Kd.R_reads' HO669.out).2.1); (case side3 => repeat (first | exact (Kd.R_reads' HO656.out).2.2 | (with_reducible refine Kd.C_alloc ?_ _) | (with_reducible refine Kd.C_drewN ?_ _) | (with_reducible refine Kd.C_drew ?_))); (case side4 => exact (Kd.R_reads' HO656.out).2.1); rintro e w' ⟨rfl, ⟨nd, rfl⟩⟩; refine ⟨_, rfl, ?_⟩))
        (try (rw [drewN_self w36]; generalize hq_ : World.drewN w36 _ = w36; have n0_ : Aside0 (Kd.R (Kd.int .i64) 3 w36 w.heap.size (fun k_ => some k_ ≠ (.slice Ao25 t648.length co25 : Value).ownBlock ∧ some k_ ≠ (.slice Ao26 t651.length co26 : Value).ownBlock ∧ some k_ ≠ (.slice Ao38 t654.length co38 : Value).ownBlock ∧ some k_ ≠ (.slice Ao31 t657.length co31 : Value).ownBlock ∧ some k_ ≠ (.slice Ao34 t660.length co34 : Value).ownBlock ∧ some k_ ≠ (.slice Ao35 t663.length co35 : Value).ownBlock ∧ some k_ ≠ (.slice Ao37 t667.length co37 : Value).ownBlock) (.slice Ao24 t645.length co24) t645) := ⟨by rw [← hq_]; exact (by (with_reducible repeat (first | apply Kd.R_alloc | apply Kd.R_drewN | apply Kd.R_drew)); exact Kd.R_mono HO647.out (fun _ hk => by simp only [ne_eq] at hk ⊢; simp only [hk, not_false_eq_true, and_self]))⟩; have n1_ : Aside0 (Kd.R (Kd.int .i64) 3 w36 w.heap.size (fun k_ => some k_ ≠ (.slice Ao24 t645.length co24 : Value).ownBlock ∧ some k_ ≠ (.slice Ao26 t651.length co26 : Value).ownBlock ∧ some k_ ≠ (.slice Ao38 t654.length co38 : Value).ownBlock ∧ some k_ ≠ (.slice Ao31 t657.length co31 : Value).ownBlock ∧ some k_ ≠ (.slice Ao34 t660.length co34 : Value).ownBlock ∧ some k_ ≠ (.slice Ao35 t663.length co35 : Value).ownBlock ∧ some k_ ≠ (.slice Ao37 t667.length co37 : Value).ownBlock) (.slice Ao25 t648.length co25) t648) := ⟨by rw [← hq_]; exact (by (with_reducible repeat (first | apply Kd.R_alloc | apply Kd.R_drewN | apply Kd.R_drew)); exact Kd.R_mono HO650.out (fun _ hk => by simp only [ne_eq] at hk ⊢; simp only [hk, not_false_eq_true, and_self]))⟩; have n2_ : Aside0 (Kd.R (Kd.int .i64) 3 w36 w.heap.size (fun k_ => some k_ ≠ (.slice Ao24 t645.length co24 : Value).ownBlock ∧ some k_ ≠ (.slice Ao25 t648.length co25 : Value).ownBlock ∧ some k_ ≠ (.slice Ao38 t654.length co38 : Value).ownBlock ∧ some k_ ≠ (.slice Ao31 t657.length co31 : Value).ownBlock ∧ some k_ ≠ (.slice Ao34 t660.length co34 : Value).ownBlock ∧ some k_ ≠ (.slice Ao35 t663.length co35 : Value).ownBlock ∧ some k_ ≠ (.slice Ao37 t667.length co37 : Value).ownBlock) (.slice Ao26 t651.length co26) t651) := ⟨by rw [← hq_]; exact (by (with_reducible repeat (first | apply Kd.R_alloc | apply Kd.R_drewN | apply Kd.R_drew)); exact Kd.R_mono HO653.out (fun _ hk => by simp only [ne_eq] at hk ⊢; simp only [hk, not_false_eq_true, and_self]))⟩; have n3_ : Aside0 (Kd.R (Kd.int .i64) 3 w36 w.heap.size (fun k_ => some k_ ≠ (.slice Ao24 t645.length co24 : Value).ownBlock ∧ some k_ ≠ (.slice Ao25 t648.length co25 : Value).ownBlock ∧ some k_ ≠ (.slice Ao26 t651.length co26 : Value).ownBlock ∧ some k_ ≠ (.slice Ao31 t657.length co31 : Value).ownBlock ∧ some k_ ≠ (.slice Ao34 t660.length co34 : Value).ownBlock ∧ some k_ ≠ (.slice Ao35 t663.length co35 : Value).ownBlock ∧ some k_ ≠ (.slice Ao37 t667.length co37 : Value).ownBlock) (.slice Ao38 t654.length co38) t654) := ⟨by rw [← hq_]; exact (by (with_reducible repeat (first | apply Kd.R_alloc | apply Kd.R_drewN | apply Kd.R_drew)); exact Kd.R_mono HO656.out (fun _ hk => by simp only [ne_eq] at hk ⊢; simp only [hk, not_false_eq_true, and_self]))⟩; have n4_ : Aside0 (Kd.R (Kd.int .i64) 3 w36 w.heap.size (fun k_ => some k_ ≠ (.slice Ao24 t645.length co24 : Value).ownBlock ∧ some k_ ≠ (.slice Ao25 t648.length co25 : Value).ownBlock ∧ some k_ ≠ (.slice Ao26 t651.length co26 : Value).ownBlock ∧ some k_ ≠ (.slice Ao38 t654.length co38 : Value).ownBlock ∧ some k_ ≠ (.slice Ao34 t660.length co34 : Value).ownBlock ∧ some k_ ≠ (.slice Ao35 t663.length co35 : Value).ownBlock ∧ some k_ ≠ (.slice Ao37 t667.length co37 : Value).ownBlock) (.slice Ao31 t657.length co31) t657) := ⟨by rw [← hq_]; exact (by (with_reducible repeat (first | apply Kd.R_alloc | apply Kd.R_drewN | apply Kd.R_drew)); exact Kd.R_mono HO659.out (fun _ hk => by simp only [ne_eq] at hk ⊢; simp only [hk, not_false_eq_true, and_self]))⟩; have n5_ : Aside0 (Kd.R (Kd.int .i64) 3 w36 w.heap.size (fun k_ => some k_ ≠ (.slice Ao24 t645.length co24 : Value).ownBlock ∧ some k_ ≠ (.slice Ao25 t648.length co25 : Value).ownBlock ∧ some k_ ≠ (.slice Ao26 t651.length co26 : Value).ownBlock ∧ some k_ ≠ (.slice Ao38 t654.length co38 : Value).ownBlock ∧ some k_ ≠ (.slice Ao31 t657.length co31 : Value).ownBlock ∧ some k_ ≠ (.slice Ao35 t663.length co35 : Value).ownBlock ∧ some k_ ≠ (.slice Ao37 t667.length co37 : Value).ownBlock) (.slice Ao34 t660.length co34) t660) := ⟨by rw [← hq_]; exact (by (with_reducible repeat (first | apply Kd.R_alloc | apply Kd.R_drewN | apply Kd.R_drew)); exact Kd.R_mono HO662.out (fun _ hk => by simp only [ne_eq] at hk ⊢; simp only [hk, not_false_eq_true, and_self]))⟩; have n6_ : Aside0 (Kd.R (Kd.int .i64) 3 w36 w.heap.size (fun k_ => some k_ ≠ (.slice Ao24 t645.length co24 : Value).ownBlock ∧ some k_ ≠ (.slice Ao25 t648.length co25 : Value).ownBlock ∧ some k_ ≠ (.slice Ao26 t651.length co26 : Value).ownBlock ∧ some k_ ≠ (.slice Ao38 t654.length co38 : Value).ownBlock ∧ some k_ ≠ (.slice Ao31 t657.length co31 : Value).ownBlock ∧ some k_ ≠ (.slice Ao34 t660.length co34 : Value).ownBlock ∧ some k_ ≠ (.slice Ao37 t667.length co37 : Value).ownBlock) (.slice Ao35 t663.length co35) t663) := ⟨by rw [← hq_]; exact (by (with_reducible repeat (first | apply Kd.R_alloc | apply Kd.R_drewN | apply Kd.R_drew)); exact Kd.R_mono HO665.out (fun _ hk => by simp only [ne_eq] at hk ⊢; simp only [hk, not_false_eq_true, and_self]))⟩; have n7_ : Aside0 (Kd.R (Kd.int .i64) 3 w36 w.heap.size (fun k_ => some k_ ≠ (.slice Ao24 t645.length co24 : Value).ownBlock ∧ some k_ ≠ (.slice Ao25 t648.length co25 : Value).ownBlock ∧ some k_ ≠ (.slice Ao26 t651.length co26 : Value).ownBlock ∧ some k_ ≠ (.slice Ao38 t654.length co38 : Value).ownBlock ∧ some k_ ≠ (.slice Ao31 t657.length co31 : Value).ownBlock ∧ some k_ ≠ (.slice Ao34 t660.length co34 : Value).ownBlock ∧ some k_ ≠ (.slice Ao35 t663.length co35 : Value).ownBlock) (.slice Ao37 t667.length co37) t667) := ⟨by rw [← hq_]; exact (by (with_reducible repeat (first | apply Kd.R_alloc | apply Kd.R_drewN | apply Kd.R_drew)); exact Kd.R_mono HO669.out (fun _ hk => by simp only [ne_eq] at hk ⊢; simp only [hk, not_false_eq_true, and_self]))⟩; have n8_ : Aside0 (w36.heap[gb643]? = some (.cells #[.slice A0_0 l0_0.length c0_0, .slice A0_1 l0_1.length c0_1, .slice A0_2 l0_2.length c0_2] 25 (0, 0))) := ⟨by rw [← hq_]; exact (by (with_reducible repeat (first | refine blk_drewN ?_ _ | refine blk_drew ?_ | refine blk_alloc ?_ _)); exact BK643.out)⟩; have n9_ : Aside0 (w36.heap[gb666]? = some (.cells #[.slice Ao31 t657.length co31, .slice Ao34 t660.length co34, .slice Ao35 t663.length co35] 28 (0, 0))) := ⟨by rw [← hq_]; exact (by (with_reducible repeat (first | refine blk_drewN ?_ _ | refine blk_drew ?_ | refine blk_alloc ?_ _)); exact BK666.out)⟩; have n10_ : Aside0 (Below w.heap.size w w36) := ⟨by rw [← hq_]; exact (by repeat (first | (with_reducible first | exact HB.out | apply below_alloc | apply pw_below_drewN | apply below_drew1 | refine below_set ?_ GE643.out | refine below_set ?_ GE666.out) | exact HB.out))⟩; clear HO647 HO650 HO653 HO656 HO659 HO662 HO665 HO669 BK643 BK666 HB hq_; have HO647 := n0_; have HO650 := n1_; have HO653 := n2_; have HO656 := n3_; have HO659 := n4_; have HO662 := n5_; have HO665 := n6_; have HO669 := n7_; have BK643 := n8_; have BK666 := n9_; have HB := n10_; clear n0_ n1_ n2_ n3_ n4_ n5_ n6_ n7_ n8_ n9_ n10_))
        have n0_ := Aside0.mk (Kd.R_drew HO647.out)
        have n1_ := Aside0.mk (Kd.R_drew HO650.out)
        have n2_ := Aside0.mk (Kd.R_drew HO653.out)
        have n3_ := Aside0.mk (Kd.R_drew HO656.out)
        have n4_ := Aside0.mk (Kd.R_drew HO659.out)
        have n5_ := Aside0.mk (Kd.R_drew HO662.out)
        have n6_ := Aside0.mk (Kd.R_drew HO665.out)
        have n7_ := Aside0.mk (Kd.R_drew HO669.out)
        have n8_ := Aside0.mk (blk_drew BK643.out)
        have n9_ := Aside0.mk (blk_drew BK666.out)
        have n10_ := Aside0.mk (below_drew1 HB.out)
        clear HO647
        clear HO650
        clear HO653
        clear HO656
        clear HO659
        clear HO662
        clear HO665
        clear HO669
        clear BK643
        clear BK666
        clear HB
        have HO647 := n0_
        have HO650 := n1_
        have HO653 := n2_
        have HO656 := n3_
        have HO659 := n4_
        have HO662 := n5_
        have HO665 := n6_
        have HO669 := n7_
        have BK643 := n8_
        have BK666 := n9_
        have HB := n10_
        clear n0_ n1_ n2_ n3_ n4_ n5_ n6_ n7_ n8_ n9_ n10_
        refine start_ (n := 5) (S := fun w' => w'.cell? ⟨gb666, 0, none⟩ = some (.slice Ao31 t657.length co31) ∧ w'.cell? ⟨gb666, 1, none⟩ = some (.slice Ao34 t660.length co34) ∧ w'.cell? ⟨gb666, 2, none⟩ = some (.slice Ao35 t663.length co35) ∧ w'.cell? ⟨gb643, 0, none⟩ = some (.slice A0_0 l0_0.length c0_0) ∧ w'.cell? ⟨gb643, 1, none⟩ = some (.slice A0_1 l0_1.length c0_1) ∧ w'.cell? ⟨gb643, 2, none⟩ = some (.slice A0_2 l0_2.length c0_2)) (ds := []) #[false, false, false, false, false] (by kernel_rfl) rfl rfl ⟨(blk_cell BK666.out 0).trans rfl, (blk_cell BK666.out 1).trans rfl, (blk_cell BK666.out 2).trans rfl, (blk_cell BK643.out 0).trans rfl, (blk_cell BK643.out 1).trans rfl, (blk_cell BK643.out 2).trans rfl⟩ (fun hHeld => ?_)
        generalize w36.drew = w39 at HO647 HO650 HO653 HO656 HO659 HO662 HO665 HO669 BK643 BK666 HB hHeld ⊢
        refine take_ (i := 0) (N := some 31) (v := ?_) (a' := ?_) #[true, false, false, false, false] rfl rfl (by kernel_rfl) (fun _ _ _ h => h) (Or.inl ⟨by rfl, ?_⟩) hHeld ?_ ?_
        rotate_left
        · rintro w' ⟨s0, s1, s2, s3, s4, s5⟩
          go_simp
          with_reducible rfl
        rotate_left
        · simp only [Act.put, List.setIfInBounds_toArray, List.set_cons_zero, List.set_cons_succ, i64_w, i32_w]
          rfl
        refine take_ (i := 1) (N := some 32) (v := ?_) (a' := ?_) #[true, true, false, false, false] rfl rfl (by kernel_rfl) (fun _ _ _ h => h) (Or.inl ⟨by rfl, ?_⟩) hHeld ?_ ?_
        rotate_left
        · rintro w' ⟨s0, s1, s2, s3, s4, s5⟩
          go_simp
          with_reducible rfl
        rotate_left
        · simp only [Act.put, List.setIfInBounds_toArray, List.set_cons_zero, List.set_cons_succ, i64_w, i32_w]
          rfl
        refine one_ (i := 2) (N := some 33) #[true, true, true, false, false] rfl rfl (by kernel_rfl) (by decide) (fun K hK => ?_)
        refine goes_ Try.func16 (by kernel_rfl) rfl #[.agg #[.slice A0_0 l0_0.length c0_0, .slice A0_1 l0_1.length c0_1, .slice A0_2 l0_2.length c0_2]] (by rfl) rfl rfl (by (try simp only [List.map_toArray, List.map_cons, List.map_nil]); first | done | rfl | (simp only [List.length_drop, List.length_take]; rfl)) ?_
        with_reducible refine (laws_toHeap.calls k _ _ l0_0 _ _ l0_1 _ _ l0_2 t671 t674 t677 _ ?side1 ?side2 ?side3 ?side4 ?side5 ?side6 A14.out).mono ?_
        (case side1 => repeat (first | exact (Kd.C_below HR0_0.out HB.out) | (with_reducible refine Kd.C_alloc ?_ _) | (with_reducible refine Kd.C_drewN ?_ _) | (with_reducible refine Kd.C_drew ?_)))
        (case side2 => exact HC0_0.out)
        (case side3 => repeat (first | exact (Kd.C_below HR0_1.out HB.out) | (with_reducible refine Kd.C_alloc ?_ _) | (with_reducible refine Kd.C_drewN ?_ _) | (with_reducible refine Kd.C_drew ?_)))
        (case side4 => exact HC0_1.out)
        (case side5 => repeat (first | exact (Kd.C_below HR0_2.out HB.out) | (with_reducible refine Kd.C_alloc ?_ _) | (with_reducible refine Kd.C_drewN ?_ _) | (with_reducible refine Kd.C_drew ?_)))
        (case side6 => exact HC0_2.out)
        rintro e w40 ⟨v672, v675, v678, rfl, ho0, ho1, ho2, hb⟩
        refine ⟨_, rfl, ?_⟩
        have n0_ := Aside0.mk (Kd.R_mono (Kd.R_told (Kd.R_told (Kd.R_told (Kd.R_old (by (with_reducible repeat (first | apply Kd.R_alloc | apply Kd.R_drewN | apply Kd.R_drew)); exact HO647.out) hb) (Kd.R_base ho0)) (Kd.R_base ho1)) (Kd.R_base ho2)) (fun _ h_ => h_.1))
        have n1_ := Aside0.mk (Kd.R_mono (Kd.R_told (Kd.R_told (Kd.R_told (Kd.R_old (by (with_reducible repeat (first | apply Kd.R_alloc | apply Kd.R_drewN | apply Kd.R_drew)); exact HO650.out) hb) (Kd.R_base ho0)) (Kd.R_base ho1)) (Kd.R_base ho2)) (fun _ h_ => h_.1))
        have n2_ := Aside0.mk (Kd.R_mono (Kd.R_told (Kd.R_told (Kd.R_told (Kd.R_old (by (with_reducible repeat (first | apply Kd.R_alloc | apply Kd.R_drewN | apply Kd.R_drew)); exact HO653.out) hb) (Kd.R_base ho0)) (Kd.R_base ho1)) (Kd.R_base ho2)) (fun _ h_ => h_.1))
        have n3_ := Aside0.mk (Kd.R_mono (Kd.R_told (Kd.R_told (Kd.R_told (Kd.R_old (by (with_reducible repeat (first | apply Kd.R_alloc | apply Kd.R_drewN | apply Kd.R_drew)); exact HO656.out) hb) (Kd.R_base ho0)) (Kd.R_base ho1)) (Kd.R_base ho2)) (fun _ h_ => h_.1))
        have n4_ := Aside0.mk (Kd.R_mono (Kd.R_told (Kd.R_told (Kd.R_told (Kd.R_old (by (with_reducible repeat (first | apply Kd.R_alloc | apply Kd.R_drewN | apply Kd.R_drew)); exact HO659.out) hb) (Kd.R_base ho0)) (Kd.R_base ho1)) (Kd.R_base ho2)) (fun _ h_ => h_.1))
        have n5_ := Aside0.mk (Kd.R_mono (Kd.R_told (Kd.R_told (Kd.R_told (Kd.R_old (by (with_reducible repeat (first | apply Kd.R_alloc | apply Kd.R_drewN | apply Kd.R_drew)); exact HO662.out) hb) (Kd.R_base ho0)) (Kd.R_base ho1)) (Kd.R_base ho2)) (fun _ h_ => h_.1))
        have n6_ := Aside0.mk (Kd.R_mono (Kd.R_told (Kd.R_told (Kd.R_told (Kd.R_old (by (with_reducible repeat (first | apply Kd.R_alloc | apply Kd.R_drewN | apply Kd.R_drew)); exact HO665.out) hb) (Kd.R_base ho0)) (Kd.R_base ho1)) (Kd.R_base ho2)) (fun _ h_ => h_.1))
        have n7_ := Aside0.mk (Kd.R_mono (Kd.R_told (Kd.R_told (Kd.R_told (Kd.R_old (by (with_reducible repeat (first | apply Kd.R_alloc | apply Kd.R_drewN | apply Kd.R_drew)); exact HO669.out) hb) (Kd.R_base ho0)) (Kd.R_base ho1)) (Kd.R_base ho2)) (fun _ h_ => h_.1))
        have n8_ := Aside0.mk (Kd.R_lower (Kd.R_new' (Kd.R_new' (Kd.R_new' (Kd.R_new' (Kd.R_new' (Kd.R_new' (Kd.R_new' (Kd.R_new' ho0 (Kd.R_lt (by (with_reducible repeat (first | apply Kd.R_alloc | apply Kd.R_drewN | apply Kd.R_drew)); exact HO647.out))) (Kd.R_lt (by (with_reducible repeat (first | apply Kd.R_alloc | apply Kd.R_drewN | apply Kd.R_drew)); exact HO650.out))) (Kd.R_lt (by (with_reducible repeat (first | apply Kd.R_alloc | apply Kd.R_drewN | apply Kd.R_drew)); exact HO653.out))) (Kd.R_lt (by (with_reducible repeat (first | apply Kd.R_alloc | apply Kd.R_drewN | apply Kd.R_drew)); exact HO656.out))) (Kd.R_lt (by (with_reducible repeat (first | apply Kd.R_alloc | apply Kd.R_drewN | apply Kd.R_drew)); exact HO659.out))) (Kd.R_lt (by (with_reducible repeat (first | apply Kd.R_alloc | apply Kd.R_drewN | apply Kd.R_drew)); exact HO662.out))) (Kd.R_lt (by (with_reducible repeat (first | apply Kd.R_alloc | apply Kd.R_drewN | apply Kd.R_drew)); exact HO665.out))) (Kd.R_lt (by (with_reducible repeat (first | apply Kd.R_alloc | apply Kd.R_drewN | apply Kd.R_drew)); exact HO669.out))) (below_size (by repeat (first | (with_reducible first | exact HB.out | apply below_alloc | apply pw_below_drewN | apply below_drew1 | refine below_set ?_ GE643.out | refine below_set ?_ GE666.out) | exact HB.out))))
        have n9_ := Aside0.mk (Kd.R_lower (Kd.R_new' (Kd.R_new' (Kd.R_new' (Kd.R_new' (Kd.R_new' (Kd.R_new' (Kd.R_new' (Kd.R_new' ho1 (Kd.R_lt (by (with_reducible repeat (first | apply Kd.R_alloc | apply Kd.R_drewN | apply Kd.R_drew)); exact HO647.out))) (Kd.R_lt (by (with_reducible repeat (first | apply Kd.R_alloc | apply Kd.R_drewN | apply Kd.R_drew)); exact HO650.out))) (Kd.R_lt (by (with_reducible repeat (first | apply Kd.R_alloc | apply Kd.R_drewN | apply Kd.R_drew)); exact HO653.out))) (Kd.R_lt (by (with_reducible repeat (first | apply Kd.R_alloc | apply Kd.R_drewN | apply Kd.R_drew)); exact HO656.out))) (Kd.R_lt (by (with_reducible repeat (first | apply Kd.R_alloc | apply Kd.R_drewN | apply Kd.R_drew)); exact HO659.out))) (Kd.R_lt (by (with_reducible repeat (first | apply Kd.R_alloc | apply Kd.R_drewN | apply Kd.R_drew)); exact HO662.out))) (Kd.R_lt (by (with_reducible repeat (first | apply Kd.R_alloc | apply Kd.R_drewN | apply Kd.R_drew)); exact HO665.out))) (Kd.R_lt (by (with_reducible repeat (first | apply Kd.R_alloc | apply Kd.R_drewN | apply Kd.R_drew)); exact HO669.out))) (below_size (by repeat (first | (with_reducible first | exact HB.out | apply below_alloc | apply pw_below_drewN | apply below_drew1 | refine below_set ?_ GE643.out | refine below_set ?_ GE666.out) | exact HB.out))))
        have n10_ := Aside0.mk (Kd.R_lower (Kd.R_new' (Kd.R_new' (Kd.R_new' (Kd.R_new' (Kd.R_new' (Kd.R_new' (Kd.R_new' (Kd.R_new' ho2 (Kd.R_lt (by (with_reducible repeat (first | apply Kd.R_alloc | apply Kd.R_drewN | apply Kd.R_drew)); exact HO647.out))) (Kd.R_lt (by (with_reducible repeat (first | apply Kd.R_alloc | apply Kd.R_drewN | apply Kd.R_drew)); exact HO650.out))) (Kd.R_lt (by (with_reducible repeat (first | apply Kd.R_alloc | apply Kd.R_drewN | apply Kd.R_drew)); exact HO653.out))) (Kd.R_lt (by (with_reducible repeat (first | apply Kd.R_alloc | apply Kd.R_drewN | apply Kd.R_drew)); exact HO656.out))) (Kd.R_lt (by (with_reducible repeat (first | apply Kd.R_alloc | apply Kd.R_drewN | apply Kd.R_drew)); exact HO659.out))) (Kd.R_lt (by (with_reducible repeat (first | apply Kd.R_alloc | apply Kd.R_drewN | apply Kd.R_drew)); exact HO662.out))) (Kd.R_lt (by (with_reducible repeat (first | apply Kd.R_alloc | apply Kd.R_drewN | apply Kd.R_drew)); exact HO665.out))) (Kd.R_lt (by (with_reducible repeat (first | apply Kd.R_alloc | apply Kd.R_drewN | apply Kd.R_drew)); exact HO669.out))) (below_size (by repeat (first | (with_reducible first | exact HB.out | apply below_alloc | apply pw_below_drewN | apply below_drew1 | refine below_set ?_ GE643.out | refine below_set ?_ GE666.out) | exact HB.out))))
        have n11_ := Aside0.mk (blk_below (g := gb643) (o := .cells #[.slice A0_0 l0_0.length c0_0, .slice A0_1 l0_1.length c0_1, .slice A0_2 l0_2.length c0_2] 25 (0, 0)) (by (with_reducible repeat (first | refine blk_drewN ?_ _ | refine blk_drew ?_ | refine blk_alloc ?_ _)); exact BK643.out) hb)
        have n12_ := Aside0.mk (blk_below (g := gb666) (o := .cells #[.slice Ao31 t657.length co31, .slice Ao34 t660.length co34, .slice Ao35 t663.length co35] 28 (0, 0)) (by (with_reducible repeat (first | refine blk_drewN ?_ _ | refine blk_drew ?_ | refine blk_alloc ?_ _)); exact BK666.out) hb)
        have n13_ := Aside0.mk (below_step (by repeat (first | (with_reducible first | exact HB.out | apply below_alloc | apply pw_below_drewN | apply below_drew1 | refine below_set ?_ GE643.out | refine below_set ?_ GE666.out) | exact HB.out)) hb)
        clear HO647
        clear HO650
        clear HO653
        clear HO656
        clear HO659
        clear HO662
        clear HO665
        clear HO669
        clear BK643
        clear BK666
        clear HB
        have HO647 := n0_
        have HO650 := n1_
        have HO653 := n2_
        have HO656 := n3_
        have HO659 := n4_
        have HO662 := n5_
        have HO665 := n6_
        have HO669 := n7_
        have HO673 := n8_
        have HO676 := n9_
        have HO679 := n10_
        have BK643 := n11_
        have BK666 := n12_
        have HB := n13_
        clear n0_ n1_ n2_ n3_ n4_ n5_ n6_ n7_ n8_ n9_ n10_ n11_ n12_ n13_
        (try clear hb)
        (try clear hb2)
        (try clear hk)
        (try clear hi)
        (try clear ho0)
        (try clear ho1)
        (try clear ho2)
        obtain ⟨Ao41, co41, eo41⟩ := Kd.R_slice HO673.out
        (first | subst eo41 | (injection eo41 with f1_ f2_ f3_; have f4_ := f1_.symm; have f5_ := f3_.symm; clear f1_ f2_ f3_; subst f4_; subst f5_))
        obtain ⟨Ao42, co42, eo42⟩ := Kd.R_slice HO676.out
        (first | subst eo42 | (injection eo42 with f1_ f2_ f3_; have f4_ := f1_.symm; have f5_ := f3_.symm; clear f1_ f2_ f3_; subst f4_; subst f5_))
        obtain ⟨Ao43, co43, eo43⟩ := Kd.R_slice HO679.out
        (first | subst eo43 | (injection eo43 with f1_ f2_ f3_; have f4_ := f1_.symm; have f5_ := f3_.symm; clear f1_ f2_ f3_; subst f4_; subst f5_))
        refine hK.out _ _ ⟨(blk_cell BK666.out 0).trans rfl, (blk_cell BK666.out 1).trans rfl, (blk_cell BK666.out 2).trans rfl, (blk_cell BK643.out 0).trans rfl, (blk_cell BK643.out 1).trans rfl, (blk_cell BK643.out 2).trans rfl⟩ (fun hHeld => ?_)
        clear hK K
        refine norm_ (a' := ?_) ?_ ?_
        rotate_left
        · show Act.put _ (some 33) _ = _
          simp only [Act.put, List.setIfInBounds_toArray, List.set_cons_zero, List.set_cons_succ, i64_w, i32_w]
          rfl
        refine one_ (i := 3) (N := some 34) #[true, true, true, true, false] rfl rfl (by kernel_rfl) (by decide) (fun K hK => ?_)
        refine goes_ Try.func18 (by kernel_rfl) rfl #[.agg #[.slice Ao31 t657.length co31, .slice Ao34 t660.length co34, .slice Ao35 t663.length co35], .agg #[.slice Ao41 t671.length co41, .slice Ao42 t674.length co42, .slice Ao43 t677.length co43]] (by rfl) rfl rfl (by (try simp only [List.map_toArray, List.map_cons, List.map_nil]); first | done | rfl | (simp only [List.length_drop, List.length_take]; rfl)) ?_
        with_reducible refine (laws_eqHeap.calls k _ _ t657 _ _ t660 _ _ t663 _ _ t671 _ _ t674 _ _ t677 true _ ?side1 ?side2 ?side3 ?side4 ?side5 ?side6 ?side7 ?side8 ?side9 ?side10 ?side11 ?side12 A15.out).mono ?_
        (case side1 => repeat (first | exact (Kd.R_reads' HO659.out).2.2 | (with_reducible refine Kd.C_alloc ?_ _) | (with_reducible refine Kd.C_drewN ?_ _) | (with_reducible refine Kd.C_drew ?_)))
        (case side2 => exact (Kd.R_reads' HO659.out).2.1)
        (case side3 => repeat (first | exact (Kd.R_reads' HO662.out).2.2 | (with_reducible refine Kd.C_alloc ?_ _) | (with_reducible refine Kd.C_drewN ?_ _) | (with_reducible refine Kd.C_drew ?_)))
        (case side4 => exact (Kd.R_reads' HO662.out).2.1)
        (case side5 => repeat (first | exact (Kd.R_reads' HO665.out).2.2 | (with_reducible refine Kd.C_alloc ?_ _) | (with_reducible refine Kd.C_drewN ?_ _) | (with_reducible refine Kd.C_drew ?_)))
        (case side6 => exact (Kd.R_reads' HO665.out).2.1)
        (case side7 => repeat (first | exact (Kd.R_reads' HO673.out).2.2 | (with_reducible refine Kd.C_alloc ?_ _) | (with_reducible refine Kd.C_drewN ?_ _) | (with_reducible refine Kd.C_drew ?_)))
        (case side8 => exact (Kd.R_reads' HO673.out).2.1)
        (case side9 => repeat (first | exact (Kd.R_reads' HO676.out).2.2 | (with_reducible refine Kd.C_alloc ?_ _) | (with_reducible refine Kd.C_drewN ?_ _) | (with_reducible refine Kd.C_drew ?_)))
        (case side10 => exact (Kd.R_reads' HO676.out).2.1)
        (case side11 => repeat (first | exact (Kd.R_reads' HO679.out).2.2 | (with_reducible refine Kd.C_alloc ?_ _) | (with_reducible refine Kd.C_drewN ?_ _) | (with_reducible refine Kd.C_drew ?_)))
        (case side12 => exact (Kd.R_reads' HO679.out).2.1)
        rintro e w44 ⟨rfl, hb⟩
        refine ⟨_, rfl, ?_⟩
        have n0_ := Aside0.mk (Kd.R_below (by (with_reducible repeat (first | apply Kd.R_alloc | apply Kd.R_drewN | apply Kd.R_drew)); exact HO647.out) hb)
        have n1_ := Aside0.mk (Kd.R_below (by (with_reducible repeat (first | apply Kd.R_alloc | apply Kd.R_drewN | apply Kd.R_drew)); exact HO650.out) hb)
        have n2_ := Aside0.mk (Kd.R_below (by (with_reducible repeat (first | apply Kd.R_alloc | apply Kd.R_drewN | apply Kd.R_drew)); exact HO653.out) hb)
        have n3_ := Aside0.mk (Kd.R_below (by (with_reducible repeat (first | apply Kd.R_alloc | apply Kd.R_drewN | apply Kd.R_drew)); exact HO656.out) hb)
        have n4_ := Aside0.mk (Kd.R_below (by (with_reducible repeat (first | apply Kd.R_alloc | apply Kd.R_drewN | apply Kd.R_drew)); exact HO659.out) hb)
        have n5_ := Aside0.mk (Kd.R_below (by (with_reducible repeat (first | apply Kd.R_alloc | apply Kd.R_drewN | apply Kd.R_drew)); exact HO662.out) hb)
        have n6_ := Aside0.mk (Kd.R_below (by (with_reducible repeat (first | apply Kd.R_alloc | apply Kd.R_drewN | apply Kd.R_drew)); exact HO665.out) hb)
        have n7_ := Aside0.mk (Kd.R_below (by (with_reducible repeat (first | apply Kd.R_alloc | apply Kd.R_drewN | apply Kd.R_drew)); exact HO669.out) hb)
        have n8_ := Aside0.mk (Kd.R_below (by (with_reducible repeat (first | apply Kd.R_alloc | apply Kd.R_drewN | apply Kd.R_drew)); exact HO673.out) hb)
        have n9_ := Aside0.mk (Kd.R_below (by (with_reducible repeat (first | apply Kd.R_alloc | apply Kd.R_drewN | apply Kd.R_drew)); exact HO676.out) hb)
        have n10_ := Aside0.mk (Kd.R_below (by (with_reducible repeat (first | apply Kd.R_alloc | apply Kd.R_drewN | apply Kd.R_drew)); exact HO679.out) hb)
        have n11_ := Aside0.mk (blk_below (g := gb643) (o := .cells #[.slice A0_0 l0_0.length c0_0, .slice A0_1 l0_1.length c0_1, .slice A0_2 l0_2.length c0_2] 25 (0, 0)) (by (with_reducible repeat (first | refine blk_drewN ?_ _ | refine blk_drew ?_ | refine blk_alloc ?_ _)); exact BK643.out) hb)
        have n12_ := Aside0.mk (blk_below (g := gb666) (o := .cells #[.slice Ao31 t657.length co31, .slice Ao34 t660.length co34, .slice Ao35 t663.length co35] 28 (0, 0)) (by (with_reducible repeat (first | refine blk_drewN ?_ _ | refine blk_drew ?_ | refine blk_alloc ?_ _)); exact BK666.out) hb)
        have n13_ := Aside0.mk (below_step (by repeat (first | (with_reducible first | exact HB.out | apply below_alloc | apply pw_below_drewN | apply below_drew1 | refine below_set ?_ GE643.out | refine below_set ?_ GE666.out) | exact HB.out)) hb)
        clear HO647
        clear HO650
        clear HO653
        clear HO656
        clear HO659
        clear HO662
        clear HO665
        clear HO669
        clear HO673
        clear HO676
        clear HO679
        clear BK643
        clear BK666
        clear HB
        have HO647 := n0_
        have HO650 := n1_
        have HO653 := n2_
        have HO656 := n3_
        have HO659 := n4_
        have HO662 := n5_
        have HO665 := n6_
        have HO669 := n7_
        have HO673 := n8_
        have HO676 := n9_
        have HO679 := n10_
        have BK643 := n11_
        have BK666 := n12_
        have HB := n13_
        clear n0_ n1_ n2_ n3_ n4_ n5_ n6_ n7_ n8_ n9_ n10_ n11_ n12_ n13_
        (try clear hb)
        (try clear hb2)
        (try clear hk)
        (try clear hi)
        refine hK.out _ _ ⟨(blk_cell BK666.out 0).trans rfl, (blk_cell BK666.out 1).trans rfl, (blk_cell BK666.out 2).trans rfl, (blk_cell BK643.out 0).trans rfl, (blk_cell BK643.out 1).trans rfl, (blk_cell BK643.out 2).trans rfl⟩ (fun hHeld => ?_)
        clear hK K
        refine norm_ (a' := ?_) ?_ ?_
        rotate_left
        · show Act.put _ (some 34) _ = _
          simp only [Act.put, List.setIfInBounds_toArray, List.set_cons_zero, List.set_cons_succ, i64_w, i32_w]
          rfl
        refine pure_ (i := 4) (N := some 35) (v := ?_) (a' := ?_) #[true, true, true, true, true] rfl rfl (by kernel_rfl) (fun _ _ _ h => h) (Or.inl ⟨by rfl, ?_⟩) ?_ ?_
        rotate_left
        · intro w'
          go_simp
          with_reducible rfl
        rotate_left
        · simp only [Act.put, List.setIfInBounds_toArray, List.set_cons_zero, List.set_cons_succ, i64_w, i32_w]
          rfl
        refine done_ (by kernel_rfl) ?_
        have hcz45_0 : w44.cell? ⟨gb666, 0, none⟩ = some (.slice Ao31 t657.length co31) := (blk_cell BK666.out 0).trans rfl
        have hcz45_1 : w44.cell? ⟨gb666, 1, none⟩ = some (.slice Ao34 t660.length co34) := (blk_cell BK666.out 1).trans rfl
        have hcz45_2 : w44.cell? ⟨gb666, 2, none⟩ = some (.slice Ao35 t663.length co35) := (blk_cell BK666.out 2).trans rfl
        have hfz45_0 := blk_frozen BK666.out 0
        have hfz45_1 := blk_frozen BK666.out 1
        have hfz45_2 := blk_frozen BK666.out 2
        go_upto_region 14 with (first | ((with_reducible refine gate_callee (f := 29) rfl ?_); refine goesL_ (some 38) rfl rfl Try.func29 (by kernel_rfl) rfl #[.agg #[.slice Ao31 t657.length co31, .slice Ao34 t660.length co34, .slice Ao35 t663.length co35], .int .i64 1] rfl (by (try simp only [List.map_toArray, List.map_cons, List.map_nil]); first | done | rfl | (simp only [List.length_drop, List.length_take]; rfl)) ?_; (with_reducible refine (laws_markHeap.calls k (fun k_ => some k_ = (.slice Ao31 t657.length co31 : Value).ownBlock) (.slice Ao31 t657.length co31) t657 (fun k_ => some k_ = (.slice Ao34 t660.length co34 : Value).ownBlock) (.slice Ao34 t660.length co34) t660 (fun k_ => some k_ = (.slice Ao35 t663.length co35 : Value).ownBlock) (.slice Ao35 t663.length co35) t663 1 t681 t682 t683 t684 w _ ?side1 ?side2 ?side3 ?side4 ?side5 ?side6 ?side7 ?side8 ?side9 ?side10 A17.out).mono ?_); (case side1 => repeat (first | (with_reducible first | exact HB.out | apply below_alloc | apply pw_below_drewN | apply below_drew1 | refine below_set ?_ GE643.out | refine below_set ?_ GE666.out) | exact HB.out)); (case side2 => exact Kd.R_tight rfl HO659.out); (case side3 => exact fun k_ e_ => by have z_ := HO659.out.1 k_ e_.symm; simp only [ne_eq] at z_; simp only [z_, not_false_eq_true]); (case side4 => exact fun k_ e_ => by have z_ := HO659.out.1 k_ e_.symm; simp only [ne_eq] at z_; simp only [z_, not_false_eq_true]); (case side5 => exact Kd.R_tight rfl HO662.out); (case side6 => exact fun k_ e_ => by have z_ := HO662.out.1 k_ e_.symm; simp only [ne_eq] at z_; simp only [z_, not_false_eq_true]); (case side7 => exact fun k_ e_ => by have z_ := HO662.out.1 k_ e_.symm; simp only [ne_eq] at z_; simp only [z_, not_false_eq_true]); (case side8 => exact Kd.R_tight rfl HO665.out); (case side9 => exact fun k_ e_ => by have z_ := HO665.out.1 k_ e_.symm; simp only [ne_eq] at z_; simp only [z_, not_false_eq_true]); (case side10 => exact fun k_ e_ => by have z_ := HO665.out.1 k_ e_.symm; simp only [ne_eq] at z_; simp only [z_, not_false_eq_true]); rintro e w46 ⟨rfl, hy0, hy1, hy2, hb, hkp⟩; refine ⟨_, rfl, ?_⟩; have n0_ := Aside0.mk (blk_kept (by (with_reducible repeat (first | refine blk_drewN ?_ _ | refine blk_drew ?_ | refine blk_alloc ?_ _)); exact BK643.out) hkp (fun hs_ => Or.elim hs_ (fun e_ => (fun e_ => (Kd.R_ne HO659.out BK643.out (by decide)) e_) e_) (fun e_ => Or.elim e_ (fun e_ => (fun e_ => (Kd.R_ne HO662.out BK643.out (by decide)) e_) e_) (fun e_ => (fun e_ => (Kd.R_ne HO665.out BK643.out (by decide)) e_) e_)))); have n1_ := Aside0.mk (Kd.R_kept (HO647.out) hkp (fun k_ hk_ hs_ => by simp only [ne_eq] at hk_; simp only [hk_, or_self] at hs_)); have n2_ := Aside0.mk (Kd.R_kept (HO650.out) hkp (fun k_ hk_ hs_ => by simp only [ne_eq] at hk_; simp only [hk_, or_self] at hs_)); have n3_ := Aside0.mk (Kd.R_kept (HO653.out) hkp (fun k_ hk_ hs_ => by simp only [ne_eq] at hk_; simp only [hk_, or_self] at hs_)); have n4_ := Aside0.mk (Kd.R_kept (HO656.out) hkp (fun k_ hk_ hs_ => by simp only [ne_eq] at hk_; simp only [hk_, or_self] at hs_)); have n5_ := Aside0.mk (Kd.R_reok rfl hy0 (fun k_ e_ => HO659.out.1 k_ e_)); have n6_ := Aside0.mk (Kd.R_reok rfl hy1 (fun k_ e_ => HO662.out.1 k_ e_)); have n7_ := Aside0.mk (Kd.R_reok rfl hy2 (fun k_ e_ => HO665.out.1 k_ e_)); have n8_ := Aside0.mk (blk_kept (by (with_reducible repeat (first | refine blk_drewN ?_ _ | refine blk_drew ?_ | refine blk_alloc ?_ _)); exact BK666.out) hkp (fun hs_ => Or.elim hs_ (fun e_ => (fun e_ => (Kd.R_ne HO659.out BK666.out (by decide)) e_) e_) (fun e_ => Or.elim e_ (fun e_ => (fun e_ => (Kd.R_ne HO662.out BK666.out (by decide)) e_) e_) (fun e_ => (fun e_ => (Kd.R_ne HO665.out BK666.out (by decide)) e_) e_)))); have n9_ := Aside0.mk (Kd.R_kept (HO669.out) hkp (fun k_ hk_ hs_ => by simp only [ne_eq] at hk_; simp only [hk_, or_self] at hs_)); have n10_ := Aside0.mk (Kd.R_kept (HO673.out) hkp (fun k_ hk_ hs_ => by simp only [ne_eq] at hk_; simp only [hk_, or_self] at hs_)); have n11_ := Aside0.mk (Kd.R_kept (HO676.out) hkp (fun k_ hk_ hs_ => by simp only [ne_eq] at hk_; simp only [hk_, or_self] at hs_)); have n12_ := Aside0.mk (Kd.R_kept (HO679.out) hkp (fun k_ hk_ hs_ => by simp only [ne_eq] at hk_; simp only [hk_, or_self] at hs_)); have n13_ := Aside0.mk (hb); clear BK643; clear HO647; clear HO650; clear HO653; clear HO656; clear HO659; clear HO662; clear HO665; clear BK666; clear HO669; clear HO673; clear HO676; clear HO679; clear HB; have BK643 := n0_; have HO647 := n1_; have HO650 := n2_; have HO653 := n3_; have HO656 := n4_; have HO659 := n5_; have HO662 := n6_; have HO665 := n7_; have BK666 := n8_; have HO669 := n9_; have HO673 := n10_; have HO676 := n11_; have HO679 := n12_; have HB := n13_; clear n0_ n1_ n2_ n3_ n4_ n5_ n6_ n7_ n8_ n9_ n10_ n11_ n12_ n13_; (try clear hb); (try clear hkp); (try clear hy0); (try clear hy1); (try clear hy2)))
        (try simp only [Act.put, List.setIfInBounds_toArray, List.set_cons_zero, List.set_cons_succ])
        go_cut [46] (fun v46 wc => ∃ (kq : Nat) (x46_17 : Bool), v46 = .bool x46_17 ∧ Aside0 (laws_FnExactSourcesOf.j0 kq a1 t654 t667 x46_17 l0_0 l0_1 l0_2 = some r) ∧ Aside0 (kq ≤ k) ∧ Aside0 (Kd.R (Kd.int .i64) 3 wc w.heap.size (fun k_ => some k_ ≠ ((.slice Ao37 t667.length co37) : Value).ownBlock) (.slice Ao38 t654.length co38) t654) ∧ Aside0 (Kd.R (Kd.int .i64) 3 wc w.heap.size (fun k_ => some k_ ≠ ((.slice Ao38 t654.length co38) : Value).ownBlock) (.slice Ao37 t667.length co37) t667) ∧ Aside0 (wc.heap[gb643]? = some (.cells #[(.slice A0_0 l0_0.length c0_0), (.slice A0_1 l0_1.length c0_1), (.slice A0_2 l0_2.length c0_2)] 25 (0, 0))) ∧ Aside0 (Below w.heap.size w wc))
        case first =>
          have H := HC18.out
          clear HC18
          by_cases c47 : t681 < 0
          · rw [if_pos c47] at H
            have c47b0 : decide (t681 < 0) = true := decide_eq_true c47
            clear c47
            (first | rw [c47b0] | (simp only [i64_w, i32_w]; rw [c47b0]) | skip)
            have H' := Aside0.mk H
            clear H
            go_wp2
            go_meet
            case rel => exact ⟨_, (true), (by first | rfl | (simp; done) | (simp [*]; done)), H', ⟨by first | omega | exact Nat.le_refl _⟩, ⟨by (with_reducible repeat (first | apply Kd.R_alloc | apply Kd.R_drewN | apply Kd.R_drew)); exact Kd.R_mono HO656.out (fun _ hk => by first | exact hk.2.2.2.2.2.2.1 | (simp only [ne_eq] at hk ⊢; simp only [hk, not_false_eq_true, and_self]))⟩, ⟨by (with_reducible repeat (first | apply Kd.R_alloc | apply Kd.R_drewN | apply Kd.R_drew)); exact Kd.R_mono HO669.out (fun _ hk => by first | exact hk.2.2.2.1 | (simp only [ne_eq] at hk ⊢; simp only [hk, not_false_eq_true, and_self]))⟩, ⟨by (with_reducible repeat (first | refine blk_drewN ?_ _ | refine blk_drew ?_ | refine blk_alloc ?_ _)); exact BK643.out⟩, ⟨by repeat (first | (with_reducible first | exact HB.out | apply below_alloc | apply pw_below_drewN | apply below_drew1 | refine below_set ?_ GE643.out | refine below_set ?_ GE666.out) | exact HB.out)⟩⟩
          · rw [if_neg c47] at H
            have c47b0 : decide (t681 < 0) = false := decide_eq_false c47
            clear c47
            (first | rw [c47b0] | (simp only [i64_w, i32_w]; rw [c47b0]) | skip)
            replace H := Option.bind_eq_some_iff.mp H
            obtain ⟨t685, A480, H⟩ := H
            replace H : (laws_FnExactSourcesOf.j0 k a1 t654 t667 (!t685) l0_0 l0_1 l0_2) = some r := H
            have A48 := Aside0.mk A480
            clear A480
            have H' := Aside0.mk H
            clear H
            go_wp2_with (first | (go_at_call 33; (with_reducible refine (laws_eqIntS.calls k _ _ t667 _ _ t654 t685 _ ?side1 ?side2 ?side3 ?side4 A48.out).mono ?_); (case side1 => repeat (first | exact (Kd.R_reads' HO669.out).2.2 | (with_reducible refine Kd.C_alloc ?_ _) | (with_reducible refine Kd.C_drewN ?_ _) | (with_reducible refine Kd.C_drew ?_))); (case side2 => exact (Kd.R_reads' HO669.out).2.1); (case side3 => repeat (first | exact (Kd.R_reads' HO656.out).2.2 | (with_reducible refine Kd.C_alloc ?_ _) | (with_reducible refine Kd.C_drewN ?_ _) | (with_reducible refine Kd.C_drew ?_))); (case side4 => exact (Kd.R_reads' HO656.out).2.1); rintro e w' ⟨rfl, ⟨nd, rfl⟩⟩))
            go_meet
            case rel => exact ⟨_, (!t685), (by first | rfl | (simp; done) | (simp [*]; done)), H', ⟨by first | omega | exact Nat.le_refl _⟩, ⟨by (with_reducible repeat (first | apply Kd.R_alloc | apply Kd.R_drewN | apply Kd.R_drew)); exact Kd.R_mono HO656.out (fun _ hk => by first | exact hk.2.2.2.2.2.2.1 | (simp only [ne_eq] at hk ⊢; simp only [hk, not_false_eq_true, and_self]))⟩, ⟨by (with_reducible repeat (first | apply Kd.R_alloc | apply Kd.R_drewN | apply Kd.R_drew)); exact Kd.R_mono HO669.out (fun _ hk => by first | exact hk.2.2.2.1 | (simp only [ne_eq] at hk ⊢; simp only [hk, not_false_eq_true, and_self]))⟩, ⟨by (with_reducible repeat (first | refine blk_drewN ?_ _ | refine blk_drew ?_ | refine blk_alloc ?_ _)); exact BK643.out⟩, ⟨by repeat (first | (with_reducible first | exact HB.out | apply below_alloc | apply pw_below_drewN | apply below_drew1 | refine below_set ?_ GE643.out | refine below_set ?_ GE666.out) | exact HB.out)⟩⟩
        case rest =>
          clear HC18
          try clear c1
          try clear c2
          try clear p2
          try clear c3
          try clear c4
          try clear c4b0
          try clear c9
          try clear c13
          try clear c14
          try clear c16
          try clear c18
          try clear c29
          try clear c31
          try clear c32
          try clear c33
          try clear c47
          try clear c47b0
          try clear hcz20_0
          try clear hcz20_1
          try clear hcz20_2
          try clear hcz22_0
          try clear hcz22_1
          try clear hcz22_2
          try clear hcz28_0
          try clear hcz28_1
          try clear hcz28_2
          try clear hcz33_0
          try clear hcz33_1
          try clear hcz33_2
          try clear hcz45_0
          try clear hcz45_1
          try clear hcz45_2
          try clear hcz6_0
          try clear hcz6_1
          try clear hcz6_2
          try clear hfz20_0
          try clear hfz20_1
          try clear hfz20_2
          try clear hfz22_0
          try clear hfz22_1
          try clear hfz22_2
          try clear hfz28_0
          try clear hfz28_1
          try clear hfz28_2
          try clear hfz33_0
          try clear hfz33_1
          try clear hfz33_2
          try clear hfz45_0
          try clear hfz45_1
          try clear hfz45_2
          try clear hfz6_0
          try clear hfz6_1
          try clear hfz6_2
          obtain ⟨kq, x46_17, rfl, HA, HJ17, HO_6, HO_8, BK643, HB⟩ := hcut
          cases kq with
          | zero => exact absurd HA.out (by simp [laws_FnExactSourcesOf.j0])
          | succ kj17 =>
            have H := HA.out
            clear HA
            simp only [laws_FnExactSourcesOf.j0] at H
            by_cases c49 : x46_17 = true
            · subst c49
              have H1 : (none) = some r := by rw [if_pos rfl] at H; exact H
              clear H
              have H := H1
              clear H1
              exact absurd H (by simp)
            · replace c49 := Bool.eq_false_iff.mpr c49
              subst c49
              have H1 : ((laws_markIntS.f kj17 t667 1).bind fun bt686 => ((laws_heldIntS.f kj17 bt686.2 1).bind fun t688 => (if t688 < 0 then (none) else (if t688 = bt686.1 then ((laws_toHeap.f kj17 l0_0 l0_1 l0_2).bind fun bt689 => ((impl_SourcesOf.f kj17 bt689.1 bt689.2.1 bt689.2.2 a1).bind fun t698 => ((laws_eqIntS.f kj17 t698 t654).bind fun t701 => (if t701 = true then ((laws_heldIntS.f kj17 bt686.2 1).bind fun t702 => (if t702 < 0 then (none) else (if t702 = bt686.1 then (some true) else (none)))) else (none))))) else (none))))) = some r := by rw [if_neg (show ¬ (false = true) by decide)] at H; exact H
              clear H
              have H := H1
              clear H1
              replace H := Option.bind_eq_some_iff.mp H
              obtain ⟨⟨t686, t687⟩, A500, H⟩ := H
              replace H : ((laws_heldIntS.f kj17 t687 1).bind fun t688 => (if t688 < 0 then (none) else (if t688 = t686 then ((laws_toHeap.f kj17 l0_0 l0_1 l0_2).bind fun bt689 => ((impl_SourcesOf.f kj17 bt689.1 bt689.2.1 bt689.2.2 a1).bind fun t698 => ((laws_eqIntS.f kj17 t698 t654).bind fun t701 => (if t701 = true then ((laws_heldIntS.f kj17 t687 1).bind fun t702 => (if t702 < 0 then (none) else (if t702 = t686 then (some true) else (none)))) else (none))))) else (none)))) = some r := H
              have A50 := Aside0.mk A500
              clear A500
              replace H := Option.bind_eq_some_iff.mp H
              obtain ⟨t688, A510, H⟩ := H
              replace H : (if t688 < 0 then (none) else (if t688 = t686 then ((laws_toHeap.f kj17 l0_0 l0_1 l0_2).bind fun bt689 => ((impl_SourcesOf.f kj17 bt689.1 bt689.2.1 bt689.2.2 a1).bind fun t698 => ((laws_eqIntS.f kj17 t698 t654).bind fun t701 => (if t701 = true then ((laws_heldIntS.f kj17 t687 1).bind fun t702 => (if t702 < 0 then (none) else (if t702 = t686 then (some true) else (none)))) else (none))))) else (none))) = some r := H
              have A51 := Aside0.mk A510
              clear A510
              by_cases c52 : t688 < 0
              · rw [if_pos c52] at H
                exact absurd H (by simp)
              · rw [if_neg c52] at H
                have c52b0 : decide (t688 < 0) = false := decide_eq_false c52
                clear c52
                by_cases c53 : t688 = t686
                · rw [if_pos c53] at H
                  have c53b0 : (t688 == t686) = true := beq_iff_eq.mpr c53
                  have c53b1 : (t688 != t686) = false := bne_eq_false_iff_eq.mpr c53
                  clear c53
                  replace H := Option.bind_eq_some_iff.mp H
                  obtain ⟨⟨t689, t692, t695⟩, A540, H⟩ := H
                  replace H : ((impl_SourcesOf.f kj17 t689 t692 t695 a1).bind fun t698 => ((laws_eqIntS.f kj17 t698 t654).bind fun t701 => (if t701 = true then ((laws_heldIntS.f kj17 t687 1).bind fun t702 => (if t702 < 0 then (none) else (if t702 = t686 then (some true) else (none)))) else (none)))) = some r := H
                  have A54 := Aside0.mk A540
                  clear A540
                  replace H := Option.bind_eq_some_iff.mp H
                  obtain ⟨t698, A550, H⟩ := H
                  replace H : ((laws_eqIntS.f kj17 t698 t654).bind fun t701 => (if t701 = true then ((laws_heldIntS.f kj17 t687 1).bind fun t702 => (if t702 < 0 then (none) else (if t702 = t686 then (some true) else (none)))) else (none))) = some r := H
                  have A55 := Aside0.mk A550
                  clear A550
                  replace H := Option.bind_eq_some_iff.mp H
                  obtain ⟨t701, A560, H⟩ := H
                  replace H : (if t701 = true then ((laws_heldIntS.f kj17 t687 1).bind fun t702 => (if t702 < 0 then (none) else (if t702 = t686 then (some true) else (none)))) else (none)) = some r := H
                  have A56 := Aside0.mk A560
                  clear A560
                  by_cases c57 : t701 = true
                  · subst c57
                    have H1 : ((laws_heldIntS.f kj17 t687 1).bind fun t702 => (if t702 < 0 then (none) else (if t702 = t686 then (some true) else (none)))) = some r := by rw [if_pos rfl] at H; exact H
                    clear H
                    have H := H1
                    clear H1
                    replace H := Option.bind_eq_some_iff.mp H
                    obtain ⟨t702, A580, H⟩ := H
                    replace H : (if t702 < 0 then (none) else (if t702 = t686 then (some true) else (none))) = some r := H
                    have A58 := Aside0.mk A580
                    clear A580
                    by_cases c59 : t702 < 0
                    · rw [if_pos c59] at H
                      exact absurd H (by simp)
                    · rw [if_neg c59] at H
                      have c59b0 : decide (t702 < 0) = false := decide_eq_false c59
                      clear c59
                      by_cases c60 : t702 = t686
                      · rw [if_pos c60] at H
                        have c60b0 : (t702 == t686) = true := beq_iff_eq.mpr c60
                        have c60b1 : (t702 != t686) = false := bne_eq_false_iff_eq.mpr c60
                        clear c60
                        obtain rfl := Option.some.inj H
                        go_wp2_with (first | ((with_reducible refine gate_callee (f := 34) rfl ?_); refine goesL_ (some 49) rfl rfl Try.func34 (by kernel_rfl) rfl #[.slice Ao37 t667.length co37, .int .i64 1] rfl (by (try simp only [List.map_toArray, List.map_cons, List.map_nil]); first | done | rfl | (simp only [List.length_drop, List.length_take]; rfl)) ?_; (with_reducible refine (laws_markIntS.calls kj17 (fun k_ => some k_ = (.slice Ao37 t667.length co37 : Value).ownBlock) (.slice Ao37 t667.length co37) t667 1 t686 t687 w _ ?side1 ?side2 A50.out).mono ?_); (case side1 => repeat (first | (with_reducible first | exact HB.out | apply below_alloc | apply pw_below_drewN | apply below_drew1 | refine below_set ?_ GE643.out) | exact HB.out)); (case side2 => exact Kd.R_tight rfl HO_8.out); rintro e w61 ⟨rfl, hy0, hb, hkp⟩; refine ⟨_, rfl, ?_⟩; have n0_ := Aside0.mk (Kd.R_kept (HO_6.out) hkp (fun k_ hk_ hs_ => (hk_) hs_)); have n1_ := Aside0.mk (Kd.R_reok rfl hy0 (fun k_ e_ => HO_8.out.1 k_ e_)); have n2_ := Aside0.mk (blk_kept (by (with_reducible repeat (first | refine blk_drewN ?_ _ | refine blk_drew ?_ | refine blk_alloc ?_ _)); exact BK643.out) hkp (fun hs_ => (fun e_ => (Kd.R_ne HO_8.out BK643.out (by decide)) e_) hs_)); have n3_ := Aside0.mk (hb); clear HO_6; clear HO_8; clear BK643; clear HB; have HO_6 := n0_; have HO_8 := n1_; have BK643 := n2_; have HB := n3_; clear n0_ n1_ n2_ n3_; (try clear hb); (try clear hkp); (try clear hy0)) | ((with_reducible refine gate_callee (f := 35) rfl ?_); refine goesL_ (some 52) rfl rfl Try.func35 (by kernel_rfl) rfl #[.slice Ao37 t687.length co37, .int .i64 1] rfl (by (try simp only [List.map_toArray, List.map_cons, List.map_nil]); first | done | (rw [show t687.length = t667.length from (Kd.R_reads' HO_8.out).1.symm] <;> rfl) | rfl | (simp only [List.length_drop, List.length_take]; rfl)) ?_; (with_reducible refine (laws_heldIntS.calls kj17 _ _ t687 1 t688 _ ?side1 ?side2 A51.out).mono ?_); (case side1 => repeat (first | exact (Kd.R_reads' HO_8.out).2.2 | (with_reducible refine Kd.C_alloc ?_ _) | (with_reducible refine Kd.C_drewN ?_ _) | (with_reducible refine Kd.C_drew ?_))); (case side2 => rw [show t687.length = t667.length from (Kd.R_reads' HO_8.out).1.symm]; exact (Kd.R_reads' HO_8.out).2.1); rintro e w' ⟨rfl, ⟨nd, rfl⟩⟩; refine ⟨_, rfl, ?_⟩; have hcz62_0 : w61.cell? ⟨gb643, 0, none⟩ = some (.slice A0_0 l0_0.length c0_0) := (blk_cell BK643.out 0).trans rfl; have hcz62_1 : w61.cell? ⟨gb643, 1, none⟩ = some (.slice A0_1 l0_1.length c0_1) := (blk_cell BK643.out 1).trans rfl; have hcz62_2 : w61.cell? ⟨gb643, 2, none⟩ = some (.slice A0_2 l0_2.length c0_2) := (blk_cell BK643.out 2).trans rfl; have hfz62_0 := blk_frozen BK643.out 0; have hfz62_1 := blk_frozen BK643.out 1; have hfz62_2 := blk_frozen BK643.out 2) | ((with_reducible refine gate_callee (f := 16) rfl ?_); refine goesL_ (some 59) rfl rfl Try.func16 (by kernel_rfl) rfl #[.agg #[.slice A0_0 l0_0.length c0_0, .slice A0_1 l0_1.length c0_1, .slice A0_2 l0_2.length c0_2]] rfl (by (try simp only [List.map_toArray, List.map_cons, List.map_nil]); first | done | rfl | (simp only [List.length_drop, List.length_take]; rfl)) ?_; (with_reducible refine (laws_toHeap.calls kj17 _ _ l0_0 _ _ l0_1 _ _ l0_2 t689 t692 t695 _ ?side1 ?side2 ?side3 ?side4 ?side5 ?side6 A54.out).mono ?_); (case side1 => repeat (first | exact (Kd.C_below HR0_0.out (by repeat (first | (with_reducible first | exact HB.out | apply below_alloc | apply pw_below_drewN | apply below_drew1 | refine below_set ?_ GE643.out) | exact HB.out))) | (with_reducible refine Kd.C_alloc ?_ _) | (with_reducible refine Kd.C_drewN ?_ _) | (with_reducible refine Kd.C_drew ?_))); (case side2 => exact HC0_0.out); (case side3 => repeat (first | exact (Kd.C_below HR0_1.out (by repeat (first | (with_reducible first | exact HB.out | apply below_alloc | apply pw_below_drewN | apply below_drew1 | refine below_set ?_ GE643.out) | exact HB.out))) | (with_reducible refine Kd.C_alloc ?_ _) | (with_reducible refine Kd.C_drewN ?_ _) | (with_reducible refine Kd.C_drew ?_))); (case side4 => exact HC0_1.out); (case side5 => repeat (first | exact (Kd.C_below HR0_2.out (by repeat (first | (with_reducible first | exact HB.out | apply below_alloc | apply pw_below_drewN | apply below_drew1 | refine below_set ?_ GE643.out) | exact HB.out))) | (with_reducible refine Kd.C_alloc ?_ _) | (with_reducible refine Kd.C_drewN ?_ _) | (with_reducible refine Kd.C_drew ?_))); (case side6 => exact HC0_2.out); rintro e w63 ⟨v690, v693, v696, rfl, ho0, ho1, ho2, hb⟩; refine ⟨_, rfl, ?_⟩; have n0_ := Aside0.mk (Kd.R_mono (Kd.R_told (Kd.R_told (Kd.R_told (Kd.R_old (by (with_reducible repeat (first | apply Kd.R_alloc | apply Kd.R_drewN | apply Kd.R_drew)); exact HO_6.out) hb) (Kd.R_base ho0)) (Kd.R_base ho1)) (Kd.R_base ho2)) (fun _ h_ => h_.1)); have n1_ := Aside0.mk (Kd.R_mono (Kd.R_told (Kd.R_told (Kd.R_told (Kd.R_old (by (with_reducible repeat (first | apply Kd.R_alloc | apply Kd.R_drewN | apply Kd.R_drew)); exact HO_8.out) hb) (Kd.R_base ho0)) (Kd.R_base ho1)) (Kd.R_base ho2)) (fun _ h_ => h_.1)); have n2_ := Aside0.mk (Kd.R_lower (Kd.R_new' (Kd.R_new' ho0 (Kd.R_lt (by (with_reducible repeat (first | apply Kd.R_alloc | apply Kd.R_drewN | apply Kd.R_drew)); exact HO_6.out))) (Kd.R_lt (by (with_reducible repeat (first | apply Kd.R_alloc | apply Kd.R_drewN | apply Kd.R_drew)); exact HO_8.out))) (below_size (by repeat (first | (with_reducible first | exact HB.out | apply below_alloc | apply pw_below_drewN | apply below_drew1 | refine below_set ?_ GE643.out) | exact HB.out)))); have n3_ := Aside0.mk (Kd.R_lower (Kd.R_new' (Kd.R_new' ho1 (Kd.R_lt (by (with_reducible repeat (first | apply Kd.R_alloc | apply Kd.R_drewN | apply Kd.R_drew)); exact HO_6.out))) (Kd.R_lt (by (with_reducible repeat (first | apply Kd.R_alloc | apply Kd.R_drewN | apply Kd.R_drew)); exact HO_8.out))) (below_size (by repeat (first | (with_reducible first | exact HB.out | apply below_alloc | apply pw_below_drewN | apply below_drew1 | refine below_set ?_ GE643.out) | exact HB.out)))); have n4_ := Aside0.mk (Kd.R_lower (Kd.R_new' (Kd.R_new' ho2 (Kd.R_lt (by (with_reducible repeat (first | apply Kd.R_alloc | apply Kd.R_drewN | apply Kd.R_drew)); exact HO_6.out))) (Kd.R_lt (by (with_reducible repeat (first | apply Kd.R_alloc | apply Kd.R_drewN | apply Kd.R_drew)); exact HO_8.out))) (below_size (by repeat (first | (with_reducible first | exact HB.out | apply below_alloc | apply pw_below_drewN | apply below_drew1 | refine below_set ?_ GE643.out) | exact HB.out)))); have n5_ := Aside0.mk (blk_below (g := gb643) (o := .cells #[.slice A0_0 l0_0.length c0_0, .slice A0_1 l0_1.length c0_1, .slice A0_2 l0_2.length c0_2] 25 (0, 0)) (by (with_reducible repeat (first | refine blk_drewN ?_ _ | refine blk_drew ?_ | refine blk_alloc ?_ _)); exact BK643.out) hb); have n6_ := Aside0.mk (below_step (by repeat (first | (with_reducible first | exact HB.out | apply below_alloc | apply pw_below_drewN | apply below_drew1 | refine below_set ?_ GE643.out) | exact HB.out)) hb); clear HO_6; clear HO_8; clear BK643; clear HB; have HO_6 := n0_; have HO_8 := n1_; have HO691 := n2_; have HO694 := n3_; have HO697 := n4_; have BK643 := n5_; have HB := n6_; clear n0_ n1_ n2_ n3_ n4_ n5_ n6_; (try clear hb); (try clear hb2); (try clear hk); (try clear hi); (try clear ho0); (try clear ho1); (try clear ho2); obtain ⟨Ao64, co64, eo64⟩ := Kd.R_slice HO691.out; subst eo64; obtain ⟨Ao65, co65, eo65⟩ := Kd.R_slice HO694.out; subst eo65; obtain ⟨Ao66, co66, eo66⟩ := Kd.R_slice HO697.out; subst eo66) | ((with_reducible refine gate_callee (f := 32) rfl ?_); refine goesL_ (some 61) rfl rfl Try.func32 (by kernel_rfl) rfl #[.agg #[.slice Ao64 t689.length co64, .slice Ao65 t692.length co65, .slice Ao66 t695.length co66], .int .i64 a1] rfl (by (try simp only [List.map_toArray, List.map_cons, List.map_nil]); first | done | rfl | (simp only [List.length_drop, List.length_take]; rfl)) ?_; (with_reducible refine (impl_SourcesOf.calls kj17 _ _ t689 _ _ t692 _ _ t695 a1 t698 _ ?side1 ?side2 ?side3 ?side4 ?side5 ?side6 A55.out).mono ?_); (case side1 => repeat (first | exact (Kd.R_reads' HO691.out).2.2 | (with_reducible refine Kd.C_alloc ?_ _) | (with_reducible refine Kd.C_drewN ?_ _) | (with_reducible refine Kd.C_drew ?_))); (case side2 => exact (Kd.R_reads' HO691.out).2.1); (case side3 => repeat (first | exact (Kd.R_reads' HO694.out).2.2 | (with_reducible refine Kd.C_alloc ?_ _) | (with_reducible refine Kd.C_drewN ?_ _) | (with_reducible refine Kd.C_drew ?_))); (case side4 => exact (Kd.R_reads' HO694.out).2.1); (case side5 => repeat (first | exact (Kd.R_reads' HO697.out).2.2 | (with_reducible refine Kd.C_alloc ?_ _) | (with_reducible refine Kd.C_drewN ?_ _) | (with_reducible refine Kd.C_drew ?_))); (case side6 => exact (Kd.R_reads' HO697.out).2.1); rintro e w67 ⟨v699, rfl, ho0, hb⟩; refine ⟨_, rfl, ?_⟩; have n0_ := Aside0.mk (Kd.R_elder' (by (with_reducible repeat (first | apply Kd.R_alloc | apply Kd.R_drewN | apply Kd.R_drew)); exact HO_6.out) (Kd.R_base ho0) hb); have n1_ := Aside0.mk (Kd.R_elder' (by (with_reducible repeat (first | apply Kd.R_alloc | apply Kd.R_drewN | apply Kd.R_drew)); exact HO_8.out) (Kd.R_base ho0) hb); have n2_ := Aside0.mk (Kd.R_elder' (by (with_reducible repeat (first | apply Kd.R_alloc | apply Kd.R_drewN | apply Kd.R_drew)); exact HO691.out) (Kd.R_base ho0) hb); have n3_ := Aside0.mk (Kd.R_elder' (by (with_reducible repeat (first | apply Kd.R_alloc | apply Kd.R_drewN | apply Kd.R_drew)); exact HO694.out) (Kd.R_base ho0) hb); have n4_ := Aside0.mk (Kd.R_elder' (by (with_reducible repeat (first | apply Kd.R_alloc | apply Kd.R_drewN | apply Kd.R_drew)); exact HO697.out) (Kd.R_base ho0) hb); have n5_ := Aside0.mk (Kd.R_lower (Kd.R_new' (Kd.R_new' (Kd.R_new' (Kd.R_new' (Kd.R_new' ho0 (Kd.R_lt (by (with_reducible repeat (first | apply Kd.R_alloc | apply Kd.R_drewN | apply Kd.R_drew)); exact HO_6.out))) (Kd.R_lt (by (with_reducible repeat (first | apply Kd.R_alloc | apply Kd.R_drewN | apply Kd.R_drew)); exact HO_8.out))) (Kd.R_lt (by (with_reducible repeat (first | apply Kd.R_alloc | apply Kd.R_drewN | apply Kd.R_drew)); exact HO691.out))) (Kd.R_lt (by (with_reducible repeat (first | apply Kd.R_alloc | apply Kd.R_drewN | apply Kd.R_drew)); exact HO694.out))) (Kd.R_lt (by (with_reducible repeat (first | apply Kd.R_alloc | apply Kd.R_drewN | apply Kd.R_drew)); exact HO697.out))) (below_size (by repeat (first | (with_reducible first | exact HB.out | apply below_alloc | apply pw_below_drewN | apply below_drew1 | refine below_set ?_ GE643.out) | exact HB.out)))); have n6_ := Aside0.mk (blk_below (g := gb643) (o := .cells #[.slice A0_0 l0_0.length c0_0, .slice A0_1 l0_1.length c0_1, .slice A0_2 l0_2.length c0_2] 25 (0, 0)) (by (with_reducible repeat (first | refine blk_drewN ?_ _ | refine blk_drew ?_ | refine blk_alloc ?_ _)); exact BK643.out) hb); have n7_ := Aside0.mk (below_step (by repeat (first | (with_reducible first | exact HB.out | apply below_alloc | apply pw_below_drewN | apply below_drew1 | refine below_set ?_ GE643.out) | exact HB.out)) hb); clear HO_6; clear HO_8; clear HO691; clear HO694; clear HO697; clear BK643; clear HB; have HO_6 := n0_; have HO_8 := n1_; have HO691 := n2_; have HO694 := n3_; have HO697 := n4_; have HO700 := n5_; have BK643 := n6_; have HB := n7_; clear n0_ n1_ n2_ n3_ n4_ n5_ n6_ n7_; (try clear hb); (try clear hb2); (try clear hk); (try clear hi); (try clear ho0); obtain ⟨Ao68, co68, eo68⟩ := Kd.R_slice HO700.out; subst eo68) | ((with_reducible refine gate_callee (f := 33) rfl ?_); refine goesL_ (some 64) rfl rfl Try.func33 (by kernel_rfl) rfl #[.slice Ao68 t698.length co68, .slice Ao38 t654.length co38] rfl (by (try simp only [List.map_toArray, List.map_cons, List.map_nil]); first | done | rfl | (simp only [List.length_drop, List.length_take]; rfl)) ?_; (with_reducible refine (laws_eqIntS.calls kj17 _ _ t698 _ _ t654 true _ ?side1 ?side2 ?side3 ?side4 A56.out).mono ?_); (case side1 => repeat (first | exact (Kd.R_reads' HO700.out).2.2 | (with_reducible refine Kd.C_alloc ?_ _) | (with_reducible refine Kd.C_drewN ?_ _) | (with_reducible refine Kd.C_drew ?_))); (case side2 => exact (Kd.R_reads' HO700.out).2.1); (case side3 => repeat (first | exact (Kd.R_reads' HO_6.out).2.2 | (with_reducible refine Kd.C_alloc ?_ _) | (with_reducible refine Kd.C_drewN ?_ _) | (with_reducible refine Kd.C_drew ?_))); (case side4 => exact (Kd.R_reads' HO_6.out).2.1); rintro e w' ⟨rfl, ⟨nd, rfl⟩⟩; refine ⟨_, rfl, ?_⟩) | ((with_reducible refine gate_callee (f := 35) rfl ?_); refine goesL_ (some 68) rfl rfl Try.func35 (by kernel_rfl) rfl #[.slice Ao37 t687.length co37, .int .i64 1] rfl (by (try simp only [List.map_toArray, List.map_cons, List.map_nil]); first | done | (rw [show t687.length = t667.length from (Kd.R_reads' HO_8.out).1.symm] <;> rfl) | rfl | (simp only [List.length_drop, List.length_take]; rfl)) ?_; (with_reducible refine (laws_heldIntS.calls kj17 _ _ t687 1 t702 _ ?side1 ?side2 A58.out).mono ?_); (case side1 => repeat (first | exact (Kd.R_reads' HO_8.out).2.2 | (with_reducible refine Kd.C_alloc ?_ _) | (with_reducible refine Kd.C_drewN ?_ _) | (with_reducible refine Kd.C_drew ?_))); (case side2 => rw [show t687.length = t667.length from (Kd.R_reads' HO_8.out).1.symm]; exact (Kd.R_reads' HO_8.out).2.1); rintro e w' ⟨rfl, ⟨nd, rfl⟩⟩; refine ⟨_, rfl, ?_⟩))
                        go_ret
                        exact ⟨by first | rfl | (simp [errW_none, errW_some] <;> rfl) | (simp [*, errW_none, errW_some] <;> rfl), by repeat (first | (with_reducible first | exact HB.out | apply below_alloc | apply pw_below_drewN | apply below_drew1 | refine below_set ?_ GE643.out) | exact HB.out)⟩
                      · rw [if_neg c60] at H
                        exact absurd H (by simp)
                  · replace c57 := Bool.eq_false_iff.mpr c57
                    subst c57
                    have H1 : (none) = some r := by rw [if_neg (show ¬ (false = true) by decide)] at H; exact H
                    clear H
                    have H := H1
                    clear H1
                    exact absurd H (by simp)
                · rw [if_neg c53] at H
                  exact absurd H (by simp)
      · replace c16 := Bool.eq_false_iff.mpr c16
        subst c16
        have H1 : (none) = some r := by rw [if_neg (show ¬ (false = true) by decide)] at H; exact H
        clear H
        have H := H1
        clear H1
        exact absurd H (by simp)
    · replace c13 := Bool.eq_false_iff.mpr c13
      subst c13
      have H1 : (none) = some r := by rw [if_neg (show ¬ (false = true) by decide)] at H; exact H
      clear H
      have H := H1
      clear H1
      exact absurd H (by simp)

end Go.Proofs.Ythkipbdnfkpbgaa.A
