/- Contracts of functions of the given program (AImplPathTo). No conditions beyond those stated. -/
import Derived.Test.YtffnpclehhoeaaaA0
import Derived.Test.YtffnpclehhoeaaaAImplDistances
import Derived.Test.YtffnpclehhoeaaaAImplHas
import Derived.Test.YtffnpclehhoeaaaAImplSourcesOf
import Derived.Test.YtffnpclehhoeaaaPHvdef
import Derived.Test.YtffnpclehhoeaaaA0
namespace Go.Proofs.Ytffnpclehhoeaaa.A
open Go.RowKit Go.Proofs.YtffnpclehhoeaaaW.PrintWords Go.Proofs.YtffnpclehhoeaaaW.PrintLast Go.Proofs.YtffnpclehhoeaaaW.PrintMore
attribute [local go_sem] max2_int min2_int max_two min_two max_three min_three max_four min_four   -- for this text's walks alone
set_option linter.unusedVariables false
set_option linter.unusedSimpArgs false

/-! ### impl_PathTo -/
mutual
def impl_PathTo.l0 : Nat → List Int → List Int → List Int → List Int → List Int → Option (List Int × Bool)
  | 0, _, _, _, _, _ => none
  | k + 1, x6, x7, x891000, x891001, x891002 => if 0 < (x7.length : Int) then (if 0 ≤ (rd x7 0) then (if (rd x7 0) < (x6.length : Int) then (if (rd x6 (rd x7 0)) > 1 then ((impl_SourcesOf.f k x891000 x891001 x891002 (rd x7 0)).bind fun t902 => (impl_PathTo.l1 k x6 x7 t902 (t902.length : Int) 0 x891000 x891001 x891002)) else (some (x7, true))) else (none)) else (none)) else (none)
def impl_PathTo.l1 : Nat → List Int → List Int → List Int → Int → Int → List Int → List Int → List Int → Option (List Int × Bool)
  | 0, _, _, _, _, _, _, _, _ => none
  | k + 1, x6, x7, x34, x35, x36, x891000, x891001, x891002 => if x36 < x35 then (if 0 ≤ x36 then (if x36 < (x34.length : Int) then (if 0 ≤ (rd x34 x36) then (if (rd x34 x36) < (x6.length : Int) then (if 0 < (x7.length : Int) then (if 0 ≤ (rd x7 0) then (if (rd x7 0) < (x6.length : Int) then (if (rd x6 (rd x34 x36)) = (wrap64 ((rd x6 (rd x7 0)) - 1)) then ((some (([rd x34 x36] : List Int) : List Int)).bind fun y909 => (if y909.length + x7.length < 17592186044416 then (impl_PathTo.l0 k x6 (y909 ++ x7) x891000 x891001 x891002) else (none))) else (impl_PathTo.l1 k x6 x7 x34 x35 (wrap64 (x36 + 1)) x891000 x891001 x891002)) else (none)) else (none)) else (none)) else (none)) else (none)) else (none)) else (none)) else (impl_PathTo.l0 k x6 x7 x891000 x891001 x891002)
end
def impl_PathTo.f (k : Nat) (l0_0 : List Int) (l0_1 : List Int) (l0_2 : List Int) (a1 : Int) : Option (List Int × Bool) := (impl_has.f k l0_0 l0_1 l0_2 a1).bind fun t891 => (if t891 = true then ((impl_distances.f l0_0 l0_1 l0_2).bind fun t892 => (if 0 ≤ a1 then (if a1 < (t892.length : Int) then (if (rd t892 a1) = 0 then (some (([] : List Int), false)) else (impl_PathTo.l0 k t892 (([a1] : List Int)) l0_0 l0_1 l0_2)) else (none)) else (none))) else (some (([] : List Int), false)))
theorem impl_PathTo.mono_l : ∀ k, (∀ y0 y1 y2 y3 y4, LeO (impl_PathTo.l0 k y0 y1 y2 y3 y4) (impl_PathTo.l0 (k + 1) y0 y1 y2 y3 y4)) ∧ (∀ y0 y1 y2 y3 y4 y5 y6 y7, LeO (impl_PathTo.l1 k y0 y1 y2 y3 y4 y5 y6 y7) (impl_PathTo.l1 (k + 1) y0 y1 y2 y3 y4 y5 y6 y7))
  | 0 => ⟨fun _ _ _ _ _ r h => by simp [impl_PathTo.l0] at h, fun _ _ _ _ _ _ _ _ r h => by simp [impl_PathTo.l1] at h⟩
  | k + 1 => by
    obtain ⟨ih0, ih1⟩ := impl_PathTo.mono_l k
    refine ⟨?_, ?_⟩
    · intro y0 y1 y2 y3 y4
      unfold impl_PathTo.l0
      repeat' first
      | (with_reducible exact ih0 _ _ _ _ _)
      | (with_reducible exact ih1 _ _ _ _ _ _ _ _)
      | (with_reducible exact impl_SourcesOf.mono _ _ _ _ _)
      | (with_reducible exact impl_has.mono _ _ _ _ _)
      | (with_reducible exact LeO.refl _)
      | (with_reducible exact LeO.none _)
      | (with_reducible refine LeO.ite ?_ ?_)
      | (with_reducible refine LeO.bind ?_ (fun _ => ?_))
      | exact ih0 _ _ _ _ _
      | exact ih1 _ _ _ _ _ _ _ _
      | exact impl_SourcesOf.mono _ _ _ _ _
      | exact impl_has.mono _ _ _ _ _
      | exact LeO.none _
      | refine LeO.ite ?_ ?_
      | refine LeO.bind ?_ (fun _ => ?_)
    · intro y0 y1 y2 y3 y4 y5 y6 y7
      unfold impl_PathTo.l1
      repeat' first
      | (with_reducible exact ih0 _ _ _ _ _)
      | (with_reducible exact ih1 _ _ _ _ _ _ _ _)
      | (with_reducible exact impl_SourcesOf.mono _ _ _ _ _)
      | (with_reducible exact impl_has.mono _ _ _ _ _)
      | (with_reducible exact LeO.refl _)
      | (with_reducible exact LeO.none _)
      | (with_reducible refine LeO.ite ?_ ?_)
      | (with_reducible refine LeO.bind ?_ (fun _ => ?_))
      | exact ih0 _ _ _ _ _
      | exact ih1 _ _ _ _ _ _ _ _
      | exact impl_SourcesOf.mono _ _ _ _ _
      | exact impl_has.mono _ _ _ _ _
      | exact LeO.none _
      | refine LeO.ite ?_ ?_
      | refine LeO.bind ?_ (fun _ => ?_)
theorem impl_PathTo.mono : ∀ a0 a1 a2 a3 k, LeO (impl_PathTo.f k a0 a1 a2 a3) (impl_PathTo.f (k + 1) a0 a1 a2 a3) := by
  intro a0 a1 a2 a3 k
  obtain ⟨ih0, ih1⟩ := impl_PathTo.mono_l k
  unfold impl_PathTo.f
  repeat' first
      | (with_reducible exact ih0 _ _ _ _ _)
      | (with_reducible exact ih1 _ _ _ _ _ _ _ _)
      | (with_reducible exact impl_SourcesOf.mono _ _ _ _ _)
      | (with_reducible exact impl_has.mono _ _ _ _ _)
      | (with_reducible exact LeO.refl _)
      | (with_reducible exact LeO.none _)
      | (with_reducible refine LeO.ite ?_ ?_)
      | (with_reducible refine LeO.bind ?_ (fun _ => ?_))
      | exact ih0 _ _ _ _ _
      | exact ih1 _ _ _ _ _ _ _ _
      | exact impl_SourcesOf.mono _ _ _ _ _
      | exact impl_has.mono _ _ _ _ _
      | exact LeO.none _
      | refine LeO.ite ?_ ?_
      | refine LeO.bind ?_ (fun _ => ?_)
def impl_PathTo.T11 : Bool × List (List Nat × List Nat) := (true, [([], []), ([], []), ([0, 1], [0, 1]), ([2], [2]), ([], []), ([], []), ([5], [5]), ([6], [6]), ([4, 7], [4, 7]), ([8], [8]), ([9], [9]), ([3, 10], [3, 10])])
def impl_PathTo.B11 : List Nat := [0, 0, 3, 7, 0, 0, 32, 96, 240, 496, 1008, 2047]
theorem impl_PathTo.tab11 : rtab .any (opsOf Try.f47 11) = impl_PathTo.T11 := by kernel_rfl
theorem impl_PathTo.bits11 : waitsOk impl_PathTo.T11.2 impl_PathTo.B11 = true := by kernel_rfl
set_option maxHeartbeats 8000000 in
set_option maxRecDepth 100000 in
theorem impl_PathTo.calls (k : Nat) (A0_0 : Option Addr) (c0_0 : Nat) (l0_0 : List Int) (A0_1 : Option Addr) (c0_1 : Nat) (l0_1 : List Int) (A0_2 : Option Addr) (c0_2 : Nat) (l0_2 : List Int) (a1 : Int) (r1 : List Int) (r2 : Bool) (w : World) (hr0_0 : Kd.C (Kd.int .i64) w A0_0 l0_0.length l0_0) (hc0_0 : l0_0.length ≤ c0_0) (hr0_1 : Kd.C (Kd.int .i64) w A0_1 l0_1.length l0_1) (hc0_1 : l0_1.length ≤ c0_1) (hr0_2 : Kd.C (Kd.int .i64) w A0_2 l0_2.length l0_2) (hc0_2 : l0_2.length ≤ c0_2) (h : impl_PathTo.f k l0_0 l0_1 l0_2 a1 = some (r1, r2)) :
    Calls Try.prog 47 #[.agg #[.slice A0_0 l0_0.length c0_0, .slice A0_1 l0_1.length c0_1, .slice A0_2 l0_2.length c0_2], .int .i64 a1] w fun e w' => ∃ v0_ : Value, e = .returned (.tuple #[v0_, .bool r2]) ∧ Kd.R (Kd.int .i64) 3 w' w.heap.size (fun _ => True) v0_ r1 ∧ Below w.heap.size w w' := by
  have hu28 := Try.underlying28
  have HR0_0 := am hr0_0
  have HC0_0 := am hc0_0
  clear hr0_0 hc0_0
  have HR0_1 := am hr0_1
  have HC0_1 := am hc0_1
  clear hr0_1 hc0_1
  have HR0_2 := am hr0_2
  have HC0_2 := am hc0_2
  clear hr0_2 hc0_2
  have HB := am (Below.refl w.heap.size w)
  have H : ((impl_has.f k l0_0 l0_1 l0_2 a1).bind fun t891 => (if t891 = true then ((impl_distances.f l0_0 l0_1 l0_2).bind fun t892 => (if 0 ≤ a1 then (if a1 < (t892.length : Int) then (if (rd t892 a1) = 0 then (some (([] : List Int), false)) else (impl_PathTo.l0 k t892 (([a1] : List Int)) l0_0 l0_1 l0_2)) else (none)) else (none))) else (some (([] : List Int), false)))) = some (r1, r2) := h
  clear h
  replace H := Option.bind_eq_some_iff.mp H
  obtain ⟨t891, A30, H⟩ := H
  replace H : (if t891 = true then ((impl_distances.f l0_0 l0_1 l0_2).bind fun t892 => (if 0 ≤ a1 then (if a1 < (t892.length : Int) then (if (rd t892 a1) = 0 then (some (([] : List Int), false)) else (impl_PathTo.l0 k t892 (([a1] : List Int)) l0_0 l0_1 l0_2)) else (none)) else (none))) else (some (([] : List Int), false))) = some (r1, r2) := H
  have A3 := am A30
  clear A30
  by_cases c4 : t891 = true
  · subst c4
    have H1 : ((impl_distances.f l0_0 l0_1 l0_2).bind fun t892 => (if 0 ≤ a1 then (if a1 < (t892.length : Int) then (if (rd t892 a1) = 0 then (some (([] : List Int), false)) else (impl_PathTo.l0 k t892 (([a1] : List Int)) l0_0 l0_1 l0_2)) else (none)) else (none))) = some (r1, r2) := by rw [if_pos rfl] at H; exact H
    clear H
    have H := H1
    clear H1
    replace H := Option.bind_eq_some_iff.mp H
    obtain ⟨t892, A50, H⟩ := H
    replace H : (if 0 ≤ a1 then (if a1 < (t892.length : Int) then (if (rd t892 a1) = 0 then (some (([] : List Int), false)) else (impl_PathTo.l0 k t892 (([a1] : List Int)) l0_0 l0_1 l0_2)) else (none)) else (none)) = some (r1, r2) := H
    have A5 := am A50
    clear A50
    by_cases c6 : 0 ≤ a1
    · rw [if_pos c6] at H
      have c6b0 : decide (0 ≤ a1) = true := decide_eq_true c6
      clear c6
      by_cases c7 : a1 < (t892.length : Int)
      · rw [if_pos c7] at H
        have c7b0 : decide (a1 < (t892.length : Int)) = true := decide_eq_true c7
        clear c7
        by_cases c8 : (rd t892 a1) = 0
        · rw [if_pos c8] at H
          have c8b0 : ((rd t892 a1) == 0) = true := beq_iff_eq.mpr c8
          have c8b1 : ((rd t892 a1) != 0) = false := bne_eq_false_iff_eq.mpr c8
          clear c8
          simp only [Option.some.injEq, Prod.mk.injEq] at H
          obtain ⟨rfl, rfl⟩ := H
          go_enter Try.func47, Try.ntmps47
          go_wp2_with (first | ((with_reducible refine gate_dst (N := 2) rfl ?_); refine box_event ?hg (N := 2) ?hd (cs := #[.slice A0_0 l0_0.length c0_0, .slice A0_1 l0_1.length c0_1, .slice A0_2 l0_2.length c0_2]) (t := 28) ?hr ?_; (case hd => rfl); (case hg => rfl); (case hr => first | (go_simp; done) | (go_simp; rfl)); intro gb890 hg w9 hbox hb; have n0_ := am (below_step (bl HB.out) hb); have n1_ := am (hbox); have n2_ := am ((by rw [hg]; exact (below_size (bl HB.out)) : w.heap.size ≤ gb890)); have n3_ := am ((by rw [hg]; exact (below_size (bl HB.out)) : w.heap.size ≤ gb890)); clear HB; have HB := n0_; have BK890 := n1_; have GW890 := n2_; have GE890 := n3_; clear n0_ n1_ n2_ n3_; clear hb hbox hg; have hcz10_0 : w9.cell? ⟨gb890, 0, none⟩ = some (.slice A0_0 l0_0.length c0_0) := (blk_cell BK890.out 0).trans rfl; have hcz10_1 : w9.cell? ⟨gb890, 1, none⟩ = some (.slice A0_1 l0_1.length c0_1) := (blk_cell BK890.out 1).trans rfl; have hcz10_2 : w9.cell? ⟨gb890, 2, none⟩ = some (.slice A0_2 l0_2.length c0_2) := (blk_cell BK890.out 2).trans rfl; have hfz10_0 := blk_frozen BK890.out 0; have hfz10_1 := blk_frozen BK890.out 1; have hfz10_2 := blk_frozen BK890.out 2) | ((with_reducible refine gate_callee (f := 68) rfl ?_); refine goesL_ (some 12) rfl rfl Try.func68 (by kernel_rfl) rfl #[.agg #[.slice A0_0 l0_0.length c0_0, .slice A0_1 l0_1.length c0_1, .slice A0_2 l0_2.length c0_2], .int .i64 a1] rfl (by (try simp only [List.map_toArray, List.map_cons, List.map_nil]); first | done | rfl | (simp only [List.length_drop, List.length_take]; rfl)) ?_; (with_reducible refine (impl_has.calls k _ _ l0_0 _ _ l0_1 _ _ l0_2 a1 true _ ?side1 ?side2 ?side3 ?side4 ?side5 ?side6 A3.out).mono ?_); (case side1 => exact cl (Kd.C_below HR0_0.out HB.out)); (case side2 => exact HC0_0.out); (case side3 => exact cl (Kd.C_below HR0_1.out HB.out)); (case side4 => exact HC0_1.out); (case side5 => exact cl (Kd.C_below HR0_2.out HB.out)); (case side6 => exact HC0_2.out); rintro e w11 ⟨rfl, hb⟩; refine ⟨_, rfl, ?_⟩; have n0_ := am (blk_below (g := gb890) (o := .cells #[.slice A0_0 l0_0.length c0_0, .slice A0_1 l0_1.length c0_1, .slice A0_2 l0_2.length c0_2] 28 (0, 0)) (kl BK890.out) hb); have n1_ := am (below_step (by repeat (first | (with_reducible first | exact HB.out | apply below_alloc | apply pw_below_drewN | apply below_drew1 | refine below_set ?_ GE890.out) | exact HB.out)) hb); clear BK890; clear HB; have BK890 := n0_; have HB := n1_; clear n0_ n1_; (try clear hb); (try clear hb2); (try clear hk); (try clear hi); have hcz12_0 : w11.cell? ⟨gb890, 0, none⟩ = some (.slice A0_0 l0_0.length c0_0) := (blk_cell BK890.out 0).trans rfl; have hcz12_1 : w11.cell? ⟨gb890, 1, none⟩ = some (.slice A0_1 l0_1.length c0_1) := (blk_cell BK890.out 1).trans rfl; have hcz12_2 : w11.cell? ⟨gb890, 2, none⟩ = some (.slice A0_2 l0_2.length c0_2) := (blk_cell BK890.out 2).trans rfl; have hfz12_0 := blk_frozen BK890.out 0; have hfz12_1 := blk_frozen BK890.out 1; have hfz12_2 := blk_frozen BK890.out 2) | ((with_reducible refine gate_callee (f := 57) rfl ?_); refine goesL_ (some 15) rfl rfl Try.func57 (by kernel_rfl) rfl #[.agg #[.slice A0_0 l0_0.length c0_0, .slice A0_1 l0_1.length c0_1, .slice A0_2 l0_2.length c0_2]] rfl (by (try simp only [List.map_toArray, List.map_cons, List.map_nil]); first | done | rfl | (simp only [List.length_drop, List.length_take]; rfl)) ?_; (with_reducible refine (impl_distances.calls _ _ l0_0 _ _ l0_1 _ _ l0_2 t892 _ ?side1 ?side2 ?side3 ?side4 ?side5 ?side6 A5.out).mono ?_); (case side1 => exact cl (Kd.C_below HR0_0.out HB.out)); (case side2 => exact HC0_0.out); (case side3 => exact cl (Kd.C_below HR0_1.out HB.out)); (case side4 => exact HC0_1.out); (case side5 => exact cl (Kd.C_below HR0_2.out HB.out)); (case side6 => exact HC0_2.out); rintro e w13 ⟨v893, rfl, ho0, hb⟩; refine ⟨_, rfl, ?_⟩; have n0_ := am (Kd.R_lower ho0 (below_size (by repeat (first | (with_reducible first | exact HB.out | apply below_alloc | apply pw_below_drewN | apply below_drew1 | refine below_set ?_ GE890.out) | exact HB.out)))); have n1_ := am (blk_below (g := gb890) (o := .cells #[.slice A0_0 l0_0.length c0_0, .slice A0_1 l0_1.length c0_1, .slice A0_2 l0_2.length c0_2] 28 (0, 0)) (kl BK890.out) hb); have n2_ := am (below_step (by repeat (first | (with_reducible first | exact HB.out | apply below_alloc | apply pw_below_drewN | apply below_drew1 | refine below_set ?_ GE890.out) | exact HB.out)) hb); clear BK890; clear HB; have HO894 := n0_; have BK890 := n1_; have HB := n2_; clear n0_ n1_ n2_; (try clear hb); (try clear hb2); (try clear hk); (try clear hi); (try clear ho0); obtain ⟨Ao14, co14, eo14⟩ := Kd.R_slice HO894.out; subst eo14; have p895 : 0 ≤ (a1 : Int) := of_decide_eq_true (by first | (with_reducible assumption) | assumption); have q895 : a1 < (t892.length : Int) := of_decide_eq_true (by first | (with_reducible assumption) | assumption); obtain ⟨ad895, e895, hx895_0⟩ := Kd.at_int (Kd.R_reads' HO894.out).2.2 a1 p895 q895; cases e895; replace p895 := eq_true p895; replace q895 := eq_true q895))
          go_ret2
          exact ⟨_, by first | rfl | (simp [errW_none, errW_some] <;> rfl) | (simp [*, errW_none, errW_some] <;> rfl), by first | exact Kd.R_nil _ _ _ _ _ | exact Kd.N_nil _ _ _ _ _ | exact Kd.V_nil _ _ _ _ _ | exact Kd.Q_nil _ _ _ _ _ | exact Kd.S_nil _ _ _ _ _, by repeat (first | (with_reducible first | exact HB.out | apply below_alloc | apply pw_below_drewN | apply below_drew1 | refine below_set ?_ GE890.out) | exact HB.out)⟩
        · rw [if_neg c8] at H
          have c8b0 : ((rd t892 a1) == 0) = false := beq_eq_false_iff_ne.mpr c8
          have c8b1 : ((rd t892 a1) != 0) = true := bne_iff_ne.mpr c8
          obtain ⟨y896, hy896⟩ : ∃ y_ : List Int, y_ = (([a1] : List Int)) := ⟨_, rfl⟩
          replace H : (impl_PathTo.l0 k t892 y896 l0_0 l0_1 l0_2) = some (r1, r2) := by first | (rw [hy896]; with_reducible exact H) | (have H2_ := (Option.bind_some _ _).symm.trans H; rw [hy896]; with_reducible exact H2_) | (have H2_ := (Option.bind_some _ _).symm.trans H; with_reducible exact H2_) | with_reducible exact H | (rw [hy896]; exact H) | exact H
          have Ny896 := am hy896
          clear hy896
          have H' := am H
          clear H
          go_enter Try.func47, Try.ntmps47
          go_wp2_with (first | ((with_reducible refine gate_dst (N := 2) rfl ?_); refine box_event ?hg (N := 2) ?hd (cs := #[.slice A0_0 l0_0.length c0_0, .slice A0_1 l0_1.length c0_1, .slice A0_2 l0_2.length c0_2]) (t := 28) ?hr ?_; (case hd => rfl); (case hg => rfl); (case hr => first | (go_simp; done) | (go_simp; rfl)); intro gb890 hg w15 hbox hb; have n0_ := am (below_step (bl HB.out) hb); have n1_ := am (hbox); have n2_ := am ((by rw [hg]; exact (below_size (bl HB.out)) : w.heap.size ≤ gb890)); have n3_ := am ((by rw [hg]; exact (below_size (bl HB.out)) : w.heap.size ≤ gb890)); clear HB; have HB := n0_; have BK890 := n1_; have GW890 := n2_; have GE890 := n3_; clear n0_ n1_ n2_ n3_; clear hb hbox hg; have hcz16_0 : w15.cell? ⟨gb890, 0, none⟩ = some (.slice A0_0 l0_0.length c0_0) := (blk_cell BK890.out 0).trans rfl; have hcz16_1 : w15.cell? ⟨gb890, 1, none⟩ = some (.slice A0_1 l0_1.length c0_1) := (blk_cell BK890.out 1).trans rfl; have hcz16_2 : w15.cell? ⟨gb890, 2, none⟩ = some (.slice A0_2 l0_2.length c0_2) := (blk_cell BK890.out 2).trans rfl; have hfz16_0 := blk_frozen BK890.out 0; have hfz16_1 := blk_frozen BK890.out 1; have hfz16_2 := blk_frozen BK890.out 2) | ((with_reducible refine gate_callee (f := 68) rfl ?_); refine goesL_ (some 12) rfl rfl Try.func68 (by kernel_rfl) rfl #[.agg #[.slice A0_0 l0_0.length c0_0, .slice A0_1 l0_1.length c0_1, .slice A0_2 l0_2.length c0_2], .int .i64 a1] rfl (by (try simp only [List.map_toArray, List.map_cons, List.map_nil]); first | done | rfl | (simp only [List.length_drop, List.length_take]; rfl)) ?_; (with_reducible refine (impl_has.calls k _ _ l0_0 _ _ l0_1 _ _ l0_2 a1 true _ ?side1 ?side2 ?side3 ?side4 ?side5 ?side6 A3.out).mono ?_); (case side1 => exact cl (Kd.C_below HR0_0.out HB.out)); (case side2 => exact HC0_0.out); (case side3 => exact cl (Kd.C_below HR0_1.out HB.out)); (case side4 => exact HC0_1.out); (case side5 => exact cl (Kd.C_below HR0_2.out HB.out)); (case side6 => exact HC0_2.out); rintro e w17 ⟨rfl, hb⟩; refine ⟨_, rfl, ?_⟩; have n0_ := am (blk_below (g := gb890) (o := .cells #[.slice A0_0 l0_0.length c0_0, .slice A0_1 l0_1.length c0_1, .slice A0_2 l0_2.length c0_2] 28 (0, 0)) (kl BK890.out) hb); have n1_ := am (below_step (by repeat (first | (with_reducible first | exact HB.out | apply below_alloc | apply pw_below_drewN | apply below_drew1 | refine below_set ?_ GE890.out) | exact HB.out)) hb); clear BK890; clear HB; have BK890 := n0_; have HB := n1_; clear n0_ n1_; (try clear hb); (try clear hb2); (try clear hk); (try clear hi); have hcz18_0 : w17.cell? ⟨gb890, 0, none⟩ = some (.slice A0_0 l0_0.length c0_0) := (blk_cell BK890.out 0).trans rfl; have hcz18_1 : w17.cell? ⟨gb890, 1, none⟩ = some (.slice A0_1 l0_1.length c0_1) := (blk_cell BK890.out 1).trans rfl; have hcz18_2 : w17.cell? ⟨gb890, 2, none⟩ = some (.slice A0_2 l0_2.length c0_2) := (blk_cell BK890.out 2).trans rfl; have hfz18_0 := blk_frozen BK890.out 0; have hfz18_1 := blk_frozen BK890.out 1; have hfz18_2 := blk_frozen BK890.out 2) | ((with_reducible refine gate_callee (f := 57) rfl ?_); refine goesL_ (some 15) rfl rfl Try.func57 (by kernel_rfl) rfl #[.agg #[.slice A0_0 l0_0.length c0_0, .slice A0_1 l0_1.length c0_1, .slice A0_2 l0_2.length c0_2]] rfl (by (try simp only [List.map_toArray, List.map_cons, List.map_nil]); first | done | rfl | (simp only [List.length_drop, List.length_take]; rfl)) ?_; (with_reducible refine (impl_distances.calls _ _ l0_0 _ _ l0_1 _ _ l0_2 t892 _ ?side1 ?side2 ?side3 ?side4 ?side5 ?side6 A5.out).mono ?_); (case side1 => exact cl (Kd.C_below HR0_0.out HB.out)); (case side2 => exact HC0_0.out); (case side3 => exact cl (Kd.C_below HR0_1.out HB.out)); (case side4 => exact HC0_1.out); (case side5 => exact cl (Kd.C_below HR0_2.out HB.out)); (case side6 => exact HC0_2.out); rintro e w19 ⟨v893, rfl, ho0, hb⟩; refine ⟨_, rfl, ?_⟩; have n0_ := am (Kd.R_lower ho0 (below_size (by repeat (first | (with_reducible first | exact HB.out | apply below_alloc | apply pw_below_drewN | apply below_drew1 | refine below_set ?_ GE890.out) | exact HB.out)))); have n1_ := am (blk_below (g := gb890) (o := .cells #[.slice A0_0 l0_0.length c0_0, .slice A0_1 l0_1.length c0_1, .slice A0_2 l0_2.length c0_2] 28 (0, 0)) (kl BK890.out) hb); have n2_ := am (below_step (by repeat (first | (with_reducible first | exact HB.out | apply below_alloc | apply pw_below_drewN | apply below_drew1 | refine below_set ?_ GE890.out) | exact HB.out)) hb); clear BK890; clear HB; have HO894 := n0_; have BK890 := n1_; have HB := n2_; clear n0_ n1_ n2_; (try clear hb); (try clear hb2); (try clear hk); (try clear hi); (try clear ho0); obtain ⟨Ao20, co20, eo20⟩ := Kd.R_slice HO894.out; subst eo20; have p895 : 0 ≤ (a1 : Int) := of_decide_eq_true (by first | (with_reducible assumption) | assumption); have q895 : a1 < (t892.length : Int) := of_decide_eq_true (by first | (with_reducible assumption) | assumption); obtain ⟨ad895, e895, hx895_0⟩ := Kd.at_int (Kd.R_reads' HO894.out).2.2 a1 p895 q895; cases e895; replace p895 := eq_true p895; replace q895 := eq_true q895) | ((with_reducible refine gate_dst (N := 22) rfl ?_); refine Kd.R_lit (Kd.int .i64) _ 3 ?hg (N := 22) ?hd (xs := ([a1] : List Int)) (inner := [.int .i64 a1]) (ok := fun _ => True) (okp := fun _ => True) ?hr ?hp (fun _ hk => hk) trivial (Below.refl _ _) (Nat.le_refl _) (by simp) ?_; (case hd => rfl); (case hg => rfl); (case hr => first | (go_simp; done) | (go_simp; rfl)); (case hp => exact (Reps.one (show Kd.M (Kd.int .i64) _ _ _ a1 [.int .i64 a1] from rfl) (Reps.none _ _))); intro v897 w21 ho22 hb hg_ hnew_; clear hg_ hnew_; (first | rw [← Ny896.out] at ho22 | (simp only [Int.reduceToNat] at ho22; rw [← Ny896.out] at ho22)); have n0_ := am (Kd.R_elder' (rl HO894.out) (Kd.R_base ho22) hb); have n1_ := am (Kd.R_lower (Kd.R_new' ho22 (Kd.R_lt (rl HO894.out))) (below_size (by repeat (first | (with_reducible first | exact HB.out | apply below_alloc | apply pw_below_drewN | apply below_drew1 | refine below_set ?_ GE890.out) | exact HB.out)))); have n2_ := am (blk_below (g := gb890) (o := .cells #[.slice A0_0 l0_0.length c0_0, .slice A0_1 l0_1.length c0_1, .slice A0_2 l0_2.length c0_2] 28 (0, 0)) (kl BK890.out) hb); have n3_ := am (below_step (by repeat (first | (with_reducible first | exact HB.out | apply below_alloc | apply pw_below_drewN | apply below_drew1 | refine below_set ?_ GE890.out) | exact HB.out)) hb); clear HO894; clear BK890; clear HB; have HO894 := n0_; have HO898 := n1_; have BK890 := n2_; have HB := n3_; clear n0_ n1_ n2_ n3_; clear hb ho22))
          go_loopg [7] k (fun kq v7 w' => ∃ (x7_1 : List Int), Aside0 (impl_PathTo.l0 kq t892 x7_1 l0_0 l0_1 l0_2 = some (r1, r2)) ∧ Aside0 (kq ≤ k) ∧ Aside0 (Kd.R (Kd.int .i64) 3 w' w.heap.size (fun k_ => some k_ ≠ (v7 : Value).ownBlock) (.slice (some ad895) t892.length co20) t892) ∧ Aside0 (Kd.R (Kd.int .i64) 3 w' w.heap.size (fun k_ => some k_ ≠ ((.slice (some ad895) t892.length co20) : Value).ownBlock) v7 x7_1) ∧ Aside0 (w'.heap[gb890]? = some (.cells #[(.slice A0_0 l0_0.length c0_0), (.slice A0_1 l0_1.length c0_1), (.slice A0_2 l0_2.length c0_2)] 28 (0, 0))) ∧ Aside0 (Below w.heap.size w w'))
          case atStart => exact ⟨(y896), H', ⟨Nat.le_refl _⟩, ⟨rl (Kd.R_mono HO894.out (fun _ hk => by first | exact hk.2 | (simp only [ne_eq] at hk ⊢; simp only [hk, not_false_eq_true, and_self])))⟩, ⟨rl (Kd.R_mono HO898.out (fun _ hk => by first | exact hk.2 | (simp only [ne_eq] at hk ⊢; simp only [hk, not_false_eq_true, and_self])))⟩, ⟨kl BK890.out⟩, ⟨by repeat (first | (with_reducible first | exact HB.out | apply below_alloc | apply pw_below_drewN | apply below_drew1 | refine below_set ?_ GE890.out) | exact HB.out)⟩⟩
          case round =>
            clear H'
            try clear p2
            try clear c4
            try clear c5
            try clear c6
            try clear c6b0
            try clear c7
            try clear c7b0
            try clear c8
            try clear c8b0
            try clear c8b1
            try clear p8
            try clear q8
            try clear hx8
            try clear hcz10_0
            try clear hcz10_1
            try clear hcz10_2
            try clear hcz12_0
            try clear hcz12_1
            try clear hcz12_2
            try clear hcz16_0
            try clear hcz16_1
            try clear hcz16_2
            try clear hcz18_0
            try clear hcz18_1
            try clear hcz18_2
            try clear hfz10_0
            try clear hfz10_1
            try clear hfz10_2
            try clear hfz12_0
            try clear hfz12_1
            try clear hfz12_2
            try clear hfz16_0
            try clear hfz16_1
            try clear hfz16_2
            try clear hfz18_0
            try clear hfz18_1
            try clear hfz18_2
            try clear hx895_0
            try clear p895
            try clear q895
            obtain ⟨x7_1, HA, HK1, HO_6, HO_7, BK890, HB⟩ := hrel
            cases gk with
            | zero => exact absurd HA.out (by simp [impl_PathTo.l0])
            | succ k1 =>
              have H := HA.out
              clear HA
              simp only [impl_PathTo.l0] at H
              by_cases c23 : 0 < (x7_1.length : Int)
              · rw [if_pos c23] at H
                have c23b0 : decide (0 < (x7_1.length : Int)) = true := decide_eq_true c23
                have c23b1 : decide (0 < x7_1.length) = true := decide_eq_true (by omega)
                clear c23
                by_cases c24 : 0 ≤ (rd x7_1 0)
                · rw [if_pos c24] at H
                  have c24b0 : decide (0 ≤ (rd x7_1 0)) = true := decide_eq_true c24
                  clear c24
                  by_cases c25 : (rd x7_1 0) < (t892.length : Int)
                  · rw [if_pos c25] at H
                    have c25b0 : decide ((rd x7_1 0) < (t892.length : Int)) = true := decide_eq_true c25
                    clear c25
                    by_cases c26 : (rd t892 (rd x7_1 0)) > 1
                    · rw [if_pos c26] at H
                      have c26b0 : decide (1 < (rd t892 (rd x7_1 0))) = true := decide_eq_true c26
                      clear c26
                      replace H := Option.bind_eq_some_iff.mp H
                      obtain ⟨t902, A270, H⟩ := H
                      replace H : (impl_PathTo.l1 k1 t892 x7_1 t902 (t902.length : Int) 0 l0_0 l0_1 l0_2) = some (r1, r2) := H
                      have A27 := am A270
                      clear A270
                      have H' := am H
                      clear H
                      obtain ⟨Ao28, co28, eo28⟩ := Kd.R_slice HO_7.out
                      subst eo28
                      have p899 : 0 ≤ (0 : Int) := (by omega)
                      have q899 : 0 < (x7_1.length : Int) := of_decide_eq_true (by first | (with_reducible assumption) | assumption)
                      obtain ⟨ad899, e899, hx899_0⟩ := Kd.at_int (Kd.R_reads' HO_7.out).2.2 0 p899 q899
                      cases e899
                      have qi899 : (0 < x7_1.length) = True := eq_true (by omega)
                      (try rw [show ((0 : Int)).toNat = 0 from rfl] at hx899_0)
                      (try rw [Addr.add_zero'] at hx899_0)
                      replace p899 := eq_true p899
                      replace q899 := eq_true q899
                      have p900 : 0 ≤ ((rd x7_1 0) : Int) := of_decide_eq_true (by first | (with_reducible assumption) | assumption)
                      have q900 : (rd x7_1 0) < (t892.length : Int) := of_decide_eq_true (by first | (with_reducible assumption) | assumption)
                      obtain ⟨ad900, e900, hx900_0⟩ := Kd.at_int (Kd.R_reads' HO_6.out).2.2 (rd x7_1 0) p900 q900
                      obtain rfl : ad895 = ad900 := (by injection e900)
                      replace p900 := eq_true p900
                      replace q900 := eq_true q900
                      try go_wp2
                      have n0_ := am (Kd.R_drew HO_6.out)
                      have n1_ := am (Kd.R_drew HO_7.out)
                      have n2_ := am (blk_drew BK890.out)
                      have n3_ := am (below_drew1 HB.out)
                      clear HO_6
                      clear HO_7
                      clear BK890
                      clear HB
                      have HO_6 := n0_
                      have HO_7 := n1_
                      have BK890 := n2_
                      have HB := n3_
                      clear n0_ n1_ n2_ n3_
                      have p901 : 0 ≤ (0 : Int) := (by omega)
                      have q901 : 0 < (x7_1.length : Int) := of_decide_eq_true (by first | (with_reducible assumption) | assumption)
                      obtain ⟨ad901, e901, hx901_0⟩ := Kd.at_int (Kd.R_reads' HO_7.out).2.2 0 p901 q901
                      obtain rfl : ad899 = ad901 := (by injection e901)
                      have qi901 : (0 < x7_1.length) = True := eq_true (by omega)
                      (try rw [show ((0 : Int)).toNat = 0 from rfl] at hx901_0)
                      (try rw [Addr.add_zero'] at hx901_0)
                      replace p901 := eq_true p901
                      replace q901 := eq_true q901
                      refine start_ (n := 7) (S := fun w' => w'.cell? ⟨gb890, 0, none⟩ = some (.slice A0_0 l0_0.length c0_0) ∧ w'.cell? ⟨gb890, 1, none⟩ = some (.slice A0_1 l0_1.length c0_1) ∧ w'.cell? ⟨gb890, 2, none⟩ = some (.slice A0_2 l0_2.length c0_2) ∧ w'.cell? ad899 = some (.int .i64 (rd x7_1 0))) (ds := []) #[false, false, false, false, false, false, false] (by kernel_rfl) rfl rfl ⟨(blk_cell BK890.out 0).trans rfl, (blk_cell BK890.out 1).trans rfl, (blk_cell BK890.out 2).trans rfl, hx901_0⟩ (fun hHeld => ?_)
                      generalize wr.drew = w29 at HO_6 HO_7 BK890 HB hx901_0 hHeld ⊢
                      refine pure_ (i := 1) (N := some 31) (v := ?_) (a' := ?_) #[false, true, false, false, false, false, false] rfl rfl (by kernel_rfl) (fun _ _ _ h => h) (Or.inl ⟨by rfl, ?_⟩) ?_ ?_
                      rotate_left
                      · intro w'
                        go_simp
                        with_reducible rfl
                      rotate_left
                      · simp only [Act.put, List.setIfInBounds_toArray, List.set_cons_zero, List.set_cons_succ, i64_w, i32_w]
                        rfl
                      refine pure_ (i := 2) (N := some 32) (v := ?_) (a' := ?_) #[false, true, true, false, false, false, false] rfl rfl (by kernel_rfl) (fun _ _ _ h => h) (Or.inl ⟨by rfl, ?_⟩) ?_ ?_
                      rotate_left
                      · intro w'
                        go_simp
                        with_reducible rfl
                      rotate_left
                      · simp only [Act.put, List.setIfInBounds_toArray, List.set_cons_zero, List.set_cons_succ, i64_w, i32_w]
                        rfl
                      refine pure_ (i := 6) (N := some 36) (v := ?_) (a' := ?_) #[false, true, true, false, false, false, true] rfl rfl (by kernel_rfl) (fun _ _ _ h => h) (Or.inl ⟨by rfl, ?_⟩) ?_ ?_
                      rotate_left
                      · intro w'
                        go_simp
                        with_reducible rfl
                      rotate_left
                      · simp only [Act.put, List.setIfInBounds_toArray, List.set_cons_zero, List.set_cons_succ, i64_w, i32_w]
                        rfl
                      refine take_ (i := 0) (N := some 30) (v := ?_) (a' := ?_) #[true, true, true, false, false, false, true] rfl rfl (by kernel_rfl) (fun _ _ _ h => h) (Or.inl ⟨by rfl, ?_⟩) hHeld ?_ ?_
                      rotate_left
                      · rintro w' ⟨s0, s1, s2, s3⟩
                        go_simp
                        with_reducible rfl
                      rotate_left
                      · simp only [Act.put, List.setIfInBounds_toArray, List.set_cons_zero, List.set_cons_succ, i64_w, i32_w]
                        rfl
                      refine take_ (i := 3) (N := some 33) (v := ?_) (a' := ?_) #[true, true, true, true, false, false, true] rfl rfl (by kernel_rfl) (fun _ _ _ h => h) (Or.inl ⟨by rfl, ?_⟩) hHeld ?_ ?_
                      rotate_left
                      · rintro w' ⟨s0, s1, s2, s3⟩
                        go_simp
                        with_reducible rfl
                      rotate_left
                      · simp only [Act.put, List.setIfInBounds_toArray, List.set_cons_zero, List.set_cons_succ, i64_w, i32_w]
                        rfl
                      refine one_ (i := 4) (N := some 34) #[true, true, true, true, true, false, true] rfl rfl (by kernel_rfl) (by decide) (fun K hK => ?_)
                      refine goes_ Try.func69 (by kernel_rfl) rfl #[.agg #[.slice A0_0 l0_0.length c0_0, .slice A0_1 l0_1.length c0_1, .slice A0_2 l0_2.length c0_2], .int .i64 (rd x7_1 0)] (by rfl) rfl rfl (by (try simp only [List.map_toArray, List.map_cons, List.map_nil]); first | done | rfl | (simp only [List.length_drop, List.length_take]; rfl)) ?_
                      with_reducible refine (impl_SourcesOf.calls k1 _ _ l0_0 _ _ l0_1 _ _ l0_2 (rd x7_1 0) t902 _ ?side1 ?side2 ?side3 ?side4 ?side5 ?side6 A27.out).mono ?_
                      (case side1 => exact cl (Kd.C_below HR0_0.out HB.out))
                      (case side2 => exact HC0_0.out)
                      (case side3 => exact cl (Kd.C_below HR0_1.out HB.out))
                      (case side4 => exact HC0_1.out)
                      (case side5 => exact cl (Kd.C_below HR0_2.out HB.out))
                      (case side6 => exact HC0_2.out)
                      rintro e w30 ⟨v903, rfl, ho0, hb⟩
                      have HS3_ := (hb.cell (World.block_lt_of_cell? _ _ (hHeld.2.2.2))).trans (hHeld.2.2.2)
                      refine ⟨_, rfl, ?_⟩
                      have n0_ := am (Kd.R_elder' (rl HO_6.out) (Kd.R_base ho0) hb)
                      have n1_ := am (Kd.R_elder' (rl HO_7.out) (Kd.R_base ho0) hb)
                      have n2_ := am (Kd.R_lower (Kd.R_new' (Kd.R_new' ho0 (Kd.R_lt (rl HO_6.out))) (Kd.R_lt (rl HO_7.out))) (below_size (by repeat (first | (with_reducible first | exact HB.out | apply below_alloc | apply pw_below_drewN | apply below_drew1 | refine below_set ?_ GE890.out) | exact HB.out))))
                      have n3_ := am (blk_below (g := gb890) (o := .cells #[.slice A0_0 l0_0.length c0_0, .slice A0_1 l0_1.length c0_1, .slice A0_2 l0_2.length c0_2] 28 (0, 0)) (kl BK890.out) hb)
                      have n4_ := am (below_step (by repeat (first | (with_reducible first | exact HB.out | apply below_alloc | apply pw_below_drewN | apply below_drew1 | refine below_set ?_ GE890.out) | exact HB.out)) hb)
                      clear HO_6
                      clear HO_7
                      clear BK890
                      clear HB
                      have HO_6 := n0_
                      have HO_7 := n1_
                      have HO904 := n2_
                      have BK890 := n3_
                      have HB := n4_
                      clear n0_ n1_ n2_ n3_ n4_
                      (try clear hb)
                      (try clear hb2)
                      (try clear hk)
                      (try clear hi)
                      (try clear ho0)
                      obtain ⟨Ao31, co31, eo31⟩ := Kd.R_slice HO904.out
                      (first | subst eo31 | (injection eo31 with f1_ f2_ f3_; have f4_ := f1_.symm; have f5_ := f3_.symm; clear f1_ f2_ f3_; subst f4_; subst f5_))
                      refine hK.out _ _ ⟨(blk_cell BK890.out 0).trans rfl, (blk_cell BK890.out 1).trans rfl, (blk_cell BK890.out 2).trans rfl, HS3_⟩ (fun hHeld => ?_)
                      clear hK K
                      refine norm_ (a' := ?_) ?_ ?_
                      rotate_left
                      · show Act.put _ (some 34) _ = _
                        simp only [Act.put, List.setIfInBounds_toArray, List.set_cons_zero, List.set_cons_succ, i64_w, i32_w]
                        rfl
                      refine pure_ (i := 5) (N := some 35) (v := ?_) (a' := ?_) #[true, true, true, true, true, true, true] rfl rfl (by kernel_rfl) (fun _ _ _ h => h) (Or.inl ⟨by rfl, ?_⟩) ?_ ?_
                      rotate_left
                      · intro w'
                        go_simp
                        with_reducible rfl
                      rotate_left
                      · simp only [Act.put, List.setIfInBounds_toArray, List.set_cons_zero, List.set_cons_succ, i64_w, i32_w]
                        rfl
                      refine done_ (by kernel_rfl) ?_
                      try go_wp2
                      go_loopg [7, 36] k1 (fun kq v7 v36 w' => ∃ (x7_2 : List Int) (x36_2 : Int), v36 = .int .i64 x36_2 ∧ Aside0 (impl_PathTo.l1 kq t892 x7_2 t902 (t902.length : Int) x36_2 l0_0 l0_1 l0_2 = some (r1, r2)) ∧ Aside0 (kq ≤ k1) ∧ Aside0 (Kd.R (Kd.int .i64) 3 w' w.heap.size (fun k_ => some k_ ≠ (v7 : Value).ownBlock ∧ some k_ ≠ ((.slice Ao31 t902.length co31) : Value).ownBlock) (.slice (some ad895) t892.length co20) t892) ∧ Aside0 (Kd.R (Kd.int .i64) 3 w' w.heap.size (fun k_ => some k_ ≠ ((.slice (some ad895) t892.length co20) : Value).ownBlock ∧ some k_ ≠ ((.slice Ao31 t902.length co31) : Value).ownBlock) v7 x7_2) ∧ Aside0 (Kd.R (Kd.int .i64) 3 w' w.heap.size (fun k_ => some k_ ≠ ((.slice (some ad895) t892.length co20) : Value).ownBlock ∧ some k_ ≠ (v7 : Value).ownBlock) (.slice Ao31 t902.length co31) t902) ∧ Aside0 (w'.heap[gb890]? = some (.cells #[(.slice A0_0 l0_0.length c0_0), (.slice A0_1 l0_1.length c0_1), (.slice A0_2 l0_2.length c0_2)] 28 (0, 0))) ∧ Aside0 (Below w.heap.size w w'))
                      case atStart => exact ⟨(x7_1), (0), (by first | rfl | (simp; done) | (simp [*]; done)), H', ⟨Nat.le_refl _⟩, ⟨rl HO_6.out⟩, ⟨rl HO_7.out⟩, ⟨rl (Kd.R_mono HO904.out (fun _ hk => by first | exact ⟨hk.1.2, hk.2⟩ | (simp only [ne_eq] at hk ⊢; simp only [hk, not_false_eq_true, and_self])))⟩, ⟨kl BK890.out⟩, ⟨by repeat (first | (with_reducible first | exact HB.out | apply below_alloc | apply pw_below_drewN | apply below_drew1 | refine below_set ?_ GE890.out) | exact HB.out)⟩⟩
                      case round =>
                        clear H'
                        try clear c2
                        try clear p2
                        try clear c4
                        try clear c5
                        try clear c6
                        try clear c6b0
                        try clear c7
                        try clear c7b0
                        try clear c8
                        try clear c8b0
                        try clear c8b1
                        try clear p8
                        try clear q8
                        try clear hx8
                        try clear qi8
                        try clear p9
                        try clear q9
                        try clear hx9
                        try clear qi9
                        try clear c23
                        try clear c23b0
                        try clear c23b1
                        try clear c24
                        try clear c24b0
                        try clear c25
                        try clear c25b0
                        try clear c26
                        try clear c26b0
                        try clear hcz10_0
                        try clear hcz10_1
                        try clear hcz10_2
                        try clear hcz12_0
                        try clear hcz12_1
                        try clear hcz12_2
                        try clear hcz16_0
                        try clear hcz16_1
                        try clear hcz16_2
                        try clear hcz18_0
                        try clear hcz18_1
                        try clear hcz18_2
                        try clear hfz10_0
                        try clear hfz10_1
                        try clear hfz10_2
                        try clear hfz12_0
                        try clear hfz12_1
                        try clear hfz12_2
                        try clear hfz16_0
                        try clear hfz16_1
                        try clear hfz16_2
                        try clear hfz18_0
                        try clear hfz18_1
                        try clear hfz18_2
                        try clear hx895_0
                        try clear hx899_0
                        try clear hx900_0
                        try clear hx901_0
                        try clear p2
                        try clear p8
                        try clear p895
                        try clear p899
                        try clear p900
                        try clear p901
                        try clear q8
                        try clear q895
                        try clear q899
                        try clear q900
                        try clear q901
                        obtain ⟨x7_2, x36_2, rfl, HA, HK2, HO_6, HO_7, HO_34, BK890, HB⟩ := hrel
                        cases gk with
                        | zero => exact absurd HA.out (by simp [impl_PathTo.l1])
                        | succ k2 =>
                          have H := HA.out
                          clear HA
                          simp only [impl_PathTo.l1] at H
                          by_cases c32 : x36_2 < (t902.length : Int)
                          · rw [if_pos c32] at H
                            have c32b0 : decide (x36_2 < (t902.length : Int)) = true := decide_eq_true c32
                            clear c32
                            by_cases c33 : 0 ≤ x36_2
                            · rw [if_pos c33] at H
                              have c33b0 : decide (0 ≤ x36_2) = true := decide_eq_true c33
                              clear c33
                              by_cases c34 : x36_2 < (t902.length : Int)
                              · rw [if_pos c34] at H
                                have c34b0 : decide (x36_2 < (t902.length : Int)) = true := decide_eq_true c34
                                clear c34
                                by_cases c35 : 0 ≤ (rd t902 x36_2)
                                · rw [if_pos c35] at H
                                  have c35b0 : decide (0 ≤ (rd t902 x36_2)) = true := decide_eq_true c35
                                  clear c35
                                  by_cases c36 : (rd t902 x36_2) < (t892.length : Int)
                                  · rw [if_pos c36] at H
                                    have c36b0 : decide ((rd t902 x36_2) < (t892.length : Int)) = true := decide_eq_true c36
                                    clear c36
                                    by_cases c37 : 0 < (x7_2.length : Int)
                                    · rw [if_pos c37] at H
                                      have c37b0 : decide (0 < (x7_2.length : Int)) = true := decide_eq_true c37
                                      have c37b1 : decide (0 < x7_2.length) = true := decide_eq_true (by omega)
                                      clear c37
                                      by_cases c38 : 0 ≤ (rd x7_2 0)
                                      · rw [if_pos c38] at H
                                        have c38b0 : decide (0 ≤ (rd x7_2 0)) = true := decide_eq_true c38
                                        clear c38
                                        by_cases c39 : (rd x7_2 0) < (t892.length : Int)
                                        · rw [if_pos c39] at H
                                          have c39b0 : decide ((rd x7_2 0) < (t892.length : Int)) = true := decide_eq_true c39
                                          clear c39
                                          by_cases c40 : (rd t892 (rd t902 x36_2)) = (wrap64 ((rd t892 (rd x7_2 0)) - 1))
                                          · rw [if_pos c40] at H
                                            have c40b0 : ((rd t892 (rd t902 x36_2)) == (wrap64 ((rd t892 (rd x7_2 0)) - 1))) = true := beq_iff_eq.mpr c40
                                            have c40b1 : ((rd t892 (rd t902 x36_2)) != (wrap64 ((rd t892 (rd x7_2 0)) - 1))) = false := bne_eq_false_iff_eq.mpr c40
                                            clear c40
                                            obtain ⟨y909, hy909⟩ : ∃ y_ : List Int, y_ = (([rd t902 x36_2] : List Int)) := ⟨_, rfl⟩
                                            replace H : (if y909.length + x7_2.length < 17592186044416 then (impl_PathTo.l0 k2 t892 (y909 ++ x7_2) l0_0 l0_1 l0_2) else (none)) = some (r1, r2) := by first | (rw [hy909]; with_reducible exact H) | (have H2_ := (Option.bind_some _ _).symm.trans H; rw [hy909]; with_reducible exact H2_) | (have H2_ := (Option.bind_some _ _).symm.trans H; with_reducible exact H2_) | with_reducible exact H | (rw [hy909]; exact H) | exact H
                                            have Ny909 := am hy909
                                            clear hy909
                                            by_cases c41 : y909.length + x7_2.length < 17592186044416
                                            · rw [if_pos c41] at H
                                              have LMc41 := am c41
                                              clear c41
                                              obtain ⟨y912, hy912⟩ : ∃ y_ : List Int, y_ = (y909 ++ x7_2) := ⟨_, rfl⟩
                                              replace H : (impl_PathTo.l0 k2 t892 y912 l0_0 l0_1 l0_2) = some (r1, r2) := by first | (rw [hy912]; with_reducible exact H) | (have H2_ := (Option.bind_some _ _).symm.trans H; rw [hy912]; with_reducible exact H2_) | (have H2_ := (Option.bind_some _ _).symm.trans H; with_reducible exact H2_) | with_reducible exact H | (rw [hy912]; exact H) | exact H
                                              have Ny912 := am hy912
                                              clear hy912
                                              have H' := am H
                                              clear H
                                              have p905 : 0 ≤ (x36_2 : Int) := of_decide_eq_true (by first | (with_reducible assumption) | assumption)
                                              have q905 : x36_2 < (t902.length : Int) := of_decide_eq_true (by first | (with_reducible assumption) | assumption)
                                              obtain ⟨ad905, e905, hx905_0⟩ := Kd.at_int (Kd.R_reads' HO_34.out).2.2 x36_2 p905 q905
                                              cases e905
                                              replace p905 := eq_true p905
                                              replace q905 := eq_true q905
                                              try go_wp2
                                              have n0_ := am (Kd.R_drew HO_6.out)
                                              have n1_ := am (Kd.R_drew HO_7.out)
                                              have n2_ := am (Kd.R_drew HO_34.out)
                                              have n3_ := am (blk_drew BK890.out)
                                              have n4_ := am (below_drew1 HB.out)
                                              clear HO_6
                                              clear HO_7
                                              clear HO_34
                                              clear BK890
                                              clear HB
                                              have HO_6 := n0_
                                              have HO_7 := n1_
                                              have HO_34 := n2_
                                              have BK890 := n3_
                                              have HB := n4_
                                              clear n0_ n1_ n2_ n3_ n4_
                                              have p906 : 0 ≤ ((rd t902 x36_2) : Int) := of_decide_eq_true (by first | (with_reducible assumption) | assumption)
                                              have q906 : (rd t902 x36_2) < (t892.length : Int) := of_decide_eq_true (by first | (with_reducible assumption) | assumption)
                                              obtain ⟨ad906, e906, hx906_0⟩ := Kd.at_int (Kd.R_reads' HO_6.out).2.2 (rd t902 x36_2) p906 q906
                                              obtain rfl : ad895 = ad906 := (by injection e906)
                                              replace p906 := eq_true p906
                                              replace q906 := eq_true q906
                                              obtain ⟨Ao43, co43, eo43⟩ := Kd.R_slice HO_7.out
                                              (first | subst eo43 | (injection eo43 with f1_ f2_ f3_; have f4_ := f1_.symm; have f5_ := f3_.symm; clear f1_ f2_ f3_; subst f4_; subst f5_))
                                              have p907 : 0 ≤ (0 : Int) := (by omega)
                                              have q907 : 0 < (x7_2.length : Int) := of_decide_eq_true (by first | (with_reducible assumption) | assumption)
                                              obtain ⟨ad907, e907, hx907_0⟩ := Kd.at_int (Kd.R_reads' HO_7.out).2.2 0 p907 q907
                                              cases e907
                                              have qi907 : (0 < x7_2.length) = True := eq_true (by omega)
                                              (try rw [show ((0 : Int)).toNat = 0 from rfl] at hx907_0)
                                              (try rw [Addr.add_zero'] at hx907_0)
                                              replace p907 := eq_true p907
                                              replace q907 := eq_true q907
                                              have p908 : 0 ≤ ((rd x7_2 0) : Int) := of_decide_eq_true (by first | (with_reducible assumption) | assumption)
                                              have q908 : (rd x7_2 0) < (t892.length : Int) := of_decide_eq_true (by first | (with_reducible assumption) | assumption)
                                              obtain ⟨ad908, e908, hx908_0⟩ := Kd.at_int (Kd.R_reads' HO_6.out).2.2 (rd x7_2 0) p908 q908
                                              obtain rfl : ad895 = ad908 := (by injection e908)
                                              replace p908 := eq_true p908
                                              replace q908 := eq_true q908
                                              refine start_ (n := 12) (S := fun w' => w'.cell? (ad895.add ((rd t902 x36_2)).toNat) = some (.int .i64 (rd t892 (rd t902 x36_2))) ∧ w'.cell? ad907 = some (.int .i64 (rd x7_2 0)) ∧ w'.cell? (ad895.add ((rd x7_2 0)).toNat) = some (.int .i64 (rd t892 (rd x7_2 0)))) (ds := []) #[false, false, false, false, false, false, false, false, false, false, false, false] (by kernel_rfl) rfl rfl ⟨hx906_0, hx907_0, hx908_0⟩ (fun hHeld => ?_); refine with_tabW impl_PathTo.tab11 impl_PathTo.bits11 (fun HT_ HW_ => ?_)
                                              generalize wr.drew = w42 at HO_6 HO_7 HO_34 BK890 HB hx906_0 hx907_0 hx908_0 hHeld ⊢
                                              refine pure_ (i := 0) (N := some 40) (v := ?_) (a' := ?_) #[true, false, false, false, false, false, false, false, false, false, false, false] rfl rfl (any_of HT_.out (by kernel_rfl)) (fun _ _ _ h => h) (Or.inl ⟨by rfl, ?_⟩) ?_ ?_
                                              rotate_left
                                              · intro w'
                                                go_simp
                                                with_reducible rfl
                                              rotate_left
                                              · simp only [Act.put, List.setIfInBounds_toArray, List.set_cons_zero, List.set_cons_succ, i64_w, i32_w]
                                                rfl
                                              refine pure_ (i := 1) (N := some 41) (v := ?_) (a' := ?_) #[true, true, false, false, false, false, false, false, false, false, false, false] rfl rfl (any_of HT_.out (by kernel_rfl)) (fun _ _ _ h => h) (Or.inl ⟨by rfl, ?_⟩) ?_ ?_
                                              rotate_left
                                              · intro w'
                                                go_simp
                                                with_reducible rfl
                                              rotate_left
                                              · simp only [Act.put, List.setIfInBounds_toArray, List.set_cons_zero, List.set_cons_succ, i64_w, i32_w]
                                                rfl
                                              refine pure_ (i := 2) (N := some 42) (v := ?_) (a' := ?_) #[true, true, true, false, false, false, false, false, false, false, false, false] rfl rfl (any_of HT_.out (by kernel_rfl)) (fun _ _ _ h => h) (Or.inl ⟨by rfl, ?_⟩) ?_ ?_
                                              rotate_left
                                              · intro w'
                                                go_simp
                                                with_reducible rfl
                                              rotate_left
                                              · simp only [Act.put, List.setIfInBounds_toArray, List.set_cons_zero, List.set_cons_succ, i64_w, i32_w]
                                                rfl
                                              refine pure_ (i := 4) (N := some 44) (v := ?_) (a' := ?_) #[true, true, true, false, true, false, false, false, false, false, false, false] rfl rfl (any_of HT_.out (by kernel_rfl)) (fun _ _ _ h => h) (Or.inl ⟨by rfl, ?_⟩) ?_ ?_
                                              rotate_left
                                              · intro w'
                                                go_simp
                                                with_reducible rfl
                                              rotate_left
                                              · simp only [Act.put, List.setIfInBounds_toArray, List.set_cons_zero, List.set_cons_succ, i64_w, i32_w]
                                                rfl
                                              refine pure_ (i := 5) (N := some 45) (v := ?_) (a' := ?_) #[true, true, true, false, true, true, false, false, false, false, false, false] rfl rfl (any_of HT_.out (by kernel_rfl)) (fun _ _ _ h => h) (Or.inl ⟨by rfl, ?_⟩) ?_ ?_
                                              rotate_left
                                              · intro w'
                                                go_simp
                                                with_reducible rfl
                                              rotate_left
                                              · simp only [Act.put, List.setIfInBounds_toArray, List.set_cons_zero, List.set_cons_succ, i64_w, i32_w]
                                                rfl
                                              refine pure_ (i := 6) (N := some 46) (v := ?_) (a' := ?_) #[true, true, true, false, true, true, true, false, false, false, false, false] rfl rfl (any_of HT_.out (by kernel_rfl)) (fun _ _ _ h => h) (Or.inl ⟨by rfl, ?_⟩) ?_ ?_
                                              rotate_left
                                              · intro w'
                                                go_simp
                                                with_reducible rfl
                                              rotate_left
                                              · simp only [Act.put, List.setIfInBounds_toArray, List.set_cons_zero, List.set_cons_succ, i64_w, i32_w]
                                                rfl
                                              refine take_ (i := 3) (N := some 43) (v := ?_) (a' := ?_) #[true, true, true, true, true, true, true, false, false, false, false, false] rfl rfl (take_ofW HT_.out HW_.out (by kernel_rfl)) (fun _ _ _ h => h) (Or.inl ⟨by rfl, ?_⟩) hHeld ?_ ?_
                                              rotate_left
                                              · rintro w' ⟨s0, s1, s2⟩
                                                go_simp
                                                with_reducible rfl
                                              rotate_left
                                              · simp only [Act.put, List.setIfInBounds_toArray, List.set_cons_zero, List.set_cons_succ, i64_w, i32_w]
                                                rfl
                                              refine take_ (i := 7) (N := some 47) (v := ?_) (a' := ?_) #[true, true, true, true, true, true, true, true, false, false, false, false] rfl rfl (take_ofW HT_.out HW_.out (by kernel_rfl)) (fun _ _ _ h => h) (Or.inl ⟨by rfl, ?_⟩) hHeld ?_ ?_
                                              rotate_left
                                              · rintro w' ⟨s0, s1, s2⟩
                                                go_simp
                                                with_reducible rfl
                                              rotate_left
                                              · simp only [Act.put, List.setIfInBounds_toArray, List.set_cons_zero, List.set_cons_succ, i64_w, i32_w]
                                                rfl
                                              refine pure_ (i := 8) (N := some 48) (v := ?_) (a' := ?_) #[true, true, true, true, true, true, true, true, true, false, false, false] rfl rfl (any_of HT_.out (by kernel_rfl)) (fun _ _ _ h => h) (Or.inl ⟨by rfl, ?_⟩) ?_ ?_
                                              rotate_left
                                              · intro w'
                                                go_simp
                                                with_reducible rfl
                                              rotate_left
                                              · simp only [Act.put, List.setIfInBounds_toArray, List.set_cons_zero, List.set_cons_succ, i64_w, i32_w]
                                                rfl
                                              refine take_ (i := 9) (N := some 49) (v := ?_) (a' := ?_) #[true, true, true, true, true, true, true, true, true, true, false, false] rfl rfl (take_ofW HT_.out HW_.out (by kernel_rfl)) (fun _ _ _ h => h) (Or.inl ⟨by rfl, ?_⟩) hHeld ?_ ?_
                                              rotate_left
                                              · rintro w' ⟨s0, s1, s2⟩
                                                go_simp
                                                with_reducible rfl
                                              rotate_left
                                              · simp only [Act.put, List.setIfInBounds_toArray, List.set_cons_zero, List.set_cons_succ, i64_w, i32_w]
                                                rfl
                                              refine pure_ (i := 10) (N := some 50) (v := ?_) (a' := ?_) #[true, true, true, true, true, true, true, true, true, true, true, false] rfl rfl (any_of HT_.out (by kernel_rfl)) (fun _ _ _ h => h) (Or.inl ⟨by rfl, ?_⟩) ?_ ?_
                                              rotate_left
                                              · intro w'
                                                go_simp
                                                with_reducible rfl
                                              rotate_left
                                              · simp only [Act.put, List.setIfInBounds_toArray, List.set_cons_zero, List.set_cons_succ, i64_w, i32_w]
                                                rfl
                                              refine pure_ (i := 11) (N := some 51) (v := ?_) (a' := ?_) #[true, true, true, true, true, true, true, true, true, true, true, true] rfl rfl (any_of HT_.out (by kernel_rfl)) (fun _ _ _ h => h) (Or.inl ⟨by rfl, ?_⟩) ?_ ?_
                                              rotate_left
                                              · intro w'
                                                go_simp
                                                with_reducible rfl
                                              rotate_left
                                              · simp only [Act.put, List.setIfInBounds_toArray, List.set_cons_zero, List.set_cons_succ, i64_w, i32_w]
                                                rfl
                                              refine done_ (done_of HT_.out (by kernel_rfl)) ?_
                                              try go_wp2_with (first | ((with_reducible refine gate_dst (N := 53) rfl ?_); refine Kd.R_lit (Kd.int .i64) _ 3 ?hg (N := 53) ?hd (xs := ([rd t902 x36_2] : List Int)) (inner := [.int .i64 (rd t902 x36_2)]) (ok := fun _ => True) (okp := fun _ => True) ?hr ?hp (fun _ hk => hk) trivial (Below.refl _ _) (Nat.le_refl _) (by simp) ?_; (case hd => rfl); (case hg => rfl); (case hr => first | (go_simp; done) | (go_simp; rfl)); (case hp => exact (Reps.one (show Kd.M (Kd.int .i64) _ _ _ (rd t902 x36_2) [.int .i64 (rd t902 x36_2)] from rfl) (Reps.none _ _))); intro v910 w44 ho45 hb hg_ hnew_; clear hg_ hnew_; (first | rw [← Ny909.out] at ho45 | (simp only [Int.reduceToNat] at ho45; rw [← Ny909.out] at ho45)); have n0_ := am (Kd.R_elder' (rl HO_6.out) (Kd.R_base ho45) hb); have n1_ := am (Kd.R_elder' (rl HO_7.out) (Kd.R_base ho45) hb); have n2_ := am (Kd.R_elder' (rl HO_34.out) (Kd.R_base ho45) hb); have n3_ := am (Kd.R_lower (Kd.R_new' (Kd.R_new' (Kd.R_new' ho45 (Kd.R_lt (rl HO_6.out))) (Kd.R_lt (rl HO_7.out))) (Kd.R_lt (rl HO_34.out))) (below_size (by repeat (first | (with_reducible first | exact HB.out | apply below_alloc | apply pw_below_drewN | apply below_drew1 | refine below_set ?_ GE890.out) | exact HB.out)))); have n4_ := am (blk_below (g := gb890) (o := .cells #[.slice A0_0 l0_0.length c0_0, .slice A0_1 l0_1.length c0_1, .slice A0_2 l0_2.length c0_2] 28 (0, 0)) (kl BK890.out) hb); have n5_ := am (below_step (by repeat (first | (with_reducible first | exact HB.out | apply below_alloc | apply pw_below_drewN | apply below_drew1 | refine below_set ?_ GE890.out) | exact HB.out)) hb); clear HO_6; clear HO_7; clear HO_34; clear BK890; clear HB; have HO_6 := n0_; have HO_7 := n1_; have HO_34 := n2_; have HO911 := n3_; have BK890 := n4_; have HB := n5_; clear n0_ n1_ n2_ n3_ n4_ n5_; clear hb ho45) | ((with_reducible refine gate_builtin (b := .append) (xs := #[.tmp 53, .tmp 54]) rfl ?_); at_builtin; refine Kd.R_append_rows (Kd.int .i64) (w0 := w) w.heap.size rfl (.tmp 53) (.tmp 54) 22 3 (.int .i64 0) 8 rfl Try.underlying22 info3 rfl (by decide) (by omega) v910 y909 x7_2 _ _ _ (fun k_ => some k_ ≠ (.slice (some ad895) t892.length co20 : Value).ownBlock ∧ some k_ ≠ (.slice (some ad907) x7_2.length co43 : Value).ownBlock ∧ some k_ ≠ (.slice (some ad905) t902.length co31 : Value).ownBlock) (fun _ => False) rfl rfl ?aO ?aR (fun _ _ h => h) (fun _ h => h.elim) ?aF ?aB ?aS ?aL ?_; (case aR => repeat (first | exact (Kd.R_reads' HO_7.out).2.2 | (with_reducible refine Kd.C_alloc ?_ _) | (with_reducible refine Kd.C_drewN ?_ _) | (with_reducible refine Kd.C_drew ?_))); (case aB => exact (by repeat (first | (with_reducible first | exact HB.out | apply below_alloc | apply pw_below_drewN | apply below_drew1 | refine below_set ?_ GE890.out) | exact HB.out))); (case aF => exact (fun k_ hk => ⟨Kd.fresh' (Kd.R_lt (rl HO_6.out)) k_ hk, Kd.fresh' (Kd.R_lt (rl HO_7.out)) k_ hk, Kd.fresh' (Kd.R_lt (rl HO_34.out)) k_ hk⟩)); (case aO => exact (rl (Kd.R_mono HO911.out (fun _ hk => by first | exact ⟨hk.1.1.2, ⟨hk.1.2, hk.2⟩⟩ | (simp only [ne_eq] at hk ⊢; simp only [hk, not_false_eq_true, and_self]))))); (case aS => exact (below_size (by repeat (first | (with_reducible first | exact HB.out | apply below_alloc | apply pw_below_drewN | apply below_drew1 | refine below_set ?_ GE890.out) | exact HB.out)))); (case aL => have := LMc41.out; omega); intro v913 w46 ho hb hg hat; rw [← Ny912.out] at ho; have n0_ := am (Kd.R_after (ok := (fun k_ => some k_ ≠ (.slice (some ad907) x7_2.length co43 : Value).ownBlock ∧ some k_ ≠ (.slice (some ad905) t902.length co31 : Value).ownBlock)) (rl HO_6.out) hg hat); have n1_ := am (Kd.R_after (ok := (fun k_ => some k_ ≠ (.slice (some ad895) t892.length co20 : Value).ownBlock ∧ some k_ ≠ (.slice (some ad905) t902.length co31 : Value).ownBlock)) (rl HO_7.out) hg hat); have n2_ := am (Kd.R_after (ok := (fun k_ => some k_ ≠ (.slice (some ad895) t892.length co20 : Value).ownBlock ∧ some k_ ≠ (.slice (some ad907) x7_2.length co43 : Value).ownBlock)) (rl HO_34.out) hg hat); have n3_ := am (blk_grown (g := gb890) (o := .cells #[.slice A0_0 l0_0.length c0_0, .slice A0_1 l0_1.length c0_1, .slice A0_2 l0_2.length c0_2] 28 (0, 0)) (kl BK890.out) hg (Kd.R_ne HO911.out BK890.out (by decide))); have n4_ := am (hb); have n5_ := am (ho); clear HO_6; clear HO_7; clear HO_34; clear BK890; clear HB; clear HO911; have HO_6 := n0_; have HO_7 := n1_; have HO_34 := n2_; have BK890 := n3_; have HB := n4_; have HO914 := n5_; clear n0_ n1_ n2_ n3_ n4_ n5_; clear ho hb hg hat))
                                              go_roundg k2
                                              case measure => have := HK1.out; have := HK2.out; omega
                                              case rel => exact ⟨(y912), H', ⟨by have := HK1.out; have := HK2.out; omega⟩, ⟨rl (Kd.R_mono HO_6.out (fun _ hk => by first | exact hk.2 | (simp only [ne_eq] at hk ⊢; simp only [hk, not_false_eq_true, and_self])))⟩, ⟨rl (Kd.R_mono HO914.out (fun _ hk => by first | exact hk.1 | (simp only [ne_eq] at hk ⊢; simp only [hk, not_false_eq_true, and_self])))⟩, ⟨kl BK890.out⟩, ⟨by repeat (first | (with_reducible first | exact HB.out | apply below_alloc | apply pw_below_drewN | apply below_drew1 | refine below_set ?_ GE890.out) | exact HB.out)⟩⟩
                                            · rw [if_neg c41] at H
                                              exact absurd H (by simp)
                                          · rw [if_neg c40] at H
                                            have c40b0 : ((rd t892 (rd t902 x36_2)) == (wrap64 ((rd t892 (rd x7_2 0)) - 1))) = false := beq_eq_false_iff_ne.mpr c40
                                            have c40b1 : ((rd t892 (rd t902 x36_2)) != (wrap64 ((rd t892 (rd x7_2 0)) - 1))) = true := bne_iff_ne.mpr c40
                                            have H' := am H
                                            clear H
                                            have p905 : 0 ≤ (x36_2 : Int) := of_decide_eq_true (by first | (with_reducible assumption) | assumption)
                                            have q905 : x36_2 < (t902.length : Int) := of_decide_eq_true (by first | (with_reducible assumption) | assumption)
                                            obtain ⟨ad905, e905, hx905_0⟩ := Kd.at_int (Kd.R_reads' HO_34.out).2.2 x36_2 p905 q905
                                            cases e905
                                            replace p905 := eq_true p905
                                            replace q905 := eq_true q905
                                            try go_wp2
                                            have n0_ := am (Kd.R_drew HO_6.out)
                                            have n1_ := am (Kd.R_drew HO_7.out)
                                            have n2_ := am (Kd.R_drew HO_34.out)
                                            have n3_ := am (blk_drew BK890.out)
                                            have n4_ := am (below_drew1 HB.out)
                                            clear HO_6
                                            clear HO_7
                                            clear HO_34
                                            clear BK890
                                            clear HB
                                            have HO_6 := n0_
                                            have HO_7 := n1_
                                            have HO_34 := n2_
                                            have BK890 := n3_
                                            have HB := n4_
                                            clear n0_ n1_ n2_ n3_ n4_
                                            have p906 : 0 ≤ ((rd t902 x36_2) : Int) := of_decide_eq_true (by first | (with_reducible assumption) | assumption)
                                            have q906 : (rd t902 x36_2) < (t892.length : Int) := of_decide_eq_true (by first | (with_reducible assumption) | assumption)
                                            obtain ⟨ad906, e906, hx906_0⟩ := Kd.at_int (Kd.R_reads' HO_6.out).2.2 (rd t902 x36_2) p906 q906
                                            obtain rfl : ad895 = ad906 := (by injection e906)
                                            replace p906 := eq_true p906
                                            replace q906 := eq_true q906
                                            obtain ⟨Ao48, co48, eo48⟩ := Kd.R_slice HO_7.out
                                            (first | subst eo48 | (injection eo48 with f1_ f2_ f3_; have f4_ := f1_.symm; have f5_ := f3_.symm; clear f1_ f2_ f3_; subst f4_; subst f5_))
                                            have p907 : 0 ≤ (0 : Int) := (by omega)
                                            have q907 : 0 < (x7_2.length : Int) := of_decide_eq_true (by first | (with_reducible assumption) | assumption)
                                            obtain ⟨ad907, e907, hx907_0⟩ := Kd.at_int (Kd.R_reads' HO_7.out).2.2 0 p907 q907
                                            cases e907
                                            have qi907 : (0 < x7_2.length) = True := eq_true (by omega)
                                            (try rw [show ((0 : Int)).toNat = 0 from rfl] at hx907_0)
                                            (try rw [Addr.add_zero'] at hx907_0)
                                            replace p907 := eq_true p907
                                            replace q907 := eq_true q907
                                            have p908 : 0 ≤ ((rd x7_2 0) : Int) := of_decide_eq_true (by first | (with_reducible assumption) | assumption)
                                            have q908 : (rd x7_2 0) < (t892.length : Int) := of_decide_eq_true (by first | (with_reducible assumption) | assumption)
                                            obtain ⟨ad908, e908, hx908_0⟩ := Kd.at_int (Kd.R_reads' HO_6.out).2.2 (rd x7_2 0) p908 q908
                                            obtain rfl : ad895 = ad908 := (by injection e908)
                                            replace p908 := eq_true p908
                                            replace q908 := eq_true q908
                                            refine start_ (n := 12) (S := fun w' => w'.cell? (ad895.add ((rd t902 x36_2)).toNat) = some (.int .i64 (rd t892 (rd t902 x36_2))) ∧ w'.cell? ad907 = some (.int .i64 (rd x7_2 0)) ∧ w'.cell? (ad895.add ((rd x7_2 0)).toNat) = some (.int .i64 (rd t892 (rd x7_2 0)))) (ds := []) #[false, false, false, false, false, false, false, false, false, false, false, false] (by kernel_rfl) rfl rfl ⟨hx906_0, hx907_0, hx908_0⟩ (fun hHeld => ?_); refine with_tabW impl_PathTo.tab11 impl_PathTo.bits11 (fun HT_ HW_ => ?_)
                                            generalize wr.drew = w47 at HO_6 HO_7 HO_34 BK890 HB hx906_0 hx907_0 hx908_0 hHeld ⊢
                                            refine pure_ (i := 0) (N := some 40) (v := ?_) (a' := ?_) #[true, false, false, false, false, false, false, false, false, false, false, false] rfl rfl (any_of HT_.out (by kernel_rfl)) (fun _ _ _ h => h) (Or.inl ⟨by rfl, ?_⟩) ?_ ?_
                                            rotate_left
                                            · intro w'
                                              go_simp
                                              with_reducible rfl
                                            rotate_left
                                            · simp only [Act.put, List.setIfInBounds_toArray, List.set_cons_zero, List.set_cons_succ, i64_w, i32_w]
                                              rfl
                                            refine pure_ (i := 1) (N := some 41) (v := ?_) (a' := ?_) #[true, true, false, false, false, false, false, false, false, false, false, false] rfl rfl (any_of HT_.out (by kernel_rfl)) (fun _ _ _ h => h) (Or.inl ⟨by rfl, ?_⟩) ?_ ?_
                                            rotate_left
                                            · intro w'
                                              go_simp
                                              with_reducible rfl
                                            rotate_left
                                            · simp only [Act.put, List.setIfInBounds_toArray, List.set_cons_zero, List.set_cons_succ, i64_w, i32_w]
                                              rfl
                                            refine pure_ (i := 2) (N := some 42) (v := ?_) (a' := ?_) #[true, true, true, false, false, false, false, false, false, false, false, false] rfl rfl (any_of HT_.out (by kernel_rfl)) (fun _ _ _ h => h) (Or.inl ⟨by rfl, ?_⟩) ?_ ?_
                                            rotate_left
                                            · intro w'
                                              go_simp
                                              with_reducible rfl
                                            rotate_left
                                            · simp only [Act.put, List.setIfInBounds_toArray, List.set_cons_zero, List.set_cons_succ, i64_w, i32_w]
                                              rfl
                                            refine pure_ (i := 4) (N := some 44) (v := ?_) (a' := ?_) #[true, true, true, false, true, false, false, false, false, false, false, false] rfl rfl (any_of HT_.out (by kernel_rfl)) (fun _ _ _ h => h) (Or.inl ⟨by rfl, ?_⟩) ?_ ?_
                                            rotate_left
                                            · intro w'
                                              go_simp
                                              with_reducible rfl
                                            rotate_left
                                            · simp only [Act.put, List.setIfInBounds_toArray, List.set_cons_zero, List.set_cons_succ, i64_w, i32_w]
                                              rfl
                                            refine pure_ (i := 5) (N := some 45) (v := ?_) (a' := ?_) #[true, true, true, false, true, true, false, false, false, false, false, false] rfl rfl (any_of HT_.out (by kernel_rfl)) (fun _ _ _ h => h) (Or.inl ⟨by rfl, ?_⟩) ?_ ?_
                                            rotate_left
                                            · intro w'
                                              go_simp
                                              with_reducible rfl
                                            rotate_left
                                            · simp only [Act.put, List.setIfInBounds_toArray, List.set_cons_zero, List.set_cons_succ, i64_w, i32_w]
                                              rfl
                                            refine pure_ (i := 6) (N := some 46) (v := ?_) (a' := ?_) #[true, true, true, false, true, true, true, false, false, false, false, false] rfl rfl (any_of HT_.out (by kernel_rfl)) (fun _ _ _ h => h) (Or.inl ⟨by rfl, ?_⟩) ?_ ?_
                                            rotate_left
                                            · intro w'
                                              go_simp
                                              with_reducible rfl
                                            rotate_left
                                            · simp only [Act.put, List.setIfInBounds_toArray, List.set_cons_zero, List.set_cons_succ, i64_w, i32_w]
                                              rfl
                                            refine take_ (i := 3) (N := some 43) (v := ?_) (a' := ?_) #[true, true, true, true, true, true, true, false, false, false, false, false] rfl rfl (take_ofW HT_.out HW_.out (by kernel_rfl)) (fun _ _ _ h => h) (Or.inl ⟨by rfl, ?_⟩) hHeld ?_ ?_
                                            rotate_left
                                            · rintro w' ⟨s0, s1, s2⟩
                                              go_simp
                                              with_reducible rfl
                                            rotate_left
                                            · simp only [Act.put, List.setIfInBounds_toArray, List.set_cons_zero, List.set_cons_succ, i64_w, i32_w]
                                              rfl
                                            refine take_ (i := 7) (N := some 47) (v := ?_) (a' := ?_) #[true, true, true, true, true, true, true, true, false, false, false, false] rfl rfl (take_ofW HT_.out HW_.out (by kernel_rfl)) (fun _ _ _ h => h) (Or.inl ⟨by rfl, ?_⟩) hHeld ?_ ?_
                                            rotate_left
                                            · rintro w' ⟨s0, s1, s2⟩
                                              go_simp
                                              with_reducible rfl
                                            rotate_left
                                            · simp only [Act.put, List.setIfInBounds_toArray, List.set_cons_zero, List.set_cons_succ, i64_w, i32_w]
                                              rfl
                                            refine pure_ (i := 8) (N := some 48) (v := ?_) (a' := ?_) #[true, true, true, true, true, true, true, true, true, false, false, false] rfl rfl (any_of HT_.out (by kernel_rfl)) (fun _ _ _ h => h) (Or.inl ⟨by rfl, ?_⟩) ?_ ?_
                                            rotate_left
                                            · intro w'
                                              go_simp
                                              with_reducible rfl
                                            rotate_left
                                            · simp only [Act.put, List.setIfInBounds_toArray, List.set_cons_zero, List.set_cons_succ, i64_w, i32_w]
                                              rfl
                                            refine take_ (i := 9) (N := some 49) (v := ?_) (a' := ?_) #[true, true, true, true, true, true, true, true, true, true, false, false] rfl rfl (take_ofW HT_.out HW_.out (by kernel_rfl)) (fun _ _ _ h => h) (Or.inl ⟨by rfl, ?_⟩) hHeld ?_ ?_
                                            rotate_left
                                            · rintro w' ⟨s0, s1, s2⟩
                                              go_simp
                                              with_reducible rfl
                                            rotate_left
                                            · simp only [Act.put, List.setIfInBounds_toArray, List.set_cons_zero, List.set_cons_succ, i64_w, i32_w]
                                              rfl
                                            refine pure_ (i := 10) (N := some 50) (v := ?_) (a' := ?_) #[true, true, true, true, true, true, true, true, true, true, true, false] rfl rfl (any_of HT_.out (by kernel_rfl)) (fun _ _ _ h => h) (Or.inl ⟨by rfl, ?_⟩) ?_ ?_
                                            rotate_left
                                            · intro w'
                                              go_simp
                                              with_reducible rfl
                                            rotate_left
                                            · simp only [Act.put, List.setIfInBounds_toArray, List.set_cons_zero, List.set_cons_succ, i64_w, i32_w]
                                              rfl
                                            refine pure_ (i := 11) (N := some 51) (v := ?_) (a' := ?_) #[true, true, true, true, true, true, true, true, true, true, true, true] rfl rfl (any_of HT_.out (by kernel_rfl)) (fun _ _ _ h => h) (Or.inl ⟨by rfl, ?_⟩) ?_ ?_
                                            rotate_left
                                            · intro w'
                                              go_simp
                                              with_reducible rfl
                                            rotate_left
                                            · simp only [Act.put, List.setIfInBounds_toArray, List.set_cons_zero, List.set_cons_succ, i64_w, i32_w]
                                              rfl
                                            refine done_ (done_of HT_.out (by kernel_rfl)) ?_
                                            try go_wp2
                                            go_roundg k2
                                            case measure => have := HK1.out; have := HK2.out; omega
                                            case rel => exact ⟨(x7_2), (wrap64 (x36_2 + 1)), (by first | rfl | (simp; done) | (simp [*]; done)), H', ⟨by have := HK1.out; have := HK2.out; omega⟩, ⟨rl HO_6.out⟩, ⟨rl HO_7.out⟩, ⟨rl HO_34.out⟩, ⟨kl BK890.out⟩, ⟨by repeat (first | (with_reducible first | exact HB.out | apply below_alloc | apply pw_below_drewN | apply below_drew1 | refine below_set ?_ GE890.out) | exact HB.out)⟩⟩
                                        · rw [if_neg c39] at H
                                          exact absurd H (by simp)
                                      · rw [if_neg c38] at H
                                        exact absurd H (by simp)
                                    · rw [if_neg c37] at H
                                      exact absurd H (by simp)
                                  · rw [if_neg c36] at H
                                    exact absurd H (by simp)
                                · rw [if_neg c35] at H
                                  exact absurd H (by simp)
                              · rw [if_neg c34] at H
                                exact absurd H (by simp)
                            · rw [if_neg c33] at H
                              exact absurd H (by simp)
                          · rw [if_neg c32] at H
                            have c32b0 : decide (x36_2 < (t902.length : Int)) = false := decide_eq_false c32
                            clear c32
                            have H' := am H
                            clear H
                            go_wp2
                            go_roundg k2
                            case measure => have := HK1.out; have := HK2.out; omega
                            case rel => exact ⟨(x7_2), H', ⟨by have := HK1.out; have := HK2.out; omega⟩, ⟨rl (Kd.R_mono HO_6.out (fun _ hk => by first | exact hk.1 | (simp only [ne_eq] at hk ⊢; simp only [hk, not_false_eq_true, and_self])))⟩, ⟨rl (Kd.R_mono HO_7.out (fun _ hk => by first | exact hk.1 | (simp only [ne_eq] at hk ⊢; simp only [hk, not_false_eq_true, and_self])))⟩, ⟨kl BK890.out⟩, ⟨by repeat (first | (with_reducible first | exact HB.out | apply below_alloc | apply pw_below_drewN | apply below_drew1 | refine below_set ?_ GE890.out) | exact HB.out)⟩⟩
                    · rw [if_neg c26] at H
                      have c26b0 : decide (1 < (rd t892 (rd x7_1 0))) = false := decide_eq_false c26
                      clear c26
                      simp only [Option.some.injEq, Prod.mk.injEq] at H
                      obtain ⟨rfl, rfl⟩ := H
                      obtain ⟨Ao49, co49, eo49⟩ := Kd.R_slice HO_7.out
                      subst eo49
                      have p899 : 0 ≤ (0 : Int) := (by omega)
                      have q899 : 0 < (x7_1.length : Int) := of_decide_eq_true (by first | (with_reducible assumption) | assumption)
                      obtain ⟨ad899, e899, hx899_0⟩ := Kd.at_int (Kd.R_reads' HO_7.out).2.2 0 p899 q899
                      cases e899
                      have qi899 : (0 < x7_1.length) = True := eq_true (by omega)
                      (try rw [show ((0 : Int)).toNat = 0 from rfl] at hx899_0)
                      (try rw [Addr.add_zero'] at hx899_0)
                      replace p899 := eq_true p899
                      replace q899 := eq_true q899
                      have p900 : 0 ≤ ((rd x7_1 0) : Int) := of_decide_eq_true (by first | (with_reducible assumption) | assumption)
                      have q900 : (rd x7_1 0) < (t892.length : Int) := of_decide_eq_true (by first | (with_reducible assumption) | assumption)
                      obtain ⟨ad900, e900, hx900_0⟩ := Kd.at_int (Kd.R_reads' HO_6.out).2.2 (rd x7_1 0) p900 q900
                      obtain rfl : ad895 = ad900 := (by injection e900)
                      replace p900 := eq_true p900
                      replace q900 := eq_true q900
                      go_wp2
                      go_ret2
                      exact ⟨_, by first | rfl | (simp [errW_none, errW_some] <;> rfl) | (simp [*, errW_none, errW_some] <;> rfl), by (with_reducible repeat (first | apply Kd.R_alloc | apply Kd.R_drewN | apply Kd.R_drew)); exact Kd.R_mono HO_7.out (fun _ hk => trivial), by repeat (first | (with_reducible first | exact HB.out | apply below_alloc | apply pw_below_drewN | apply below_drew1 | refine below_set ?_ GE890.out) | exact HB.out)⟩
                  · rw [if_neg c25] at H
                    exact absurd H (by simp)
                · rw [if_neg c24] at H
                  exact absurd H (by simp)
              · rw [if_neg c23] at H
                exact absurd H (by simp)
      · rw [if_neg c7] at H
        exact absurd H (by simp)
    · rw [if_neg c6] at H
      exact absurd H (by simp)
  · replace c4 := Bool.eq_false_iff.mpr c4
    subst c4
    have H1 : (some (([] : List Int), false)) = some (r1, r2) := by rw [if_neg (show ¬ (false = true) by decide)] at H; exact H
    clear H
    have H := H1
    clear H1
    simp only [Option.some.injEq, Prod.mk.injEq] at H
    obtain ⟨rfl, rfl⟩ := H
    go_enter Try.func47, Try.ntmps47
    go_wp2_with (first | ((with_reducible refine gate_dst (N := 2) rfl ?_); refine box_event ?hg (N := 2) ?hd (cs := #[.slice A0_0 l0_0.length c0_0, .slice A0_1 l0_1.length c0_1, .slice A0_2 l0_2.length c0_2]) (t := 28) ?hr ?_; (case hd => rfl); (case hg => rfl); (case hr => first | (go_simp; done) | (go_simp; rfl)); intro gb890 hg w50 hbox hb; have n0_ := am (below_step (bl HB.out) hb); have n1_ := am (hbox); have n2_ := am ((by rw [hg]; exact (below_size (bl HB.out)) : w.heap.size ≤ gb890)); have n3_ := am ((by rw [hg]; exact (below_size (bl HB.out)) : w.heap.size ≤ gb890)); clear HB; have HB := n0_; have BK890 := n1_; have GW890 := n2_; have GE890 := n3_; clear n0_ n1_ n2_ n3_; clear hb hbox hg; have hcz51_0 : w50.cell? ⟨gb890, 0, none⟩ = some (.slice A0_0 l0_0.length c0_0) := (blk_cell BK890.out 0).trans rfl; have hcz51_1 : w50.cell? ⟨gb890, 1, none⟩ = some (.slice A0_1 l0_1.length c0_1) := (blk_cell BK890.out 1).trans rfl; have hcz51_2 : w50.cell? ⟨gb890, 2, none⟩ = some (.slice A0_2 l0_2.length c0_2) := (blk_cell BK890.out 2).trans rfl; have hfz51_0 := blk_frozen BK890.out 0; have hfz51_1 := blk_frozen BK890.out 1; have hfz51_2 := blk_frozen BK890.out 2) | ((with_reducible refine gate_callee (f := 68) rfl ?_); refine goesL_ (some 12) rfl rfl Try.func68 (by kernel_rfl) rfl #[.agg #[.slice A0_0 l0_0.length c0_0, .slice A0_1 l0_1.length c0_1, .slice A0_2 l0_2.length c0_2], .int .i64 a1] rfl (by (try simp only [List.map_toArray, List.map_cons, List.map_nil]); first | done | rfl | (simp only [List.length_drop, List.length_take]; rfl)) ?_; (with_reducible refine (impl_has.calls k _ _ l0_0 _ _ l0_1 _ _ l0_2 a1 false _ ?side1 ?side2 ?side3 ?side4 ?side5 ?side6 A3.out).mono ?_); (case side1 => exact cl (Kd.C_below HR0_0.out HB.out)); (case side2 => exact HC0_0.out); (case side3 => exact cl (Kd.C_below HR0_1.out HB.out)); (case side4 => exact HC0_1.out); (case side5 => exact cl (Kd.C_below HR0_2.out HB.out)); (case side6 => exact HC0_2.out); rintro e w52 ⟨rfl, hb⟩; refine ⟨_, rfl, ?_⟩; have n0_ := am (blk_below (g := gb890) (o := .cells #[.slice A0_0 l0_0.length c0_0, .slice A0_1 l0_1.length c0_1, .slice A0_2 l0_2.length c0_2] 28 (0, 0)) (kl BK890.out) hb); have n1_ := am (below_step (by repeat (first | (with_reducible first | exact HB.out | apply below_alloc | apply pw_below_drewN | apply below_drew1 | refine below_set ?_ GE890.out) | exact HB.out)) hb); clear BK890; clear HB; have BK890 := n0_; have HB := n1_; clear n0_ n1_; (try clear hb); (try clear hb2); (try clear hk); (try clear hi)))
    go_ret2
    exact ⟨_, by first | rfl | (simp [errW_none, errW_some] <;> rfl) | (simp [*, errW_none, errW_some] <;> rfl), by first | exact Kd.R_nil _ _ _ _ _ | exact Kd.N_nil _ _ _ _ _ | exact Kd.V_nil _ _ _ _ _ | exact Kd.Q_nil _ _ _ _ _ | exact Kd.S_nil _ _ _ _ _, by repeat (first | (with_reducible first | exact HB.out | apply below_alloc | apply pw_below_drewN | apply below_drew1 | refine below_set ?_ GE890.out) | exact HB.out)⟩

end Go.Proofs.Ytffnpclehhoeaaa.A
