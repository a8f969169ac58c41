/- Contracts of functions of the given program (AImplSourcesOf). No conditions beyond those stated. -/
import Derived.Test.YtghgpinhghhlgaaA0
import Derived.Test.YtghgpinhghhlgaaAImplHas
import Derived.Test.YtghgpinhghhlgaaA0
namespace Go.Proofs.Ytghgpinhghhlgaa.A
open Go.RowKit Go.Proofs.YtghgpinhghhlgaaW.PrintWords Go.Proofs.YtghgpinhghhlgaaW.PrintLast Go.Proofs.YtghgpinhghhlgaaW.PrintMore
attribute [local go_sem] max2_int min2_int max_two min_two max_three min_three max_four min_four   -- for this text's walks alone
set_option linter.unusedVariables false
set_option linter.unusedSimpArgs false

/-! ### impl_SourcesOf -/
def impl_SourcesOf.l0 : Nat → Int → List Int → Int → Int → List Int → List Int → List Int → Option (List Int)
 | 0, _, _, _, _, _, _, _ => none
 | k + 1, x1, x5, x14, x15, x644000, x644001, x644002 => if x15 < x14 then (if 0 ≤ x15 then (if x15 < (x644000.length : Int) then (if (rd x644000 x15) = x1 then (if x5.length < 17592186044416 then (impl_SourcesOf.l0 k x1 (x5 ++ [x15]) x14 (wrap64 (x15 + 1)) x644000 x644001 x644002) else (none)) else (if x15 < (x644001.length : Int) then (if (rd x644001 x15) = x1 then (if x5.length < 17592186044416 then (impl_SourcesOf.l0 k x1 (x5 ++ [x15]) x14 (wrap64 (x15 + 1)) x644000 x644001 x644002) else (none)) else (impl_SourcesOf.l0 k x1 x5 x14 (wrap64 (x15 + 1)) x644000 x644001 x644002)) else (none))) else (none)) else (none)) else (some x5)
def impl_SourcesOf.f (k : Nat) (l0_0 : List Int) (l0_1 : List Int) (l0_2 : List Int) (a1 : Int) : Option (List Int) := (impl_has.f k l0_0 l0_1 l0_2 a1).bind fun t644 => (if t644 = true then (impl_SourcesOf.l0 k a1 (([] : List Int)) (l0_0.length : Int) 0 l0_0 l0_1 l0_2) else (some ([] : List Int)))
theorem impl_SourcesOf.mono_l : ∀ k, (∀ y0 y1 y2 y3 y4 y5 y6, LeO (impl_SourcesOf.l0 k y0 y1 y2 y3 y4 y5 y6) (impl_SourcesOf.l0 (k + 1) y0 y1 y2 y3 y4 y5 y6))
 | 0 => fun _ _ _ _ _ _ _ r h => by simp [impl_SourcesOf.l0] at h
 | k + 1 => by
  have ih0 := impl_SourcesOf.mono_l k
  ·intro y0 y1 y2 y3 y4 y5 y6
   unfold impl_SourcesOf.l0
   repeat' first
   | (with_reducible exact ih0 _ _ _ _ _ _ _)
   | (with_reducible exact impl_has.mono _ _ _ _ _)
   | (with_reducible exact LeO.refl _)
   | (with_reducible exact LeO.none _)
   | (with_reducible refine LeO.ite ?_ ?_)
   | (with_reducible refine LeO.bind ?_ (fun _ => ?_))
   | exact ih0 _ _ _ _ _ _ _
   | exact impl_has.mono _ _ _ _ _
   | exact LeO.none _
   | refine LeO.ite ?_ ?_
   | refine LeO.bind ?_ (fun _ => ?_)
theorem impl_SourcesOf.mono : ∀ a0 a1 a2 a3 k, LeO (impl_SourcesOf.f k a0 a1 a2 a3) (impl_SourcesOf.f (k + 1) a0 a1 a2 a3) := by
 intro a0 a1 a2 a3 k
 have ih0 := impl_SourcesOf.mono_l k
 unfold impl_SourcesOf.f
 repeat' first
   | (with_reducible exact ih0 _ _ _ _ _ _ _)
   | (with_reducible exact impl_has.mono _ _ _ _ _)
   | (with_reducible exact LeO.refl _)
   | (with_reducible exact LeO.none _)
   | (with_reducible refine LeO.ite ?_ ?_)
   | (with_reducible refine LeO.bind ?_ (fun _ => ?_))
   | exact ih0 _ _ _ _ _ _ _
   | exact impl_has.mono _ _ _ _ _
   | exact LeO.none _
   | refine LeO.ite ?_ ?_
   | refine LeO.bind ?_ (fun _ => ?_)
set_option maxHeartbeats 8000000 in
set_option maxRecDepth 100000 in
theorem impl_SourcesOf.calls (k : Nat) (A0_0 : Option Addr) (c0_0 : Nat) (l0_0 : List Int) (A0_1 : Option Addr) (c0_1 : Nat) (l0_1 : List Int) (A0_2 : Option Addr) (c0_2 : Nat) (l0_2 : List Int) (a1 : Int) (r : List Int) (w : World) (hr0_0 : Kd.C (Kd.int .i64) w A0_0 l0_0.length l0_0) (hc0_0 : l0_0.length ≤ c0_0) (hr0_1 : Kd.C (Kd.int .i64) w A0_1 l0_1.length l0_1) (hc0_1 : l0_1.length ≤ c0_1) (hr0_2 : Kd.C (Kd.int .i64) w A0_2 l0_2.length l0_2) (hc0_2 : l0_2.length ≤ c0_2) (h : impl_SourcesOf.f k l0_0 l0_1 l0_2 a1 = some r) :
  Calls Try.prog 48 #[.agg #[.slice A0_0 l0_0.length c0_0, .slice A0_1 l0_1.length c0_1, .slice A0_2 l0_2.length c0_2], .int .i64 a1] w fun e w' => ∃ v0_ : Value, e = .returned (v0_) ∧ Kd.R (Kd.int .i64) 3 w' w.heap.size (fun _ => True) v0_ r ∧ Below w.heap.size w w' := by
 have hu25 := Try.underlying25
 have HR0_0 := am hr0_0
 have HC0_0 := am hc0_0
 clear hr0_0 hc0_0
 have HR0_1 := am hr0_1
 have HC0_1 := am hc0_1
 clear hr0_1 hc0_1
 have HR0_2 := am hr0_2
 have HC0_2 := am hc0_2
 clear hr0_2 hc0_2
 have HB := am (Below.refl w.heap.size w)
 have H : ((impl_has.f k l0_0 l0_1 l0_2 a1).bind fun t644 => (if t644 = true then (impl_SourcesOf.l0 k a1 (([] : List Int)) (l0_0.length : Int) 0 l0_0 l0_1 l0_2) else (some ([] : List Int)))) = some r := h
 clear h
 replace H := Option.bind_eq_some_iff.mp H
 obtain ⟨t644, A30, H⟩ := H
 replace H : (if t644 = true then (impl_SourcesOf.l0 k a1 (([] : List Int)) (l0_0.length : Int) 0 l0_0 l0_1 l0_2) else (some ([] : List Int))) = some r := H
 have A3 := am A30
 clear A30
 by_cases c4 : t644 = true
 ·subst c4
  have H1 : (impl_SourcesOf.l0 k a1 (([] : List Int)) (l0_0.length : Int) 0 l0_0 l0_1 l0_2) = some r := by rw [if_pos rfl] at H; exact H
  clear H
  have H := H1
  clear H1
  obtain ⟨y645, hy645⟩ : ∃ y_ : List Int, y_ = (([] : List Int)) := ⟨_, rfl⟩
  replace H : (impl_SourcesOf.l0 k a1 y645 (l0_0.length : Int) 0 l0_0 l0_1 l0_2) = some r := by first | (rw [hy645]; with_reducible exact H) | (have H2_ := (Option.bind_some _ _).symm.trans H; rw [hy645]; with_reducible exact H2_) | (have H2_ := (Option.bind_some _ _).symm.trans H; with_reducible exact H2_) | with_reducible exact H | (rw [hy645]; exact H) | exact H
  have Ny645 := am hy645
  clear hy645
  have H' := am H
  clear H
  go_enter Try.func48, Try.ntmps48
  go_wp2_with (first | ((with_reducible refine gate_dst (N := 2) rfl ?_); refine box_event ?hg (N := 2) ?hd (cs := #[.slice A0_0 l0_0.length c0_0, .slice A0_1 l0_1.length c0_1, .slice A0_2 l0_2.length c0_2]) (t := 25) ?hr ?_; (case hd => rfl); (case hg => rfl); (case hr => first | (go_simp; done) | (go_simp; rfl)); intro gb643 hg w5 hbox hb; have BK643 := am (hbox); have GW643 := am ((by rw [hg]; exact (below_size (bl HB.out)) : w.heap.size ≤ gb643)); have GE643 := am ((by rw [hg]; exact (below_size (bl HB.out)) : w.heap.size ≤ gb643)); replace HB := am (below_step (bl HB.out) hb); clear hb hbox hg; have hcz6_0 : w5.cell? ⟨gb643, 0, none⟩ = some (.slice A0_0 l0_0.length c0_0) := (blk_cell BK643.out 0).trans rfl; have hcz6_1 : w5.cell? ⟨gb643, 1, none⟩ = some (.slice A0_1 l0_1.length c0_1) := (blk_cell BK643.out 1).trans rfl; have hcz6_2 : w5.cell? ⟨gb643, 2, none⟩ = some (.slice A0_2 l0_2.length c0_2) := (blk_cell BK643.out 2).trans rfl; have hfz6_0 := blk_frozen BK643.out 0; have hfz6_1 := blk_frozen BK643.out 1; have hfz6_2 := blk_frozen BK643.out 2) | ((with_reducible refine gate_callee (f := 47) rfl ?_); refine goesL_ (some 9) rfl rfl Try.func47 (by kernel_rfl) rfl #[.agg #[.slice A0_0 l0_0.length c0_0, .slice A0_1 l0_1.length c0_1, .slice A0_2 l0_2.length c0_2], .int .i64 a1] rfl (by (try simp only [List.map_toArray, List.map_cons, List.map_nil]); first | done | rfl | (simp only [List.length_drop, List.length_take]; rfl)) ?_; (with_reducible refine (impl_has.calls k _ _ l0_0 _ _ l0_1 _ _ l0_2 a1 true _ ?side1 ?side2 ?side3 ?side4 ?side5 ?side6 A3.out).mono ?_); (case side1 => exact cl (Kd.C_below HR0_0.out HB.out)); (case side2 => exact HC0_0.out); (case side3 => exact cl (Kd.C_below HR0_1.out HB.out)); (case side4 => exact HC0_1.out); (case side5 => exact cl (Kd.C_below HR0_2.out HB.out)); (case side6 => exact HC0_2.out); rintro e w7 ⟨rfl, hb⟩; refine ⟨_, rfl, ?_⟩; replace BK643 := am (blk_below (g := gb643) (o := .cells #[.slice A0_0 l0_0.length c0_0, .slice A0_1 l0_1.length c0_1, .slice A0_2 l0_2.length c0_2] 25 (0, 0)) (kl BK643.out) hb); replace HB := am (below_step (bs1 GE643.out HB.out) hb); (try clear hb); (try clear hb2); (try clear hk); (try clear hi)) | ((with_reducible refine gate_dst (N := 11) rfl ?_); refine Kd.R_lit (Kd.int .i64) _ 3 ?hg (N := 11) ?hd (xs := ([] : List Int)) (inner := []) (ok := fun _ => True) (okp := fun _ => True) ?hr ?hp (fun _ hk => hk) trivial (Below.refl _ _) (Nat.le_refl _) (by simp) ?_; (case hd => rfl); (case hg => rfl); (case hr => first | (go_simp; done) | (go_simp; rfl)); (case hp => exact (Reps.none _ _)); intro v646 w8 ho9 hb hg_ hnew_; clear hg_ hnew_; (first | rw [← Ny645.out] at ho9 | (simp only [Int.reduceToNat] at ho9; rw [← Ny645.out] at ho9)); have HO647 := am (Kd.R_lower ho9 (below_size (bs1 GE643.out HB.out))); replace BK643 := am (blk_below (g := gb643) (o := .cells #[.slice A0_0 l0_0.length c0_0, .slice A0_1 l0_1.length c0_1, .slice A0_2 l0_2.length c0_2] 25 (0, 0)) (kl BK643.out) hb); replace HB := am (below_step (bs1 GE643.out HB.out) hb); clear hb ho9; have hcz10_0 : w8.cell? ⟨gb643, 0, none⟩ = some (.slice A0_0 l0_0.length c0_0) := (blk_cell BK643.out 0).trans rfl; have hcz10_1 : w8.cell? ⟨gb643, 1, none⟩ = some (.slice A0_1 l0_1.length c0_1) := (blk_cell BK643.out 1).trans rfl; have hcz10_2 : w8.cell? ⟨gb643, 2, none⟩ = some (.slice A0_2 l0_2.length c0_2) := (blk_cell BK643.out 2).trans rfl; have hfz10_0 := blk_frozen BK643.out 0; have hfz10_1 := blk_frozen BK643.out 1; have hfz10_2 := blk_frozen BK643.out 2))
  go_loopg [5, 15] k (fun kq v5 v15 w' => ∃ (x5_1 : List Int) (x15_1 : Int), v15 = .int .i64 x15_1 ∧ Aside0 (impl_SourcesOf.l0 kq a1 x5_1 (l0_0.length : Int) x15_1 l0_0 l0_1 l0_2 = some r) ∧ Aside0 (kq ≤ k) ∧ Aside0 (Kd.R (Kd.int .i64) 3 w' w.heap.size (fun _ => True) v5 x5_1) ∧ Aside0 (w'.heap[gb643]? = some (.cells #[(.slice A0_0 l0_0.length c0_0), (.slice A0_1 l0_1.length c0_1), (.slice A0_2 l0_2.length c0_2)] 25 (0, 0))) ∧ Aside0 (Below w.heap.size w w'))
  case atStart => exact ⟨(y645), (0), (by first | rfl | (simp; done) | (simp [*]; done)), H', ⟨Nat.le_refl _⟩, ⟨rl HO647.out⟩, ⟨kl BK643.out⟩, ⟨by exact bs1 GE643.out HB.out⟩⟩
  case round =>
   clear H'
   try clear p2
   try clear c4
   try clear hcz10_0
   try clear hcz10_1
   try clear hcz10_2
   try clear hcz6_0
   try clear hcz6_1
   try clear hcz6_2
   try clear hfz10_0
   try clear hfz10_1
   try clear hfz10_2
   try clear hfz6_0
   try clear hfz6_1
   try clear hfz6_2
   obtain ⟨x5_1, x15_1, rfl, HA, HK1, HO_5, BK643, HB⟩ := hrel
   cases gk with
   | zero => exact absurd HA.out (by simp [impl_SourcesOf.l0])
   | succ k1 =>
    have H := HA.out
    clear HA
    simp only [impl_SourcesOf.l0] at H
    by_cases c11 : x15_1 < (l0_0.length : Int)
    ·rw [if_pos c11] at H
     have c11b0 : decide (x15_1 < (l0_0.length : Int)) = true := decide_eq_true c11
     clear c11
     by_cases c12 : 0 ≤ x15_1
     ·rw [if_pos c12] at H
      have c12b0 : decide (0 ≤ x15_1) = true := decide_eq_true c12
      clear c12
      by_cases c13 : x15_1 < (l0_0.length : Int)
      ·rw [if_pos c13] at H
       have c13b0 : decide (x15_1 < (l0_0.length : Int)) = true := decide_eq_true c13
       clear c13
       by_cases c14 : (rd l0_0 x15_1) = a1
       ·rw [if_pos c14] at H
        have c14b0 : ((rd l0_0 x15_1) == a1) = true := beq_iff_eq.mpr c14
        have c14b1 : ((rd l0_0 x15_1) != a1) = false := bne_eq_false_iff_eq.mpr c14
        clear c14
        by_cases c15 : x5_1.length < 17592186044416
        ·rw [if_pos c15] at H
         have LMc15 := am c15
         clear c15
         obtain ⟨y649, hy649⟩ : ∃ y_ : List Int, y_ = (x5_1 ++ [x15_1]) := ⟨_, rfl⟩
         replace H : (impl_SourcesOf.l0 k1 a1 y649 (l0_0.length : Int) (wrap64 (x15_1 + 1)) l0_0 l0_1 l0_2) = some r := by first | (rw [hy649]; with_reducible exact H) | (have H2_ := (Option.bind_some _ _).symm.trans H; rw [hy649]; with_reducible exact H2_) | (have H2_ := (Option.bind_some _ _).symm.trans H; with_reducible exact H2_) | with_reducible exact H | (rw [hy649]; exact H) | exact H
         have Ny649 := am hy649
         clear hy649
         have H' := am H
         clear H
         have hcz16_0 : wr.cell? ⟨gb643, 0, none⟩ = some (.slice A0_0 l0_0.length c0_0) := (blk_cell BK643.out 0).trans rfl
         have hcz16_1 : wr.cell? ⟨gb643, 1, none⟩ = some (.slice A0_1 l0_1.length c0_1) := (blk_cell BK643.out 1).trans rfl
         have hcz16_2 : wr.cell? ⟨gb643, 2, none⟩ = some (.slice A0_2 l0_2.length c0_2) := (blk_cell BK643.out 2).trans rfl
         have hfz16_0 := blk_frozen BK643.out 0
         have hfz16_1 := blk_frozen BK643.out 1
         have hfz16_2 := blk_frozen BK643.out 2
         have p648 : 0 ≤ (x15_1 : Int) := of_decide_eq_true (by first | (with_reducible assumption) | assumption)
         have q648 : x15_1 < (l0_0.length : Int) := of_decide_eq_true (by first | (with_reducible assumption) | assumption)
         obtain ⟨ad648, e648, hx648_0⟩ := Kd.at_int HR0_0.out x15_1 p648 q648
         cases e648
         try (replace hx648_0 := (HB.out.cell (World.block_lt_of_cell? w _ hx648_0)).trans hx648_0)
         replace p648 := eq_true p648
         replace q648 := eq_true q648
         go_wp2_with (first | ((with_reducible refine gate_builtin (b := .append) (xs := #[.tmp 34, .tmp 36]) rfl ?_); at_builtin; refine Kd.R_append (Kd.int .i64) (w0 := w) w.heap.size rfl (.tmp 34) (.tmp 36) 23 3 (.int .i64 0) 8 rfl Try.underlying23 info3 rfl (by decide) (by omega) u5 x5_1 x15_1 [.int .i64 x15_1] (fun _ => True) (fun _ => False) rfl rfl ?aP (fun _ hk => hk.elim) ?aF ?aO ?aB ?aS ?aL ?_; (case aP => exact rfl); (case aB => exact (bs1 GE643.out HB.out)); (case aF => exact (fun _ _ => trivial)); (case aO => exact (rl HO_5.out)); (case aS => exact (below_size (bs1 GE643.out HB.out))); (case aL => have := LMc15.out; omega); intro v650 w17 ho hb hg hat; rw [← Ny649.out] at ho; replace BK643 := am (blk_grown (g := gb643) (o := .cells #[.slice (some ad648) l0_0.length c0_0, .slice A0_1 l0_1.length c0_1, .slice A0_2 l0_2.length c0_2] 25 (0, 0)) (kl BK643.out) hg (Kd.R_ne HO_5.out BK643.out (by decide))); replace HB := am (hb); have HO651 := am (ho); clear HO_5; clear ho hb hg hat))
         go_roundg k1
         case measure => have := HK1.out; omega
         case rel => exact ⟨(y649), (wrap64 (x15_1 + 1)), (by first | rfl | (simp; done) | (simp [*]; done)), H', ⟨by have := HK1.out; omega⟩, ⟨rl HO651.out⟩, ⟨kl BK643.out⟩, ⟨by exact bs1 GE643.out HB.out⟩⟩
        ·rw [if_neg c15] at H
         exact absurd H (by simp)
       ·rw [if_neg c14] at H
        have c14b0 : ((rd l0_0 x15_1) == a1) = false := beq_eq_false_iff_ne.mpr c14
        have c14b1 : ((rd l0_0 x15_1) != a1) = true := bne_iff_ne.mpr c14
        by_cases c18 : x15_1 < (l0_1.length : Int)
        ·rw [if_pos c18] at H
         have c18b0 : decide (x15_1 < (l0_1.length : Int)) = true := decide_eq_true c18
         clear c18
         by_cases c19 : (rd l0_1 x15_1) = a1
         ·rw [if_pos c19] at H
          have c19b0 : ((rd l0_1 x15_1) == a1) = true := beq_iff_eq.mpr c19
          have c19b1 : ((rd l0_1 x15_1) != a1) = false := bne_eq_false_iff_eq.mpr c19
          clear c19
          by_cases c20 : x5_1.length < 17592186044416
          ·rw [if_pos c20] at H
           have LMc20 := am c20
           clear c20
           obtain ⟨y653, hy653⟩ : ∃ y_ : List Int, y_ = (x5_1 ++ [x15_1]) := ⟨_, rfl⟩
           replace H : (impl_SourcesOf.l0 k1 a1 y653 (l0_0.length : Int) (wrap64 (x15_1 + 1)) l0_0 l0_1 l0_2) = some r := by first | (rw [hy653]; with_reducible exact H) | (have H2_ := (Option.bind_some _ _).symm.trans H; rw [hy653]; with_reducible exact H2_) | (have H2_ := (Option.bind_some _ _).symm.trans H; with_reducible exact H2_) | with_reducible exact H | (rw [hy653]; exact H) | exact H
           have Ny653 := am hy653
           clear hy653
           have H' := am H
           clear H
           have hcz21_0 : wr.cell? ⟨gb643, 0, none⟩ = some (.slice A0_0 l0_0.length c0_0) := (blk_cell BK643.out 0).trans rfl
           have hcz21_1 : wr.cell? ⟨gb643, 1, none⟩ = some (.slice A0_1 l0_1.length c0_1) := (blk_cell BK643.out 1).trans rfl
           have hcz21_2 : wr.cell? ⟨gb643, 2, none⟩ = some (.slice A0_2 l0_2.length c0_2) := (blk_cell BK643.out 2).trans rfl
           have hfz21_0 := blk_frozen BK643.out 0
           have hfz21_1 := blk_frozen BK643.out 1
           have hfz21_2 := blk_frozen BK643.out 2
           have p648 : 0 ≤ (x15_1 : Int) := of_decide_eq_true (by first | (with_reducible assumption) | assumption)
           have q648 : x15_1 < (l0_0.length : Int) := of_decide_eq_true (by first | (with_reducible assumption) | assumption)
           obtain ⟨ad648, e648, hx648_0⟩ := Kd.at_int HR0_0.out x15_1 p648 q648
           cases e648
           try (replace hx648_0 := (HB.out.cell (World.block_lt_of_cell? w _ hx648_0)).trans hx648_0)
           replace p648 := eq_true p648
           replace q648 := eq_true q648
           have p652 : 0 ≤ (x15_1 : Int) := of_decide_eq_true (by first | (with_reducible assumption) | assumption)
           have q652 : x15_1 < (l0_1.length : Int) := of_decide_eq_true (by first | (with_reducible assumption) | assumption)
           obtain ⟨ad652, e652, hx652_0⟩ := Kd.at_int HR0_1.out x15_1 p652 q652
           cases e652
           try (replace hx652_0 := (HB.out.cell (World.block_lt_of_cell? w _ hx652_0)).trans hx652_0)
           replace p652 := eq_true p652
           replace q652 := eq_true q652
           go_wp2_with (first | ((with_reducible refine gate_builtin (b := .append) (xs := #[.tmp 34, .tmp 36]) rfl ?_); at_builtin; refine Kd.R_append (Kd.int .i64) (w0 := w) w.heap.size rfl (.tmp 34) (.tmp 36) 23 3 (.int .i64 0) 8 rfl Try.underlying23 info3 rfl (by decide) (by omega) u5 x5_1 x15_1 [.int .i64 x15_1] (fun _ => True) (fun _ => False) rfl rfl ?aP (fun _ hk => hk.elim) ?aF ?aO ?aB ?aS ?aL ?_; (case aP => exact rfl); (case aB => exact (bs1 GE643.out HB.out)); (case aF => exact (fun _ _ => trivial)); (case aO => exact (rl HO_5.out)); (case aS => exact (below_size (bs1 GE643.out HB.out))); (case aL => have := LMc20.out; omega); intro v654 w22 ho hb hg hat; rw [← Ny653.out] at ho; replace BK643 := am (blk_grown (g := gb643) (o := .cells #[.slice (some ad648) l0_0.length c0_0, .slice (some ad652) l0_1.length c0_1, .slice A0_2 l0_2.length c0_2] 25 (0, 0)) (kl BK643.out) hg (Kd.R_ne HO_5.out BK643.out (by decide))); replace HB := am (hb); have HO655 := am (ho); clear HO_5; clear ho hb hg hat))
           go_roundg k1
           case measure => have := HK1.out; omega
           case rel => exact ⟨(y653), (wrap64 (x15_1 + 1)), (by first | rfl | (simp; done) | (simp [*]; done)), H', ⟨by have := HK1.out; omega⟩, ⟨rl HO655.out⟩, ⟨kl BK643.out⟩, ⟨by exact bs1 GE643.out HB.out⟩⟩
          ·rw [if_neg c20] at H
           exact absurd H (by simp)
         ·rw [if_neg c19] at H
          have c19b0 : ((rd l0_1 x15_1) == a1) = false := beq_eq_false_iff_ne.mpr c19
          have c19b1 : ((rd l0_1 x15_1) != a1) = true := bne_iff_ne.mpr c19
          have H' := am H
          clear H
          have hcz23_0 : wr.cell? ⟨gb643, 0, none⟩ = some (.slice A0_0 l0_0.length c0_0) := (blk_cell BK643.out 0).trans rfl
          have hcz23_1 : wr.cell? ⟨gb643, 1, none⟩ = some (.slice A0_1 l0_1.length c0_1) := (blk_cell BK643.out 1).trans rfl
          have hcz23_2 : wr.cell? ⟨gb643, 2, none⟩ = some (.slice A0_2 l0_2.length c0_2) := (blk_cell BK643.out 2).trans rfl
          have hfz23_0 := blk_frozen BK643.out 0
          have hfz23_1 := blk_frozen BK643.out 1
          have hfz23_2 := blk_frozen BK643.out 2
          have p648 : 0 ≤ (x15_1 : Int) := of_decide_eq_true (by first | (with_reducible assumption) | assumption)
          have q648 : x15_1 < (l0_0.length : Int) := of_decide_eq_true (by first | (with_reducible assumption) | assumption)
          obtain ⟨ad648, e648, hx648_0⟩ := Kd.at_int HR0_0.out x15_1 p648 q648
          cases e648
          try (replace hx648_0 := (HB.out.cell (World.block_lt_of_cell? w _ hx648_0)).trans hx648_0)
          replace p648 := eq_true p648
          replace q648 := eq_true q648
          have p652 : 0 ≤ (x15_1 : Int) := of_decide_eq_true (by first | (with_reducible assumption) | assumption)
          have q652 : x15_1 < (l0_1.length : Int) := of_decide_eq_true (by first | (with_reducible assumption) | assumption)
          obtain ⟨ad652, e652, hx652_0⟩ := Kd.at_int HR0_1.out x15_1 p652 q652
          cases e652
          try (replace hx652_0 := (HB.out.cell (World.block_lt_of_cell? w _ hx652_0)).trans hx652_0)
          replace p652 := eq_true p652
          replace q652 := eq_true q652
          go_wp2
          go_roundg k1
          case measure => have := HK1.out; omega
          case rel => exact ⟨(x5_1), (wrap64 (x15_1 + 1)), (by first | rfl | (simp; done) | (simp [*]; done)), H', ⟨by have := HK1.out; omega⟩, ⟨rl HO_5.out⟩, ⟨kl BK643.out⟩, ⟨by exact bs1 GE643.out HB.out⟩⟩
        ·rw [if_neg c18] at H
         exact absurd H (by simp)
      ·rw [if_neg c13] at H
       exact absurd H (by simp)
     ·rw [if_neg c12] at H
      exact absurd H (by simp)
    ·rw [if_neg c11] at H
     have c11b0 : decide (x15_1 < (l0_0.length : Int)) = false := decide_eq_false c11
     clear c11
     obtain rfl := Option.some.inj H
     go_wp2
     go_ret
     exact ⟨_, by first | rfl | (simp [errW_none, errW_some] <;> rfl) | (simp [*, errW_none, errW_some] <;> rfl), by (with_reducible repeat (first | apply Kd.R_alloc | apply Kd.R_drewN | apply Kd.R_drew)); exact HO_5.out, by exact bs1 GE643.out HB.out⟩
 ·replace c4 := Bool.eq_false_iff.mpr c4
  subst c4
  have H1 : (some ([] : List Int)) = some r := by rw [if_neg (show ¬ (false = true) by decide)] at H; exact H
  clear H
  have H := H1
  clear H1
  obtain rfl := Option.some.inj H
  go_enter Try.func48, Try.ntmps48
  go_wp2_with (first | ((with_reducible refine gate_dst (N := 2) rfl ?_); refine box_event ?hg (N := 2) ?hd (cs := #[.slice A0_0 l0_0.length c0_0, .slice A0_1 l0_1.length c0_1, .slice A0_2 l0_2.length c0_2]) (t := 25) ?hr ?_; (case hd => rfl); (case hg => rfl); (case hr => first | (go_simp; done) | (go_simp; rfl)); intro gb643 hg w24 hbox hb; have BK643 := am (hbox); have GW643 := am ((by rw [hg]; exact (below_size (bl HB.out)) : w.heap.size ≤ gb643)); have GE643 := am ((by rw [hg]; exact (below_size (bl HB.out)) : w.heap.size ≤ gb643)); replace HB := am (below_step (bl HB.out) hb); clear hb hbox hg; have hcz25_0 : w24.cell? ⟨gb643, 0, none⟩ = some (.slice A0_0 l0_0.length c0_0) := (blk_cell BK643.out 0).trans rfl; have hcz25_1 : w24.cell? ⟨gb643, 1, none⟩ = some (.slice A0_1 l0_1.length c0_1) := (blk_cell BK643.out 1).trans rfl; have hcz25_2 : w24.cell? ⟨gb643, 2, none⟩ = some (.slice A0_2 l0_2.length c0_2) := (blk_cell BK643.out 2).trans rfl; have hfz25_0 := blk_frozen BK643.out 0; have hfz25_1 := blk_frozen BK643.out 1; have hfz25_2 := blk_frozen BK643.out 2) | ((with_reducible refine gate_callee (f := 47) rfl ?_); refine goesL_ (some 9) rfl rfl Try.func47 (by kernel_rfl) rfl #[.agg #[.slice A0_0 l0_0.length c0_0, .slice A0_1 l0_1.length c0_1, .slice A0_2 l0_2.length c0_2], .int .i64 a1] rfl (by (try simp only [List.map_toArray, List.map_cons, List.map_nil]); first | done | rfl | (simp only [List.length_drop, List.length_take]; rfl)) ?_; (with_reducible refine (impl_has.calls k _ _ l0_0 _ _ l0_1 _ _ l0_2 a1 false _ ?side1 ?side2 ?side3 ?side4 ?side5 ?side6 A3.out).mono ?_); (case side1 => exact cl (Kd.C_below HR0_0.out HB.out)); (case side2 => exact HC0_0.out); (case side3 => exact cl (Kd.C_below HR0_1.out HB.out)); (case side4 => exact HC0_1.out); (case side5 => exact cl (Kd.C_below HR0_2.out HB.out)); (case side6 => exact HC0_2.out); rintro e w26 ⟨rfl, hb⟩; refine ⟨_, rfl, ?_⟩; replace BK643 := am (blk_below (g := gb643) (o := .cells #[.slice A0_0 l0_0.length c0_0, .slice A0_1 l0_1.length c0_1, .slice A0_2 l0_2.length c0_2] 25 (0, 0)) (kl BK643.out) hb); replace HB := am (below_step (bs1 GE643.out HB.out) hb); (try clear hb); (try clear hb2); (try clear hk); (try clear hi)))
  go_ret
  exact ⟨_, by first | rfl | (simp [errW_none, errW_some] <;> rfl) | (simp [*, errW_none, errW_some] <;> rfl), by first | exact Kd.R_nil _ _ _ _ _ | exact Kd.N_nil _ _ _ _ _ | exact Kd.V_nil _ _ _ _ _ | exact Kd.Q_nil _ _ _ _ _ | exact Kd.S_nil _ _ _ _ _, by exact bs1 GE643.out HB.out⟩

end Go.Proofs.Ytghgpinhghhlgaa.A
