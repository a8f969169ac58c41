/- Contracts of functions of the given program (ASpecCountColor). No conditions beyond those stated. -/
import Derived.Test.YtkbaggfkidalfaaA0
import Derived.Test.YtkbaggfkidalfaaASpecColoredValid
import Derived.Test.YtkbaggfkidalfaaA0
namespace Go.Proofs.Ytkbaggfkidalfaa.A
open Go.RowKit Go.Proofs.YtkbaggfkidalfaaW.PrintWords Go.Proofs.YtkbaggfkidalfaaW.PrintLast Go.Proofs.YtkbaggfkidalfaaW.PrintMore
attribute [local go_sem] max2_int min2_int max_two min_two max_three min_three max_four min_four   -- for this text's walks alone
set_option linter.unusedVariables false
set_option linter.unusedSimpArgs false

/-! ### spec_CountColor -/
mutual
def spec_CountColor.l0 : Nat → Int → Int → Int → List Int → List Int → List Int → List Int → Option (Int)
 | 0, _, _, _, _, _, _, _ => none
 | k + 1, x1, x5, x6, x879000, x879001, x879002, x879003 => if x6 < (x879003.length : Int) then ((spec_ColoredValid.f k x879000 x879001 x879002 x879003).bind fun t879 => (spec_CountColor.j1 k x1 x5 x6 t879 x879000 x879001 x879002 x879003)) else (spec_CountColor.j1 k x1 x5 x6 false x879000 x879001 x879002 x879003)
def spec_CountColor.j1 : Nat → Int → Int → Int → Bool → List Int → List Int → List Int → List Int → Option (Int)
 | 0, _, _, _, _, _, _, _, _ => none
 | k + 1, x1, x5, x6, x15, x879000, x879001, x879002, x879003 => if x15 = true then (if 0 ≤ x6 then (if x6 < (x879003.length : Int) then (if (rd x879003 x6) = x1 then (spec_CountColor.l0 k x1 (wrap64 (x5 + 1)) (wrap64 (x6 + 1)) x879000 x879001 x879002 x879003) else (spec_CountColor.l0 k x1 x5 (wrap64 (x6 + 1)) x879000 x879001 x879002 x879003)) else (none)) else (none)) else (some x5)
end
def spec_CountColor.f (k : Nat) (l0_0 : List Int) (l0_1 : List Int) (l0_2 : List Int) (l0_3 : List Int) (a1 : Int) : Option (Int) := spec_CountColor.l0 k a1 0 0 l0_0 l0_1 l0_2 l0_3
theorem spec_CountColor.mono_l : ∀ k, (∀ y0 y1 y2 y3 y4 y5 y6, LeO (spec_CountColor.l0 k y0 y1 y2 y3 y4 y5 y6) (spec_CountColor.l0 (k + 1) y0 y1 y2 y3 y4 y5 y6)) ∧ (∀ y0 y1 y2 y3 y4 y5 y6 y7, LeO (spec_CountColor.j1 k y0 y1 y2 y3 y4 y5 y6 y7) (spec_CountColor.j1 (k + 1) y0 y1 y2 y3 y4 y5 y6 y7))
 | 0 => ⟨fun _ _ _ _ _ _ _ r h => by simp [spec_CountColor.l0] at h, fun _ _ _ _ _ _ _ _ r h => by simp [spec_CountColor.j1] at h⟩
 | k + 1 => by
  obtain ⟨ih0, ih1⟩ := spec_CountColor.mono_l k
  refine ⟨?_, ?_⟩
  ·intro y0 y1 y2 y3 y4 y5 y6
   unfold spec_CountColor.l0
   repeat' first
   | (with_reducible exact ih0 _ _ _ _ _ _ _)
   | (with_reducible exact ih1 _ _ _ _ _ _ _ _)
   | (with_reducible exact spec_ColoredValid.mono _ _ _ _ _)
   | (with_reducible exact LeO.refl _)
   | (with_reducible exact LeO.none _)
   | (with_reducible refine LeO.ite ?_ ?_)
   | (with_reducible refine LeO.bind ?_ (fun _ => ?_))
   | exact ih0 _ _ _ _ _ _ _
   | exact ih1 _ _ _ _ _ _ _ _
   | exact spec_ColoredValid.mono _ _ _ _ _
   | exact LeO.none _
   | refine LeO.ite ?_ ?_
   | refine LeO.bind ?_ (fun _ => ?_)
  ·intro y0 y1 y2 y3 y4 y5 y6 y7
   unfold spec_CountColor.j1
   repeat' first
   | (with_reducible exact ih0 _ _ _ _ _ _ _)
   | (with_reducible exact ih1 _ _ _ _ _ _ _ _)
   | (with_reducible exact spec_ColoredValid.mono _ _ _ _ _)
   | (with_reducible exact LeO.refl _)
   | (with_reducible exact LeO.none _)
   | (with_reducible refine LeO.ite ?_ ?_)
   | (with_reducible refine LeO.bind ?_ (fun _ => ?_))
   | exact ih0 _ _ _ _ _ _ _
   | exact ih1 _ _ _ _ _ _ _ _
   | exact spec_ColoredValid.mono _ _ _ _ _
   | exact LeO.none _
   | refine LeO.ite ?_ ?_
   | refine LeO.bind ?_ (fun _ => ?_)
theorem spec_CountColor.mono : ∀ a0 a1 a2 a3 a4 k, LeO (spec_CountColor.f k a0 a1 a2 a3 a4) (spec_CountColor.f (k + 1) a0 a1 a2 a3 a4) := by
 intro a0 a1 a2 a3 a4 k
 obtain ⟨ih0, ih1⟩ := spec_CountColor.mono_l k
 unfold spec_CountColor.f
 repeat' first
   | (with_reducible exact ih0 _ _ _ _ _ _ _)
   | (with_reducible exact ih1 _ _ _ _ _ _ _ _)
   | (with_reducible exact spec_ColoredValid.mono _ _ _ _ _)
   | (with_reducible exact LeO.refl _)
   | (with_reducible exact LeO.none _)
   | (with_reducible refine LeO.ite ?_ ?_)
   | (with_reducible refine LeO.bind ?_ (fun _ => ?_))
   | exact ih0 _ _ _ _ _ _ _
   | exact ih1 _ _ _ _ _ _ _ _
   | exact spec_ColoredValid.mono _ _ _ _ _
   | exact LeO.none _
   | refine LeO.ite ?_ ?_
   | refine LeO.bind ?_ (fun _ => ?_)
set_option maxHeartbeats 8000000 in
set_option maxRecDepth 100000 in
theorem spec_CountColor.calls (k : Nat) (A0_0 : Option Addr) (c0_0 : Nat) (l0_0 : List Int) (A0_1 : Option Addr) (c0_1 : Nat) (l0_1 : List Int) (A0_2 : Option Addr) (c0_2 : Nat) (l0_2 : List Int) (A0_3 : Option Addr) (c0_3 : Nat) (l0_3 : List Int) (a1 : Int) (r : Int) (w : World) (hr0_0 : Kd.C (Kd.int .i64) w A0_0 l0_0.length l0_0) (hc0_0 : l0_0.length ≤ c0_0) (hr0_1 : Kd.C (Kd.int .i64) w A0_1 l0_1.length l0_1) (hc0_1 : l0_1.length ≤ c0_1) (hr0_2 : Kd.C (Kd.int .i64) w A0_2 l0_2.length l0_2) (hc0_2 : l0_2.length ≤ c0_2) (hr0_3 : Kd.C (Kd.int .i64) w A0_3 l0_3.length l0_3) (hc0_3 : l0_3.length ≤ c0_3) (h : spec_CountColor.f k l0_0 l0_1 l0_2 l0_3 a1 = some r) :
  Calls Try.prog 28 #[.agg #[.slice A0_0 l0_0.length c0_0, .slice A0_1 l0_1.length c0_1, .slice A0_2 l0_2.length c0_2, .slice A0_3 l0_3.length c0_3], .int .i64 a1] w fun e w' => e = .returned (.int .i64 r) ∧ Below w.heap.size w w' := by
 have hu30 := Try.underlying30
 have HR0_0 := am hr0_0
 have HC0_0 := am hc0_0
 clear hr0_0 hc0_0
 have HR0_1 := am hr0_1
 have HC0_1 := am hc0_1
 clear hr0_1 hc0_1
 have HR0_2 := am hr0_2
 have HC0_2 := am hc0_2
 clear hr0_2 hc0_2
 have HR0_3 := am hr0_3
 have HC0_3 := am hc0_3
 clear hr0_3 hc0_3
 have HB := am (Below.refl w.heap.size w)
 have H : (spec_CountColor.l0 k a1 0 0 l0_0 l0_1 l0_2 l0_3) = some r := h
 clear h
 have H' := am H
 clear H
 go_enter Try.func28, Try.ntmps28
 go_wp2_with (first | ((with_reducible refine gate_dst (N := 2) rfl ?_); refine box_event ?hg (N := 2) ?hd (cs := #[.slice A0_0 l0_0.length c0_0, .slice A0_1 l0_1.length c0_1, .slice A0_2 l0_2.length c0_2, .slice A0_3 l0_3.length c0_3]) (t := 30) ?hr ?_; (case hd => rfl); (case hg => rfl); (case hr => first | (go_simp; done) | (go_simp; rfl)); intro gb878 hg w3 hbox hb; have BK878 := am (hbox); have GW878 := am ((by rw [hg]; exact (below_size (bl HB.out)) : w.heap.size ≤ gb878)); have GE878 := am ((by rw [hg]; exact (below_size (bl HB.out)) : w.heap.size ≤ gb878)); replace HB := am (below_step (bl HB.out) hb); clear hb hbox hg))
 go_loopg [5, 6] k (fun kq v5 v6 w' => ∃ (x5_1 : Int) (x6_1 : Int), v5 = .int .i64 x5_1 ∧ v6 = .int .i64 x6_1 ∧ Aside0 (spec_CountColor.l0 kq a1 x5_1 x6_1 l0_0 l0_1 l0_2 l0_3 = some r) ∧ Aside0 (kq ≤ k) ∧ Aside0 (w'.heap[gb878]? = some (.cells #[(.slice A0_0 l0_0.length c0_0), (.slice A0_1 l0_1.length c0_1), (.slice A0_2 l0_2.length c0_2), (.slice A0_3 l0_3.length c0_3)] 30 (0, 0))) ∧ Aside0 (Below w.heap.size w w'))
 case atStart => exact ⟨(0), (0), (by first | rfl | (simp; done) | (simp [*]; done)), (by first | rfl | (simp; done) | (simp [*]; done)), H', ⟨Nat.le_refl _⟩, ⟨kl BK878.out⟩, ⟨by exact bs1 GE878.out HB.out⟩⟩
 case round =>
  clear H'
  try clear c2
  try clear p2
  obtain ⟨x5_1, x6_1, rfl, rfl, HA, HK1, BK878, HB⟩ := hrel
  cases gk with
  | zero => exact absurd HA.out (by simp [spec_CountColor.l0])
  | succ k1 =>
   have H := HA.out
   clear HA
   simp only [spec_CountColor.l0] at H
   have HC4 := am H
   clear H
   go_upto_region 3 with (fail)
   go_cut [15] (fun v15 wc => ∃ (kq : Nat) (x15_3 : Bool), v15 = .bool x15_3 ∧ Aside0 (spec_CountColor.j1 kq a1 x5_1 x6_1 x15_3 l0_0 l0_1 l0_2 l0_3 = some r) ∧ Aside0 (kq ≤ k1) ∧ Aside0 (wc.heap[gb878]? = some (.cells #[(.slice A0_0 l0_0.length c0_0), (.slice A0_1 l0_1.length c0_1), (.slice A0_2 l0_2.length c0_2), (.slice A0_3 l0_3.length c0_3)] 30 (0, 0))) ∧ Aside0 (Below w.heap.size w wc))
   case first =>
    have H := HC4.out
    clear HC4
    by_cases c5 : x6_1 < (l0_3.length : Int)
    ·rw [if_pos c5] at H
     have c5b0 : decide (x6_1 < (l0_3.length : Int)) = true := decide_eq_true c5
     clear c5
     (first | rw [c5b0] | (simp only [i64_w, i32_w]; rw [c5b0]) | skip)
     replace H := Option.bind_eq_some_iff.mp H
     obtain ⟨t879, A60, H⟩ := H
     replace H : (spec_CountColor.j1 k1 a1 x5_1 x6_1 t879 l0_0 l0_1 l0_2 l0_3) = some r := H
     have A6 := am A60
     clear A60
     have H' := am H
     clear H
     have hcz7_0 : wr.cell? ⟨gb878, 0, none⟩ = some (.slice A0_0 l0_0.length c0_0) := (blk_cell BK878.out 0).trans rfl
     have hcz7_1 : wr.cell? ⟨gb878, 1, none⟩ = some (.slice A0_1 l0_1.length c0_1) := (blk_cell BK878.out 1).trans rfl
     have hcz7_2 : wr.cell? ⟨gb878, 2, none⟩ = some (.slice A0_2 l0_2.length c0_2) := (blk_cell BK878.out 2).trans rfl
     have hcz7_3 : wr.cell? ⟨gb878, 3, none⟩ = some (.slice A0_3 l0_3.length c0_3) := (blk_cell BK878.out 3).trans rfl
     have hfz7_0 := blk_frozen BK878.out 0
     have hfz7_1 := blk_frozen BK878.out 1
     have hfz7_2 := blk_frozen BK878.out 2
     have hfz7_3 := blk_frozen BK878.out 3
     go_wp2_with (first | (go_at_call 36; (with_reducible refine (spec_ColoredValid.calls k1 _ _ l0_0 _ _ l0_1 _ _ l0_2 _ _ l0_3 t879 _ ?side1 ?side2 ?side3 ?side4 ?side5 ?side6 ?side7 ?side8 A6.out).mono ?_); (case side1 => exact cl (Kd.C_below HR0_0.out HB.out)); (case side2 => exact HC0_0.out); (case side3 => exact cl (Kd.C_below HR0_1.out HB.out)); (case side4 => exact HC0_1.out); (case side5 => exact cl (Kd.C_below HR0_2.out HB.out)); (case side6 => exact HC0_2.out); (case side7 => exact cl (Kd.C_below HR0_3.out HB.out)); (case side8 => exact HC0_3.out); rintro e w8 ⟨rfl, hb⟩; replace BK878 := am (blk_below (g := gb878) (o := .cells #[.slice A0_0 l0_0.length c0_0, .slice A0_1 l0_1.length c0_1, .slice A0_2 l0_2.length c0_2, .slice A0_3 l0_3.length c0_3] 30 (0, 0)) (kl BK878.out) hb); replace HB := am (below_step (bs1 GE878.out HB.out) hb); (try clear hb); (try clear hb2); (try clear hk); (try clear hi)))
     go_meet
     case rel => exact ⟨_, (t879), (by first | rfl | (simp; done) | (simp [*]; done)), H', ⟨by have := HK1.out; first | omega | exact Nat.le_refl _⟩, ⟨kl BK878.out⟩, ⟨by exact bs1 GE878.out HB.out⟩⟩
    ·rw [if_neg c5] at H
     have c5b0 : decide (x6_1 < (l0_3.length : Int)) = false := decide_eq_false c5
     clear c5
     (first | rw [c5b0] | (simp only [i64_w, i32_w]; rw [c5b0]) | skip)
     have H' := am H
     clear H
     have hcz9_0 : wr.cell? ⟨gb878, 0, none⟩ = some (.slice A0_0 l0_0.length c0_0) := (blk_cell BK878.out 0).trans rfl
     have hcz9_1 : wr.cell? ⟨gb878, 1, none⟩ = some (.slice A0_1 l0_1.length c0_1) := (blk_cell BK878.out 1).trans rfl
     have hcz9_2 : wr.cell? ⟨gb878, 2, none⟩ = some (.slice A0_2 l0_2.length c0_2) := (blk_cell BK878.out 2).trans rfl
     have hcz9_3 : wr.cell? ⟨gb878, 3, none⟩ = some (.slice A0_3 l0_3.length c0_3) := (blk_cell BK878.out 3).trans rfl
     have hfz9_0 := blk_frozen BK878.out 0
     have hfz9_1 := blk_frozen BK878.out 1
     have hfz9_2 := blk_frozen BK878.out 2
     have hfz9_3 := blk_frozen BK878.out 3
     go_wp2
     go_meet
     case rel => exact ⟨_, (false), (by first | rfl | (simp; done) | (simp [*]; done)), H', ⟨by have := HK1.out; first | omega | exact Nat.le_refl _⟩, ⟨kl BK878.out⟩, ⟨by exact bs1 GE878.out HB.out⟩⟩
   case rest =>
    clear HC4
    try clear c2
    try clear p2
    try clear c5
    try clear c5b0
    try clear hcz7_0
    try clear hcz7_1
    try clear hcz7_2
    try clear hcz7_3
    try clear hcz9_0
    try clear hcz9_1
    try clear hcz9_2
    try clear hcz9_3
    try clear hfz7_0
    try clear hfz7_1
    try clear hfz7_2
    try clear hfz7_3
    try clear hfz9_0
    try clear hfz9_1
    try clear hfz9_2
    try clear hfz9_3
    try clear p2
    obtain ⟨kq, x15_3, rfl, HA, HJ3, BK878, HB⟩ := hcut
    cases kq with
    | zero => exact absurd HA.out (by simp [spec_CountColor.j1])
    | succ kj3 =>
     have H := HA.out
     clear HA
     simp only [spec_CountColor.j1] at H
     by_cases c10 : x15_3 = true
     ·subst c10
      have H1 : (if 0 ≤ x6_1 then (if x6_1 < (l0_3.length : Int) then (if (rd l0_3 x6_1) = a1 then (spec_CountColor.l0 kj3 a1 (wrap64 (x5_1 + 1)) (wrap64 (x6_1 + 1)) l0_0 l0_1 l0_2 l0_3) else (spec_CountColor.l0 kj3 a1 x5_1 (wrap64 (x6_1 + 1)) l0_0 l0_1 l0_2 l0_3)) else (none)) else (none)) = some r := by rw [if_pos rfl] at H; exact H
      clear H
      have H := H1
      clear H1
      by_cases c11 : 0 ≤ x6_1
      ·rw [if_pos c11] at H
       have c11b0 : decide (0 ≤ x6_1) = true := decide_eq_true c11
       clear c11
       by_cases c12 : x6_1 < (l0_3.length : Int)
       ·rw [if_pos c12] at H
        have c12b0 : decide (x6_1 < (l0_3.length : Int)) = true := decide_eq_true c12
        clear c12
        by_cases c13 : (rd l0_3 x6_1) = a1
        ·rw [if_pos c13] at H
         have c13b0 : ((rd l0_3 x6_1) == a1) = true := beq_iff_eq.mpr c13
         have c13b1 : ((rd l0_3 x6_1) != a1) = false := bne_eq_false_iff_eq.mpr c13
         clear c13
         have H' := am H
         clear H
         have hcz14_0 : wc.cell? ⟨gb878, 0, none⟩ = some (.slice A0_0 l0_0.length c0_0) := (blk_cell BK878.out 0).trans rfl
         have hcz14_1 : wc.cell? ⟨gb878, 1, none⟩ = some (.slice A0_1 l0_1.length c0_1) := (blk_cell BK878.out 1).trans rfl
         have hcz14_2 : wc.cell? ⟨gb878, 2, none⟩ = some (.slice A0_2 l0_2.length c0_2) := (blk_cell BK878.out 2).trans rfl
         have hcz14_3 : wc.cell? ⟨gb878, 3, none⟩ = some (.slice A0_3 l0_3.length c0_3) := (blk_cell BK878.out 3).trans rfl
         have hfz14_0 := blk_frozen BK878.out 0
         have hfz14_1 := blk_frozen BK878.out 1
         have hfz14_2 := blk_frozen BK878.out 2
         have hfz14_3 := blk_frozen BK878.out 3
         have p880 : 0 ≤ (x6_1 : Int) := of_decide_eq_true (by first | (with_reducible assumption) | assumption)
         have q880 : x6_1 < (l0_3.length : Int) := of_decide_eq_true (by first | (with_reducible assumption) | assumption)
         obtain ⟨ad880, e880, hx880_0⟩ := Kd.at_int HR0_3.out x6_1 p880 q880
         cases e880
         try (replace hx880_0 := (HB.out.cell (World.block_lt_of_cell? w _ hx880_0)).trans hx880_0)
         replace p880 := eq_true p880
         replace q880 := eq_true q880
         go_wp2
         go_roundg kj3
         case measure => have := HK1.out; have := HJ3.out; omega
         case rel => exact ⟨(wrap64 (x5_1 + 1)), (wrap64 (x6_1 + 1)), (by first | rfl | (simp; done) | (simp [*]; done)), (by first | rfl | (simp; done) | (simp [*]; done)), H', ⟨by have := HK1.out; have := HJ3.out; omega⟩, ⟨kl BK878.out⟩, ⟨by exact bs1 GE878.out HB.out⟩⟩
        ·rw [if_neg c13] at H
         have c13b0 : ((rd l0_3 x6_1) == a1) = false := beq_eq_false_iff_ne.mpr c13
         have c13b1 : ((rd l0_3 x6_1) != a1) = true := bne_iff_ne.mpr c13
         have H' := am H
         clear H
         have hcz15_0 : wc.cell? ⟨gb878, 0, none⟩ = some (.slice A0_0 l0_0.length c0_0) := (blk_cell BK878.out 0).trans rfl
         have hcz15_1 : wc.cell? ⟨gb878, 1, none⟩ = some (.slice A0_1 l0_1.length c0_1) := (blk_cell BK878.out 1).trans rfl
         have hcz15_2 : wc.cell? ⟨gb878, 2, none⟩ = some (.slice A0_2 l0_2.length c0_2) := (blk_cell BK878.out 2).trans rfl
         have hcz15_3 : wc.cell? ⟨gb878, 3, none⟩ = some (.slice A0_3 l0_3.length c0_3) := (blk_cell BK878.out 3).trans rfl
         have hfz15_0 := blk_frozen BK878.out 0
         have hfz15_1 := blk_frozen BK878.out 1
         have hfz15_2 := blk_frozen BK878.out 2
         have hfz15_3 := blk_frozen BK878.out 3
         have p880 : 0 ≤ (x6_1 : Int) := of_decide_eq_true (by first | (with_reducible assumption) | assumption)
         have q880 : x6_1 < (l0_3.length : Int) := of_decide_eq_true (by first | (with_reducible assumption) | assumption)
         obtain ⟨ad880, e880, hx880_0⟩ := Kd.at_int HR0_3.out x6_1 p880 q880
         cases e880
         try (replace hx880_0 := (HB.out.cell (World.block_lt_of_cell? w _ hx880_0)).trans hx880_0)
         replace p880 := eq_true p880
         replace q880 := eq_true q880
         go_wp2
         go_roundg kj3
         case measure => have := HK1.out; have := HJ3.out; omega
         case rel => exact ⟨(x5_1), (wrap64 (x6_1 + 1)), (by first | rfl | (simp; done) | (simp [*]; done)), (by first | rfl | (simp; done) | (simp [*]; done)), H', ⟨by have := HK1.out; have := HJ3.out; omega⟩, ⟨kl BK878.out⟩, ⟨by exact bs1 GE878.out HB.out⟩⟩
       ·rw [if_neg c12] at H
        exact absurd H (by simp)
      ·rw [if_neg c11] at H
       exact absurd H (by simp)
     ·replace c10 := Bool.eq_false_iff.mpr c10
      subst c10
      have H1 : (some x5_1) = some r := by rw [if_neg (show ¬ (false = true) by decide)] at H; exact H
      clear H
      have H := H1
      clear H1
      obtain rfl := Option.some.inj H
      go_wp2
      go_ret
      exact ⟨by first | rfl | (simp [errW_none, errW_some] <;> rfl) | (simp [*, errW_none, errW_some] <;> rfl), by exact bs1 GE878.out HB.out⟩

end Go.Proofs.Ytkbaggfkidalfaa.A
