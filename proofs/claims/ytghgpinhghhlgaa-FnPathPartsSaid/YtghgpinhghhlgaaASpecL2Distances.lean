/- Contracts of functions of the given program (ASpecL2Distances). No conditions beyond those stated. -/
import Derived.Test.YtghgpinhghhlgaaA0
import Derived.Test.YtghgpinhghhlgaaASpecL1Many
import Derived.Test.YtghgpinhghhlgaaA0
namespace Go.Proofs.Ytghgpinhghhlgaa.A
open Go.RowKit Go.Proofs.YtghgpinhghhlgaaW.PrintWords Go.Proofs.YtghgpinhghhlgaaW.PrintLast Go.Proofs.YtghgpinhghhlgaaW.PrintMore
attribute [local go_sem] max2_int min2_int max_two min_two max_three min_three max_four min_four   -- for this text's walks alone
set_option linter.unusedVariables false
set_option linter.unusedSimpArgs false

/-! ### spec_l2Distances -/
mutual
def spec_l2Distances.l0 : Nat → List Int → List Int → List Int → Int → List Int → List Int → List Int → Option (List Int)
 | 0, _, _, _, _, _, _, _ => none
 | k + 1, x1, x5, x6, x7, x505000, x505001, x505002 => if x7 < (x1.length : Int) then (if 0 ≤ x7 then (if (rd x1 x7) = (-1) then (spec_l2Distances.l0 k x1 x5 x6 (wrap64 (x7 + 1)) x505000 x505001 x505002) else (if 0 ≤ (rd x1 x7) then (if (rd x1 x7) < (x5.length : Int) then (if (rd x5 (rd x1 x7)) < 0 then (if x6.length < 17592186044416 then (spec_l2Distances.l0 k x1 (x5.set ((rd x1 x7) : Int).toNat 1) (x6 ++ [rd x1 x7]) (wrap64 (x7 + 1)) x505000 x505001 x505002) else (none)) else (spec_l2Distances.l0 k x1 x5 x6 (wrap64 (x7 + 1)) x505000 x505001 x505002)) else (none)) else (none))) else (none)) else (spec_l2Distances.l1 k x5 x6 0 x505000 x505001 x505002)
def spec_l2Distances.l1 : Nat → List Int → List Int → Int → List Int → List Int → List Int → Option (List Int)
 | 0, _, _, _, _, _, _ => none
 | k + 1, x5, x6, x8, x505000, x505001, x505002 => if x8 < (x6.length : Int) then (if 0 ≤ x8 then (if 0 ≤ (rd x6 x8) then (if (rd x6 x8) < (x505000.length : Int) then (if (rd x6 x8) < (x505001.length : Int) then (spec_l2Distances.l2 k x5 x6 x8 (rd x6 x8) (([rd x505000 (rd x6 x8), rd x505001 (rd x6 x8)] : List Int)) 0 x505000 x505001 x505002) else (none)) else (none)) else (none)) else (none)) else (some x5)
def spec_l2Distances.l2 : Nat → List Int → List Int → Int → Int → List Int → Int → List Int → List Int → List Int → Option (List Int)
 | 0, _, _, _, _, _, _, _, _, _ => none
 | k + 1, x5, x6, x8, x9, x10, x11, x505000, x505001, x505002 => if x11 < 2 then (if 0 ≤ x11 then (if x11 < (x10.length : Int) then (if (rd x10 x11) = (-1) then (spec_l2Distances.l2 k x5 x6 x8 x9 x10 (wrap64 (x11 + 1)) x505000 x505001 x505002) else (if 0 ≤ (rd x10 x11) then (if (rd x10 x11) < (x5.length : Int) then (if (rd x5 (rd x10 x11)) < 0 then (if 0 ≤ x9 then (if x9 < (x5.length : Int) then (if x6.length < 17592186044416 then (spec_l2Distances.l2 k (x5.set ((rd x10 x11) : Int).toNat (wrap64 ((rd x5 x9) + 1))) (x6 ++ [rd x10 x11]) x8 x9 x10 (wrap64 (x11 + 1)) x505000 x505001 x505002) else (none)) else (none)) else (none)) else (spec_l2Distances.l2 k x5 x6 x8 x9 x10 (wrap64 (x11 + 1)) x505000 x505001 x505002)) else (none)) else (none))) else (none)) else (none)) else (spec_l2Distances.l1 k x5 x6 (wrap64 (x8 + 1)) x505000 x505001 x505002)
end
def spec_l2Distances.f (k : Nat) (l0_0 : List Int) (l0_1 : List Int) (l0_2 : List Int) (l1 : List Int) : Option (List Int) := (spec_l1Many.f k (l0_0.length : Int)).bind fun t505 => (spec_l2Distances.l0 k l1 t505 (([] : List Int)) 0 l0_0 l0_1 l0_2)
theorem spec_l2Distances.mono_l : ∀ k, (∀ y0 y1 y2 y3 y4 y5 y6, LeO (spec_l2Distances.l0 k y0 y1 y2 y3 y4 y5 y6) (spec_l2Distances.l0 (k + 1) y0 y1 y2 y3 y4 y5 y6)) ∧ (∀ y0 y1 y2 y3 y4 y5, LeO (spec_l2Distances.l1 k y0 y1 y2 y3 y4 y5) (spec_l2Distances.l1 (k + 1) y0 y1 y2 y3 y4 y5)) ∧ (∀ y0 y1 y2 y3 y4 y5 y6 y7 y8, LeO (spec_l2Distances.l2 k y0 y1 y2 y3 y4 y5 y6 y7 y8) (spec_l2Distances.l2 (k + 1) y0 y1 y2 y3 y4 y5 y6 y7 y8))
 | 0 => ⟨fun _ _ _ _ _ _ _ r h => by simp [spec_l2Distances.l0] at h, fun _ _ _ _ _ _ r h => by simp [spec_l2Distances.l1] at h, fun _ _ _ _ _ _ _ _ _ r h => by simp [spec_l2Distances.l2] at h⟩
 | k + 1 => by
  obtain ⟨ih0, ih1, ih2⟩ := spec_l2Distances.mono_l k
  refine ⟨?_, ?_, ?_⟩
  ·intro y0 y1 y2 y3 y4 y5 y6
   unfold spec_l2Distances.l0
   repeat' first
   | (with_reducible exact ih0 _ _ _ _ _ _ _)
   | (with_reducible exact ih1 _ _ _ _ _ _)
   | (with_reducible exact ih2 _ _ _ _ _ _ _ _ _)
   | (with_reducible exact spec_l1Many.mono _ _)
   | (with_reducible exact LeO.refl _)
   | (with_reducible exact LeO.none _)
   | (with_reducible refine LeO.ite ?_ ?_)
   | (with_reducible refine LeO.bind ?_ (fun _ => ?_))
   | exact ih0 _ _ _ _ _ _ _
   | exact ih1 _ _ _ _ _ _
   | exact ih2 _ _ _ _ _ _ _ _ _
   | exact spec_l1Many.mono _ _
   | exact LeO.none _
   | refine LeO.ite ?_ ?_
   | refine LeO.bind ?_ (fun _ => ?_)
  ·intro y0 y1 y2 y3 y4 y5
   unfold spec_l2Distances.l1
   repeat' first
   | (with_reducible exact ih0 _ _ _ _ _ _ _)
   | (with_reducible exact ih1 _ _ _ _ _ _)
   | (with_reducible exact ih2 _ _ _ _ _ _ _ _ _)
   | (with_reducible exact spec_l1Many.mono _ _)
   | (with_reducible exact LeO.refl _)
   | (with_reducible exact LeO.none _)
   | (with_reducible refine LeO.ite ?_ ?_)
   | (with_reducible refine LeO.bind ?_ (fun _ => ?_))
   | exact ih0 _ _ _ _ _ _ _
   | exact ih1 _ _ _ _ _ _
   | exact ih2 _ _ _ _ _ _ _ _ _
   | exact spec_l1Many.mono _ _
   | exact LeO.none _
   | refine LeO.ite ?_ ?_
   | refine LeO.bind ?_ (fun _ => ?_)
  ·intro y0 y1 y2 y3 y4 y5 y6 y7 y8
   unfold spec_l2Distances.l2
   repeat' first
   | (with_reducible exact ih0 _ _ _ _ _ _ _)
   | (with_reducible exact ih1 _ _ _ _ _ _)
   | (with_reducible exact ih2 _ _ _ _ _ _ _ _ _)
   | (with_reducible exact spec_l1Many.mono _ _)
   | (with_reducible exact LeO.refl _)
   | (with_reducible exact LeO.none _)
   | (with_reducible refine LeO.ite ?_ ?_)
   | (with_reducible refine LeO.bind ?_ (fun _ => ?_))
   | exact ih0 _ _ _ _ _ _ _
   | exact ih1 _ _ _ _ _ _
   | exact ih2 _ _ _ _ _ _ _ _ _
   | exact spec_l1Many.mono _ _
   | exact LeO.none _
   | refine LeO.ite ?_ ?_
   | refine LeO.bind ?_ (fun _ => ?_)
theorem spec_l2Distances.mono : ∀ a0 a1 a2 a3 k, LeO (spec_l2Distances.f k a0 a1 a2 a3) (spec_l2Distances.f (k + 1) a0 a1 a2 a3) := by
 intro a0 a1 a2 a3 k
 obtain ⟨ih0, ih1, ih2⟩ := spec_l2Distances.mono_l k
 unfold spec_l2Distances.f
 repeat' first
   | (with_reducible exact ih0 _ _ _ _ _ _ _)
   | (with_reducible exact ih1 _ _ _ _ _ _)
   | (with_reducible exact ih2 _ _ _ _ _ _ _ _ _)
   | (with_reducible exact spec_l1Many.mono _ _)
   | (with_reducible exact LeO.refl _)
   | (with_reducible exact LeO.none _)
   | (with_reducible refine LeO.ite ?_ ?_)
   | (with_reducible refine LeO.bind ?_ (fun _ => ?_))
   | exact ih0 _ _ _ _ _ _ _
   | exact ih1 _ _ _ _ _ _
   | exact ih2 _ _ _ _ _ _ _ _ _
   | exact spec_l1Many.mono _ _
   | exact LeO.none _
   | refine LeO.ite ?_ ?_
   | refine LeO.bind ?_ (fun _ => ?_)
def spec_l2Distances.T13 : Bool × List (List Nat × List Nat) := (true, [([], []), ([0], [0]), ([], []), ([1, 2], [1, 2]), ([3], [3]), ([], []), ([5], [5]), ([], []), ([6, 7], [6, 7]), ([8], [8]), ([4, 9], [4, 9]), ([10, 0, 1, 2, 3, 4, 5, 6, 7, 8, 9, 10], [10])])
def spec_l2Distances.B13 : List Nat := [0, 1, 0, 7, 15, 0, 32, 0, 224, 480, 1023, 2047]
theorem spec_l2Distances.tab13 : rtab .any (opsOf Try.f51 13) = spec_l2Distances.T13 := by kernel_rfl
theorem spec_l2Distances.bits13 : waitsOk spec_l2Distances.T13.2 spec_l2Distances.B13 = true := by kernel_rfl
def spec_l2Distances.T18 : Bool × List (List Nat × List Nat) := (true, [([], []), ([], []), ([], []), ([1, 2], [1, 2]), ([3], [3]), ([], []), ([], []), ([5, 6], [5, 6]), ([7], [7]), ([8], [8]), ([0, 4, 0, 1, 2, 3, 4, 5, 6, 7, 8, 9], [0, 4]), ([10, 9, 0, 1, 2, 3, 4, 5, 6, 7, 8, 9], [9, 10])])
def spec_l2Distances.B18 : List Nat := [0, 0, 0, 6, 14, 0, 0, 96, 224, 480, 1023, 2047]
theorem spec_l2Distances.tab18 : rtab .any (opsOf Try.f51 18) = spec_l2Distances.T18 := by kernel_rfl
theorem spec_l2Distances.bits18 : waitsOk spec_l2Distances.T18.2 spec_l2Distances.B18 = true := by kernel_rfl
set_option maxHeartbeats 8000000 in
set_option maxRecDepth 100000 in
theorem spec_l2Distances.calls (k : Nat) (A0_0 : Option Addr) (c0_0 : Nat) (l0_0 : List Int) (A0_1 : Option Addr) (c0_1 : Nat) (l0_1 : List Int) (A0_2 : Option Addr) (c0_2 : Nat) (l0_2 : List Int) (A1 : Option Addr) (c1 : Nat) (l1 : List Int) (r : List Int) (w : World) (hr0_0 : Kd.C (Kd.int .i64) w A0_0 l0_0.length l0_0) (hc0_0 : l0_0.length ≤ c0_0) (hr0_1 : Kd.C (Kd.int .i64) w A0_1 l0_1.length l0_1) (hc0_1 : l0_1.length ≤ c0_1) (hr0_2 : Kd.C (Kd.int .i64) w A0_2 l0_2.length l0_2) (hc0_2 : l0_2.length ≤ c0_2) (hr1 : Kd.C (Kd.int .i64) w A1 l1.length l1) (hc1 : l1.length ≤ c1) (h : spec_l2Distances.f k l0_0 l0_1 l0_2 l1 = some r) :
  Calls Try.prog 51 #[.agg #[.slice A0_0 l0_0.length c0_0, .slice A0_1 l0_1.length c0_1, .slice A0_2 l0_2.length c0_2], .slice A1 l1.length c1] w fun e w' => ∃ v0_ : Value, e = .returned (v0_) ∧ Kd.R (Kd.int .i64) 3 w' w.heap.size (fun _ => True) v0_ r ∧ Below w.heap.size w w' := by
 have hu25 := Try.underlying25
 have HR0_0 := am hr0_0
 have HC0_0 := am hc0_0
 clear hr0_0 hc0_0
 have HR0_1 := am hr0_1
 have HC0_1 := am hc0_1
 clear hr0_1 hc0_1
 have HR0_2 := am hr0_2
 have HC0_2 := am hc0_2
 clear hr0_2 hc0_2
 have HR1 := am hr1
 have HC1 := am hc1
 clear hr1 hc1
 have HB := am (Below.refl w.heap.size w)
 have H : ((spec_l1Many.f k (l0_0.length : Int)).bind fun t505 => (spec_l2Distances.l0 k l1 t505 (([] : List Int)) 0 l0_0 l0_1 l0_2)) = some r := h
 clear h
 replace H := Option.bind_eq_some_iff.mp H
 obtain ⟨t505, A30, H⟩ := H
 replace H : (spec_l2Distances.l0 k l1 t505 (([] : List Int)) 0 l0_0 l0_1 l0_2) = some r := H
 have A3 := am A30
 clear A30
 obtain ⟨y508, hy508⟩ : ∃ y_ : List Int, y_ = (([] : List Int)) := ⟨_, rfl⟩
 replace H : (spec_l2Distances.l0 k l1 t505 y508 0 l0_0 l0_1 l0_2) = some r := by first | (rw [hy508]; with_reducible exact H) | (have H2_ := (Option.bind_some _ _).symm.trans H; rw [hy508]; with_reducible exact H2_) | (have H2_ := (Option.bind_some _ _).symm.trans H; with_reducible exact H2_) | with_reducible exact H | (rw [hy508]; exact H) | exact H
 have Ny508 := am hy508
 clear hy508
 have H' := am H
 clear H
 go_enter Try.func51, Try.ntmps51
 go_wp2_with (first | ((with_reducible refine gate_dst (N := 2) rfl ?_); refine box_event ?hg (N := 2) ?hd (cs := #[.slice A0_0 l0_0.length c0_0, .slice A0_1 l0_1.length c0_1, .slice A0_2 l0_2.length c0_2]) (t := 25) ?hr ?_; (case hd => rfl); (case hg => rfl); (case hr => first | (go_simp; done) | (go_simp; rfl)); intro gb504 hg w4 hbox hb; have BK504 := am (hbox); have GW504 := am ((by rw [hg]; exact (below_size (bl HB.out)) : w.heap.size ≤ gb504)); have GE504 := am ((by rw [hg]; exact (below_size (bl HB.out)) : w.heap.size ≤ gb504)); replace HB := am (below_step (bl HB.out) hb); clear hb hbox hg; have hcz5_0 : w4.cell? ⟨gb504, 0, none⟩ = some (.slice A0_0 l0_0.length c0_0) := (blk_cell BK504.out 0).trans rfl; have hcz5_1 : w4.cell? ⟨gb504, 1, none⟩ = some (.slice A0_1 l0_1.length c0_1) := (blk_cell BK504.out 1).trans rfl; have hcz5_2 : w4.cell? ⟨gb504, 2, none⟩ = some (.slice A0_2 l0_2.length c0_2) := (blk_cell BK504.out 2).trans rfl; have hfz5_0 := blk_frozen BK504.out 0; have hfz5_1 := blk_frozen BK504.out 1; have hfz5_2 := blk_frozen BK504.out 2) | ((with_reducible refine gate_callee (f := 62) rfl ?_); refine goesL_ (some 15) rfl rfl Try.func62 (by kernel_rfl) rfl #[.int .i64 (l0_0.length : Int)] rfl (by (try simp only [List.map_toArray, List.map_cons, List.map_nil]); first | done | rfl | (simp only [List.length_drop, List.length_take]; rfl)) ?_; (with_reducible refine (spec_l1Many.calls k (l0_0.length : Int) t505 _ A3.out).mono ?_); rintro e w6 ⟨v506, rfl, ho0, hb⟩; refine ⟨_, rfl, ?_⟩; have HO507 := am (Kd.R_lower ho0 (below_size (bs1 GE504.out HB.out))); replace BK504 := am (blk_below (g := gb504) (o := .cells #[.slice A0_0 l0_0.length c0_0, .slice A0_1 l0_1.length c0_1, .slice A0_2 l0_2.length c0_2] 25 (0, 0)) (kl BK504.out) hb); replace HB := am (below_step (bs1 GE504.out HB.out) hb); (try clear hb); (try clear hb2); (try clear hk); (try clear hi); (try clear ho0)) | ((with_reducible refine gate_dst (N := 16) rfl ?_); refine Kd.R_lit (Kd.int .i64) _ 3 ?hg (N := 16) ?hd (xs := ([] : List Int)) (inner := []) (ok := fun _ => True) (okp := fun _ => True) ?hr ?hp (fun _ hk => hk) trivial (Below.refl _ _) (Nat.le_refl _) (by simp) ?_; (case hd => rfl); (case hg => rfl); (case hr => first | (go_simp; done) | (go_simp; rfl)); (case hp => exact (Reps.none _ _)); intro v509 w7 ho8 hb hg_ hnew_; clear hg_ hnew_; (first | rw [← Ny508.out] at ho8 | (simp only [Int.reduceToNat] at ho8; rw [← Ny508.out] at ho8)); have HO510 := am (Kd.R_lower (Kd.R_new' ho8 (Kd.R_lt (rl HO507.out))) (below_size (bs1 GE504.out HB.out))); replace HO507 := am (Kd.R_elder' (rl HO507.out) (Kd.R_base ho8) hb); replace BK504 := am (blk_below (g := gb504) (o := .cells #[.slice A0_0 l0_0.length c0_0, .slice A0_1 l0_1.length c0_1, .slice A0_2 l0_2.length c0_2] 25 (0, 0)) (kl BK504.out) hb); replace HB := am (below_step (bs1 GE504.out HB.out) hb); clear hb ho8))
 go_loopg [6, 7] k (fun kq v6 v7 w' => ∃ (x5_1 : List Int) (x6_1 : List Int) (x7_1 : Int), v7 = .int .i64 x7_1 ∧ Aside0 (spec_l2Distances.l0 kq l1 x5_1 x6_1 x7_1 l0_0 l0_1 l0_2 = some r) ∧ Aside0 (kq ≤ k) ∧ Aside0 (Kd.R (Kd.int .i64) 3 w' w.heap.size (fun k_ => some k_ ≠ (v6 : Value).ownBlock) v506 x5_1) ∧ Aside0 (Kd.R (Kd.int .i64) 3 w' w.heap.size (fun k_ => some k_ ≠ (v506 : Value).ownBlock) v6 x6_1) ∧ Aside0 (w'.heap[gb504]? = some (.cells #[(.slice A0_0 l0_0.length c0_0), (.slice A0_1 l0_1.length c0_1), (.slice A0_2 l0_2.length c0_2)] 25 (0, 0))) ∧ Aside0 (Below w.heap.size w w'))
 case atStart => exact ⟨(t505), (y508), (0), (by first | rfl | (simp; done) | (simp [*]; done)), H', ⟨Nat.le_refl _⟩, ⟨rl (Kd.R_mono HO507.out (fun _ hk => by first | exact hk.2 | (simp only [ne_eq] at hk ⊢; simp only [hk, not_false_eq_true, and_self])))⟩, ⟨rl (Kd.R_mono HO510.out (fun _ hk => by first | exact hk.2 | (simp only [ne_eq] at hk ⊢; simp only [hk, not_false_eq_true, and_self])))⟩, ⟨kl BK504.out⟩, ⟨by exact bs1 GE504.out HB.out⟩⟩
 case round =>
  clear H'
  try clear c1
  try clear p2
  try clear c5
  try clear c6
  try clear hcz5_0
  try clear hcz5_1
  try clear hcz5_2
  try clear hfz5_0
  try clear hfz5_1
  try clear hfz5_2
  obtain ⟨x5_1, x6_1, x7_1, rfl, HA, HK1, HO_5, HO_6, BK504, HB⟩ := hrel
  cases gk with
  | zero => exact absurd HA.out (by simp [spec_l2Distances.l0])
  | succ k1 =>
   have H := HA.out
   clear HA
   simp only [spec_l2Distances.l0] at H
   by_cases c9 : x7_1 < (l1.length : Int)
   ·rw [if_pos c9] at H
    have c9b0 : decide (x7_1 < (l1.length : Int)) = true := decide_eq_true c9
    clear c9
    by_cases c10 : 0 ≤ x7_1
    ·rw [if_pos c10] at H
     have c10b0 : decide (0 ≤ x7_1) = true := decide_eq_true c10
     clear c10
     by_cases c11 : (rd l1 x7_1) = (-1)
     ·rw [if_pos c11] at H
      have c11b0 : ((rd l1 x7_1) == (-1)) = true := beq_iff_eq.mpr c11
      have c11b1 : ((rd l1 x7_1) != (-1)) = false := bne_eq_false_iff_eq.mpr c11
      clear c11
      have H' := am H
      clear H
      have p511 : 0 ≤ (x7_1 : Int) := of_decide_eq_true (by first | (with_reducible assumption) | assumption)
      have q511 : x7_1 < (l1.length : Int) := of_decide_eq_true (by first | (with_reducible assumption) | assumption)
      obtain ⟨ad511, e511, hx511_0⟩ := Kd.at_int HR1.out x7_1 p511 q511
      cases e511
      try (replace hx511_0 := (HB.out.cell (World.block_lt_of_cell? w _ hx511_0)).trans hx511_0)
      replace p511 := eq_true p511
      replace q511 := eq_true q511
      go_wp2
      go_roundg k1
      case measure => have := HK1.out; omega
      case rel => exact ⟨(x5_1), (x6_1), (wrap64 (x7_1 + 1)), (by first | rfl | (simp; done) | (simp [*]; done)), H', ⟨by have := HK1.out; omega⟩, ⟨rl HO_5.out⟩, ⟨rl HO_6.out⟩, ⟨kl BK504.out⟩, ⟨by exact bs1 GE504.out HB.out⟩⟩
     ·rw [if_neg c11] at H
      have c11b0 : ((rd l1 x7_1) == (-1)) = false := beq_eq_false_iff_ne.mpr c11
      have c11b1 : ((rd l1 x7_1) != (-1)) = true := bne_iff_ne.mpr c11
      by_cases c12 : 0 ≤ (rd l1 x7_1)
      ·rw [if_pos c12] at H
       have c12b0 : decide (0 ≤ (rd l1 x7_1)) = true := decide_eq_true c12
       clear c12
       by_cases c13 : (rd l1 x7_1) < (x5_1.length : Int)
       ·rw [if_pos c13] at H
        have c13b0 : decide ((rd l1 x7_1) < (x5_1.length : Int)) = true := decide_eq_true c13
        clear c13
        by_cases c14 : (rd x5_1 (rd l1 x7_1)) < 0
        ·rw [if_pos c14] at H
         have c14b0 : decide ((rd x5_1 (rd l1 x7_1)) < 0) = true := decide_eq_true c14
         clear c14
         obtain ⟨y515, hy515⟩ : ∃ y_ : List Int, y_ = (x5_1.set ((rd l1 x7_1) : Int).toNat 1) := ⟨_, rfl⟩
         replace H : (if x6_1.length < 17592186044416 then (spec_l2Distances.l0 k1 l1 y515 (x6_1 ++ [rd l1 x7_1]) (wrap64 (x7_1 + 1)) l0_0 l0_1 l0_2) else (none)) = some r := by first | (rw [hy515]; with_reducible exact H) | (have H2_ := (Option.bind_some _ _).symm.trans H; rw [hy515]; with_reducible exact H2_) | (have H2_ := (Option.bind_some _ _).symm.trans H; with_reducible exact H2_) | with_reducible exact H | (rw [hy515]; exact H) | exact H
         have Ny515 := am hy515
         clear hy515
         by_cases c16 : x6_1.length < 17592186044416
         ·rw [if_pos c16] at H
          have LMc16 := am c16
          clear c16
          obtain ⟨y517, hy517⟩ : ∃ y_ : List Int, y_ = (x6_1 ++ [rd l1 x7_1]) := ⟨_, rfl⟩
          replace H : (spec_l2Distances.l0 k1 l1 y515 y517 (wrap64 (x7_1 + 1)) l0_0 l0_1 l0_2) = some r := by first | (rw [hy517]; with_reducible exact H) | (have H2_ := (Option.bind_some _ _).symm.trans H; rw [hy517]; with_reducible exact H2_) | (have H2_ := (Option.bind_some _ _).symm.trans H; with_reducible exact H2_) | with_reducible exact H | (rw [hy517]; exact H) | exact H
          have Ny517 := am hy517
          clear hy517
          have H' := am H
          clear H
          have p511 : 0 ≤ (x7_1 : Int) := of_decide_eq_true (by first | (with_reducible assumption) | assumption)
          have q511 : x7_1 < (l1.length : Int) := of_decide_eq_true (by first | (with_reducible assumption) | assumption)
          obtain ⟨ad511, e511, hx511_0⟩ := Kd.at_int HR1.out x7_1 p511 q511
          cases e511
          try (replace hx511_0 := (HB.out.cell (World.block_lt_of_cell? w _ hx511_0)).trans hx511_0)
          replace p511 := eq_true p511
          replace q511 := eq_true q511
          have p512 : 0 ≤ (x7_1 : Int) := of_decide_eq_true (by first | (with_reducible assumption) | assumption)
          have q512 : x7_1 < (l1.length : Int) := of_decide_eq_true (by first | (with_reducible assumption) | assumption)
          obtain ⟨ad512, e512, hx512_0⟩ := Kd.at_int HR1.out x7_1 p512 q512
          obtain rfl : ad511 = ad512 := (by injection e512)
          try (replace hx512_0 := (HB.out.cell (World.block_lt_of_cell? w _ hx512_0)).trans hx512_0)
          replace p512 := eq_true p512
          replace q512 := eq_true q512
          obtain ⟨Ao17, co17, eo17⟩ := Kd.R_slice HO_5.out
          subst eo17
          have p513 : 0 ≤ ((rd l1 x7_1) : Int) := of_decide_eq_true (by first | (with_reducible assumption) | assumption)
          have q513 : (rd l1 x7_1) < (x5_1.length : Int) := of_decide_eq_true (by first | (with_reducible assumption) | assumption)
          obtain ⟨ad513, e513, hx513_0⟩ := Kd.at_int (Kd.R_reads' HO_5.out).2.2 (rd l1 x7_1) p513 q513
          cases e513
          replace p513 := eq_true p513
          replace q513 := eq_true q513
          have p514 : 0 ≤ (x7_1 : Int) := of_decide_eq_true (by first | (with_reducible assumption) | assumption)
          have q514 : x7_1 < (l1.length : Int) := of_decide_eq_true (by first | (with_reducible assumption) | assumption)
          obtain ⟨ad514, e514, hx514_0⟩ := Kd.at_int HR1.out x7_1 p514 q514
          obtain rfl : ad511 = ad514 := (by injection e514)
          try (replace hx514_0 := (HB.out.cell (World.block_lt_of_cell? w _ hx514_0)).trans hx514_0)
          replace p514 := eq_true p514
          replace q514 := eq_true q514
          have p15 : 0 ≤ ((rd l1 x7_1) : Int) := of_decide_eq_true (by first | (with_reducible assumption) | assumption)
          have q15 : ((rd l1 x7_1) : Int) < ((x5_1.length : Int) : Int) := of_decide_eq_true (by first | (with_reducible assumption) | assumption)
          obtain ⟨go15, co15, eo15, gb15, gl15, cl15, HG15⟩ := Kd.R_form HO_5.out (by omega)
          (first | cases eo15 | (injection eo15 with ea_ en_ ec_; (first | subst ea_ | (injection ea_ with ea_; subst ea_)); subst ec_; clear en_))
          have GB15 := am gb15
          have GG15 := am HG15
          clear gb15 gl15 HG15
          (first | simp only [add_plain] at hx513_0 | skip)
          obtain ⟨hx15_0, hf15_0⟩ := Kd.R_celln 0 HO_5.out ((rd l1 x7_1) : Int) p15 q15
          replace p15 := eq_true p15
          replace q15 := eq_true q15
          have HP18 := Kd.R_putg HO_5.out ((rd l1 x7_1) : Int) 1
          go_wp2_with (first | ((with_reducible refine gate_store (t := 3) (p := 43) rfl ?_); refine store_event (t := 3) (p := 43) (v := ?vo_w19) (w1 := (wr.setCell ⟨go15, ((rd l1 x7_1) : Int).toNat, none⟩ (.int .i64 1))) ?hg ?ho ?hn ?hr ?_; (case ho => rfl); (case hg => rfl); (case hn => rfl); (case hr => first | (go_simp; done) | (go_simp; rfl)); intro w19 hw; have hg : wr.grownBy w19 (some go15) := (by rw [hw]; exact HP18.2); have hp_ : Kd.R (Kd.int .i64) 3 w19 w.heap.size (fun k_ => some k_ ≠ (u6 : Value).ownBlock) (.slice (some ⟨go15, 0, none⟩) x5_1.length co17) y515 := (by rw [hw, Ny515.out]; exact HP18.1); clear HP18; replace HO_6 := am (Kd.R_after (v := (.slice (some ⟨go15, 0, none⟩) x5_1.length co17)) (v1 := (.slice (some ⟨go15, 0, none⟩) x5_1.length co17)) (ok := (fun _ => True)) (rl (Kd.R_mono HO_6.out (fun _ hk => ⟨trivial, hk⟩))) hg (.inl rfl)); replace BK504 := am (blk_grown (g := gb504) (o := .cells #[.slice A0_0 l0_0.length c0_0, .slice A0_1 l0_1.length c0_1, .slice A0_2 l0_2.length c0_2] 25 (0, 0)) (kl BK504.out) hg (Kd.R_ne HO_5.out BK504.out (by decide))); replace HO_5 := am (hp_); replace HB := am ((by rw [hw]; exact below_set (HB.out) GB15.out : Below w.heap.size w w19)); clear hg hw hp_; have p516 : 0 ≤ (x7_1 : Int) := of_decide_eq_true (by first | (with_reducible assumption) | assumption); have q516 : x7_1 < (l1.length : Int) := of_decide_eq_true (by first | (with_reducible assumption) | assumption); obtain ⟨ad516, e516, hx516_0⟩ := Kd.at_int HR1.out x7_1 p516 q516; obtain rfl : ad511 = ad516 := (by injection e516); replace hx516_0 := (HB.out.cell (World.block_lt_of_cell? w _ hx516_0)).trans hx516_0; replace p516 := eq_true p516; replace q516 := eq_true q516) | ((with_reducible refine gate_builtin (b := .append) (xs := #[.tmp 44, .tmp 49]) rfl ?_); at_builtin; refine Kd.R_append (Kd.int .i64) (w0 := w) w.heap.size rfl (.tmp 44) (.tmp 49) 23 3 (.int .i64 0) 8 rfl Try.underlying23 info3 rfl (by decide) (by omega) u6 x6_1 (rd l1 x7_1) [.int .i64 (rd l1 x7_1)] (fun k_ => some k_ ≠ (.slice (some ⟨go15, 0, none⟩) x5_1.length co17 : Value).ownBlock) (fun _ => False) rfl rfl ?aP (fun _ hk => hk.elim) ?aF ?aO ?aB ?aS ?aL ?_; (case aP => exact rfl); (case aB => exact (bs1 GE504.out HB.out)); (case aF => exact (fun k_ hk => Kd.fresh' (Kd.R_lt (rl HO_5.out)) k_ hk)); (case aO => exact (rl (Kd.R_mono HO_6.out (fun _ hk => by first | exact hk.2 | (simp only [ne_eq] at hk ⊢; simp only [hk, not_false_eq_true, and_self]))))); (case aS => exact (below_size (bs1 GE504.out HB.out))); (case aL => have := LMc16.out; omega); intro v518 w20 ho hb hg hat; rw [← Ny517.out] at ho; replace HO_5 := am (Kd.R_after (ok := (fun _ => True)) (rl (Kd.R_mono HO_5.out (fun _ hk => ⟨trivial, hk⟩))) hg hat); replace BK504 := am (blk_grown (g := gb504) (o := .cells #[.slice A0_0 l0_0.length c0_0, .slice A0_1 l0_1.length c0_1, .slice A0_2 l0_2.length c0_2] 25 (0, 0)) (kl BK504.out) hg (Kd.R_ne HO_6.out BK504.out (by decide))); replace HB := am (hb); have HO519 := am (ho); clear HO_6; clear ho hb hg hat))
          go_roundg k1
          case measure => have := HK1.out; omega
          case rel => exact ⟨(y515), (y517), (wrap64 (x7_1 + 1)), (by first | rfl | (simp; done) | (simp [*]; done)), H', ⟨by have := HK1.out; omega⟩, ⟨rl (Kd.R_mono HO_5.out (fun _ hk => by first | exact hk.2 | (simp only [ne_eq] at hk ⊢; simp only [hk, not_false_eq_true, and_self])))⟩, ⟨rl HO519.out⟩, ⟨kl BK504.out⟩, ⟨by exact bs1 GE504.out HB.out⟩⟩
         ·rw [if_neg c16] at H
          exact absurd H (by simp)
        ·rw [if_neg c14] at H
         have c14b0 : decide ((rd x5_1 (rd l1 x7_1)) < 0) = false := decide_eq_false c14
         clear c14
         have H' := am H
         clear H
         have p511 : 0 ≤ (x7_1 : Int) := of_decide_eq_true (by first | (with_reducible assumption) | assumption)
         have q511 : x7_1 < (l1.length : Int) := of_decide_eq_true (by first | (with_reducible assumption) | assumption)
         obtain ⟨ad511, e511, hx511_0⟩ := Kd.at_int HR1.out x7_1 p511 q511
         cases e511
         try (replace hx511_0 := (HB.out.cell (World.block_lt_of_cell? w _ hx511_0)).trans hx511_0)
         replace p511 := eq_true p511
         replace q511 := eq_true q511
         have p512 : 0 ≤ (x7_1 : Int) := of_decide_eq_true (by first | (with_reducible assumption) | assumption)
         have q512 : x7_1 < (l1.length : Int) := of_decide_eq_true (by first | (with_reducible assumption) | assumption)
         obtain ⟨ad512, e512, hx512_0⟩ := Kd.at_int HR1.out x7_1 p512 q512
         obtain rfl : ad511 = ad512 := (by injection e512)
         try (replace hx512_0 := (HB.out.cell (World.block_lt_of_cell? w _ hx512_0)).trans hx512_0)
         replace p512 := eq_true p512
         replace q512 := eq_true q512
         obtain ⟨Ao21, co21, eo21⟩ := Kd.R_slice HO_5.out
         subst eo21
         have p513 : 0 ≤ ((rd l1 x7_1) : Int) := of_decide_eq_true (by first | (with_reducible assumption) | assumption)
         have q513 : (rd l1 x7_1) < (x5_1.length : Int) := of_decide_eq_true (by first | (with_reducible assumption) | assumption)
         obtain ⟨ad513, e513, hx513_0⟩ := Kd.at_int (Kd.R_reads' HO_5.out).2.2 (rd l1 x7_1) p513 q513
         cases e513
         replace p513 := eq_true p513
         replace q513 := eq_true q513
         go_wp2
         go_roundg k1
         case measure => have := HK1.out; omega
         case rel => exact ⟨(x5_1), (x6_1), (wrap64 (x7_1 + 1)), (by first | rfl | (simp; done) | (simp [*]; done)), H', ⟨by have := HK1.out; omega⟩, ⟨rl HO_5.out⟩, ⟨rl HO_6.out⟩, ⟨kl BK504.out⟩, ⟨by exact bs1 GE504.out HB.out⟩⟩
       ·rw [if_neg c13] at H
        exact absurd H (by simp)
      ·rw [if_neg c12] at H
       exact absurd H (by simp)
    ·rw [if_neg c10] at H
     exact absurd H (by simp)
   ·rw [if_neg c9] at H
    have c9b0 : decide (x7_1 < (l1.length : Int)) = false := decide_eq_false c9
    clear c9
    have H' := am H
    clear H
    go_wp2
    go_loopg [6, 8] k1 (fun kq v6 v8 w' => ∃ (x5_2 : List Int) (x6_2 : List Int) (x8_2 : Int), v8 = .int .i64 x8_2 ∧ Aside0 (spec_l2Distances.l1 kq x5_2 x6_2 x8_2 l0_0 l0_1 l0_2 = some r) ∧ Aside0 (kq ≤ k1) ∧ Aside0 (Kd.R (Kd.int .i64) 3 w' w.heap.size (fun k_ => some k_ ≠ (v6 : Value).ownBlock) v506 x5_2) ∧ Aside0 (Kd.R (Kd.int .i64) 3 w' w.heap.size (fun k_ => some k_ ≠ (v506 : Value).ownBlock) v6 x6_2) ∧ Aside0 (w'.heap[gb504]? = some (.cells #[(.slice A0_0 l0_0.length c0_0), (.slice A0_1 l0_1.length c0_1), (.slice A0_2 l0_2.length c0_2)] 25 (0, 0))) ∧ Aside0 (Below w.heap.size w w'))
    case atStart => exact ⟨(x5_1), (x6_1), (0), (by first | rfl | (simp; done) | (simp [*]; done)), H', ⟨Nat.le_refl _⟩, ⟨rl HO_5.out⟩, ⟨rl HO_6.out⟩, ⟨kl BK504.out⟩, ⟨by exact bs1 GE504.out HB.out⟩⟩
    case round =>
     clear H'
     try clear c1
     try clear p1
     try clear q1
     try clear hx1
     try clear p2
     try clear c5
     try clear p5
     try clear q5
     try clear hx5
     try clear c6
     try clear p6
     try clear c9
     try clear c9b0
     try clear c10
     try clear c10b0
     try clear c11
     try clear c11b0
     try clear c11b1
     try clear c12
     try clear c12b0
     try clear c13
     try clear c13b0
     try clear c14
     try clear c14b0
     try clear p15
     try clear q15
     try clear hx15
     try clear hf15
     try clear c16
     try clear hcz5_0
     try clear hcz5_1
     try clear hcz5_2
     try clear hfz5_0
     try clear hfz5_1
     try clear hfz5_2
     try clear hx15_0
     try clear hx511_0
     try clear hx512_0
     try clear hx513_0
     try clear hx514_0
     try clear hx516_0
     try clear p15
     try clear p2
     try clear p511
     try clear p512
     try clear p513
     try clear p514
     try clear p516
     try clear q15
     try clear q511
     try clear q512
     try clear q513
     try clear q514
     try clear q516
     obtain ⟨x5_2, x6_2, x8_2, rfl, HA, HK2, HO_5, HO_6, BK504, HB⟩ := hrel
     cases gk with
     | zero => exact absurd HA.out (by simp [spec_l2Distances.l1])
     | succ k2 =>
      have H := HA.out
      clear HA
      simp only [spec_l2Distances.l1] at H
      by_cases c22 : x8_2 < (x6_2.length : Int)
      ·rw [if_pos c22] at H
       have c22b0 : decide (x8_2 < (x6_2.length : Int)) = true := decide_eq_true c22
       clear c22
       by_cases c23 : 0 ≤ x8_2
       ·rw [if_pos c23] at H
        have c23b0 : decide (0 ≤ x8_2) = true := decide_eq_true c23
        clear c23
        by_cases c24 : 0 ≤ (rd x6_2 x8_2)
        ·rw [if_pos c24] at H
         have c24b0 : decide (0 ≤ (rd x6_2 x8_2)) = true := decide_eq_true c24
         clear c24
         by_cases c25 : (rd x6_2 x8_2) < (l0_0.length : Int)
         ·rw [if_pos c25] at H
          have c25b0 : decide ((rd x6_2 x8_2) < (l0_0.length : Int)) = true := decide_eq_true c25
          clear c25
          by_cases c26 : (rd x6_2 x8_2) < (l0_1.length : Int)
          ·rw [if_pos c26] at H
           have c26b0 : decide ((rd x6_2 x8_2) < (l0_1.length : Int)) = true := decide_eq_true c26
           clear c26
           obtain ⟨y523, hy523⟩ : ∃ y_ : List Int, y_ = (([rd l0_0 (rd x6_2 x8_2), rd l0_1 (rd x6_2 x8_2)] : List Int)) := ⟨_, rfl⟩
           replace H : (spec_l2Distances.l2 k2 x5_2 x6_2 x8_2 (rd x6_2 x8_2) y523 0 l0_0 l0_1 l0_2) = some r := by first | (rw [hy523]; with_reducible exact H) | (have H2_ := (Option.bind_some _ _).symm.trans H; rw [hy523]; with_reducible exact H2_) | (have H2_ := (Option.bind_some _ _).symm.trans H; with_reducible exact H2_) | with_reducible exact H | (rw [hy523]; exact H) | exact H
           have Ny523 := am hy523
           clear hy523
           have H' := am H
           clear H
           obtain ⟨Ao27, co27, eo27⟩ := Kd.R_slice HO_6.out
           subst eo27
           have p520 : 0 ≤ (x8_2 : Int) := of_decide_eq_true (by first | (with_reducible assumption) | assumption)
           have q520 : x8_2 < (x6_2.length : Int) := of_decide_eq_true (by first | (with_reducible assumption) | assumption)
           obtain ⟨ad520, e520, hx520_0⟩ := Kd.at_int (Kd.R_reads' HO_6.out).2.2 x8_2 p520 q520
           cases e520
           replace p520 := eq_true p520
           replace q520 := eq_true q520
           try go_wp2
           replace HO_5 := am (Kd.R_drew HO_5.out)
           replace HO_6 := am (Kd.R_drew HO_6.out)
           replace BK504 := am (blk_drew BK504.out)
           replace HB := am (below_drew1 HB.out)
           have p521 : 0 ≤ ((rd x6_2 x8_2) : Int) := of_decide_eq_true (by first | (with_reducible assumption) | assumption)
           have q521 : (rd x6_2 x8_2) < (l0_0.length : Int) := of_decide_eq_true (by first | (with_reducible assumption) | assumption)
           obtain ⟨ad521, e521, hx521_0⟩ := Kd.at_int HR0_0.out (rd x6_2 x8_2) p521 q521
           have hw521_0 := hx521_0
           cases e521
           try (replace hx521_0 := (HB.out.cell (World.block_lt_of_cell? w _ hx521_0)).trans hx521_0)
           replace p521 := eq_true p521
           replace q521 := eq_true q521
           have p522 : 0 ≤ ((rd x6_2 x8_2) : Int) := of_decide_eq_true (by first | (with_reducible assumption) | assumption)
           have q522 : (rd x6_2 x8_2) < (l0_1.length : Int) := of_decide_eq_true (by first | (with_reducible assumption) | assumption)
           obtain ⟨ad522, e522, hx522_0⟩ := Kd.at_int HR0_1.out (rd x6_2 x8_2) p522 q522
           have hw522_0 := hx522_0
           cases e522
           try (replace hx522_0 := (HB.out.cell (World.block_lt_of_cell? w _ hx522_0)).trans hx522_0)
           replace p522 := eq_true p522
           replace q522 := eq_true q522
           refine start_ (n := 12) (S := fun w' => w'.cell? ⟨gb504, 0, none⟩ = some (.slice (some ad521) l0_0.length c0_0) ∧ w'.cell? ⟨gb504, 1, none⟩ = some (.slice (some ad522) l0_1.length c0_1) ∧ w'.cell? ⟨gb504, 2, none⟩ = some (.slice A0_2 l0_2.length c0_2) ∧ w'.cell? (ad521.add ((rd x6_2 x8_2)).toNat) = some (.int .i64 (rd l0_0 (rd x6_2 x8_2))) ∧ w'.cell? (ad522.add ((rd x6_2 x8_2)).toNat) = some (.int .i64 (rd l0_1 (rd x6_2 x8_2)))) (ds := []) #[false, false, false, false, false, false, false, false, false, false, false, false] (by kernel_rfl) rfl rfl ⟨(blk_cell BK504.out 0).trans rfl, (blk_cell BK504.out 1).trans rfl, (blk_cell BK504.out 2).trans rfl, ((HB.out.cell (World.block_lt_of_cell? w _ hw521_0)).trans hw521_0), ((HB.out.cell (World.block_lt_of_cell? w _ hw522_0)).trans hw522_0)⟩ (fun hHeld => ?_); refine with_tabW spec_l2Distances.tab13 spec_l2Distances.bits13 (fun HT_ HW_ => ?_)
           generalize wr.drew = w28 at HO_5 HO_6 BK504 HB hx521_0 hx522_0 hHeld ⊢
           refine pure_ (i := 0) (N := some 61) (v := ?_) (a' := ?_) #[true, false, false, false, false, false, false, false, false, false, false, false] rfl rfl (any_of HT_.out (by kernel_rfl)) (fun _ _ _ h => h) (Or.inl ⟨by rfl, ?_⟩) ?_ ?_
           rotate_left
           ·intro w'
            go_simp
            with_reducible rfl
           rotate_left
           ·simp only [Act.put, List.setIfInBounds_toArray, List.set_cons_zero, List.set_cons_succ, i64_w, i32_w]
            rfl
           refine pure_ (i := 2) (N := some 63) (v := ?_) (a' := ?_) #[true, false, true, false, false, false, false, false, false, false, false, false] rfl rfl (any_of HT_.out (by kernel_rfl)) (fun _ _ _ h => h) (Or.inl ⟨by rfl, ?_⟩) ?_ ?_
           rotate_left
           ·intro w'
            go_simp
            with_reducible rfl
           rotate_left
           ·simp only [Act.put, List.setIfInBounds_toArray, List.set_cons_zero, List.set_cons_succ, i64_w, i32_w]
            rfl
           refine pure_ (i := 5) (N := some 66) (v := ?_) (a' := ?_) #[true, false, true, false, false, true, false, false, false, false, false, false] rfl rfl (any_of HT_.out (by kernel_rfl)) (fun _ _ _ h => h) (Or.inl ⟨by rfl, ?_⟩) ?_ ?_
           rotate_left
           ·intro w'
            go_simp
            with_reducible rfl
           rotate_left
           ·simp only [Act.put, List.setIfInBounds_toArray, List.set_cons_zero, List.set_cons_succ, i64_w, i32_w]
            rfl
           refine pure_ (i := 7) (N := some 68) (v := ?_) (a' := ?_) #[true, false, true, false, false, true, false, true, false, false, false, false] rfl rfl (any_of HT_.out (by kernel_rfl)) (fun _ _ _ h => h) (Or.inl ⟨by rfl, ?_⟩) ?_ ?_
           rotate_left
           ·intro w'
            go_simp
            with_reducible rfl
           rotate_left
           ·simp only [Act.put, List.setIfInBounds_toArray, List.set_cons_zero, List.set_cons_succ, i64_w, i32_w]
            rfl
           refine take_ (i := 1) (N := some 62) (v := ?_) (a' := ?_) #[true, true, true, false, false, true, false, true, false, false, false, false] rfl rfl (take_ofW HT_.out HW_.out (by kernel_rfl)) (fun _ _ _ h => h) (Or.inl ⟨by rfl, ?_⟩) hHeld ?_ ?_
           rotate_left
           ·rintro w' ⟨s0, s1, s2, s3, s4⟩
            go_simp
            with_reducible rfl
           rotate_left
           ·simp only [Act.put, List.setIfInBounds_toArray, List.set_cons_zero, List.set_cons_succ, i64_w, i32_w]
            rfl
           refine pure_ (i := 3) (N := some 64) (v := ?_) (a' := ?_) #[true, true, true, true, false, true, false, true, false, false, false, false] rfl rfl (any_of HT_.out (by kernel_rfl)) (fun _ _ _ h => h) (Or.inl ⟨by rfl, ?_⟩) ?_ ?_
           rotate_left
           ·intro w'
            go_simp
            with_reducible rfl
           rotate_left
           ·simp only [Act.put, List.setIfInBounds_toArray, List.set_cons_zero, List.set_cons_succ, i64_w, i32_w]
            rfl
           refine take_ (i := 4) (N := some 65) (v := ?_) (a' := ?_) #[true, true, true, true, true, true, false, true, false, false, false, false] rfl rfl (take_ofW HT_.out HW_.out (by kernel_rfl)) (fun _ _ _ h => h) (Or.inl ⟨by rfl, ?_⟩) hHeld ?_ ?_
           rotate_left
           ·rintro w' ⟨s0, s1, s2, s3, s4⟩
            go_simp
            with_reducible rfl
           rotate_left
           ·simp only [Act.put, List.setIfInBounds_toArray, List.set_cons_zero, List.set_cons_succ, i64_w, i32_w]
            rfl
           refine take_ (i := 6) (N := some 67) (v := ?_) (a' := ?_) #[true, true, true, true, true, true, true, true, false, false, false, false] rfl rfl (take_ofW HT_.out HW_.out (by kernel_rfl)) (fun _ _ _ h => h) (Or.inl ⟨by rfl, ?_⟩) hHeld ?_ ?_
           rotate_left
           ·rintro w' ⟨s0, s1, s2, s3, s4⟩
            go_simp
            with_reducible rfl
           rotate_left
           ·simp only [Act.put, List.setIfInBounds_toArray, List.set_cons_zero, List.set_cons_succ, i64_w, i32_w]
            rfl
           refine pure_ (i := 8) (N := some 69) (v := ?_) (a' := ?_) #[true, true, true, true, true, true, true, true, true, false, false, false] rfl rfl (any_of HT_.out (by kernel_rfl)) (fun _ _ _ h => h) (Or.inl ⟨by rfl, ?_⟩) ?_ ?_
           rotate_left
           ·intro w'
            go_simp
            with_reducible rfl
           rotate_left
           ·simp only [Act.put, List.setIfInBounds_toArray, List.set_cons_zero, List.set_cons_succ, i64_w, i32_w]
            rfl
           refine take_ (i := 9) (N := some 70) (v := ?_) (a' := ?_) #[true, true, true, true, true, true, true, true, true, true, false, false] rfl rfl (take_ofW HT_.out HW_.out (by kernel_rfl)) (fun _ _ _ h => h) (Or.inl ⟨by rfl, ?_⟩) hHeld ?_ ?_
           rotate_left
           ·rintro w' ⟨s0, s1, s2, s3, s4⟩
            go_simp
            with_reducible rfl
           rotate_left
           ·simp only [Act.put, List.setIfInBounds_toArray, List.set_cons_zero, List.set_cons_succ, i64_w, i32_w]
            rfl
           refine one_ (i := 10) (N := some 71) #[true, true, true, true, true, true, true, true, true, true, true, false] rfl rfl (one_of HT_.out (by kernel_rfl)) (by decide) (fun K hK => ?_)
           refine Kd.R_lit_step (Kd.int .i64) _ 3 ?hg (N := 71) ?hd (xs := ([rd l0_0 (rd x6_2 x8_2), rd l0_1 (rd x6_2 x8_2)] : List Int)) (inner := [.int .i64 (rd l0_0 (rd x6_2 x8_2)), .int .i64 (rd l0_1 (rd x6_2 x8_2))]) (ok := fun _ => True) (okp := fun _ => True) ?hr ?hp (fun _ hk => hk) trivial (Below.refl _ _) (Nat.le_refl _) (by simp) ?_; (case hd => rfl); (case hg => rfl); (case hr => first | (go_simp; done) | (go_simp; rfl)); (case hp => exact (Reps.one (show Kd.M (Kd.int .i64) _ _ _ (rd l0_0 (rd x6_2 x8_2)) [.int .i64 (rd l0_0 (rd x6_2 x8_2))] from rfl) (Reps.one (show Kd.M (Kd.int .i64) _ _ _ (rd l0_1 (rd x6_2 x8_2)) [.int .i64 (rd l0_1 (rd x6_2 x8_2))] from rfl) (Reps.none _ _))))
           intro v524 w29 ho30 hb hg_ hnew_
           clear hg_ hnew_
           (first | rw [← Ny523.out] at ho30 | (simp only [Int.reduceToNat] at ho30; rw [← Ny523.out] at ho30))
           have HO525 := am (Kd.R_lower (Kd.R_new' (Kd.R_new' ho30 (Kd.R_lt (rl HO_5.out))) (Kd.R_lt (rl HO_6.out))) (below_size (bs1 GE504.out HB.out)))
           replace HO_5 := am (Kd.R_elder' (rl HO_5.out) (Kd.R_base ho30) hb)
           replace HO_6 := am (Kd.R_elder' (rl HO_6.out) (Kd.R_base ho30) hb)
           replace BK504 := am (blk_below (g := gb504) (o := .cells #[.slice (some ad521) l0_0.length c0_0, .slice (some ad522) l0_1.length c0_1, .slice A0_2 l0_2.length c0_2] 25 (0, 0)) (kl BK504.out) hb)
           replace HB := am (below_step (bs1 GE504.out HB.out) hb)
           clear hb ho30
           refine hK.out _ _ ⟨(blk_cell BK504.out 0).trans rfl, (blk_cell BK504.out 1).trans rfl, (blk_cell BK504.out 2).trans rfl, ((HB.out.cell (World.block_lt_of_cell? w _ hw521_0)).trans hw521_0), ((HB.out.cell (World.block_lt_of_cell? w _ hw522_0)).trans hw522_0)⟩ (fun hHeld => ?_)
           clear hK K
           refine norm_ (a' := ?_) ?_ ?_
           rotate_left
           ·show Act.put _ (some 71) _ = _
            simp only [Act.put, List.setIfInBounds_toArray, List.set_cons_zero, List.set_cons_succ, i64_w, i32_w]
            rfl
           refine pure_ (i := 11) (N := some 10) (v := ?_) (a' := ?_) #[true, true, true, true, true, true, true, true, true, true, true, true] rfl rfl (any_of HT_.out (by kernel_rfl)) (fun _ _ _ h => h) (Or.inl ⟨by rfl, ?_⟩) ?_ ?_
           rotate_left
           ·intro w'
            go_simp
            with_reducible rfl
           rotate_left
           ·simp only [Act.put, List.setIfInBounds_toArray, List.set_cons_zero, List.set_cons_succ, i64_w, i32_w]
            rfl
           refine done_ (done_of HT_.out (by kernel_rfl)) ?_
           try go_wp2
           go_loopg [6, 11] k2 (fun kq v6 v11 w' => ∃ (x5_3 : List Int) (x6_3 : List Int) (x11_3 : Int), v11 = .int .i64 x11_3 ∧ Aside0 (spec_l2Distances.l2 kq x5_3 x6_3 x8_2 (rd x6_2 x8_2) y523 x11_3 l0_0 l0_1 l0_2 = some r) ∧ Aside0 (kq ≤ k2) ∧ Aside0 (Kd.R (Kd.int .i64) 3 w' w.heap.size (fun k_ => some k_ ≠ (v6 : Value).ownBlock ∧ some k_ ≠ (v524 : Value).ownBlock) v506 x5_3) ∧ Aside0 (Kd.R (Kd.int .i64) 3 w' w.heap.size (fun k_ => some k_ ≠ (v506 : Value).ownBlock ∧ some k_ ≠ (v524 : Value).ownBlock) v6 x6_3) ∧ Aside0 (Kd.R (Kd.int .i64) 3 w' w.heap.size (fun k_ => some k_ ≠ (v506 : Value).ownBlock ∧ some k_ ≠ (v6 : Value).ownBlock) v524 y523) ∧ Aside0 (w'.heap[gb504]? = some (.cells #[(.slice (some ad521) l0_0.length c0_0), (.slice (some ad522) l0_1.length c0_1), (.slice A0_2 l0_2.length c0_2)] 25 (0, 0))) ∧ Aside0 (Below w.heap.size w w'))
           case atStart => exact ⟨(x5_2), (x6_2), (0), (by first | rfl | (simp; done) | (simp [*]; done)), H', ⟨Nat.le_refl _⟩, ⟨rl HO_5.out⟩, ⟨rl HO_6.out⟩, ⟨rl (Kd.R_mono HO525.out (fun _ hk => by first | exact ⟨hk.1.2, hk.2⟩ | (simp only [ne_eq] at hk ⊢; simp only [hk, not_false_eq_true, and_self])))⟩, ⟨kl BK504.out⟩, ⟨by exact bs1 GE504.out HB.out⟩⟩
           case round =>
            clear H'
            try clear c1
            try clear p1
            try clear q1
            try clear hx1
            try clear c2
            try clear p2
            try clear c5
            try clear p5
            try clear q5
            try clear hx5
            try clear c6
            try clear p6
            try clear c9
            try clear c9b0
            try clear c10
            try clear c10b0
            try clear c11
            try clear c11b0
            try clear c11b1
            try clear c12
            try clear c12b0
            try clear c13
            try clear c13b0
            try clear c14
            try clear c14b0
            try clear p15
            try clear q15
            try clear hx15
            try clear hf15
            try clear c16
            try clear c22
            try clear c22b0
            try clear c23
            try clear c23b0
            try clear c24
            try clear c24b0
            try clear c25
            try clear c25b0
            try clear c26
            try clear c26b0
            try clear hcz5_0
            try clear hcz5_1
            try clear hcz5_2
            try clear hfz5_0
            try clear hfz5_1
            try clear hfz5_2
            try clear hx15_0
            try clear hx511_0
            try clear hx512_0
            try clear hx513_0
            try clear hx514_0
            try clear hx516_0
            try clear hx520_0
            try clear hx521_0
            try clear hx522_0
            try clear p1
            try clear p15
            try clear p2
            try clear p5
            try clear p511
            try clear p512
            try clear p513
            try clear p514
            try clear p516
            try clear p520
            try clear p521
            try clear p522
            try clear p6
            try clear q1
            try clear q15
            try clear q5
            try clear q511
            try clear q512
            try clear q513
            try clear q514
            try clear q516
            try clear q520
            try clear q521
            try clear q522
            obtain ⟨x5_3, x6_3, x11_3, rfl, HA, HK3, HO_5, HO_6, HO_10, BK504, HB⟩ := hrel
            cases gk with
            | zero => exact absurd HA.out (by simp [spec_l2Distances.l2])
            | succ k3 =>
             have H := HA.out
             clear HA
             simp only [spec_l2Distances.l2] at H
             by_cases c31 : x11_3 < 2
             ·rw [if_pos c31] at H
              have c31b0 : decide (x11_3 < 2) = true := decide_eq_true c31
              clear c31
              by_cases c32 : 0 ≤ x11_3
              ·rw [if_pos c32] at H
               have c32b0 : decide (0 ≤ x11_3) = true := decide_eq_true c32
               clear c32
               by_cases c33 : x11_3 < (y523.length : Int)
               ·rw [if_pos c33] at H
                have c33b0 : decide (x11_3 < (y523.length : Int)) = true := decide_eq_true c33
                clear c33
                by_cases c34 : (rd y523 x11_3) = (-1)
                ·rw [if_pos c34] at H
                 have c34b0 : ((rd y523 x11_3) == (-1)) = true := beq_iff_eq.mpr c34
                 have c34b1 : ((rd y523 x11_3) != (-1)) = false := bne_eq_false_iff_eq.mpr c34
                 clear c34
                 have H' := am H
                 clear H
                 obtain ⟨Ao35, co35, eo35⟩ := Kd.R_slice HO_10.out
                 subst eo35
                 have p526 : 0 ≤ (x11_3 : Int) := of_decide_eq_true (by first | (with_reducible assumption) | assumption)
                 have q526 : x11_3 < (y523.length : Int) := of_decide_eq_true (by first | (with_reducible assumption) | assumption)
                 obtain ⟨ad526, e526, hx526_0⟩ := Kd.at_int (Kd.R_reads' HO_10.out).2.2 x11_3 p526 q526
                 cases e526
                 replace p526 := eq_true p526
                 replace q526 := eq_true q526
                 go_wp2
                 go_roundg k3
                 case measure => have := HK1.out; have := HK2.out; have := HK3.out; omega
                 case rel => exact ⟨(x5_3), (x6_3), (wrap64 (x11_3 + 1)), (by first | rfl | (simp; done) | (simp [*]; done)), H', ⟨by have := HK1.out; have := HK2.out; have := HK3.out; omega⟩, ⟨rl HO_5.out⟩, ⟨rl HO_6.out⟩, ⟨rl HO_10.out⟩, ⟨kl BK504.out⟩, ⟨by exact bs1 GE504.out HB.out⟩⟩
                ·rw [if_neg c34] at H
                 have c34b0 : ((rd y523 x11_3) == (-1)) = false := beq_eq_false_iff_ne.mpr c34
                 have c34b1 : ((rd y523 x11_3) != (-1)) = true := bne_iff_ne.mpr c34
                 by_cases c36 : 0 ≤ (rd y523 x11_3)
                 ·rw [if_pos c36] at H
                  have c36b0 : decide (0 ≤ (rd y523 x11_3)) = true := decide_eq_true c36
                  clear c36
                  by_cases c37 : (rd y523 x11_3) < (x5_3.length : Int)
                  ·rw [if_pos c37] at H
                   have c37b0 : decide ((rd y523 x11_3) < (x5_3.length : Int)) = true := decide_eq_true c37
                   clear c37
                   by_cases c38 : (rd x5_3 (rd y523 x11_3)) < 0
                   ·rw [if_pos c38] at H
                    have c38b0 : decide ((rd x5_3 (rd y523 x11_3)) < 0) = true := decide_eq_true c38
                    clear c38
                    by_cases c39 : 0 ≤ (rd x6_2 x8_2)
                    ·rw [if_pos c39] at H
                     have c39b0 : decide (0 ≤ (rd x6_2 x8_2)) = true := decide_eq_true c39
                     clear c39
                     by_cases c40 : (rd x6_2 x8_2) < (x5_3.length : Int)
                     ·rw [if_pos c40] at H
                      have c40b0 : decide ((rd x6_2 x8_2) < (x5_3.length : Int)) = true := decide_eq_true c40
                      clear c40
                      obtain ⟨y531, hy531⟩ : ∃ y_ : List Int, y_ = (x5_3.set ((rd y523 x11_3) : Int).toNat (wrap64 ((rd x5_3 (rd x6_2 x8_2)) + 1))) := ⟨_, rfl⟩
                      replace H : (if x6_3.length < 17592186044416 then (spec_l2Distances.l2 k3 y531 (x6_3 ++ [rd y523 x11_3]) x8_2 (rd x6_2 x8_2) y523 (wrap64 (x11_3 + 1)) l0_0 l0_1 l0_2) else (none)) = some r := by first | (rw [hy531]; with_reducible exact H) | (have H2_ := (Option.bind_some _ _).symm.trans H; rw [hy531]; with_reducible exact H2_) | (have H2_ := (Option.bind_some _ _).symm.trans H; with_reducible exact H2_) | with_reducible exact H | (rw [hy531]; exact H) | exact H
                      have Ny531 := am hy531
                      clear hy531
                      by_cases c42 : x6_3.length < 17592186044416
                      ·rw [if_pos c42] at H
                       have LMc42 := am c42
                       clear c42
                       obtain ⟨y533, hy533⟩ : ∃ y_ : List Int, y_ = (x6_3 ++ [rd y523 x11_3]) := ⟨_, rfl⟩
                       replace H : (spec_l2Distances.l2 k3 y531 y533 x8_2 (rd x6_2 x8_2) y523 (wrap64 (x11_3 + 1)) l0_0 l0_1 l0_2) = some r := by first | (rw [hy533]; with_reducible exact H) | (have H2_ := (Option.bind_some _ _).symm.trans H; rw [hy533]; with_reducible exact H2_) | (have H2_ := (Option.bind_some _ _).symm.trans H; with_reducible exact H2_) | with_reducible exact H | (rw [hy533]; exact H) | exact H
                       have Ny533 := am hy533
                       clear hy533
                       have H' := am H
                       clear H
                       obtain ⟨Ao43, co43, eo43⟩ := Kd.R_slice HO_10.out
                       subst eo43
                       have p526 : 0 ≤ (x11_3 : Int) := of_decide_eq_true (by first | (with_reducible assumption) | assumption)
                       have q526 : x11_3 < (y523.length : Int) := of_decide_eq_true (by first | (with_reducible assumption) | assumption)
                       obtain ⟨ad526, e526, hx526_0⟩ := Kd.at_int (Kd.R_reads' HO_10.out).2.2 x11_3 p526 q526
                       cases e526
                       replace p526 := eq_true p526
                       replace q526 := eq_true q526
                       have p527 : 0 ≤ (x11_3 : Int) := of_decide_eq_true (by first | (with_reducible assumption) | assumption)
                       have q527 : x11_3 < (y523.length : Int) := of_decide_eq_true (by first | (with_reducible assumption) | assumption)
                       obtain ⟨ad527, e527, hx527_0⟩ := Kd.at_int (Kd.R_reads' HO_10.out).2.2 x11_3 p527 q527
                       obtain rfl : ad526 = ad527 := (by injection e527)
                       replace p527 := eq_true p527
                       replace q527 := eq_true q527
                       obtain ⟨Ao44, co44, eo44⟩ := Kd.R_slice HO_5.out
                       subst eo44
                       have p528 : 0 ≤ ((rd y523 x11_3) : Int) := of_decide_eq_true (by first | (with_reducible assumption) | assumption)
                       have q528 : (rd y523 x11_3) < (x5_3.length : Int) := of_decide_eq_true (by first | (with_reducible assumption) | assumption)
                       obtain ⟨ad528, e528, hx528_0⟩ := Kd.at_int (Kd.R_reads' HO_5.out).2.2 (rd y523 x11_3) p528 q528
                       cases e528
                       replace p528 := eq_true p528
                       replace q528 := eq_true q528
                       try go_wp2
                       replace HO_5 := am (Kd.R_drew HO_5.out)
                       replace HO_6 := am (Kd.R_drew HO_6.out)
                       replace HO_10 := am (Kd.R_drew HO_10.out)
                       replace BK504 := am (blk_drew BK504.out)
                       replace HB := am (below_drew1 HB.out)
                       have p529 : 0 ≤ (x11_3 : Int) := of_decide_eq_true (by first | (with_reducible assumption) | assumption)
                       have q529 : x11_3 < (y523.length : Int) := of_decide_eq_true (by first | (with_reducible assumption) | assumption)
                       obtain ⟨ad529, e529, hx529_0⟩ := Kd.at_int (Kd.R_reads' HO_10.out).2.2 x11_3 p529 q529
                       obtain rfl : ad526 = ad529 := (by injection e529)
                       replace p529 := eq_true p529
                       replace q529 := eq_true q529
                       have p530 : 0 ≤ ((rd x6_2 x8_2) : Int) := of_decide_eq_true (by first | (with_reducible assumption) | assumption)
                       have q530 : (rd x6_2 x8_2) < (x5_3.length : Int) := of_decide_eq_true (by first | (with_reducible assumption) | assumption)
                       obtain ⟨ad530, e530, hx530_0⟩ := Kd.at_int (Kd.R_reads' HO_5.out).2.2 (rd x6_2 x8_2) p530 q530
                       obtain rfl : ad528 = ad530 := (by injection e530)
                       replace p530 := eq_true p530
                       replace q530 := eq_true q530
                       have p41 : 0 ≤ ((rd y523 x11_3) : Int) := of_decide_eq_true (by first | (with_reducible assumption) | assumption)
                       have q41 : ((rd y523 x11_3) : Int) < ((x5_3.length : Int) : Int) := of_decide_eq_true (by first | (with_reducible assumption) | assumption)
                       obtain ⟨go41, co41, eo41, gb41, gl41, cl41, HG41⟩ := Kd.R_form HO_5.out (by omega)
                       (first | cases eo41 | (injection eo41 with ea_ en_ ec_; (first | subst ea_ | (injection ea_ with ea_; subst ea_)); subst ec_; clear en_))
                       have GB41 := am gb41
                       have GG41 := am HG41
                       clear gb41 gl41 HG41
                       (first | simp only [add_plain] at hx528_0 | skip)
                       (first | simp only [add_plain] at hx530_0 | skip)
                       obtain ⟨hx41_0, hf41_0⟩ := Kd.R_celln 0 HO_5.out ((rd y523 x11_3) : Int) p41 q41
                       replace p41 := eq_true p41
                       replace q41 := eq_true q41
                       have HP46 := Kd.R_putn HO_5.out ((rd y523 x11_3) : Int) (wrap64 ((rd x5_3 (rd x6_2 x8_2)) + 1))
                       rw [← Ny531.out] at HP46
                       have HQ46 := am HP46
                       clear HP46
                       refine start_ (n := 12) (S := fun w' => w'.cell? (ad526.add (x11_3).toNat) = some (.int .i64 (rd y523 x11_3)) ∧ w'.cell? ⟨go41, ((rd x6_2 x8_2)).toNat, none⟩ = some (.int .i64 (rd x5_3 (rd x6_2 x8_2)))) (ds := [11]) #[false, false, false, false, false, false, false, false, false, false, false, false] (by kernel_rfl) rfl rfl ⟨hx529_0, hx530_0⟩ (fun hHeld => ?_); refine with_tabW spec_l2Distances.tab18 spec_l2Distances.bits18 (fun HT_ HW_ => ?_)
                       generalize wr.drew = w45 at HO_5 HO_6 HO_10 BK504 HB GG41 HQ46 hf41_0 hx41_0 hx528_0 hx529_0 hx530_0 hHeld ⊢
                       refine pure_ (i := 0) (N := some 91) (v := ?_) (a' := ?_) #[true, false, false, false, false, false, false, false, false, false, false, false] rfl rfl (any_of HT_.out (by kernel_rfl)) (fun _ _ _ h => h) (Or.inl ⟨by rfl, ?_⟩) ?_ ?_
                       rotate_left
                       ·intro w'
                        go_simp
                        with_reducible rfl
                       rotate_left
                       ·simp only [Act.put, List.setIfInBounds_toArray, List.set_cons_zero, List.set_cons_succ, i64_w, i32_w]
                        rfl
                       refine pure_ (i := 1) (N := some 92) (v := ?_) (a' := ?_) #[true, true, false, false, false, false, false, false, false, false, false, false] rfl rfl (any_of HT_.out (by kernel_rfl)) (fun _ _ _ h => h) (Or.inl ⟨by rfl, ?_⟩) ?_ ?_
                       rotate_left
                       ·intro w'
                        go_simp
                        with_reducible rfl
                       rotate_left
                       ·simp only [Act.put, List.setIfInBounds_toArray, List.set_cons_zero, List.set_cons_succ, i64_w, i32_w]
                        rfl
                       refine pure_ (i := 2) (N := some 93) (v := ?_) (a' := ?_) #[true, true, true, false, false, false, false, false, false, false, false, false] rfl rfl (any_of HT_.out (by kernel_rfl)) (fun _ _ _ h => h) (Or.inl ⟨by rfl, ?_⟩) ?_ ?_
                       rotate_left
                       ·intro w'
                        go_simp
                        with_reducible rfl
                       rotate_left
                       ·simp only [Act.put, List.setIfInBounds_toArray, List.set_cons_zero, List.set_cons_succ, i64_w, i32_w]
                        rfl
                       refine pure_ (i := 3) (N := some 94) (v := ?_) (a' := ?_) #[true, true, true, true, false, false, false, false, false, false, false, false] rfl rfl (any_of HT_.out (by kernel_rfl)) (fun _ _ _ h => h) (Or.inl ⟨by rfl, ?_⟩) ?_ ?_
                       rotate_left
                       ·intro w'
                        go_simp
                        with_reducible rfl
                       rotate_left
                       ·simp only [Act.put, List.setIfInBounds_toArray, List.set_cons_zero, List.set_cons_succ, i64_w, i32_w]
                        rfl
                       refine pure_ (i := 5) (N := some 96) (v := ?_) (a' := ?_) #[true, true, true, true, false, true, false, false, false, false, false, false] rfl rfl (any_of HT_.out (by kernel_rfl)) (fun _ _ _ h => h) (Or.inl ⟨by rfl, ?_⟩) ?_ ?_
                       rotate_left
                       ·intro w'
                        go_simp
                        with_reducible rfl
                       rotate_left
                       ·simp only [Act.put, List.setIfInBounds_toArray, List.set_cons_zero, List.set_cons_succ, i64_w, i32_w]
                        rfl
                       refine pure_ (i := 6) (N := some 97) (v := ?_) (a' := ?_) #[true, true, true, true, false, true, true, false, false, false, false, false] rfl rfl (any_of HT_.out (by kernel_rfl)) (fun _ _ _ h => h) (Or.inl ⟨by rfl, ?_⟩) ?_ ?_
                       rotate_left
                       ·intro w'
                        go_simp
                        with_reducible rfl
                       rotate_left
                       ·simp only [Act.put, List.setIfInBounds_toArray, List.set_cons_zero, List.set_cons_succ, i64_w, i32_w]
                        rfl
                       refine pure_ (i := 7) (N := some 98) (v := ?_) (a' := ?_) #[true, true, true, true, false, true, true, true, false, false, false, false] rfl rfl (any_of HT_.out (by kernel_rfl)) (fun _ _ _ h => h) (Or.inl ⟨by rfl, ?_⟩) ?_ ?_
                       rotate_left
                       ·intro w'
                        go_simp
                        with_reducible rfl
                       rotate_left
                       ·simp only [Act.put, List.setIfInBounds_toArray, List.set_cons_zero, List.set_cons_succ, i64_w, i32_w]
                        rfl
                       refine take_ (i := 4) (N := some 95) (v := ?_) (a' := ?_) #[true, true, true, true, true, true, true, true, false, false, false, false] rfl rfl (take_ofW HT_.out HW_.out (by kernel_rfl)) (fun _ _ _ h => h) (Or.inl ⟨by rfl, ?_⟩) hHeld ?_ ?_
                       rotate_left
                       ·rintro w' ⟨s0, s1⟩
                        go_simp
                        with_reducible rfl
                       rotate_left
                       ·simp only [Act.put, List.setIfInBounds_toArray, List.set_cons_zero, List.set_cons_succ, i64_w, i32_w]
                        rfl
                       refine take_ (i := 8) (N := some 99) (v := ?_) (a' := ?_) #[true, true, true, true, true, true, true, true, true, false, false, false] rfl rfl (take_ofW HT_.out HW_.out (by kernel_rfl)) (fun _ _ _ h => h) (Or.inl ⟨by rfl, ?_⟩) hHeld ?_ ?_
                       rotate_left
                       ·rintro w' ⟨s0, s1⟩
                        go_simp
                        with_reducible rfl
                       rotate_left
                       ·simp only [Act.put, List.setIfInBounds_toArray, List.set_cons_zero, List.set_cons_succ, i64_w, i32_w]
                        rfl
                       refine pure_ (i := 9) (N := some 100) (v := ?_) (a' := ?_) #[true, true, true, true, true, true, true, true, true, true, false, false] rfl rfl (any_of HT_.out (by kernel_rfl)) (fun _ _ _ h => h) (Or.inl ⟨by rfl, ?_⟩) ?_ ?_
                       rotate_left
                       ·intro w'
                        go_simp
                        with_reducible rfl
                       rotate_left
                       ·simp only [Act.put, List.setIfInBounds_toArray, List.set_cons_zero, List.set_cons_succ, i64_w, i32_w]
                        rfl
                       refine pure_ (i := 10) (N := some 101) (v := ?_) (a' := ?_) #[true, true, true, true, true, true, true, true, true, true, true, false] rfl rfl (any_of HT_.out (by kernel_rfl)) (fun _ _ _ h => h) (Or.inl ⟨by rfl, ?_⟩) ?_ ?_
                       rotate_left
                       ·intro w'
                        go_simp
                        with_reducible rfl
                       rotate_left
                       ·simp only [Act.put, List.setIfInBounds_toArray, List.set_cons_zero, List.set_cons_succ, i64_w, i32_w]
                        rfl
                       refine last_ (i := 11) (N := none) #[true, true, true, true, true, true, true, true, true, true, true, true] rfl rfl (one_of HT_.out (by kernel_rfl)) (by decide) (fun K hK => ?_)
                       refine skip_ (w1 := ?_) (by rfl) rfl ?_ ?_
                       rotate_left
                       ·go_simp
                        rfl
                       refine hK.out _ _ ?_
                       clear hK K
                       refine done_ (done_of HT_.out (by kernel_rfl)) ?_
                       have p532 : 0 ≤ (x11_3 : Int) := of_decide_eq_true (by first | (with_reducible assumption) | assumption)
                       have q532 : x11_3 < (y523.length : Int) := of_decide_eq_true (by first | (with_reducible assumption) | assumption)
                       obtain ⟨ad532, e532, hx532_0⟩ := Kd.at_int (Kd.R_reads' HO_10.out).2.2 x11_3 p532 q532
                       obtain rfl : ad526 = ad532 := (by injection e532)
                       have hn532_0 : ad526.block ≠ go41 := Kd.own_blk (by have z_ := HO_5.out.1 _ rfl; first | exact z_ | exact z_.2 | exact z_.2.1 | exact z_.2.2 | exact z_.2.2.1 | exact z_.2.2.2 | exact z_.1 | exact z_.1.2 | exact z_.1.2.1 | exact z_.1.2.2 | exact z_.1.2.2.1 | exact z_.1.2.2.2 | exact z_.1.1 | exact z_.1.1.2 | exact z_.1.1.2.1 | exact z_.1.1.2.2 | exact z_.1.1.2.2.1 | exact z_.1.1.2.2.2 | exact z_.1.1.1 | exact z_.1.1.1.2 | exact z_.1.1.1.2.1 | exact z_.1.1.1.2.2 | exact z_.1.1.1.2.2.1 | exact z_.1.1.1.2.2.2 | exact z_.1.1.1.1 | exact z_.1.1.1.1.2 | exact z_.1.1.1.1.2.1 | exact z_.1.1.1.1.2.2 | exact z_.1.1.1.1.2.2.1 | exact z_.1.1.1.1.2.2.2 | exact z_.1.1.1.1.1 | exact z_.1.1.1.1.1.2 | exact z_.1.1.1.1.1.2.1 | exact z_.1.1.1.1.1.2.2 | exact z_.1.1.1.1.1.2.2.1 | exact z_.1.1.1.1.1.2.2.2 | exact z_.1.1.1.1.1.1 | exact z_.1.1.1.1.1.1.2 | exact z_.1.1.1.1.1.1.2.1 | exact z_.1.1.1.1.1.1.2.2 | exact z_.1.1.1.1.1.1.2.2.1 | exact z_.1.1.1.1.1.1.2.2.2 | exact z_.1.1.1.1.1.1.1 | exact z_.1.1.1.1.1.1.1.2 | exact z_.1.1.1.1.1.1.1.2.1 | exact z_.1.1.1.1.1.1.1.2.2 | exact z_.1.1.1.1.1.1.1.2.2.1 | exact z_.1.1.1.1.1.1.1.2.2.2)
                       replace hx532_0 := (cell_far (p := ⟨go41, ((rd y523 x11_3) : Int).toNat, none⟩) (by first | (rw [add_block]; exact hn532_0) | (show (Addr.add _ _).block ≠ _; rw [add_block]; exact hn532_0) | exact hn532_0) (.int .i64 (wrap64 ((rd x5_3 (rd x6_2 x8_2)) + 1)))).trans hx532_0
                       clear hn532_0
                       replace p532 := eq_true p532
                       replace q532 := eq_true q532
                       try go_wp2_with (first | ((with_reducible refine gate_builtin (b := .append) (xs := #[.tmp 102, .tmp 107]) rfl ?_); at_builtin; refine Kd.R_append (Kd.int .i64) (w0 := w) w.heap.size rfl (.tmp 102) (.tmp 107) 23 3 (.int .i64 0) 8 rfl Try.underlying23 info3 rfl (by decide) (by omega) u6 x6_3 (rd y523 x11_3) [.int .i64 (rd y523 x11_3)] (fun k_ => some k_ ≠ (.slice (some ⟨go41, 0, none⟩) x5_3.length co44 : Value).ownBlock ∧ some k_ ≠ (.slice (some ad526) y523.length co43 : Value).ownBlock) (fun _ => False) rfl (by first | (go_simp; done) | (go_simp; rfl)) ?aP (fun _ hk => hk.elim) ?aF ?aO ?aB ?aS ?aL ?_; (case aP => exact rfl); (case aB => exact (bs2 GB41.out GE504.out HB.out)); (case aF => exact (fun k_ hk => ⟨Kd.fresh' (Kd.R_lt (rl HQ46.out)) k_ hk, Kd.fresh' (Kd.R_lt (rl ((Kd.R_mono (Kd.R_far (p := ⟨go41, ((rd y523 x11_3) : Int).toNat, none⟩) (Kd.R_mono HO_10.out (fun k_ hk => (⟨hk, fun e_ => hk.1 (by rw [e_]; rfl)⟩ : _ ∧ k_ ≠ go41))) (fun _ hk => hk.2) (.int .i64 (wrap64 ((rd x5_3 (rd x6_2 x8_2)) + 1)))) (fun _ h_ => h_.1))))) k_ hk⟩)); (case aO => exact (rl (Kd.R_mono (Kd.R_far (p := ⟨go41, ((rd y523 x11_3) : Int).toNat, none⟩) (Kd.R_mono HO_6.out (fun k_ hk => (⟨hk, fun e_ => hk.1 (by rw [e_]; rfl)⟩ : _ ∧ k_ ≠ go41))) (fun _ hk => hk.2) (.int .i64 (wrap64 ((rd x5_3 (rd x6_2 x8_2)) + 1)))) (fun _ hk => by first | exact ⟨hk.1.1, hk.1.2⟩ | (simp only [ne_eq] at hk ⊢; simp only [hk, not_false_eq_true, and_self]))))); (case aS => exact (below_size (bs2 GB41.out GE504.out HB.out))); (case aL => have := LMc42.out; omega); intro v534 w47 ho hb hg hat; rw [← Ny533.out] at ho; replace HO_10 := am (Kd.R_after (ok := (fun k_ => some k_ ≠ (.slice (some ⟨go41, 0, none⟩) x5_3.length co44 : Value).ownBlock)) (rl (Kd.R_mono (Kd.R_far (p := ⟨go41, ((rd y523 x11_3) : Int).toNat, none⟩) (Kd.R_mono HO_10.out (fun k_ hk => (⟨hk, fun e_ => hk.1 (by rw [e_]; rfl)⟩ : _ ∧ k_ ≠ go41))) (fun _ hk => hk.2) (.int .i64 (wrap64 ((rd x5_3 (rd x6_2 x8_2)) + 1)))) (fun _ hk => by first | exact ⟨hk.1.1, hk.1.2⟩ | (simp only [ne_eq] at hk ⊢; simp only [hk, not_false_eq_true, and_self])))) hg hat); replace BK504 := am (blk_grown (g := gb504) (o := .cells #[.slice (some ad521) l0_0.length c0_0, .slice (some ad522) l0_1.length c0_1, .slice A0_2 l0_2.length c0_2] 25 (0, 0)) (by (with_reducible repeat (first | refine blk_drewN ?_ _ | refine blk_drew ?_ | refine blk_alloc ?_ _)); refine blk_far ?_ (by have h_ := Kd.R_ne HO_5.out BK504.out (by decide); intro e_; exact h_ (by rw [e_]; rfl)) _; (with_reducible repeat (first | refine blk_drewN ?_ _ | refine blk_drew ?_ | refine blk_alloc ?_ _)); exact BK504.out) hg (Kd.R_ne HO_6.out BK504.out (by decide))); replace HO_5 := am (Kd.R_after (ok := (fun k_ => some k_ ≠ (.slice (some ad526) y523.length co43 : Value).ownBlock)) (rl (Kd.R_mono HQ46.out (fun _ hk => by first | exact ⟨hk.2, hk.1⟩ | (simp only [ne_eq] at hk ⊢; simp only [hk, not_false_eq_true, and_self])))) hg hat); replace HB := am (hb); have HO535 := am (ho); clear HO_6; clear ho hb hg hat))
                       go_roundg k3
                       case measure => have := HK1.out; have := HK2.out; have := HK3.out; omega
                       case rel => exact ⟨(y531), (y533), (wrap64 (x11_3 + 1)), (by first | rfl | (simp; done) | (simp [*]; done)), H', ⟨by have := HK1.out; have := HK2.out; have := HK3.out; omega⟩, ⟨rl (Kd.R_mono HO_5.out (fun _ hk => by first | exact ⟨hk.2, hk.1⟩ | (simp only [ne_eq] at hk ⊢; simp only [hk, not_false_eq_true, and_self])))⟩, ⟨rl HO535.out⟩, ⟨rl HO_10.out⟩, ⟨kl BK504.out⟩, ⟨by exact bs1 GE504.out HB.out⟩⟩
                      ·rw [if_neg c42] at H
                       exact absurd H (by simp)
                     ·rw [if_neg c40] at H
                      exact absurd H (by simp)
                    ·rw [if_neg c39] at H
                     exact absurd H (by simp)
                   ·rw [if_neg c38] at H
                    have c38b0 : decide ((rd x5_3 (rd y523 x11_3)) < 0) = false := decide_eq_false c38
                    clear c38
                    have H' := am H
                    clear H
                    obtain ⟨Ao48, co48, eo48⟩ := Kd.R_slice HO_10.out
                    subst eo48
                    have p526 : 0 ≤ (x11_3 : Int) := of_decide_eq_true (by first | (with_reducible assumption) | assumption)
                    have q526 : x11_3 < (y523.length : Int) := of_decide_eq_true (by first | (with_reducible assumption) | assumption)
                    obtain ⟨ad526, e526, hx526_0⟩ := Kd.at_int (Kd.R_reads' HO_10.out).2.2 x11_3 p526 q526
                    cases e526
                    replace p526 := eq_true p526
                    replace q526 := eq_true q526
                    have p527 : 0 ≤ (x11_3 : Int) := of_decide_eq_true (by first | (with_reducible assumption) | assumption)
                    have q527 : x11_3 < (y523.length : Int) := of_decide_eq_true (by first | (with_reducible assumption) | assumption)
                    obtain ⟨ad527, e527, hx527_0⟩ := Kd.at_int (Kd.R_reads' HO_10.out).2.2 x11_3 p527 q527
                    obtain rfl : ad526 = ad527 := (by injection e527)
                    replace p527 := eq_true p527
                    replace q527 := eq_true q527
                    obtain ⟨Ao49, co49, eo49⟩ := Kd.R_slice HO_5.out
                    subst eo49
                    have p528 : 0 ≤ ((rd y523 x11_3) : Int) := of_decide_eq_true (by first | (with_reducible assumption) | assumption)
                    have q528 : (rd y523 x11_3) < (x5_3.length : Int) := of_decide_eq_true (by first | (with_reducible assumption) | assumption)
                    obtain ⟨ad528, e528, hx528_0⟩ := Kd.at_int (Kd.R_reads' HO_5.out).2.2 (rd y523 x11_3) p528 q528
                    cases e528
                    replace p528 := eq_true p528
                    replace q528 := eq_true q528
                    go_wp2
                    go_roundg k3
                    case measure => have := HK1.out; have := HK2.out; have := HK3.out; omega
                    case rel => exact ⟨(x5_3), (x6_3), (wrap64 (x11_3 + 1)), (by first | rfl | (simp; done) | (simp [*]; done)), H', ⟨by have := HK1.out; have := HK2.out; have := HK3.out; omega⟩, ⟨rl HO_5.out⟩, ⟨rl HO_6.out⟩, ⟨rl HO_10.out⟩, ⟨kl BK504.out⟩, ⟨by exact bs1 GE504.out HB.out⟩⟩
                  ·rw [if_neg c37] at H
                   exact absurd H (by simp)
                 ·rw [if_neg c36] at H
                  exact absurd H (by simp)
               ·rw [if_neg c33] at H
                exact absurd H (by simp)
              ·rw [if_neg c32] at H
               exact absurd H (by simp)
             ·rw [if_neg c31] at H
              have c31b0 : decide (x11_3 < 2) = false := decide_eq_false c31
              clear c31
              have H' := am H
              clear H
              go_wp2
              go_roundg k3
              case measure => have := HK1.out; have := HK2.out; have := HK3.out; omega
              case rel => exact ⟨(x5_3), (x6_3), (wrap64 (x8_2 + 1)), (by first | rfl | (simp; done) | (simp [*]; done)), H', ⟨by have := HK1.out; have := HK2.out; have := HK3.out; omega⟩, ⟨rl (Kd.R_mono HO_5.out (fun _ hk => by first | exact hk.1 | (simp only [ne_eq] at hk ⊢; simp only [hk, not_false_eq_true, and_self])))⟩, ⟨rl (Kd.R_mono HO_6.out (fun _ hk => by first | exact hk.1 | (simp only [ne_eq] at hk ⊢; simp only [hk, not_false_eq_true, and_self])))⟩, ⟨kl BK504.out⟩, ⟨by exact bs1 GE504.out HB.out⟩⟩
          ·rw [if_neg c26] at H
           exact absurd H (by simp)
         ·rw [if_neg c25] at H
          exact absurd H (by simp)
        ·rw [if_neg c24] at H
         exact absurd H (by simp)
       ·rw [if_neg c23] at H
        exact absurd H (by simp)
      ·rw [if_neg c22] at H
       have c22b0 : decide (x8_2 < (x6_2.length : Int)) = false := decide_eq_false c22
       clear c22
       obtain rfl := Option.some.inj H
       obtain ⟨Ao50, co50, eo50⟩ := Kd.R_slice HO_6.out
       subst eo50
       go_wp2
       go_ret
       exact ⟨_, by first | rfl | (simp [errW_none, errW_some] <;> rfl) | (simp [*, errW_none, errW_some] <;> rfl), by (with_reducible repeat (first | apply Kd.R_alloc | apply Kd.R_drewN | apply Kd.R_drew)); exact Kd.R_mono HO_5.out (fun _ hk => trivial), by exact bs1 GE504.out HB.out⟩

end Go.Proofs.Ytghgpinhghhlgaa.A
