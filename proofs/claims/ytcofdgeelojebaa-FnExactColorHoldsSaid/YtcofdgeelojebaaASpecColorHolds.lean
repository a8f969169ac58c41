/- Contracts of functions of the given program (ASpecColorHolds). No conditions beyond those stated. -/
import Derived.Test.YtcofdgeelojebaaA0
import Derived.Test.YtcofdgeelojebaaASpecColoredValid
import Derived.Test.YtcofdgeelojebaaA0
namespace Go.Proofs.Ytcofdgeelojebaa.A
open Go.RowKit Go.Proofs.YtcofdgeelojebaaW.PrintWords Go.Proofs.YtcofdgeelojebaaW.PrintLast Go.Proofs.YtcofdgeelojebaaW.PrintMore
attribute [local go_sem] max2_int min2_int max_two min_two max_three min_three max_four min_four   -- for this text's walks alone
set_option linter.unusedVariables false
set_option linter.unusedSimpArgs false

/-! ### spec_ColorHolds -/
mutual
def spec_ColorHolds.l0 : Nat → Int → List Int → List Int → List Int → List Int → Option (Bool)
 | 0, _, _, _, _, _ => none
 | k + 1, x3, x1085000, x1085001, x1085002, x1085003 => if x3 < (x1085003.length : Int) then (if 0 ≤ x3 then (if x3 < (x1085000.length : Int) then (if x3 < (x1085001.length : Int) then (if (rd x1085003 x3) = 2 then (if (rd x1085000 x3) = (-1) then (if (rd x1085001 x3) = (-1) then (spec_ColorHolds.j1 k x3 false x1085000 x1085001 x1085002 x1085003) else (if 0 ≤ (rd x1085001 x3) then (if (rd x1085001 x3) < (x1085003.length : Int) then (spec_ColorHolds.j1 k x3 ((rd x1085003 (rd x1085001 x3)) == 0) x1085000 x1085001 x1085002 x1085003) else (none)) else (none))) else (if 0 ≤ (rd x1085000 x3) then (if (rd x1085000 x3) < (x1085003.length : Int) then (if (rd x1085003 (rd x1085000 x3)) = 0 then (spec_ColorHolds.j1 k x3 true x1085000 x1085001 x1085002 x1085003) else (if (rd x1085001 x3) = (-1) then (spec_ColorHolds.j1 k x3 false x1085000 x1085001 x1085002 x1085003) else (if 0 ≤ (rd x1085001 x3) then (if (rd x1085001 x3) < (x1085003.length : Int) then (spec_ColorHolds.j1 k x3 ((rd x1085003 (rd x1085001 x3)) == 0) x1085000 x1085001 x1085002 x1085003) else (none)) else (none)))) else (none)) else (none))) else (spec_ColorHolds.j1 k x3 false x1085000 x1085001 x1085002 x1085003)) else (none)) else (none)) else (none)) else (some true)
def spec_ColorHolds.j1 : Nat → Int → Bool → List Int → List Int → List Int → List Int → Option (Bool)
 | 0, _, _, _, _, _, _ => none
 | k + 1, x3, x57, x1085000, x1085001, x1085002, x1085003 => if x57 = true then (some false) else (spec_ColorHolds.l0 k (wrap64 (x3 + 1)) x1085000 x1085001 x1085002 x1085003)
end
def spec_ColorHolds.f (k : Nat) (l0_0 : List Int) (l0_1 : List Int) (l0_2 : List Int) (l0_3 : List Int) : Option (Bool) := (spec_ColoredValid.f k l0_0 l0_1 l0_2 l0_3).bind fun t1085 => (if t1085 = true then (spec_ColorHolds.l0 k 0 l0_0 l0_1 l0_2 l0_3) else (some false))
theorem spec_ColorHolds.mono_l : ∀ k, (∀ y0 y1 y2 y3 y4, LeO (spec_ColorHolds.l0 k y0 y1 y2 y3 y4) (spec_ColorHolds.l0 (k + 1) y0 y1 y2 y3 y4)) ∧ (∀ y0 y1 y2 y3 y4 y5, LeO (spec_ColorHolds.j1 k y0 y1 y2 y3 y4 y5) (spec_ColorHolds.j1 (k + 1) y0 y1 y2 y3 y4 y5))
 | 0 => ⟨fun _ _ _ _ _ r h => by simp [spec_ColorHolds.l0] at h, fun _ _ _ _ _ _ r h => by simp [spec_ColorHolds.j1] at h⟩
 | k + 1 => by
  obtain ⟨ih0, ih1⟩ := spec_ColorHolds.mono_l k
  refine ⟨?_, ?_⟩
  ·intro y0 y1 y2 y3 y4
   unfold spec_ColorHolds.l0
   repeat' first
   | (with_reducible exact ih0 _ _ _ _ _)
   | (with_reducible exact ih1 _ _ _ _ _ _)
   | (with_reducible exact spec_ColoredValid.mono _ _ _ _ _)
   | (with_reducible exact LeO.refl _)
   | (with_reducible exact LeO.none _)
   | (with_reducible refine LeO.ite ?_ ?_)
   | (with_reducible refine LeO.bind ?_ (fun _ => ?_))
   | exact ih0 _ _ _ _ _
   | exact ih1 _ _ _ _ _ _
   | exact spec_ColoredValid.mono _ _ _ _ _
   | exact LeO.none _
   | refine LeO.ite ?_ ?_
   | refine LeO.bind ?_ (fun _ => ?_)
  ·intro y0 y1 y2 y3 y4 y5
   unfold spec_ColorHolds.j1
   repeat' first
   | (with_reducible exact ih0 _ _ _ _ _)
   | (with_reducible exact ih1 _ _ _ _ _ _)
   | (with_reducible exact spec_ColoredValid.mono _ _ _ _ _)
   | (with_reducible exact LeO.refl _)
   | (with_reducible exact LeO.none _)
   | (with_reducible refine LeO.ite ?_ ?_)
   | (with_reducible refine LeO.bind ?_ (fun _ => ?_))
   | exact ih0 _ _ _ _ _
   | exact ih1 _ _ _ _ _ _
   | exact spec_ColoredValid.mono _ _ _ _ _
   | exact LeO.none _
   | refine LeO.ite ?_ ?_
   | refine LeO.bind ?_ (fun _ => ?_)
theorem spec_ColorHolds.mono : ∀ a0 a1 a2 a3 k, LeO (spec_ColorHolds.f k a0 a1 a2 a3) (spec_ColorHolds.f (k + 1) a0 a1 a2 a3) := by
 intro a0 a1 a2 a3 k
 obtain ⟨ih0, ih1⟩ := spec_ColorHolds.mono_l k
 unfold spec_ColorHolds.f
 repeat' first
   | (with_reducible exact ih0 _ _ _ _ _)
   | (with_reducible exact ih1 _ _ _ _ _ _)
   | (with_reducible exact spec_ColoredValid.mono _ _ _ _ _)
   | (with_reducible exact LeO.refl _)
   | (with_reducible exact LeO.none _)
   | (with_reducible refine LeO.ite ?_ ?_)
   | (with_reducible refine LeO.bind ?_ (fun _ => ?_))
   | exact ih0 _ _ _ _ _
   | exact ih1 _ _ _ _ _ _
   | exact spec_ColoredValid.mono _ _ _ _ _
   | exact LeO.none _
   | refine LeO.ite ?_ ?_
   | refine LeO.bind ?_ (fun _ => ?_)
set_option maxHeartbeats 8000000 in
set_option maxRecDepth 100000 in
theorem spec_ColorHolds.calls (k : Nat) (A0_0 : Option Addr) (c0_0 : Nat) (l0_0 : List Int) (A0_1 : Option Addr) (c0_1 : Nat) (l0_1 : List Int) (A0_2 : Option Addr) (c0_2 : Nat) (l0_2 : List Int) (A0_3 : Option Addr) (c0_3 : Nat) (l0_3 : List Int) (r : Bool) (w : World) (hr0_0 : Kd.C (Kd.int .i64) w A0_0 l0_0.length l0_0) (hc0_0 : l0_0.length ≤ c0_0) (hr0_1 : Kd.C (Kd.int .i64) w A0_1 l0_1.length l0_1) (hc0_1 : l0_1.length ≤ c0_1) (hr0_2 : Kd.C (Kd.int .i64) w A0_2 l0_2.length l0_2) (hc0_2 : l0_2.length ≤ c0_2) (hr0_3 : Kd.C (Kd.int .i64) w A0_3 l0_3.length l0_3) (hc0_3 : l0_3.length ≤ c0_3) (h : spec_ColorHolds.f k l0_0 l0_1 l0_2 l0_3 = some r) :
  Calls Try.prog 41 #[.agg #[.slice A0_0 l0_0.length c0_0, .slice A0_1 l0_1.length c0_1, .slice A0_2 l0_2.length c0_2, .slice A0_3 l0_3.length c0_3]] w fun e w' => e = .returned (.bool r) ∧ Below w.heap.size w w' := by
 have hu49 := Try.underlying49
 have HR0_0 := am hr0_0
 have HC0_0 := am hc0_0
 clear hr0_0 hc0_0
 have HR0_1 := am hr0_1
 have HC0_1 := am hc0_1
 clear hr0_1 hc0_1
 have HR0_2 := am hr0_2
 have HC0_2 := am hc0_2
 clear hr0_2 hc0_2
 have HR0_3 := am hr0_3
 have HC0_3 := am hc0_3
 clear hr0_3 hc0_3
 have HB := am (Below.refl w.heap.size w)
 have H : ((spec_ColoredValid.f k l0_0 l0_1 l0_2 l0_3).bind fun t1085 => (if t1085 = true then (spec_ColorHolds.l0 k 0 l0_0 l0_1 l0_2 l0_3) else (some false))) = some r := h
 clear h
 replace H := Option.bind_eq_some_iff.mp H
 obtain ⟨t1085, A20, H⟩ := H
 replace H : (if t1085 = true then (spec_ColorHolds.l0 k 0 l0_0 l0_1 l0_2 l0_3) else (some false)) = some r := H
 have A2 := am A20
 clear A20
 by_cases c3 : t1085 = true
 ·subst c3
  have H1 : (spec_ColorHolds.l0 k 0 l0_0 l0_1 l0_2 l0_3) = some r := by rw [if_pos rfl] at H; exact H
  clear H
  have H := H1
  clear H1
  have H' := am H
  clear H
  go_enter Try.func41, Try.ntmps41
  go_wp2_with (first | ((with_reducible refine gate_dst (N := 1) rfl ?_); refine box_event ?hg (N := 1) ?hd (cs := #[.slice A0_0 l0_0.length c0_0, .slice A0_1 l0_1.length c0_1, .slice A0_2 l0_2.length c0_2, .slice A0_3 l0_3.length c0_3]) (t := 49) ?hr ?_; (case hd => rfl); (case hg => rfl); (case hr => first | (go_simp; done) | (go_simp; rfl)); intro gb1084 hg w4 hbox hb; have BK1084 := am (hbox); have GW1084 := am ((by rw [hg]; exact (below_size (bl HB.out)) : w.heap.size ≤ gb1084)); have GE1084 := am ((by rw [hg]; exact (below_size (bl HB.out)) : w.heap.size ≤ gb1084)); replace HB := am (below_step (bl HB.out) hb); clear hb hbox hg; have hcz5_0 : w4.cell? ⟨gb1084, 0, none⟩ = some (.slice A0_0 l0_0.length c0_0) := (blk_cell BK1084.out 0).trans rfl; have hcz5_1 : w4.cell? ⟨gb1084, 1, none⟩ = some (.slice A0_1 l0_1.length c0_1) := (blk_cell BK1084.out 1).trans rfl; have hcz5_2 : w4.cell? ⟨gb1084, 2, none⟩ = some (.slice A0_2 l0_2.length c0_2) := (blk_cell BK1084.out 2).trans rfl; have hcz5_3 : w4.cell? ⟨gb1084, 3, none⟩ = some (.slice A0_3 l0_3.length c0_3) := (blk_cell BK1084.out 3).trans rfl; have hfz5_0 := blk_frozen BK1084.out 0; have hfz5_1 := blk_frozen BK1084.out 1; have hfz5_2 := blk_frozen BK1084.out 2; have hfz5_3 := blk_frozen BK1084.out 3) | ((with_reducible refine gate_callee (f := 61) rfl ?_); refine goesL_ (some 7) rfl rfl Try.func61 (by kernel_rfl) rfl #[.agg #[.slice A0_0 l0_0.length c0_0, .slice A0_1 l0_1.length c0_1, .slice A0_2 l0_2.length c0_2, .slice A0_3 l0_3.length c0_3]] rfl (by (try simp only [List.map_toArray, List.map_cons, List.map_nil]); first | done | rfl | (simp only [List.length_drop, List.length_take]; rfl)) ?_; (with_reducible refine (spec_ColoredValid.calls k _ _ l0_0 _ _ l0_1 _ _ l0_2 _ _ l0_3 true _ ?side1 ?side2 ?side3 ?side4 ?side5 ?side6 ?side7 ?side8 A2.out).mono ?_); (case side1 => exact cl (Kd.C_below HR0_0.out HB.out)); (case side2 => exact HC0_0.out); (case side3 => exact cl (Kd.C_below HR0_1.out HB.out)); (case side4 => exact HC0_1.out); (case side5 => exact cl (Kd.C_below HR0_2.out HB.out)); (case side6 => exact HC0_2.out); (case side7 => exact cl (Kd.C_below HR0_3.out HB.out)); (case side8 => exact HC0_3.out); rintro e w6 ⟨rfl, hb⟩; refine ⟨_, rfl, ?_⟩; replace BK1084 := am (blk_below (g := gb1084) (o := .cells #[.slice A0_0 l0_0.length c0_0, .slice A0_1 l0_1.length c0_1, .slice A0_2 l0_2.length c0_2, .slice A0_3 l0_3.length c0_3] 49 (0, 0)) (kl BK1084.out) hb); replace HB := am (below_step (bs1 GE1084.out HB.out) hb); (try clear hb); (try clear hb2); (try clear hk); (try clear hi)))
  go_loopg [3] k (fun kq v3 w' => ∃ (x3_1 : Int), v3 = .int .i64 x3_1 ∧ Aside0 (spec_ColorHolds.l0 kq x3_1 l0_0 l0_1 l0_2 l0_3 = some r) ∧ Aside0 (kq ≤ k) ∧ Aside0 (w'.heap[gb1084]? = some (.cells #[(.slice A0_0 l0_0.length c0_0), (.slice A0_1 l0_1.length c0_1), (.slice A0_2 l0_2.length c0_2), (.slice A0_3 l0_3.length c0_3)] 49 (0, 0))) ∧ Aside0 (Below w.heap.size w w'))
  case atStart => exact ⟨(0), (by first | rfl | (simp; done) | (simp [*]; done)), H', ⟨Nat.le_refl _⟩, ⟨kl BK1084.out⟩, ⟨by exact bs1 GE1084.out HB.out⟩⟩
  case round =>
   clear H'
   try clear p2
   try clear c3
   try clear c4
   try clear c6
   try clear hcz5_0
   try clear hcz5_1
   try clear hcz5_2
   try clear hcz5_3
   try clear hfz5_0
   try clear hfz5_1
   try clear hfz5_2
   try clear hfz5_3
   obtain ⟨x3_1, rfl, HA, HK1, BK1084, HB⟩ := hrel
   cases gk with
   | zero => exact absurd HA.out (by simp [spec_ColorHolds.l0])
   | succ k1 =>
    have H := HA.out
    clear HA
    simp only [spec_ColorHolds.l0] at H
    by_cases c7 : x3_1 < (l0_3.length : Int)
    ·rw [if_pos c7] at H
     have c7b0 : decide (x3_1 < (l0_3.length : Int)) = true := decide_eq_true c7
     clear c7
     by_cases c8 : 0 ≤ x3_1
     ·rw [if_pos c8] at H
      have c8b0 : decide (0 ≤ x3_1) = true := decide_eq_true c8
      clear c8
      by_cases c9 : x3_1 < (l0_0.length : Int)
      ·rw [if_pos c9] at H
       have c9b0 : decide (x3_1 < (l0_0.length : Int)) = true := decide_eq_true c9
       clear c9
       by_cases c10 : x3_1 < (l0_1.length : Int)
       ·rw [if_pos c10] at H
        have c10b0 : decide (x3_1 < (l0_1.length : Int)) = true := decide_eq_true c10
        clear c10
        have HC11 := am H
        clear H
        have hcz12_0 : wr.cell? ⟨gb1084, 0, none⟩ = some (.slice A0_0 l0_0.length c0_0) := (blk_cell BK1084.out 0).trans rfl
        have hcz12_1 : wr.cell? ⟨gb1084, 1, none⟩ = some (.slice A0_1 l0_1.length c0_1) := (blk_cell BK1084.out 1).trans rfl
        have hcz12_2 : wr.cell? ⟨gb1084, 2, none⟩ = some (.slice A0_2 l0_2.length c0_2) := (blk_cell BK1084.out 2).trans rfl
        have hcz12_3 : wr.cell? ⟨gb1084, 3, none⟩ = some (.slice A0_3 l0_3.length c0_3) := (blk_cell BK1084.out 3).trans rfl
        have hfz12_0 := blk_frozen BK1084.out 0
        have hfz12_1 := blk_frozen BK1084.out 1
        have hfz12_2 := blk_frozen BK1084.out 2
        have hfz12_3 := blk_frozen BK1084.out 3
        have p1086 : 0 ≤ (x3_1 : Int) := of_decide_eq_true (by first | (with_reducible assumption) | assumption)
        have q1086 : x3_1 < (l0_0.length : Int) := of_decide_eq_true (by first | (with_reducible assumption) | assumption)
        obtain ⟨ad1086, e1086, hx1086_0⟩ := Kd.at_int HR0_0.out x3_1 p1086 q1086
        cases e1086
        try (replace hx1086_0 := (HB.out.cell (World.block_lt_of_cell? w _ hx1086_0)).trans hx1086_0)
        replace p1086 := eq_true p1086
        replace q1086 := eq_true q1086
        have p1087 : 0 ≤ (x3_1 : Int) := of_decide_eq_true (by first | (with_reducible assumption) | assumption)
        have q1087 : x3_1 < (l0_1.length : Int) := of_decide_eq_true (by first | (with_reducible assumption) | assumption)
        obtain ⟨ad1087, e1087, hx1087_0⟩ := Kd.at_int HR0_1.out x3_1 p1087 q1087
        cases e1087
        try (replace hx1087_0 := (HB.out.cell (World.block_lt_of_cell? w _ hx1087_0)).trans hx1087_0)
        replace p1087 := eq_true p1087
        replace q1087 := eq_true q1087
        go_upto_region 8 with (fail)
        go_cut [57] (fun v57 wc => ∃ (kq : Nat) (x57_10 : Bool), v57 = .bool x57_10 ∧ Aside0 (spec_ColorHolds.j1 kq x3_1 x57_10 l0_0 l0_1 l0_2 l0_3 = some r) ∧ Aside0 (kq ≤ k1) ∧ Aside0 (wc.heap[gb1084]? = some (.cells #[(.slice (some ad1086) l0_0.length c0_0), (.slice (some ad1087) l0_1.length c0_1), (.slice A0_2 l0_2.length c0_2), (.slice A0_3 l0_3.length c0_3)] 49 (0, 0))) ∧ Aside0 (Below w.heap.size w wc))
        case first =>
         have H := HC11.out
         clear HC11
         by_cases c13 : (rd l0_3 x3_1) = 2
         ·rw [if_pos c13] at H
          have c13b0 : ((rd l0_3 x3_1) == 2) = true := beq_iff_eq.mpr c13
          have c13b1 : ((rd l0_3 x3_1) != 2) = false := bne_eq_false_iff_eq.mpr c13
          clear c13
          (first | rw [c13b0] | (simp only [i64_w, i32_w]; rw [c13b0]) | skip)
          by_cases c14 : (rd l0_0 x3_1) = (-1)
          ·rw [if_pos c14] at H
           have c14b0 : ((rd l0_0 x3_1) == (-1)) = true := beq_iff_eq.mpr c14
           have c14b1 : ((rd l0_0 x3_1) != (-1)) = false := bne_eq_false_iff_eq.mpr c14
           clear c14
           by_cases c15 : (rd l0_1 x3_1) = (-1)
           ·rw [if_pos c15] at H
            have c15b0 : ((rd l0_1 x3_1) == (-1)) = true := beq_iff_eq.mpr c15
            have c15b1 : ((rd l0_1 x3_1) != (-1)) = false := bne_eq_false_iff_eq.mpr c15
            clear c15
            have H' := am H
            clear H
            have hcz16_0 : wr.cell? ⟨gb1084, 0, none⟩ = some (.slice (some ad1086) l0_0.length c0_0) := (blk_cell BK1084.out 0).trans rfl
            have hcz16_1 : wr.cell? ⟨gb1084, 1, none⟩ = some (.slice (some ad1087) l0_1.length c0_1) := (blk_cell BK1084.out 1).trans rfl
            have hcz16_2 : wr.cell? ⟨gb1084, 2, none⟩ = some (.slice A0_2 l0_2.length c0_2) := (blk_cell BK1084.out 2).trans rfl
            have hcz16_3 : wr.cell? ⟨gb1084, 3, none⟩ = some (.slice A0_3 l0_3.length c0_3) := (blk_cell BK1084.out 3).trans rfl
            have hfz16_0 := blk_frozen BK1084.out 0
            have hfz16_1 := blk_frozen BK1084.out 1
            have hfz16_2 := blk_frozen BK1084.out 2
            have hfz16_3 := blk_frozen BK1084.out 3
            have p1088 : 0 ≤ (x3_1 : Int) := of_decide_eq_true (by first | (with_reducible assumption) | assumption)
            have q1088 : x3_1 < (l0_3.length : Int) := of_decide_eq_true (by first | (with_reducible assumption) | assumption)
            obtain ⟨ad1088, e1088, hx1088_0⟩ := Kd.at_int HR0_3.out x3_1 p1088 q1088
            cases e1088
            try (replace hx1088_0 := (HB.out.cell (World.block_lt_of_cell? w _ hx1088_0)).trans hx1088_0)
            replace p1088 := eq_true p1088
            replace q1088 := eq_true q1088
            go_wp2
            go_meet
            case rel => exact ⟨_, (false), (by first | rfl | (simp; done) | (simp [*]; done)), H', ⟨by have := HK1.out; first | omega | exact Nat.le_refl _⟩, ⟨kl BK1084.out⟩, ⟨by exact bs1 GE1084.out HB.out⟩⟩
           ·rw [if_neg c15] at H
            have c15b0 : ((rd l0_1 x3_1) == (-1)) = false := beq_eq_false_iff_ne.mpr c15
            have c15b1 : ((rd l0_1 x3_1) != (-1)) = true := bne_iff_ne.mpr c15
            by_cases c17 : 0 ≤ (rd l0_1 x3_1)
            ·rw [if_pos c17] at H
             have c17b0 : decide (0 ≤ (rd l0_1 x3_1)) = true := decide_eq_true c17
             clear c17
             by_cases c18 : (rd l0_1 x3_1) < (l0_3.length : Int)
             ·rw [if_pos c18] at H
              have c18b0 : decide ((rd l0_1 x3_1) < (l0_3.length : Int)) = true := decide_eq_true c18
              clear c18
              have H' := am H
              clear H
              have hcz19_0 : wr.cell? ⟨gb1084, 0, none⟩ = some (.slice (some ad1086) l0_0.length c0_0) := (blk_cell BK1084.out 0).trans rfl
              have hcz19_1 : wr.cell? ⟨gb1084, 1, none⟩ = some (.slice (some ad1087) l0_1.length c0_1) := (blk_cell BK1084.out 1).trans rfl
              have hcz19_2 : wr.cell? ⟨gb1084, 2, none⟩ = some (.slice A0_2 l0_2.length c0_2) := (blk_cell BK1084.out 2).trans rfl
              have hcz19_3 : wr.cell? ⟨gb1084, 3, none⟩ = some (.slice A0_3 l0_3.length c0_3) := (blk_cell BK1084.out 3).trans rfl
              have hfz19_0 := blk_frozen BK1084.out 0
              have hfz19_1 := blk_frozen BK1084.out 1
              have hfz19_2 := blk_frozen BK1084.out 2
              have hfz19_3 := blk_frozen BK1084.out 3
              have p1088 : 0 ≤ (x3_1 : Int) := of_decide_eq_true (by first | (with_reducible assumption) | assumption)
              have q1088 : x3_1 < (l0_3.length : Int) := of_decide_eq_true (by first | (with_reducible assumption) | assumption)
              obtain ⟨ad1088, e1088, hx1088_0⟩ := Kd.at_int HR0_3.out x3_1 p1088 q1088
              cases e1088
              try (replace hx1088_0 := (HB.out.cell (World.block_lt_of_cell? w _ hx1088_0)).trans hx1088_0)
              replace p1088 := eq_true p1088
              replace q1088 := eq_true q1088
              have p1089 : 0 ≤ ((rd l0_1 x3_1) : Int) := of_decide_eq_true (by first | (with_reducible assumption) | assumption)
              have q1089 : (rd l0_1 x3_1) < (l0_3.length : Int) := of_decide_eq_true (by first | (with_reducible assumption) | assumption)
              obtain ⟨ad1089, e1089, hx1089_0⟩ := Kd.at_int HR0_3.out (rd l0_1 x3_1) p1089 q1089
              obtain rfl : ad1088 = ad1089 := (by injection e1089)
              try (replace hx1089_0 := (HB.out.cell (World.block_lt_of_cell? w _ hx1089_0)).trans hx1089_0)
              replace p1089 := eq_true p1089
              replace q1089 := eq_true q1089
              go_wp2
              go_meet
              case rel => exact ⟨_, (((rd l0_3 (rd l0_1 x3_1)) == 0)), (by first | rfl | (simp; done) | (simp [*]; done)), H', ⟨by have := HK1.out; first | omega | exact Nat.le_refl _⟩, ⟨kl BK1084.out⟩, ⟨by exact bs1 GE1084.out HB.out⟩⟩
             ·rw [if_neg c18] at H
              exact absurd H (by simp)
            ·rw [if_neg c17] at H
             exact absurd H (by simp)
          ·rw [if_neg c14] at H
           have c14b0 : ((rd l0_0 x3_1) == (-1)) = false := beq_eq_false_iff_ne.mpr c14
           have c14b1 : ((rd l0_0 x3_1) != (-1)) = true := bne_iff_ne.mpr c14
           by_cases c20 : 0 ≤ (rd l0_0 x3_1)
           ·rw [if_pos c20] at H
            have c20b0 : decide (0 ≤ (rd l0_0 x3_1)) = true := decide_eq_true c20
            clear c20
            by_cases c21 : (rd l0_0 x3_1) < (l0_3.length : Int)
            ·rw [if_pos c21] at H
             have c21b0 : decide ((rd l0_0 x3_1) < (l0_3.length : Int)) = true := decide_eq_true c21
             clear c21
             by_cases c22 : (rd l0_3 (rd l0_0 x3_1)) = 0
             ·rw [if_pos c22] at H
              have c22b0 : ((rd l0_3 (rd l0_0 x3_1)) == 0) = true := beq_iff_eq.mpr c22
              have c22b1 : ((rd l0_3 (rd l0_0 x3_1)) != 0) = false := bne_eq_false_iff_eq.mpr c22
              clear c22
              have H' := am H
              clear H
              have hcz23_0 : wr.cell? ⟨gb1084, 0, none⟩ = some (.slice (some ad1086) l0_0.length c0_0) := (blk_cell BK1084.out 0).trans rfl
              have hcz23_1 : wr.cell? ⟨gb1084, 1, none⟩ = some (.slice (some ad1087) l0_1.length c0_1) := (blk_cell BK1084.out 1).trans rfl
              have hcz23_2 : wr.cell? ⟨gb1084, 2, none⟩ = some (.slice A0_2 l0_2.length c0_2) := (blk_cell BK1084.out 2).trans rfl
              have hcz23_3 : wr.cell? ⟨gb1084, 3, none⟩ = some (.slice A0_3 l0_3.length c0_3) := (blk_cell BK1084.out 3).trans rfl
              have hfz23_0 := blk_frozen BK1084.out 0
              have hfz23_1 := blk_frozen BK1084.out 1
              have hfz23_2 := blk_frozen BK1084.out 2
              have hfz23_3 := blk_frozen BK1084.out 3
              have p1088 : 0 ≤ (x3_1 : Int) := of_decide_eq_true (by first | (with_reducible assumption) | assumption)
              have q1088 : x3_1 < (l0_3.length : Int) := of_decide_eq_true (by first | (with_reducible assumption) | assumption)
              obtain ⟨ad1088, e1088, hx1088_0⟩ := Kd.at_int HR0_3.out x3_1 p1088 q1088
              cases e1088
              try (replace hx1088_0 := (HB.out.cell (World.block_lt_of_cell? w _ hx1088_0)).trans hx1088_0)
              replace p1088 := eq_true p1088
              replace q1088 := eq_true q1088
              have p1090 : 0 ≤ ((rd l0_0 x3_1) : Int) := of_decide_eq_true (by first | (with_reducible assumption) | assumption)
              have q1090 : (rd l0_0 x3_1) < (l0_3.length : Int) := of_decide_eq_true (by first | (with_reducible assumption) | assumption)
              obtain ⟨ad1090, e1090, hx1090_0⟩ := Kd.at_int HR0_3.out (rd l0_0 x3_1) p1090 q1090
              obtain rfl : ad1088 = ad1090 := (by injection e1090)
              try (replace hx1090_0 := (HB.out.cell (World.block_lt_of_cell? w _ hx1090_0)).trans hx1090_0)
              replace p1090 := eq_true p1090
              replace q1090 := eq_true q1090
              go_wp2
              go_meet
              case rel => exact ⟨_, (true), (by first | rfl | (simp; done) | (simp [*]; done)), H', ⟨by have := HK1.out; first | omega | exact Nat.le_refl _⟩, ⟨kl BK1084.out⟩, ⟨by exact bs1 GE1084.out HB.out⟩⟩
             ·rw [if_neg c22] at H
              have c22b0 : ((rd l0_3 (rd l0_0 x3_1)) == 0) = false := beq_eq_false_iff_ne.mpr c22
              have c22b1 : ((rd l0_3 (rd l0_0 x3_1)) != 0) = true := bne_iff_ne.mpr c22
              by_cases c24 : (rd l0_1 x3_1) = (-1)
              ·rw [if_pos c24] at H
               have c24b0 : ((rd l0_1 x3_1) == (-1)) = true := beq_iff_eq.mpr c24
               have c24b1 : ((rd l0_1 x3_1) != (-1)) = false := bne_eq_false_iff_eq.mpr c24
               clear c24
               have H' := am H
               clear H
               have hcz25_0 : wr.cell? ⟨gb1084, 0, none⟩ = some (.slice (some ad1086) l0_0.length c0_0) := (blk_cell BK1084.out 0).trans rfl
               have hcz25_1 : wr.cell? ⟨gb1084, 1, none⟩ = some (.slice (some ad1087) l0_1.length c0_1) := (blk_cell BK1084.out 1).trans rfl
               have hcz25_2 : wr.cell? ⟨gb1084, 2, none⟩ = some (.slice A0_2 l0_2.length c0_2) := (blk_cell BK1084.out 2).trans rfl
               have hcz25_3 : wr.cell? ⟨gb1084, 3, none⟩ = some (.slice A0_3 l0_3.length c0_3) := (blk_cell BK1084.out 3).trans rfl
               have hfz25_0 := blk_frozen BK1084.out 0
               have hfz25_1 := blk_frozen BK1084.out 1
               have hfz25_2 := blk_frozen BK1084.out 2
               have hfz25_3 := blk_frozen BK1084.out 3
               have p1088 : 0 ≤ (x3_1 : Int) := of_decide_eq_true (by first | (with_reducible assumption) | assumption)
               have q1088 : x3_1 < (l0_3.length : Int) := of_decide_eq_true (by first | (with_reducible assumption) | assumption)
               obtain ⟨ad1088, e1088, hx1088_0⟩ := Kd.at_int HR0_3.out x3_1 p1088 q1088
               cases e1088
               try (replace hx1088_0 := (HB.out.cell (World.block_lt_of_cell? w _ hx1088_0)).trans hx1088_0)
               replace p1088 := eq_true p1088
               replace q1088 := eq_true q1088
               have p1090 : 0 ≤ ((rd l0_0 x3_1) : Int) := of_decide_eq_true (by first | (with_reducible assumption) | assumption)
               have q1090 : (rd l0_0 x3_1) < (l0_3.length : Int) := of_decide_eq_true (by first | (with_reducible assumption) | assumption)
               obtain ⟨ad1090, e1090, hx1090_0⟩ := Kd.at_int HR0_3.out (rd l0_0 x3_1) p1090 q1090
               obtain rfl : ad1088 = ad1090 := (by injection e1090)
               try (replace hx1090_0 := (HB.out.cell (World.block_lt_of_cell? w _ hx1090_0)).trans hx1090_0)
               replace p1090 := eq_true p1090
               replace q1090 := eq_true q1090
               go_wp2
               go_meet
               case rel => exact ⟨_, (false), (by first | rfl | (simp; done) | (simp [*]; done)), H', ⟨by have := HK1.out; first | omega | exact Nat.le_refl _⟩, ⟨kl BK1084.out⟩, ⟨by exact bs1 GE1084.out HB.out⟩⟩
              ·rw [if_neg c24] at H
               have c24b0 : ((rd l0_1 x3_1) == (-1)) = false := beq_eq_false_iff_ne.mpr c24
               have c24b1 : ((rd l0_1 x3_1) != (-1)) = true := bne_iff_ne.mpr c24
               by_cases c26 : 0 ≤ (rd l0_1 x3_1)
               ·rw [if_pos c26] at H
                have c26b0 : decide (0 ≤ (rd l0_1 x3_1)) = true := decide_eq_true c26
                clear c26
                by_cases c27 : (rd l0_1 x3_1) < (l0_3.length : Int)
                ·rw [if_pos c27] at H
                 have c27b0 : decide ((rd l0_1 x3_1) < (l0_3.length : Int)) = true := decide_eq_true c27
                 clear c27
                 have H' := am H
                 clear H
                 have hcz28_0 : wr.cell? ⟨gb1084, 0, none⟩ = some (.slice (some ad1086) l0_0.length c0_0) := (blk_cell BK1084.out 0).trans rfl
                 have hcz28_1 : wr.cell? ⟨gb1084, 1, none⟩ = some (.slice (some ad1087) l0_1.length c0_1) := (blk_cell BK1084.out 1).trans rfl
                 have hcz28_2 : wr.cell? ⟨gb1084, 2, none⟩ = some (.slice A0_2 l0_2.length c0_2) := (blk_cell BK1084.out 2).trans rfl
                 have hcz28_3 : wr.cell? ⟨gb1084, 3, none⟩ = some (.slice A0_3 l0_3.length c0_3) := (blk_cell BK1084.out 3).trans rfl
                 have hfz28_0 := blk_frozen BK1084.out 0
                 have hfz28_1 := blk_frozen BK1084.out 1
                 have hfz28_2 := blk_frozen BK1084.out 2
                 have hfz28_3 := blk_frozen BK1084.out 3
                 have p1088 : 0 ≤ (x3_1 : Int) := of_decide_eq_true (by first | (with_reducible assumption) | assumption)
                 have q1088 : x3_1 < (l0_3.length : Int) := of_decide_eq_true (by first | (with_reducible assumption) | assumption)
                 obtain ⟨ad1088, e1088, hx1088_0⟩ := Kd.at_int HR0_3.out x3_1 p1088 q1088
                 cases e1088
                 try (replace hx1088_0 := (HB.out.cell (World.block_lt_of_cell? w _ hx1088_0)).trans hx1088_0)
                 replace p1088 := eq_true p1088
                 replace q1088 := eq_true q1088
                 have p1090 : 0 ≤ ((rd l0_0 x3_1) : Int) := of_decide_eq_true (by first | (with_reducible assumption) | assumption)
                 have q1090 : (rd l0_0 x3_1) < (l0_3.length : Int) := of_decide_eq_true (by first | (with_reducible assumption) | assumption)
                 obtain ⟨ad1090, e1090, hx1090_0⟩ := Kd.at_int HR0_3.out (rd l0_0 x3_1) p1090 q1090
                 obtain rfl : ad1088 = ad1090 := (by injection e1090)
                 try (replace hx1090_0 := (HB.out.cell (World.block_lt_of_cell? w _ hx1090_0)).trans hx1090_0)
                 replace p1090 := eq_true p1090
                 replace q1090 := eq_true q1090
                 have p1091 : 0 ≤ ((rd l0_1 x3_1) : Int) := of_decide_eq_true (by first | (with_reducible assumption) | assumption)
                 have q1091 : (rd l0_1 x3_1) < (l0_3.length : Int) := of_decide_eq_true (by first | (with_reducible assumption) | assumption)
                 obtain ⟨ad1091, e1091, hx1091_0⟩ := Kd.at_int HR0_3.out (rd l0_1 x3_1) p1091 q1091
                 obtain rfl : ad1088 = ad1091 := (by injection e1091)
                 try (replace hx1091_0 := (HB.out.cell (World.block_lt_of_cell? w _ hx1091_0)).trans hx1091_0)
                 replace p1091 := eq_true p1091
                 replace q1091 := eq_true q1091
                 go_wp2
                 go_meet
                 case rel => exact ⟨_, (((rd l0_3 (rd l0_1 x3_1)) == 0)), (by first | rfl | (simp; done) | (simp [*]; done)), H', ⟨by have := HK1.out; first | omega | exact Nat.le_refl _⟩, ⟨kl BK1084.out⟩, ⟨by exact bs1 GE1084.out HB.out⟩⟩
                ·rw [if_neg c27] at H
                 exact absurd H (by simp)
               ·rw [if_neg c26] at H
                exact absurd H (by simp)
            ·rw [if_neg c21] at H
             exact absurd H (by simp)
           ·rw [if_neg c20] at H
            exact absurd H (by simp)
         ·rw [if_neg c13] at H
          have c13b0 : ((rd l0_3 x3_1) == 2) = false := beq_eq_false_iff_ne.mpr c13
          have c13b1 : ((rd l0_3 x3_1) != 2) = true := bne_iff_ne.mpr c13
          (first | rw [c13b0] | (simp only [i64_w, i32_w]; rw [c13b0]) | skip)
          have H' := am H
          clear H
          have hcz29_0 : wr.cell? ⟨gb1084, 0, none⟩ = some (.slice (some ad1086) l0_0.length c0_0) := (blk_cell BK1084.out 0).trans rfl
          have hcz29_1 : wr.cell? ⟨gb1084, 1, none⟩ = some (.slice (some ad1087) l0_1.length c0_1) := (blk_cell BK1084.out 1).trans rfl
          have hcz29_2 : wr.cell? ⟨gb1084, 2, none⟩ = some (.slice A0_2 l0_2.length c0_2) := (blk_cell BK1084.out 2).trans rfl
          have hcz29_3 : wr.cell? ⟨gb1084, 3, none⟩ = some (.slice A0_3 l0_3.length c0_3) := (blk_cell BK1084.out 3).trans rfl
          have hfz29_0 := blk_frozen BK1084.out 0
          have hfz29_1 := blk_frozen BK1084.out 1
          have hfz29_2 := blk_frozen BK1084.out 2
          have hfz29_3 := blk_frozen BK1084.out 3
          have p1088 : 0 ≤ (x3_1 : Int) := of_decide_eq_true (by first | (with_reducible assumption) | assumption)
          have q1088 : x3_1 < (l0_3.length : Int) := of_decide_eq_true (by first | (with_reducible assumption) | assumption)
          obtain ⟨ad1088, e1088, hx1088_0⟩ := Kd.at_int HR0_3.out x3_1 p1088 q1088
          cases e1088
          try (replace hx1088_0 := (HB.out.cell (World.block_lt_of_cell? w _ hx1088_0)).trans hx1088_0)
          replace p1088 := eq_true p1088
          replace q1088 := eq_true q1088
          go_wp2
          go_meet
          case rel => exact ⟨_, (false), (by first | rfl | (simp; done) | (simp [*]; done)), H', ⟨by have := HK1.out; first | omega | exact Nat.le_refl _⟩, ⟨kl BK1084.out⟩, ⟨by exact bs1 GE1084.out HB.out⟩⟩
        case rest =>
         clear HC11
         try clear c1
         try clear p1
         try clear q1
         try clear hx1
         try clear c2
         try clear p2
         try clear c3
         try clear c4
         try clear c6
         try clear c7
         try clear c7b0
         try clear c8
         try clear c8b0
         try clear c9
         try clear c9b0
         try clear c10
         try clear c10b0
         try clear p10
         try clear q10
         try clear hx10
         try clear c13
         try clear c13b0
         try clear c13b1
         try clear c14
         try clear c14b0
         try clear c14b1
         try clear c15
         try clear c15b0
         try clear c15b1
         try clear c17
         try clear c17b0
         try clear c18
         try clear c18b0
         try clear c20
         try clear c20b0
         try clear c21
         try clear c21b0
         try clear c22
         try clear c22b0
         try clear c22b1
         try clear c24
         try clear c24b0
         try clear c24b1
         try clear c26
         try clear c26b0
         try clear c27
         try clear c27b0
         try clear hcz12_0
         try clear hcz12_1
         try clear hcz12_2
         try clear hcz12_3
         try clear hcz16_0
         try clear hcz16_1
         try clear hcz16_2
         try clear hcz16_3
         try clear hcz19_0
         try clear hcz19_1
         try clear hcz19_2
         try clear hcz19_3
         try clear hcz23_0
         try clear hcz23_1
         try clear hcz23_2
         try clear hcz23_3
         try clear hcz25_0
         try clear hcz25_1
         try clear hcz25_2
         try clear hcz25_3
         try clear hcz28_0
         try clear hcz28_1
         try clear hcz28_2
         try clear hcz28_3
         try clear hcz29_0
         try clear hcz29_1
         try clear hcz29_2
         try clear hcz29_3
         try clear hcz5_0
         try clear hcz5_1
         try clear hcz5_2
         try clear hcz5_3
         try clear hfz12_0
         try clear hfz12_1
         try clear hfz12_2
         try clear hfz12_3
         try clear hfz16_0
         try clear hfz16_1
         try clear hfz16_2
         try clear hfz16_3
         try clear hfz19_0
         try clear hfz19_1
         try clear hfz19_2
         try clear hfz19_3
         try clear hfz23_0
         try clear hfz23_1
         try clear hfz23_2
         try clear hfz23_3
         try clear hfz25_0
         try clear hfz25_1
         try clear hfz25_2
         try clear hfz25_3
         try clear hfz28_0
         try clear hfz28_1
         try clear hfz28_2
         try clear hfz28_3
         try clear hfz29_0
         try clear hfz29_1
         try clear hfz29_2
         try clear hfz29_3
         try clear hfz5_0
         try clear hfz5_1
         try clear hfz5_2
         try clear hfz5_3
         try clear hx1086_0
         try clear hx1087_0
         try clear hx1088_0
         try clear hx1089_0
         try clear hx1090_0
         try clear hx1091_0
         try clear p1086
         try clear p1087
         try clear p1088
         try clear p1089
         try clear p1090
         try clear p1091
         try clear p2
         try clear q1086
         try clear q1087
         try clear q1088
         try clear q1089
         try clear q1090
         try clear q1091
         obtain ⟨kq, x57_10, rfl, HA, HJ10, BK1084, HB⟩ := hcut
         cases kq with
         | zero => exact absurd HA.out (by simp [spec_ColorHolds.j1])
         | succ kj10 =>
          have H := HA.out
          clear HA
          simp only [spec_ColorHolds.j1] at H
          by_cases c30 : x57_10 = true
          ·subst c30
           have H1 : (some false) = some r := by rw [if_pos rfl] at H; exact H
           clear H
           have H := H1
           clear H1
           obtain rfl := Option.some.inj H
           go_wp2
           go_ret
           exact ⟨by first | rfl | (simp [errW_none, errW_some] <;> rfl) | (simp [*, errW_none, errW_some] <;> rfl), by exact bs1 GE1084.out HB.out⟩
          ·replace c30 := Bool.eq_false_iff.mpr c30
           subst c30
           have H1 : (spec_ColorHolds.l0 kj10 (wrap64 (x3_1 + 1)) l0_0 l0_1 l0_2 l0_3) = some r := by rw [if_neg (show ¬ (false = true) by decide)] at H; exact H
           clear H
           have H := H1
           clear H1
           have H' := am H
           clear H
           go_wp2
           go_roundg kj10
           case measure => have := HK1.out; have := HJ10.out; omega
           case rel => exact ⟨(wrap64 (x3_1 + 1)), (by first | rfl | (simp; done) | (simp [*]; done)), H', ⟨by have := HK1.out; have := HJ10.out; omega⟩, ⟨kl BK1084.out⟩, ⟨by exact bs1 GE1084.out HB.out⟩⟩
       ·rw [if_neg c10] at H
        exact absurd H (by simp)
      ·rw [if_neg c9] at H
       exact absurd H (by simp)
     ·rw [if_neg c8] at H
      exact absurd H (by simp)
    ·rw [if_neg c7] at H
     have c7b0 : decide (x3_1 < (l0_3.length : Int)) = false := decide_eq_false c7
     clear c7
     obtain rfl := Option.some.inj H
     have hcz31_0 : wr.cell? ⟨gb1084, 0, none⟩ = some (.slice A0_0 l0_0.length c0_0) := (blk_cell BK1084.out 0).trans rfl
     have hcz31_1 : wr.cell? ⟨gb1084, 1, none⟩ = some (.slice A0_1 l0_1.length c0_1) := (blk_cell BK1084.out 1).trans rfl
     have hcz31_2 : wr.cell? ⟨gb1084, 2, none⟩ = some (.slice A0_2 l0_2.length c0_2) := (blk_cell BK1084.out 2).trans rfl
     have hcz31_3 : wr.cell? ⟨gb1084, 3, none⟩ = some (.slice A0_3 l0_3.length c0_3) := (blk_cell BK1084.out 3).trans rfl
     have hfz31_0 := blk_frozen BK1084.out 0
     have hfz31_1 := blk_frozen BK1084.out 1
     have hfz31_2 := blk_frozen BK1084.out 2
     have hfz31_3 := blk_frozen BK1084.out 3
     go_wp2
     go_ret
     exact ⟨by first | rfl | (simp [errW_none, errW_some] <;> rfl) | (simp [*, errW_none, errW_some] <;> rfl), by exact bs1 GE1084.out HB.out⟩
 ·replace c3 := Bool.eq_false_iff.mpr c3
  subst c3
  have H1 : (some false) = some r := by rw [if_neg (show ¬ (false = true) by decide)] at H; exact H
  clear H
  have H := H1
  clear H1
  obtain rfl := Option.some.inj H
  go_enter Try.func41, Try.ntmps41
  go_wp2_with (first | ((with_reducible refine gate_dst (N := 1) rfl ?_); refine box_event ?hg (N := 1) ?hd (cs := #[.slice A0_0 l0_0.length c0_0, .slice A0_1 l0_1.length c0_1, .slice A0_2 l0_2.length c0_2, .slice A0_3 l0_3.length c0_3]) (t := 49) ?hr ?_; (case hd => rfl); (case hg => rfl); (case hr => first | (go_simp; done) | (go_simp; rfl)); intro gb1084 hg w32 hbox hb; have BK1084 := am (hbox); have GW1084 := am ((by rw [hg]; exact (below_size (bl HB.out)) : w.heap.size ≤ gb1084)); have GE1084 := am ((by rw [hg]; exact (below_size (bl HB.out)) : w.heap.size ≤ gb1084)); replace HB := am (below_step (bl HB.out) hb); clear hb hbox hg; have hcz33_0 : w32.cell? ⟨gb1084, 0, none⟩ = some (.slice A0_0 l0_0.length c0_0) := (blk_cell BK1084.out 0).trans rfl; have hcz33_1 : w32.cell? ⟨gb1084, 1, none⟩ = some (.slice A0_1 l0_1.length c0_1) := (blk_cell BK1084.out 1).trans rfl; have hcz33_2 : w32.cell? ⟨gb1084, 2, none⟩ = some (.slice A0_2 l0_2.length c0_2) := (blk_cell BK1084.out 2).trans rfl; have hcz33_3 : w32.cell? ⟨gb1084, 3, none⟩ = some (.slice A0_3 l0_3.length c0_3) := (blk_cell BK1084.out 3).trans rfl; have hfz33_0 := blk_frozen BK1084.out 0; have hfz33_1 := blk_frozen BK1084.out 1; have hfz33_2 := blk_frozen BK1084.out 2; have hfz33_3 := blk_frozen BK1084.out 3) | ((with_reducible refine gate_callee (f := 61) rfl ?_); refine goesL_ (some 7) rfl rfl Try.func61 (by kernel_rfl) rfl #[.agg #[.slice A0_0 l0_0.length c0_0, .slice A0_1 l0_1.length c0_1, .slice A0_2 l0_2.length c0_2, .slice A0_3 l0_3.length c0_3]] rfl (by (try simp only [List.map_toArray, List.map_cons, List.map_nil]); first | done | rfl | (simp only [List.length_drop, List.length_take]; rfl)) ?_; (with_reducible refine (spec_ColoredValid.calls k _ _ l0_0 _ _ l0_1 _ _ l0_2 _ _ l0_3 false _ ?side1 ?side2 ?side3 ?side4 ?side5 ?side6 ?side7 ?side8 A2.out).mono ?_); (case side1 => exact cl (Kd.C_below HR0_0.out HB.out)); (case side2 => exact HC0_0.out); (case side3 => exact cl (Kd.C_below HR0_1.out HB.out)); (case side4 => exact HC0_1.out); (case side5 => exact cl (Kd.C_below HR0_2.out HB.out)); (case side6 => exact HC0_2.out); (case side7 => exact cl (Kd.C_below HR0_3.out HB.out)); (case side8 => exact HC0_3.out); rintro e w34 ⟨rfl, hb⟩; refine ⟨_, rfl, ?_⟩; replace BK1084 := am (blk_below (g := gb1084) (o := .cells #[.slice A0_0 l0_0.length c0_0, .slice A0_1 l0_1.length c0_1, .slice A0_2 l0_2.length c0_2, .slice A0_3 l0_3.length c0_3] 49 (0, 0)) (kl BK1084.out) hb); replace HB := am (below_step (bs1 GE1084.out HB.out) hb); (try clear hb); (try clear hb2); (try clear hk); (try clear hi)))
  go_ret
  exact ⟨by first | rfl | (simp [errW_none, errW_some] <;> rfl) | (simp [*, errW_none, errW_some] <;> rfl), by exact bs1 GE1084.out HB.out⟩

end Go.Proofs.Ytcofdgeelojebaa.A
