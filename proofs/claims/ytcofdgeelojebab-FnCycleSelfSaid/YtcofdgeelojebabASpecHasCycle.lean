/- Contracts of functions of the given program (ASpecHasCycle). No conditions beyond those stated. -/
import Derived.Test.YtcofdgeelojebabA0
import Derived.Test.YtcofdgeelojebabASpecL1Cell
import Derived.Test.YtcofdgeelojebabASpecL2Distances
import Derived.Test.YtcofdgeelojebabA0
namespace Go.Proofs.Ytcofdgeelojebab.A
open Go.RowKit Go.Proofs.YtcofdgeelojebabW.PrintWords Go.Proofs.YtcofdgeelojebabW.PrintLast Go.Proofs.YtcofdgeelojebabW.PrintMore
attribute [local go_sem] max2_int min2_int max_two min_two max_three min_three max_four min_four   -- for this text's walks alone
set_option linter.unusedVariables false
set_option linter.unusedSimpArgs false

/-! ### spec_HasCycle -/
def spec_HasCycle.f (k : Nat) (l0_0 : List Int) (l0_1 : List Int) (l0_2 : List Int) (a1 : Int) : Option (Bool) := (spec_l1Cell.f k l0_0 l0_1 l0_2 a1).bind fun t777 => (if t777 = true then (if 0 ≤ a1 then (if a1 < (l0_0.length : Int) then (if a1 < (l0_1.length : Int) then ((spec_l2Distances.f k l0_0 l0_1 l0_2 (([rd l0_0 a1, rd l0_1 a1] : List Int))).bind fun t783 => (if a1 < (t783.length : Int) then (some (decide ((rd t783 a1) > 0))) else (none))) else (none)) else (none)) else (none)) else (some false))
theorem spec_HasCycle.mono : ∀ a0 a1 a2 a3 k, LeO (spec_HasCycle.f k a0 a1 a2 a3) (spec_HasCycle.f (k + 1) a0 a1 a2 a3) := by
 intro a0 a1 a2 a3 k
 unfold spec_HasCycle.f
 repeat' first
   | (with_reducible exact spec_l1Cell.mono _ _ _ _ _)
   | (with_reducible exact spec_l2Distances.mono _ _ _ _ _)
   | (with_reducible exact LeO.refl _)
   | (with_reducible exact LeO.none _)
   | (with_reducible refine LeO.ite ?_ ?_)
   | (with_reducible refine LeO.bind ?_ (fun _ => ?_))
   | exact spec_l1Cell.mono _ _ _ _ _
   | exact spec_l2Distances.mono _ _ _ _ _
   | exact LeO.none _
   | refine LeO.ite ?_ ?_
   | refine LeO.bind ?_ (fun _ => ?_)
def spec_HasCycle.T3 : Bool × List (List Nat × List Nat) := (true, [([], []), ([], []), ([1], [1]), ([], []), ([2, 3], [2, 3]), ([4], [4]), ([], []), ([6], [6]), ([], []), ([7, 8], [7, 8]), ([9], [9]), ([5, 10], [5, 10]), ([0, 11], [0, 11]), ([12, 12, 0, 1, 2, 3, 4, 5, 6, 7, 8, 9, 10, 11, 12], [12])])
def spec_HasCycle.B3 : List Nat := [0, 0, 2, 0, 14, 30, 0, 64, 0, 448, 960, 2046, 4095, 8191]
theorem spec_HasCycle.tab3 : rtab .any (opsOf Try.f36 3) = spec_HasCycle.T3 := by kernel_rfl
theorem spec_HasCycle.bits3 : waitsOk spec_HasCycle.T3.2 spec_HasCycle.B3 = true := by kernel_rfl
set_option maxHeartbeats 8000000 in
set_option maxRecDepth 100000 in
theorem spec_HasCycle.calls (k : Nat) (A0_0 : Option Addr) (c0_0 : Nat) (l0_0 : List Int) (A0_1 : Option Addr) (c0_1 : Nat) (l0_1 : List Int) (A0_2 : Option Addr) (c0_2 : Nat) (l0_2 : List Int) (a1 : Int) (r : Bool) (w : World) (hr0_0 : Kd.C (Kd.int .i64) w A0_0 l0_0.length l0_0) (hc0_0 : l0_0.length ≤ c0_0) (hr0_1 : Kd.C (Kd.int .i64) w A0_1 l0_1.length l0_1) (hc0_1 : l0_1.length ≤ c0_1) (hr0_2 : Kd.C (Kd.int .i64) w A0_2 l0_2.length l0_2) (hc0_2 : l0_2.length ≤ c0_2) (h : spec_HasCycle.f k l0_0 l0_1 l0_2 a1 = some r) :
  Calls Try.prog 36 #[.agg #[.slice A0_0 l0_0.length c0_0, .slice A0_1 l0_1.length c0_1, .slice A0_2 l0_2.length c0_2], .int .i64 a1] w fun e w' => e = .returned (.bool r) ∧ Below w.heap.size w w' := by
 have hu25 := Try.underlying25
 have HR0_0 := am hr0_0
 have HC0_0 := am hc0_0
 clear hr0_0 hc0_0
 have HR0_1 := am hr0_1
 have HC0_1 := am hc0_1
 clear hr0_1 hc0_1
 have HR0_2 := am hr0_2
 have HC0_2 := am hc0_2
 clear hr0_2 hc0_2
 have HB := am (Below.refl w.heap.size w)
 have H : ((spec_l1Cell.f k l0_0 l0_1 l0_2 a1).bind fun t777 => (if t777 = true then (if 0 ≤ a1 then (if a1 < (l0_0.length : Int) then (if a1 < (l0_1.length : Int) then ((spec_l2Distances.f k l0_0 l0_1 l0_2 (([rd l0_0 a1, rd l0_1 a1] : List Int))).bind fun t783 => (if a1 < (t783.length : Int) then (some (decide ((rd t783 a1) > 0))) else (none))) else (none)) else (none)) else (none)) else (some false))) = some r := h
 clear h
 replace H := Option.bind_eq_some_iff.mp H
 obtain ⟨t777, A30, H⟩ := H
 replace H : (if t777 = true then (if 0 ≤ a1 then (if a1 < (l0_0.length : Int) then (if a1 < (l0_1.length : Int) then ((spec_l2Distances.f k l0_0 l0_1 l0_2 (([rd l0_0 a1, rd l0_1 a1] : List Int))).bind fun t783 => (if a1 < (t783.length : Int) then (some (decide ((rd t783 a1) > 0))) else (none))) else (none)) else (none)) else (none)) else (some false)) = some r := H
 have A3 := am A30
 clear A30
 by_cases c4 : t777 = true
 ·subst c4
  have H1 : (if 0 ≤ a1 then (if a1 < (l0_0.length : Int) then (if a1 < (l0_1.length : Int) then ((spec_l2Distances.f k l0_0 l0_1 l0_2 (([rd l0_0 a1, rd l0_1 a1] : List Int))).bind fun t783 => (if a1 < (t783.length : Int) then (some (decide ((rd t783 a1) > 0))) else (none))) else (none)) else (none)) else (none)) = some r := by rw [if_pos rfl] at H; exact H
  clear H
  have H := H1
  clear H1
  by_cases c5 : 0 ≤ a1
  ·rw [if_pos c5] at H
   have c5b0 : decide (0 ≤ a1) = true := decide_eq_true c5
   clear c5
   by_cases c6 : a1 < (l0_0.length : Int)
   ·rw [if_pos c6] at H
    have c6b0 : decide (a1 < (l0_0.length : Int)) = true := decide_eq_true c6
    clear c6
    by_cases c7 : a1 < (l0_1.length : Int)
    ·rw [if_pos c7] at H
     have c7b0 : decide (a1 < (l0_1.length : Int)) = true := decide_eq_true c7
     clear c7
     obtain ⟨y780, hy780⟩ : ∃ y_ : List Int, y_ = (([rd l0_0 a1, rd l0_1 a1] : List Int)) := ⟨_, rfl⟩
     replace H : ((spec_l2Distances.f k l0_0 l0_1 l0_2 y780).bind fun t783 => (if a1 < (t783.length : Int) then (some (decide ((rd t783 a1) > 0))) else (none))) = some r := by first | (rw [hy780]; with_reducible exact H) | (have H2_ := (Option.bind_some _ _).symm.trans H; rw [hy780]; with_reducible exact H2_) | (have H2_ := (Option.bind_some _ _).symm.trans H; with_reducible exact H2_) | with_reducible exact H | (rw [hy780]; exact H) | exact H
     have Ny780 := am hy780
     clear hy780
     replace H := Option.bind_eq_some_iff.mp H
     obtain ⟨t783, A80, H⟩ := H
     replace H : (if a1 < (t783.length : Int) then (some (decide ((rd t783 a1) > 0))) else (none)) = some r := H
     have A8 := am A80
     clear A80
     by_cases c9 : a1 < (t783.length : Int)
     ·rw [if_pos c9] at H
      have c9b0 : decide (a1 < (t783.length : Int)) = true := decide_eq_true c9
      clear c9
      obtain rfl := Option.some.inj H
      go_enter Try.func36, Try.ntmps36
      try go_wp2_with (first | ((with_reducible refine gate_dst (N := 2) rfl ?_); refine box_event ?hg (N := 2) ?hd (cs := #[.slice A0_0 l0_0.length c0_0, .slice A0_1 l0_1.length c0_1, .slice A0_2 l0_2.length c0_2]) (t := 25) ?hr ?_; (case hd => rfl); (case hg => rfl); (case hr => first | (go_simp; done) | (go_simp; rfl)); intro gb776 hg w10 hbox hb; have BK776 := am (hbox); have GW776 := am ((by rw [hg]; exact (below_size (bl HB.out)) : w.heap.size ≤ gb776)); have GE776 := am ((by rw [hg]; exact (below_size (bl HB.out)) : w.heap.size ≤ gb776)); replace HB := am (below_step (bl HB.out) hb); clear hb hbox hg; have hcz11_0 : w10.cell? ⟨gb776, 0, none⟩ = some (.slice A0_0 l0_0.length c0_0) := (blk_cell BK776.out 0).trans rfl; have hcz11_1 : w10.cell? ⟨gb776, 1, none⟩ = some (.slice A0_1 l0_1.length c0_1) := (blk_cell BK776.out 1).trans rfl; have hcz11_2 : w10.cell? ⟨gb776, 2, none⟩ = some (.slice A0_2 l0_2.length c0_2) := (blk_cell BK776.out 2).trans rfl; have hfz11_0 := blk_frozen BK776.out 0; have hfz11_1 := blk_frozen BK776.out 1; have hfz11_2 := blk_frozen BK776.out 2) | ((with_reducible refine gate_callee (f := 54) rfl ?_); refine goesL_ (some 8) rfl rfl Try.func54 (by kernel_rfl) rfl #[.agg #[.slice A0_0 l0_0.length c0_0, .slice A0_1 l0_1.length c0_1, .slice A0_2 l0_2.length c0_2], .int .i64 a1] rfl (by (try simp only [List.map_toArray, List.map_cons, List.map_nil]); first | done | rfl | (simp only [List.length_drop, List.length_take]; rfl)) ?_; (with_reducible refine (spec_l1Cell.calls k _ _ l0_0 _ _ l0_1 _ _ l0_2 a1 true _ ?side1 ?side2 ?side3 ?side4 ?side5 ?side6 A3.out).mono ?_); (case side1 => exact cl (Kd.C_below HR0_0.out HB.out)); (case side2 => exact HC0_0.out); (case side3 => exact cl (Kd.C_below HR0_1.out HB.out)); (case side4 => exact HC0_1.out); (case side5 => exact cl (Kd.C_below HR0_2.out HB.out)); (case side6 => exact HC0_2.out); rintro e w12 ⟨rfl, hb⟩; refine ⟨_, rfl, ?_⟩; replace BK776 := am (blk_below (g := gb776) (o := .cells #[.slice A0_0 l0_0.length c0_0, .slice A0_1 l0_1.length c0_1, .slice A0_2 l0_2.length c0_2] 25 (0, 0)) (kl BK776.out) hb); replace HB := am (below_step (bs1 GE776.out HB.out) hb); (try clear hb); (try clear hb2); (try clear hk); (try clear hi)))
      replace BK776 := am (blk_drew BK776.out)
      replace HB := am (below_drew1 HB.out)
      have p778 : 0 ≤ (a1 : Int) := of_decide_eq_true (by first | (with_reducible assumption) | assumption)
      have q778 : a1 < (l0_0.length : Int) := of_decide_eq_true (by first | (with_reducible assumption) | assumption)
      obtain ⟨ad778, e778, hx778_0⟩ := Kd.at_int HR0_0.out a1 p778 q778
      have hw778_0 := hx778_0
      cases e778
      try (replace hx778_0 := (HB.out.cell (World.block_lt_of_cell? w _ hx778_0)).trans hx778_0)
      replace p778 := eq_true p778
      replace q778 := eq_true q778
      have p779 : 0 ≤ (a1 : Int) := of_decide_eq_true (by first | (with_reducible assumption) | assumption)
      have q779 : a1 < (l0_1.length : Int) := of_decide_eq_true (by first | (with_reducible assumption) | assumption)
      obtain ⟨ad779, e779, hx779_0⟩ := Kd.at_int HR0_1.out a1 p779 q779
      have hw779_0 := hx779_0
      cases e779
      try (replace hx779_0 := (HB.out.cell (World.block_lt_of_cell? w _ hx779_0)).trans hx779_0)
      replace p779 := eq_true p779
      replace q779 := eq_true q779
      refine start_ (n := 14) (S := fun w' => w'.cell? ⟨gb776, 0, none⟩ = some (.slice (some ad778) l0_0.length c0_0) ∧ w'.cell? ⟨gb776, 1, none⟩ = some (.slice (some ad779) l0_1.length c0_1) ∧ w'.cell? ⟨gb776, 2, none⟩ = some (.slice A0_2 l0_2.length c0_2) ∧ w'.cell? (ad778.add (a1).toNat) = some (.int .i64 (rd l0_0 a1)) ∧ w'.cell? (ad779.add (a1).toNat) = some (.int .i64 (rd l0_1 a1))) (ds := []) #[false, false, false, false, false, false, false, false, false, false, false, false, false, false] (by kernel_rfl) rfl rfl ⟨(blk_cell BK776.out 0).trans rfl, (blk_cell BK776.out 1).trans rfl, (blk_cell BK776.out 2).trans rfl, ((HB.out.cell (World.block_lt_of_cell? w _ hw778_0)).trans hw778_0), ((HB.out.cell (World.block_lt_of_cell? w _ hw779_0)).trans hw779_0)⟩ (fun hHeld => ?_); refine with_tabW spec_HasCycle.tab3 spec_HasCycle.bits3 (fun HT_ HW_ => ?_)
      generalize w12.drew = w13 at BK776 HB hx778_0 hx779_0 hHeld ⊢
      refine pure_ (i := 1) (N := some 11) (v := ?_) (a' := ?_) #[false, true, false, false, false, false, false, false, false, false, false, false, false, false] rfl rfl (any_of HT_.out (by kernel_rfl)) (fun _ _ _ h => h) (Or.inl ⟨by rfl, ?_⟩) ?_ ?_
      rotate_left
      ·intro w'
       go_simp
       with_reducible rfl
      rotate_left
      ·simp only [Act.put, List.setIfInBounds_toArray, List.set_cons_zero, List.set_cons_succ, i64_w, i32_w]
       rfl
      refine pure_ (i := 3) (N := some 13) (v := ?_) (a' := ?_) #[false, true, false, true, false, false, false, false, false, false, false, false, false, false] rfl rfl (any_of HT_.out (by kernel_rfl)) (fun _ _ _ h => h) (Or.inl ⟨by rfl, ?_⟩) ?_ ?_
      rotate_left
      ·intro w'
       go_simp
       with_reducible rfl
      rotate_left
      ·simp only [Act.put, List.setIfInBounds_toArray, List.set_cons_zero, List.set_cons_succ, i64_w, i32_w]
       rfl
      refine pure_ (i := 6) (N := some 16) (v := ?_) (a' := ?_) #[false, true, false, true, false, false, true, false, false, false, false, false, false, false] rfl rfl (any_of HT_.out (by kernel_rfl)) (fun _ _ _ h => h) (Or.inl ⟨by rfl, ?_⟩) ?_ ?_
      rotate_left
      ·intro w'
       go_simp
       with_reducible rfl
      rotate_left
      ·simp only [Act.put, List.setIfInBounds_toArray, List.set_cons_zero, List.set_cons_succ, i64_w, i32_w]
       rfl
      refine pure_ (i := 8) (N := some 18) (v := ?_) (a' := ?_) #[false, true, false, true, false, false, true, false, true, false, false, false, false, false] rfl rfl (any_of HT_.out (by kernel_rfl)) (fun _ _ _ h => h) (Or.inl ⟨by rfl, ?_⟩) ?_ ?_
      rotate_left
      ·intro w'
       go_simp
       with_reducible rfl
      rotate_left
      ·simp only [Act.put, List.setIfInBounds_toArray, List.set_cons_zero, List.set_cons_succ, i64_w, i32_w]
       rfl
      refine take_ (i := 0) (N := some 10) (v := ?_) (a' := ?_) #[true, true, false, true, false, false, true, false, true, false, false, false, false, false] rfl rfl (take_ofW HT_.out HW_.out (by kernel_rfl)) (fun _ _ _ h => h) (Or.inl ⟨by rfl, ?_⟩) hHeld ?_ ?_
      rotate_left
      ·rintro w' ⟨s0, s1, s2, s3, s4⟩
       go_simp
       with_reducible rfl
      rotate_left
      ·simp only [Act.put, List.setIfInBounds_toArray, List.set_cons_zero, List.set_cons_succ, i64_w, i32_w]
       rfl
      refine take_ (i := 2) (N := some 12) (v := ?_) (a' := ?_) #[true, true, true, true, false, false, true, false, true, false, false, false, false, false] rfl rfl (take_ofW HT_.out HW_.out (by kernel_rfl)) (fun _ _ _ h => h) (Or.inl ⟨by rfl, ?_⟩) hHeld ?_ ?_
      rotate_left
      ·rintro w' ⟨s0, s1, s2, s3, s4⟩
       go_simp
       with_reducible rfl
      rotate_left
      ·simp only [Act.put, List.setIfInBounds_toArray, List.set_cons_zero, List.set_cons_succ, i64_w, i32_w]
       rfl
      refine pure_ (i := 4) (N := some 14) (v := ?_) (a' := ?_) #[true, true, true, true, true, false, true, false, true, false, false, false, false, false] rfl rfl (any_of HT_.out (by kernel_rfl)) (fun _ _ _ h => h) (Or.inl ⟨by rfl, ?_⟩) ?_ ?_
      rotate_left
      ·intro w'
       go_simp
       with_reducible rfl
      rotate_left
      ·simp only [Act.put, List.setIfInBounds_toArray, List.set_cons_zero, List.set_cons_succ, i64_w, i32_w]
       rfl
      refine take_ (i := 5) (N := some 15) (v := ?_) (a' := ?_) #[true, true, true, true, true, true, true, false, true, false, false, false, false, false] rfl rfl (take_ofW HT_.out HW_.out (by kernel_rfl)) (fun _ _ _ h => h) (Or.inl ⟨by rfl, ?_⟩) hHeld ?_ ?_
      rotate_left
      ·rintro w' ⟨s0, s1, s2, s3, s4⟩
       go_simp
       with_reducible rfl
      rotate_left
      ·simp only [Act.put, List.setIfInBounds_toArray, List.set_cons_zero, List.set_cons_succ, i64_w, i32_w]
       rfl
      refine take_ (i := 7) (N := some 17) (v := ?_) (a' := ?_) #[true, true, true, true, true, true, true, true, true, false, false, false, false, false] rfl rfl (take_ofW HT_.out HW_.out (by kernel_rfl)) (fun _ _ _ h => h) (Or.inl ⟨by rfl, ?_⟩) hHeld ?_ ?_
      rotate_left
      ·rintro w' ⟨s0, s1, s2, s3, s4⟩
       go_simp
       with_reducible rfl
      rotate_left
      ·simp only [Act.put, List.setIfInBounds_toArray, List.set_cons_zero, List.set_cons_succ, i64_w, i32_w]
       rfl
      refine pure_ (i := 9) (N := some 19) (v := ?_) (a' := ?_) #[true, true, true, true, true, true, true, true, true, true, false, false, false, false] rfl rfl (any_of HT_.out (by kernel_rfl)) (fun _ _ _ h => h) (Or.inl ⟨by rfl, ?_⟩) ?_ ?_
      rotate_left
      ·intro w'
       go_simp
       with_reducible rfl
      rotate_left
      ·simp only [Act.put, List.setIfInBounds_toArray, List.set_cons_zero, List.set_cons_succ, i64_w, i32_w]
       rfl
      refine take_ (i := 10) (N := some 20) (v := ?_) (a' := ?_) #[true, true, true, true, true, true, true, true, true, true, true, false, false, false] rfl rfl (take_ofW HT_.out HW_.out (by kernel_rfl)) (fun _ _ _ h => h) (Or.inl ⟨by rfl, ?_⟩) hHeld ?_ ?_
      rotate_left
      ·rintro w' ⟨s0, s1, s2, s3, s4⟩
       go_simp
       with_reducible rfl
      rotate_left
      ·simp only [Act.put, List.setIfInBounds_toArray, List.set_cons_zero, List.set_cons_succ, i64_w, i32_w]
       rfl
      refine one_ (i := 11) (N := some 21) #[true, true, true, true, true, true, true, true, true, true, true, true, false, false] rfl rfl (one_of HT_.out (by kernel_rfl)) (by decide) (fun K hK => ?_)
      refine Kd.R_lit_step (Kd.int .i64) _ 3 ?hg (N := 21) ?hd (xs := ([rd l0_0 a1, rd l0_1 a1] : List Int)) (inner := [.int .i64 (rd l0_0 a1), .int .i64 (rd l0_1 a1)]) (ok := fun _ => True) (okp := fun _ => True) ?hr ?hp (fun _ hk => hk) trivial (Below.refl _ _) (Nat.le_refl _) (by simp) ?_; (case hd => rfl); (case hg => rfl); (case hr => first | (go_simp; done) | (go_simp; rfl)); (case hp => exact (Reps.one (show Kd.M (Kd.int .i64) _ _ _ (rd l0_0 a1) [.int .i64 (rd l0_0 a1)] from rfl) (Reps.one (show Kd.M (Kd.int .i64) _ _ _ (rd l0_1 a1) [.int .i64 (rd l0_1 a1)] from rfl) (Reps.none _ _))))
      intro v781 w14 ho15 hb hg_ hnew_
      clear hg_ hnew_
      (first | rw [← Ny780.out] at ho15 | (simp only [Int.reduceToNat] at ho15; rw [← Ny780.out] at ho15))
      have HO782 := am (Kd.R_lower ho15 (below_size (bs1 GE776.out HB.out)))
      replace BK776 := am (blk_below (g := gb776) (o := .cells #[.slice (some ad778) l0_0.length c0_0, .slice (some ad779) l0_1.length c0_1, .slice A0_2 l0_2.length c0_2] 25 (0, 0)) (kl BK776.out) hb)
      replace HB := am (below_step (bs1 GE776.out HB.out) hb)
      clear hb ho15
      obtain ⟨Ao16, co16, eo16⟩ := Kd.R_slice HO782.out
      (first | subst eo16 | (injection eo16 with f1_ f2_ f3_; have f4_ := f1_.symm; have f5_ := f3_.symm; clear f1_ f2_ f3_; subst f4_; subst f5_))
      refine hK.out _ _ ⟨(blk_cell BK776.out 0).trans rfl, (blk_cell BK776.out 1).trans rfl, (blk_cell BK776.out 2).trans rfl, ((HB.out.cell (World.block_lt_of_cell? w _ hw778_0)).trans hw778_0), ((HB.out.cell (World.block_lt_of_cell? w _ hw779_0)).trans hw779_0)⟩ (fun hHeld => ?_)
      clear hK K
      refine norm_ (a' := ?_) ?_ ?_
      rotate_left
      ·show Act.put _ (some 21) _ = _
       simp only [Act.put, List.setIfInBounds_toArray, List.set_cons_zero, List.set_cons_succ, i64_w, i32_w]
       rfl
      refine one_ (i := 12) (N := some 22) #[true, true, true, true, true, true, true, true, true, true, true, true, true, false] rfl rfl (one_of HT_.out (by kernel_rfl)) (by decide) (fun K hK => ?_)
      refine goes_ Try.func66 (by kernel_rfl) rfl #[.agg #[.slice (some ad778) l0_0.length c0_0, .slice (some ad779) l0_1.length c0_1, .slice A0_2 l0_2.length c0_2], .slice Ao16 y780.length co16] (by rfl) rfl rfl (by (try simp only [List.map_toArray, List.map_cons, List.map_nil]); first | done | rfl | (simp only [List.length_drop, List.length_take]; rfl)) ?_
      with_reducible refine (spec_l2Distances.calls k _ _ l0_0 _ _ l0_1 _ _ l0_2 _ _ y780 t783 _ ?side1 ?side2 ?side3 ?side4 ?side5 ?side6 ?side7 ?side8 A8.out).mono ?_
      (case side1 => exact cl (Kd.C_below HR0_0.out HB.out))
      (case side2 => exact HC0_0.out)
      (case side3 => exact cl (Kd.C_below HR0_1.out HB.out))
      (case side4 => exact HC0_1.out)
      (case side5 => exact cl (Kd.C_below HR0_2.out HB.out))
      (case side6 => exact HC0_2.out)
      (case side7 => exact cl ((Kd.R_reads' HO782.out).2.2))
      (case side8 => exact (Kd.R_reads' HO782.out).2.1)
      rintro e w17 ⟨v784, rfl, ho0, hb⟩
      refine ⟨_, rfl, ?_⟩
      have HO785 := am (Kd.R_lower (Kd.R_new' ho0 (Kd.R_lt (rl HO782.out))) (below_size (bs1 GE776.out HB.out)))
      replace HO782 := am (Kd.R_elder' (rl HO782.out) (Kd.R_base ho0) hb)
      replace BK776 := am (blk_below (g := gb776) (o := .cells #[.slice (some ad778) l0_0.length c0_0, .slice (some ad779) l0_1.length c0_1, .slice A0_2 l0_2.length c0_2] 25 (0, 0)) (kl BK776.out) hb)
      replace HB := am (below_step (bs1 GE776.out HB.out) hb)
      (try clear hb)
      (try clear hb2)
      (try clear hk)
      (try clear hi)
      (try clear ho0)
      refine hK.out _ _ ⟨(blk_cell BK776.out 0).trans rfl, (blk_cell BK776.out 1).trans rfl, (blk_cell BK776.out 2).trans rfl, ((HB.out.cell (World.block_lt_of_cell? w _ hw778_0)).trans hw778_0), ((HB.out.cell (World.block_lt_of_cell? w _ hw779_0)).trans hw779_0)⟩ (fun hHeld => ?_)
      clear hK K
      refine norm_ (a' := ?_) ?_ ?_
      rotate_left
      ·show Act.put _ (some 22) _ = _
       simp only [Act.put, List.setIfInBounds_toArray, List.set_cons_zero, List.set_cons_succ, i64_w, i32_w]
       rfl
      refine pure_ (i := 13) (N := some 5) (v := ?_) (a' := ?_) #[true, true, true, true, true, true, true, true, true, true, true, true, true, true] rfl rfl (any_of HT_.out (by kernel_rfl)) (fun _ _ _ h => h) (Or.inl ⟨by rfl, ?_⟩) ?_ ?_
      rotate_left
      ·intro w'
       go_simp
       with_reducible rfl
      rotate_left
      ·simp only [Act.put, List.setIfInBounds_toArray, List.set_cons_zero, List.set_cons_succ, i64_w, i32_w]
       rfl
      refine done_ (done_of HT_.out (by kernel_rfl)) ?_
      obtain ⟨Ao18, co18, eo18⟩ := Kd.R_slice HO785.out
      subst eo18
      have p786 : 0 ≤ (a1 : Int) := of_decide_eq_true (by first | (with_reducible assumption) | assumption)
      have q786 : a1 < (t783.length : Int) := of_decide_eq_true (by first | (with_reducible assumption) | assumption)
      obtain ⟨ad786, e786, hx786_0⟩ := Kd.at_int (Kd.R_reads' HO785.out).2.2 a1 p786 q786
      cases e786
      replace p786 := eq_true p786
      replace q786 := eq_true q786
      try go_wp2
      go_ret
      exact ⟨by first | rfl | (simp [errW_none, errW_some] <;> rfl) | (simp [*, errW_none, errW_some] <;> rfl), by exact bs1 GE776.out HB.out⟩
     ·rw [if_neg c9] at H
      exact absurd H (by simp)
    ·rw [if_neg c7] at H
     exact absurd H (by simp)
   ·rw [if_neg c6] at H
    exact absurd H (by simp)
  ·rw [if_neg c5] at H
   exact absurd H (by simp)
 ·replace c4 := Bool.eq_false_iff.mpr c4
  subst c4
  have H1 : (some false) = some r := by rw [if_neg (show ¬ (false = true) by decide)] at H; exact H
  clear H
  have H := H1
  clear H1
  obtain rfl := Option.some.inj H
  go_enter Try.func36, Try.ntmps36
  go_wp2_with (first | ((with_reducible refine gate_dst (N := 2) rfl ?_); refine box_event ?hg (N := 2) ?hd (cs := #[.slice A0_0 l0_0.length c0_0, .slice A0_1 l0_1.length c0_1, .slice A0_2 l0_2.length c0_2]) (t := 25) ?hr ?_; (case hd => rfl); (case hg => rfl); (case hr => first | (go_simp; done) | (go_simp; rfl)); intro gb776 hg w19 hbox hb; have BK776 := am (hbox); have GW776 := am ((by rw [hg]; exact (below_size (bl HB.out)) : w.heap.size ≤ gb776)); have GE776 := am ((by rw [hg]; exact (below_size (bl HB.out)) : w.heap.size ≤ gb776)); replace HB := am (below_step (bl HB.out) hb); clear hb hbox hg; have hcz20_0 : w19.cell? ⟨gb776, 0, none⟩ = some (.slice A0_0 l0_0.length c0_0) := (blk_cell BK776.out 0).trans rfl; have hcz20_1 : w19.cell? ⟨gb776, 1, none⟩ = some (.slice A0_1 l0_1.length c0_1) := (blk_cell BK776.out 1).trans rfl; have hcz20_2 : w19.cell? ⟨gb776, 2, none⟩ = some (.slice A0_2 l0_2.length c0_2) := (blk_cell BK776.out 2).trans rfl; have hfz20_0 := blk_frozen BK776.out 0; have hfz20_1 := blk_frozen BK776.out 1; have hfz20_2 := blk_frozen BK776.out 2) | ((with_reducible refine gate_callee (f := 54) rfl ?_); refine goesL_ (some 8) rfl rfl Try.func54 (by kernel_rfl) rfl #[.agg #[.slice A0_0 l0_0.length c0_0, .slice A0_1 l0_1.length c0_1, .slice A0_2 l0_2.length c0_2], .int .i64 a1] rfl (by (try simp only [List.map_toArray, List.map_cons, List.map_nil]); first | done | rfl | (simp only [List.length_drop, List.length_take]; rfl)) ?_; (with_reducible refine (spec_l1Cell.calls k _ _ l0_0 _ _ l0_1 _ _ l0_2 a1 false _ ?side1 ?side2 ?side3 ?side4 ?side5 ?side6 A3.out).mono ?_); (case side1 => exact cl (Kd.C_below HR0_0.out HB.out)); (case side2 => exact HC0_0.out); (case side3 => exact cl (Kd.C_below HR0_1.out HB.out)); (case side4 => exact HC0_1.out); (case side5 => exact cl (Kd.C_below HR0_2.out HB.out)); (case side6 => exact HC0_2.out); rintro e w21 ⟨rfl, hb⟩; refine ⟨_, rfl, ?_⟩; replace BK776 := am (blk_below (g := gb776) (o := .cells #[.slice A0_0 l0_0.length c0_0, .slice A0_1 l0_1.length c0_1, .slice A0_2 l0_2.length c0_2] 25 (0, 0)) (kl BK776.out) hb); replace HB := am (below_step (bs1 GE776.out HB.out) hb); (try clear hb); (try clear hb2); (try clear hk); (try clear hi)))
  go_ret
  exact ⟨by first | rfl | (simp [errW_none, errW_some] <;> rfl) | (simp [*, errW_none, errW_some] <;> rfl), by exact bs1 GE776.out HB.out⟩

end Go.Proofs.Ytcofdgeelojebab.A
