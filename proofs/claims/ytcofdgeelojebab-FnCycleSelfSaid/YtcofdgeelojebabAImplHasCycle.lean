/- Contracts of functions of the given program (AImplHasCycle). No conditions beyond those stated. -/
import Derived.Test.YtcofdgeelojebabA0
import Derived.Test.YtcofdgeelojebabAImplDistances
import Derived.Test.YtcofdgeelojebabAImplHas
import Derived.Test.YtcofdgeelojebabA0
namespace Go.Proofs.Ytcofdgeelojebab.A
open Go.RowKit Go.Proofs.YtcofdgeelojebabW.PrintWords Go.Proofs.YtcofdgeelojebabW.PrintLast Go.Proofs.YtcofdgeelojebabW.PrintMore
attribute [local go_sem] max2_int min2_int max_two min_two max_three min_three max_four min_four   -- for this text's walks alone
set_option linter.unusedVariables false
set_option linter.unusedSimpArgs false

/-! ### impl_HasCycle -/
def impl_HasCycle.f (k : Nat) (l0_0 : List Int) (l0_1 : List Int) (l0_2 : List Int) (a1 : Int) : Option (Bool) := (impl_has.f k l0_0 l0_1 l0_2 a1).bind fun t766 => (if t766 = true then (if 0 ≤ a1 then (if a1 < (l0_0.length : Int) then (if a1 < (l0_1.length : Int) then ((impl_distances.f l0_0 l0_1 (([rd l0_0 a1, rd l0_1 a1] : List Int))).bind fun t772 => (if a1 < (t772.length : Int) then (some (decide ((rd t772 a1) > 0))) else (none))) else (none)) else (none)) else (none)) else (some false))
theorem impl_HasCycle.mono : ∀ a0 a1 a2 a3 k, LeO (impl_HasCycle.f k a0 a1 a2 a3) (impl_HasCycle.f (k + 1) a0 a1 a2 a3) := by
 intro a0 a1 a2 a3 k
 unfold impl_HasCycle.f
 repeat' first
   | (with_reducible exact impl_has.mono _ _ _ _ _)
   | (with_reducible exact LeO.refl _)
   | (with_reducible exact LeO.none _)
   | (with_reducible refine LeO.ite ?_ ?_)
   | (with_reducible refine LeO.bind ?_ (fun _ => ?_))
   | exact impl_has.mono _ _ _ _ _
   | exact LeO.none _
   | refine LeO.ite ?_ ?_
   | refine LeO.bind ?_ (fun _ => ?_)
def impl_HasCycle.T3 : Bool × List (List Nat × List Nat) := (true, [([], []), ([0], [0]), ([], []), ([1, 2], [1, 2]), ([3], [3]), ([], []), ([5], [5]), ([], []), ([6, 7], [6, 7]), ([8], [8]), ([4, 9], [4, 9]), ([0, 1, 2, 3, 4, 5, 6, 7, 8, 9, 10], []), ([11, 10, 0, 1, 2, 3, 4, 5, 6, 7, 8, 9, 10], [10, 11])])
def impl_HasCycle.B3 : List Nat := [0, 1, 0, 7, 15, 0, 32, 0, 224, 480, 1023, 2047, 4095]
theorem impl_HasCycle.tab3 : rtab .any (opsOf Try.f35 3) = impl_HasCycle.T3 := by kernel_rfl
theorem impl_HasCycle.bits3 : waitsOk impl_HasCycle.T3.2 impl_HasCycle.B3 = true := by kernel_rfl
set_option maxHeartbeats 8000000 in
set_option maxRecDepth 100000 in
theorem impl_HasCycle.calls (k : Nat) (A0_0 : Option Addr) (c0_0 : Nat) (l0_0 : List Int) (A0_1 : Option Addr) (c0_1 : Nat) (l0_1 : List Int) (A0_2 : Option Addr) (c0_2 : Nat) (l0_2 : List Int) (a1 : Int) (r : Bool) (w : World) (hr0_0 : Kd.C (Kd.int .i64) w A0_0 l0_0.length l0_0) (hc0_0 : l0_0.length ≤ c0_0) (hr0_1 : Kd.C (Kd.int .i64) w A0_1 l0_1.length l0_1) (hc0_1 : l0_1.length ≤ c0_1) (hr0_2 : Kd.C (Kd.int .i64) w A0_2 l0_2.length l0_2) (hc0_2 : l0_2.length ≤ c0_2) (h : impl_HasCycle.f k l0_0 l0_1 l0_2 a1 = some r) :
  Calls Try.prog 35 #[.agg #[.slice A0_0 l0_0.length c0_0, .slice A0_1 l0_1.length c0_1, .slice A0_2 l0_2.length c0_2], .int .i64 a1] w fun e w' => e = .returned (.bool r) ∧ Below w.heap.size w w' := by
 have hu25 := Try.underlying25
 have HR0_0 := am hr0_0
 have HC0_0 := am hc0_0
 clear hr0_0 hc0_0
 have HR0_1 := am hr0_1
 have HC0_1 := am hc0_1
 clear hr0_1 hc0_1
 have HR0_2 := am hr0_2
 have HC0_2 := am hc0_2
 clear hr0_2 hc0_2
 have HB := am (Below.refl w.heap.size w)
 have H : ((impl_has.f k l0_0 l0_1 l0_2 a1).bind fun t766 => (if t766 = true then (if 0 ≤ a1 then (if a1 < (l0_0.length : Int) then (if a1 < (l0_1.length : Int) then ((impl_distances.f l0_0 l0_1 (([rd l0_0 a1, rd l0_1 a1] : List Int))).bind fun t772 => (if a1 < (t772.length : Int) then (some (decide ((rd t772 a1) > 0))) else (none))) else (none)) else (none)) else (none)) else (some false))) = some r := h
 clear h
 replace H := Option.bind_eq_some_iff.mp H
 obtain ⟨t766, A30, H⟩ := H
 replace H : (if t766 = true then (if 0 ≤ a1 then (if a1 < (l0_0.length : Int) then (if a1 < (l0_1.length : Int) then ((impl_distances.f l0_0 l0_1 (([rd l0_0 a1, rd l0_1 a1] : List Int))).bind fun t772 => (if a1 < (t772.length : Int) then (some (decide ((rd t772 a1) > 0))) else (none))) else (none)) else (none)) else (none)) else (some false)) = some r := H
 have A3 := am A30
 clear A30
 by_cases c4 : t766 = true
 ·subst c4
  have H1 : (if 0 ≤ a1 then (if a1 < (l0_0.length : Int) then (if a1 < (l0_1.length : Int) then ((impl_distances.f l0_0 l0_1 (([rd l0_0 a1, rd l0_1 a1] : List Int))).bind fun t772 => (if a1 < (t772.length : Int) then (some (decide ((rd t772 a1) > 0))) else (none))) else (none)) else (none)) else (none)) = some r := by rw [if_pos rfl] at H; exact H
  clear H
  have H := H1
  clear H1
  by_cases c5 : 0 ≤ a1
  ·rw [if_pos c5] at H
   have c5b0 : decide (0 ≤ a1) = true := decide_eq_true c5
   clear c5
   by_cases c6 : a1 < (l0_0.length : Int)
   ·rw [if_pos c6] at H
    have c6b0 : decide (a1 < (l0_0.length : Int)) = true := decide_eq_true c6
    clear c6
    by_cases c7 : a1 < (l0_1.length : Int)
    ·rw [if_pos c7] at H
     have c7b0 : decide (a1 < (l0_1.length : Int)) = true := decide_eq_true c7
     clear c7
     obtain ⟨y769, hy769⟩ : ∃ y_ : List Int, y_ = (([rd l0_0 a1, rd l0_1 a1] : List Int)) := ⟨_, rfl⟩
     replace H : ((impl_distances.f l0_0 l0_1 y769).bind fun t772 => (if a1 < (t772.length : Int) then (some (decide ((rd t772 a1) > 0))) else (none))) = some r := by first | (rw [hy769]; with_reducible exact H) | (have H2_ := (Option.bind_some _ _).symm.trans H; rw [hy769]; with_reducible exact H2_) | (have H2_ := (Option.bind_some _ _).symm.trans H; with_reducible exact H2_) | with_reducible exact H | (rw [hy769]; exact H) | exact H
     have Ny769 := am hy769
     clear hy769
     replace H := Option.bind_eq_some_iff.mp H
     obtain ⟨t772, A80, H⟩ := H
     replace H : (if a1 < (t772.length : Int) then (some (decide ((rd t772 a1) > 0))) else (none)) = some r := H
     have A8 := am A80
     clear A80
     by_cases c9 : a1 < (t772.length : Int)
     ·rw [if_pos c9] at H
      have c9b0 : decide (a1 < (t772.length : Int)) = true := decide_eq_true c9
      clear c9
      obtain rfl := Option.some.inj H
      go_enter Try.func35, Try.ntmps35
      try go_wp2_with (first | ((with_reducible refine gate_dst (N := 2) rfl ?_); refine box_event ?hg (N := 2) ?hd (cs := #[.slice A0_0 l0_0.length c0_0, .slice A0_1 l0_1.length c0_1, .slice A0_2 l0_2.length c0_2]) (t := 25) ?hr ?_; (case hd => rfl); (case hg => rfl); (case hr => first | (go_simp; done) | (go_simp; rfl)); intro gb765 hg w10 hbox hb; have BK765 := am (hbox); have GW765 := am ((by rw [hg]; exact (below_size (bl HB.out)) : w.heap.size ≤ gb765)); have GE765 := am ((by rw [hg]; exact (below_size (bl HB.out)) : w.heap.size ≤ gb765)); replace HB := am (below_step (bl HB.out) hb); clear hb hbox hg; have hcz11_0 : w10.cell? ⟨gb765, 0, none⟩ = some (.slice A0_0 l0_0.length c0_0) := (blk_cell BK765.out 0).trans rfl; have hcz11_1 : w10.cell? ⟨gb765, 1, none⟩ = some (.slice A0_1 l0_1.length c0_1) := (blk_cell BK765.out 1).trans rfl; have hcz11_2 : w10.cell? ⟨gb765, 2, none⟩ = some (.slice A0_2 l0_2.length c0_2) := (blk_cell BK765.out 2).trans rfl; have hfz11_0 := blk_frozen BK765.out 0; have hfz11_1 := blk_frozen BK765.out 1; have hfz11_2 := blk_frozen BK765.out 2) | ((with_reducible refine gate_callee (f := 51) rfl ?_); refine goesL_ (some 7) rfl rfl Try.func51 (by kernel_rfl) rfl #[.agg #[.slice A0_0 l0_0.length c0_0, .slice A0_1 l0_1.length c0_1, .slice A0_2 l0_2.length c0_2], .int .i64 a1] rfl (by (try simp only [List.map_toArray, List.map_cons, List.map_nil]); first | done | rfl | (simp only [List.length_drop, List.length_take]; rfl)) ?_; (with_reducible refine (impl_has.calls k _ _ l0_0 _ _ l0_1 _ _ l0_2 a1 true _ ?side1 ?side2 ?side3 ?side4 ?side5 ?side6 A3.out).mono ?_); (case side1 => exact cl (Kd.C_below HR0_0.out HB.out)); (case side2 => exact HC0_0.out); (case side3 => exact cl (Kd.C_below HR0_1.out HB.out)); (case side4 => exact HC0_1.out); (case side5 => exact cl (Kd.C_below HR0_2.out HB.out)); (case side6 => exact HC0_2.out); rintro e w12 ⟨rfl, hb⟩; refine ⟨_, rfl, ?_⟩; replace BK765 := am (blk_below (g := gb765) (o := .cells #[.slice A0_0 l0_0.length c0_0, .slice A0_1 l0_1.length c0_1, .slice A0_2 l0_2.length c0_2] 25 (0, 0)) (kl BK765.out) hb); replace HB := am (below_step (bs1 GE765.out HB.out) hb); (try clear hb); (try clear hb2); (try clear hk); (try clear hi)))
      replace BK765 := am (blk_drew BK765.out)
      replace HB := am (below_drew1 HB.out)
      have p767 : 0 ≤ (a1 : Int) := of_decide_eq_true (by first | (with_reducible assumption) | assumption)
      have q767 : a1 < (l0_0.length : Int) := of_decide_eq_true (by first | (with_reducible assumption) | assumption)
      obtain ⟨ad767, e767, hx767_0⟩ := Kd.at_int HR0_0.out a1 p767 q767
      have hw767_0 := hx767_0
      cases e767
      try (replace hx767_0 := (HB.out.cell (World.block_lt_of_cell? w _ hx767_0)).trans hx767_0)
      replace p767 := eq_true p767
      replace q767 := eq_true q767
      have p768 : 0 ≤ (a1 : Int) := of_decide_eq_true (by first | (with_reducible assumption) | assumption)
      have q768 : a1 < (l0_1.length : Int) := of_decide_eq_true (by first | (with_reducible assumption) | assumption)
      obtain ⟨ad768, e768, hx768_0⟩ := Kd.at_int HR0_1.out a1 p768 q768
      have hw768_0 := hx768_0
      cases e768
      try (replace hx768_0 := (HB.out.cell (World.block_lt_of_cell? w _ hx768_0)).trans hx768_0)
      replace p768 := eq_true p768
      replace q768 := eq_true q768
      refine start_ (n := 13) (S := fun w' => w'.cell? ⟨gb765, 0, none⟩ = some (.slice (some ad767) l0_0.length c0_0) ∧ w'.cell? ⟨gb765, 1, none⟩ = some (.slice (some ad768) l0_1.length c0_1) ∧ w'.cell? ⟨gb765, 2, none⟩ = some (.slice A0_2 l0_2.length c0_2) ∧ w'.cell? (ad767.add (a1).toNat) = some (.int .i64 (rd l0_0 a1)) ∧ w'.cell? (ad768.add (a1).toNat) = some (.int .i64 (rd l0_1 a1))) (ds := [12]) #[false, false, false, false, false, false, false, false, false, false, false, false, false] (by kernel_rfl) rfl rfl ⟨(blk_cell BK765.out 0).trans rfl, (blk_cell BK765.out 1).trans rfl, (blk_cell BK765.out 2).trans rfl, ((HB.out.cell (World.block_lt_of_cell? w _ hw767_0)).trans hw767_0), ((HB.out.cell (World.block_lt_of_cell? w _ hw768_0)).trans hw768_0)⟩ (fun hHeld => ?_); refine with_tabW impl_HasCycle.tab3 impl_HasCycle.bits3 (fun HT_ HW_ => ?_)
      generalize w12.drew = w13 at BK765 HB hx767_0 hx768_0 hHeld ⊢
      refine pure_ (i := 0) (N := some 9) (v := ?_) (a' := ?_) #[true, false, false, false, false, false, false, false, false, false, false, false, false] rfl rfl (any_of HT_.out (by kernel_rfl)) (fun _ _ _ h => h) (Or.inl ⟨by rfl, ?_⟩) ?_ ?_
      rotate_left
      ·intro w'
       go_simp
       with_reducible rfl
      rotate_left
      ·simp only [Act.put, List.setIfInBounds_toArray, List.set_cons_zero, List.set_cons_succ, i64_w, i32_w]
       rfl
      refine pure_ (i := 2) (N := some 11) (v := ?_) (a' := ?_) #[true, false, true, false, false, false, false, false, false, false, false, false, false] rfl rfl (any_of HT_.out (by kernel_rfl)) (fun _ _ _ h => h) (Or.inl ⟨by rfl, ?_⟩) ?_ ?_
      rotate_left
      ·intro w'
       go_simp
       with_reducible rfl
      rotate_left
      ·simp only [Act.put, List.setIfInBounds_toArray, List.set_cons_zero, List.set_cons_succ, i64_w, i32_w]
       rfl
      refine pure_ (i := 5) (N := some 14) (v := ?_) (a' := ?_) #[true, false, true, false, false, true, false, false, false, false, false, false, false] rfl rfl (any_of HT_.out (by kernel_rfl)) (fun _ _ _ h => h) (Or.inl ⟨by rfl, ?_⟩) ?_ ?_
      rotate_left
      ·intro w'
       go_simp
       with_reducible rfl
      rotate_left
      ·simp only [Act.put, List.setIfInBounds_toArray, List.set_cons_zero, List.set_cons_succ, i64_w, i32_w]
       rfl
      refine pure_ (i := 7) (N := some 16) (v := ?_) (a' := ?_) #[true, false, true, false, false, true, false, true, false, false, false, false, false] rfl rfl (any_of HT_.out (by kernel_rfl)) (fun _ _ _ h => h) (Or.inl ⟨by rfl, ?_⟩) ?_ ?_
      rotate_left
      ·intro w'
       go_simp
       with_reducible rfl
      rotate_left
      ·simp only [Act.put, List.setIfInBounds_toArray, List.set_cons_zero, List.set_cons_succ, i64_w, i32_w]
       rfl
      refine take_ (i := 1) (N := some 10) (v := ?_) (a' := ?_) #[true, true, true, false, false, true, false, true, false, false, false, false, false] rfl rfl (take_ofW HT_.out HW_.out (by kernel_rfl)) (fun _ _ _ h => h) (Or.inl ⟨by rfl, ?_⟩) hHeld ?_ ?_
      rotate_left
      ·rintro w' ⟨s0, s1, s2, s3, s4⟩
       go_simp
       with_reducible rfl
      rotate_left
      ·simp only [Act.put, List.setIfInBounds_toArray, List.set_cons_zero, List.set_cons_succ, i64_w, i32_w]
       rfl
      refine pure_ (i := 3) (N := some 12) (v := ?_) (a' := ?_) #[true, true, true, true, false, true, false, true, false, false, false, false, false] rfl rfl (any_of HT_.out (by kernel_rfl)) (fun _ _ _ h => h) (Or.inl ⟨by rfl, ?_⟩) ?_ ?_
      rotate_left
      ·intro w'
       go_simp
       with_reducible rfl
      rotate_left
      ·simp only [Act.put, List.setIfInBounds_toArray, List.set_cons_zero, List.set_cons_succ, i64_w, i32_w]
       rfl
      refine take_ (i := 4) (N := some 13) (v := ?_) (a' := ?_) #[true, true, true, true, true, true, false, true, false, false, false, false, false] rfl rfl (take_ofW HT_.out HW_.out (by kernel_rfl)) (fun _ _ _ h => h) (Or.inl ⟨by rfl, ?_⟩) hHeld ?_ ?_
      rotate_left
      ·rintro w' ⟨s0, s1, s2, s3, s4⟩
       go_simp
       with_reducible rfl
      rotate_left
      ·simp only [Act.put, List.setIfInBounds_toArray, List.set_cons_zero, List.set_cons_succ, i64_w, i32_w]
       rfl
      refine take_ (i := 6) (N := some 15) (v := ?_) (a' := ?_) #[true, true, true, true, true, true, true, true, false, false, false, false, false] rfl rfl (take_ofW HT_.out HW_.out (by kernel_rfl)) (fun _ _ _ h => h) (Or.inl ⟨by rfl, ?_⟩) hHeld ?_ ?_
      rotate_left
      ·rintro w' ⟨s0, s1, s2, s3, s4⟩
       go_simp
       with_reducible rfl
      rotate_left
      ·simp only [Act.put, List.setIfInBounds_toArray, List.set_cons_zero, List.set_cons_succ, i64_w, i32_w]
       rfl
      refine pure_ (i := 8) (N := some 17) (v := ?_) (a' := ?_) #[true, true, true, true, true, true, true, true, true, false, false, false, false] rfl rfl (any_of HT_.out (by kernel_rfl)) (fun _ _ _ h => h) (Or.inl ⟨by rfl, ?_⟩) ?_ ?_
      rotate_left
      ·intro w'
       go_simp
       with_reducible rfl
      rotate_left
      ·simp only [Act.put, List.setIfInBounds_toArray, List.set_cons_zero, List.set_cons_succ, i64_w, i32_w]
       rfl
      refine take_ (i := 9) (N := some 18) (v := ?_) (a' := ?_) #[true, true, true, true, true, true, true, true, true, true, false, false, false] rfl rfl (take_ofW HT_.out HW_.out (by kernel_rfl)) (fun _ _ _ h => h) (Or.inl ⟨by rfl, ?_⟩) hHeld ?_ ?_
      rotate_left
      ·rintro w' ⟨s0, s1, s2, s3, s4⟩
       go_simp
       with_reducible rfl
      rotate_left
      ·simp only [Act.put, List.setIfInBounds_toArray, List.set_cons_zero, List.set_cons_succ, i64_w, i32_w]
       rfl
      refine one_ (i := 10) (N := some 19) #[true, true, true, true, true, true, true, true, true, true, true, false, false] rfl rfl (one_of HT_.out (by kernel_rfl)) (by decide) (fun K hK => ?_)
      refine Kd.R_lit_step (Kd.int .i64) _ 3 ?hg (N := 19) ?hd (xs := ([rd l0_0 a1, rd l0_1 a1] : List Int)) (inner := [.int .i64 (rd l0_0 a1), .int .i64 (rd l0_1 a1)]) (ok := fun _ => True) (okp := fun _ => True) ?hr ?hp (fun _ hk => hk) trivial (Below.refl _ _) (Nat.le_refl _) (by simp) ?_; (case hd => rfl); (case hg => rfl); (case hr => first | (go_simp; done) | (go_simp; rfl)); (case hp => exact (Reps.one (show Kd.M (Kd.int .i64) _ _ _ (rd l0_0 a1) [.int .i64 (rd l0_0 a1)] from rfl) (Reps.one (show Kd.M (Kd.int .i64) _ _ _ (rd l0_1 a1) [.int .i64 (rd l0_1 a1)] from rfl) (Reps.none _ _))))
      intro v770 w14 ho15 hb hg_ hnew_
      clear hg_ hnew_
      (first | rw [← Ny769.out] at ho15 | (simp only [Int.reduceToNat] at ho15; rw [← Ny769.out] at ho15))
      have HO771 := am (Kd.R_lower ho15 (below_size (bs1 GE765.out HB.out)))
      replace BK765 := am (blk_below (g := gb765) (o := .cells #[.slice (some ad767) l0_0.length c0_0, .slice (some ad768) l0_1.length c0_1, .slice A0_2 l0_2.length c0_2] 25 (0, 0)) (kl BK765.out) hb)
      replace HB := am (below_step (bs1 GE765.out HB.out) hb)
      clear hb ho15
      obtain ⟨Ao16, co16, eo16⟩ := Kd.R_slice HO771.out
      (first | subst eo16 | (injection eo16 with f1_ f2_ f3_; have f4_ := f1_.symm; have f5_ := f3_.symm; clear f1_ f2_ f3_; subst f4_; subst f5_))
      refine hK.out _ _ ⟨(blk_cell BK765.out 0).trans rfl, (blk_cell BK765.out 1).trans rfl, (blk_cell BK765.out 2).trans rfl, ((HB.out.cell (World.block_lt_of_cell? w _ hw767_0)).trans hw767_0), ((HB.out.cell (World.block_lt_of_cell? w _ hw768_0)).trans hw768_0)⟩ (fun hHeld => ?_)
      clear hK K
      refine norm_ (a' := ?_) ?_ ?_
      rotate_left
      ·show Act.put _ (some 19) _ = _
       simp only [Act.put, List.setIfInBounds_toArray, List.set_cons_zero, List.set_cons_succ, i64_w, i32_w]
       rfl
      refine pure_ (i := 11) (N := some 20) (v := ?_) (a' := ?_) #[true, true, true, true, true, true, true, true, true, true, true, true, false] rfl rfl (any_of HT_.out (by kernel_rfl)) (fun _ _ _ h => h) (Or.inl ⟨by rfl, ?_⟩) ?_ ?_
      rotate_left
      ·intro w'
       go_simp
       with_reducible rfl
      rotate_left
      ·simp only [Act.put, List.setIfInBounds_toArray, List.set_cons_zero, List.set_cons_succ, i64_w, i32_w]
       rfl
      refine last_ (i := 12) (N := none) #[true, true, true, true, true, true, true, true, true, true, true, true, true] rfl rfl (one_of HT_.out (by kernel_rfl)) (by decide) (fun K hK => ?_)
      have hs17 : w14.cell? ⟨gb765, 2, none⟩ = some (.slice A0_2 l0_2.length c0_2) := (blk_cell BK765.out 2).trans rfl
      have hfs17 := blk_frozen BK765.out 2
      refine skip_ (w1 := ?_) (by rfl) rfl ?_ ?_
      rotate_left
      ·go_simp
       rfl
      refine hK.out _ _ ?_
      clear hK K
      refine done_ (done_of HT_.out (by kernel_rfl)) ?_
      have hcz18_0 : w14.cell? ⟨gb765, 0, none⟩ = some (.slice (some ad767) l0_0.length c0_0) := (blk_cell BK765.out 0).trans rfl
      have hcz18_1 : w14.cell? ⟨gb765, 1, none⟩ = some (.slice (some ad768) l0_1.length c0_1) := (blk_cell BK765.out 1).trans rfl
      have hcz18_2 : w14.cell? ⟨gb765, 2, none⟩ = some (.slice A0_2 l0_2.length c0_2) := (blk_cell BK765.out 2).trans rfl
      have hfz18_0 := blk_frozen BK765.out 0
      have hfz18_1 := blk_frozen BK765.out 1
      have hfz18_2 := blk_frozen BK765.out 2
      try go_wp2_with (first | ((with_reducible refine gate_callee (f := 60) rfl ?_); refine goesL_ (some 22) rfl rfl Try.func60 (by kernel_rfl) rfl #[.agg #[.slice (some ad767) l0_0.length c0_0, .slice (some ad768) l0_1.length c0_1, .slice Ao16 y769.length co16]] rfl (by (try simp only [List.map_toArray, List.map_cons, List.map_nil]); first | done | rfl | (simp only [List.length_drop, List.length_take]; rfl)) ?_; (with_reducible refine (impl_distances.calls _ _ l0_0 _ _ l0_1 _ _ y769 t772 _ ?side1 ?side2 ?side3 ?side4 ?side5 ?side6 A8.out).mono ?_); (case side1 => exact Kd.C_below HR0_0.out (bs1 GE765.out HB.out)); (case side2 => exact HC0_0.out); (case side3 => exact Kd.C_below HR0_1.out (bs1 GE765.out HB.out)); (case side4 => exact HC0_1.out); (case side5 => exact (Kd.R_reads' (rl ((Kd.R_mono (Kd.R_far (p := ⟨gb765, 2, none⟩) (Kd.R_types HO771.out BK765.out (by decide)) (fun _ hk => hk.2) (.slice Ao16 y769.length co16)) (fun _ h_ => h_.1))))).2.2); (case side6 => exact (Kd.R_reads' HO771.out).2.1); rintro e w19 ⟨v773, rfl, ho0, hb⟩; refine ⟨_, rfl, ?_⟩; have HO774 := am (Kd.R_lower (Kd.R_new' ho0 (Kd.R_lt (rl ((Kd.R_mono (Kd.R_far (p := ⟨gb765, 2, none⟩) (Kd.R_types HO771.out BK765.out (by decide)) (fun _ hk => hk.2) (.slice Ao16 y769.length co16)) (fun _ h_ => h_.1)))))) (below_size (bs1 GE765.out HB.out))); replace HO771 := am (Kd.R_elder' (rl ((Kd.R_mono (Kd.R_far (p := ⟨gb765, 2, none⟩) (Kd.R_types HO771.out BK765.out (by decide)) (fun _ hk => hk.2) (.slice Ao16 y769.length co16)) (fun _ h_ => h_.1)))) (Kd.R_base ho0) hb); replace BK765 := am (blk_below (g := gb765) (o := .cells #[.slice (some ad767) l0_0.length c0_0, .slice (some ad768) l0_1.length c0_1, .slice Ao16 y769.length co16] 25 (0, 0)) (by (with_reducible repeat (first | refine blk_drewN ?_ _ | refine blk_drew ?_ | refine blk_alloc ?_ _)); refine blk_put (cs := #[.slice (some ad767) l0_0.length c0_0, .slice (some ad768) l0_1.length c0_1, .slice A0_2 l0_2.length c0_2]) ?_ 2 _ rfl; (with_reducible repeat (first | refine blk_drewN ?_ _ | refine blk_drew ?_ | refine blk_alloc ?_ _)); exact BK765.out) hb); replace HB := am (below_step (bs1 GE765.out HB.out) hb); (try clear hb); (try clear hb2); (try clear hk); (try clear hi); (try clear ho0); obtain ⟨Ao20, co20, eo20⟩ := Kd.R_slice HO774.out; subst eo20; have p775 : 0 ≤ (a1 : Int) := of_decide_eq_true (by first | (with_reducible assumption) | assumption); have q775 : a1 < (t772.length : Int) := of_decide_eq_true (by first | (with_reducible assumption) | assumption); obtain ⟨ad775, e775, hx775_0⟩ := Kd.at_int (Kd.R_reads' HO774.out).2.2 a1 p775 q775; cases e775; replace p775 := eq_true p775; replace q775 := eq_true q775))
      go_ret
      exact ⟨by first | rfl | (simp [errW_none, errW_some] <;> rfl) | (simp [*, errW_none, errW_some] <;> rfl), by exact bs1 GE765.out HB.out⟩
     ·rw [if_neg c9] at H
      exact absurd H (by simp)
    ·rw [if_neg c7] at H
     exact absurd H (by simp)
   ·rw [if_neg c6] at H
    exact absurd H (by simp)
  ·rw [if_neg c5] at H
   exact absurd H (by simp)
 ·replace c4 := Bool.eq_false_iff.mpr c4
  subst c4
  have H1 : (some false) = some r := by rw [if_neg (show ¬ (false = true) by decide)] at H; exact H
  clear H
  have H := H1
  clear H1
  obtain rfl := Option.some.inj H
  go_enter Try.func35, Try.ntmps35
  go_wp2_with (first | ((with_reducible refine gate_dst (N := 2) rfl ?_); refine box_event ?hg (N := 2) ?hd (cs := #[.slice A0_0 l0_0.length c0_0, .slice A0_1 l0_1.length c0_1, .slice A0_2 l0_2.length c0_2]) (t := 25) ?hr ?_; (case hd => rfl); (case hg => rfl); (case hr => first | (go_simp; done) | (go_simp; rfl)); intro gb765 hg w21 hbox hb; have BK765 := am (hbox); have GW765 := am ((by rw [hg]; exact (below_size (bl HB.out)) : w.heap.size ≤ gb765)); have GE765 := am ((by rw [hg]; exact (below_size (bl HB.out)) : w.heap.size ≤ gb765)); replace HB := am (below_step (bl HB.out) hb); clear hb hbox hg; have hcz22_0 : w21.cell? ⟨gb765, 0, none⟩ = some (.slice A0_0 l0_0.length c0_0) := (blk_cell BK765.out 0).trans rfl; have hcz22_1 : w21.cell? ⟨gb765, 1, none⟩ = some (.slice A0_1 l0_1.length c0_1) := (blk_cell BK765.out 1).trans rfl; have hcz22_2 : w21.cell? ⟨gb765, 2, none⟩ = some (.slice A0_2 l0_2.length c0_2) := (blk_cell BK765.out 2).trans rfl; have hfz22_0 := blk_frozen BK765.out 0; have hfz22_1 := blk_frozen BK765.out 1; have hfz22_2 := blk_frozen BK765.out 2) | ((with_reducible refine gate_callee (f := 51) rfl ?_); refine goesL_ (some 7) rfl rfl Try.func51 (by kernel_rfl) rfl #[.agg #[.slice A0_0 l0_0.length c0_0, .slice A0_1 l0_1.length c0_1, .slice A0_2 l0_2.length c0_2], .int .i64 a1] rfl (by (try simp only [List.map_toArray, List.map_cons, List.map_nil]); first | done | rfl | (simp only [List.length_drop, List.length_take]; rfl)) ?_; (with_reducible refine (impl_has.calls k _ _ l0_0 _ _ l0_1 _ _ l0_2 a1 false _ ?side1 ?side2 ?side3 ?side4 ?side5 ?side6 A3.out).mono ?_); (case side1 => exact cl (Kd.C_below HR0_0.out HB.out)); (case side2 => exact HC0_0.out); (case side3 => exact cl (Kd.C_below HR0_1.out HB.out)); (case side4 => exact HC0_1.out); (case side5 => exact cl (Kd.C_below HR0_2.out HB.out)); (case side6 => exact HC0_2.out); rintro e w23 ⟨rfl, hb⟩; refine ⟨_, rfl, ?_⟩; replace BK765 := am (blk_below (g := gb765) (o := .cells #[.slice A0_0 l0_0.length c0_0, .slice A0_1 l0_1.length c0_1, .slice A0_2 l0_2.length c0_2] 25 (0, 0)) (kl BK765.out) hb); replace HB := am (below_step (bs1 GE765.out HB.out) hb); (try clear hb); (try clear hb2); (try clear hk); (try clear hi)))
  go_ret
  exact ⟨by first | rfl | (simp [errW_none, errW_some] <;> rfl) | (simp [*, errW_none, errW_some] <;> rfl), by exact bs1 GE765.out HB.out⟩

end Go.Proofs.Ytcofdgeelojebab.A
