/- Contracts of functions of the given program (ASpecCountPointers). No conditions beyond those stated. -/
import Derived.Test.YtghgpinhghhlgaaA0
import Derived.Test.YtghgpinhghhlgaaASpecHeapValid
import Derived.Test.YtghgpinhghhlgaaA0
namespace Go.Proofs.Ytghgpinhghhlgaa.A
open Go.RowKit Go.Proofs.YtghgpinhghhlgaaW.PrintWords Go.Proofs.YtghgpinhghhlgaaW.PrintLast Go.Proofs.YtghgpinhghhlgaaW.PrintMore
attribute [local go_sem] max2_int min2_int max_two min_two max_three min_three max_four min_four   -- for this text's walks alone
set_option linter.unusedVariables false
set_option linter.unusedSimpArgs false

/-! ### spec_CountPointers -/
def spec_CountPointers.l0 : Nat → Int → List Int → Int → Option (Int)
 | 0, _, _, _ => none
 | k + 1, x3, x4, x5 => if x5 < (x4.length : Int) then (if 0 ≤ x5 then (if (rd x4 x5) = (-1) then (spec_CountPointers.l0 k x3 x4 (wrap64 (x5 + 1))) else (spec_CountPointers.l0 k (wrap64 (x3 + 1)) x4 (wrap64 (x5 + 1)))) else (none)) else (some x3)
def spec_CountPointers.f (k : Nat) (l0_0 : List Int) (l0_1 : List Int) (l0_2 : List Int) : Option (Int) := (spec_HeapValid.f k l0_0 l0_1 l0_2).bind fun t931 => (if t931 = true then ((some (([] : List Int) : List Int)).bind fun y932 => (if y932.length + l0_0.length < 17592186044416 then ((some (y932 ++ l0_0 : List Int)).bind fun y935 => (if y935.length + l0_1.length < 17592186044416 then ((some (y935 ++ l0_1 : List Int)).bind fun y938 => (if y938.length + l0_2.length < 17592186044416 then (spec_CountPointers.l0 k 0 (y938 ++ l0_2) 0) else (none))) else (none))) else (none))) else (some 0))
theorem spec_CountPointers.mono_l : ∀ k, (∀ y0 y1 y2, LeO (spec_CountPointers.l0 k y0 y1 y2) (spec_CountPointers.l0 (k + 1) y0 y1 y2))
 | 0 => fun _ _ _ r h => by simp [spec_CountPointers.l0] at h
 | k + 1 => by
  have ih0 := spec_CountPointers.mono_l k
  ·intro y0 y1 y2
   unfold spec_CountPointers.l0
   repeat' first
   | (with_reducible exact ih0 _ _ _)
   | (with_reducible exact spec_HeapValid.mono _ _ _ _)
   | (with_reducible exact LeO.refl _)
   | (with_reducible exact LeO.none _)
   | (with_reducible refine LeO.ite ?_ ?_)
   | (with_reducible refine LeO.bind ?_ (fun _ => ?_))
   | exact ih0 _ _ _
   | exact spec_HeapValid.mono _ _ _ _
   | exact LeO.none _
   | refine LeO.ite ?_ ?_
   | refine LeO.bind ?_ (fun _ => ?_)
theorem spec_CountPointers.mono : ∀ a0 a1 a2 k, LeO (spec_CountPointers.f k a0 a1 a2) (spec_CountPointers.f (k + 1) a0 a1 a2) := by
 intro a0 a1 a2 k
 have ih0 := spec_CountPointers.mono_l k
 unfold spec_CountPointers.f
 repeat' first
   | (with_reducible exact ih0 _ _ _)
   | (with_reducible exact spec_HeapValid.mono _ _ _ _)
   | (with_reducible exact LeO.refl _)
   | (with_reducible exact LeO.none _)
   | (with_reducible refine LeO.ite ?_ ?_)
   | (with_reducible refine LeO.bind ?_ (fun _ => ?_))
   | exact ih0 _ _ _
   | exact spec_HeapValid.mono _ _ _ _
   | exact LeO.none _
   | refine LeO.ite ?_ ?_
   | refine LeO.bind ?_ (fun _ => ?_)
def spec_CountPointers.T4 : Bool × List (List Nat × List Nat) := (true, [([], []), ([], []), ([1], [1]), ([0, 2], [0, 2]), ([], []), ([4], [4]), ([3, 5, 3], [3, 5]), ([], []), ([7], [7]), ([6, 8, 6], [6, 8]), ([9, 9, 0, 1, 2, 3, 4, 5, 6, 7, 8, 9], [9])])
def spec_CountPointers.B4 : List Nat := [0, 0, 2, 7, 0, 16, 63, 0, 128, 511, 1023]
theorem spec_CountPointers.tab4 : rtab .any (opsOf Try.f34 4) = spec_CountPointers.T4 := by kernel_rfl
theorem spec_CountPointers.bits4 : waitsOk spec_CountPointers.T4.2 spec_CountPointers.B4 = true := by kernel_rfl
set_option maxHeartbeats 8000000 in
set_option maxRecDepth 100000 in
theorem spec_CountPointers.calls (k : Nat) (A0_0 : Option Addr) (c0_0 : Nat) (l0_0 : List Int) (A0_1 : Option Addr) (c0_1 : Nat) (l0_1 : List Int) (A0_2 : Option Addr) (c0_2 : Nat) (l0_2 : List Int) (r : Int) (w : World) (hr0_0 : Kd.C (Kd.int .i64) w A0_0 l0_0.length l0_0) (hc0_0 : l0_0.length ≤ c0_0) (hr0_1 : Kd.C (Kd.int .i64) w A0_1 l0_1.length l0_1) (hc0_1 : l0_1.length ≤ c0_1) (hr0_2 : Kd.C (Kd.int .i64) w A0_2 l0_2.length l0_2) (hc0_2 : l0_2.length ≤ c0_2) (h : spec_CountPointers.f k l0_0 l0_1 l0_2 = some r) :
  Calls Try.prog 34 #[.agg #[.slice A0_0 l0_0.length c0_0, .slice A0_1 l0_1.length c0_1, .slice A0_2 l0_2.length c0_2]] w fun e w' => e = .returned (.int .i64 r) ∧ Below w.heap.size w w' := by
 have hu25 := Try.underlying25
 have HR0_0 := am hr0_0
 have HC0_0 := am hc0_0
 clear hr0_0 hc0_0
 have HR0_1 := am hr0_1
 have HC0_1 := am hc0_1
 clear hr0_1 hc0_1
 have HR0_2 := am hr0_2
 have HC0_2 := am hc0_2
 clear hr0_2 hc0_2
 have HB := am (Below.refl w.heap.size w)
 have H : ((spec_HeapValid.f k l0_0 l0_1 l0_2).bind fun t931 => (if t931 = true then ((some (([] : List Int) : List Int)).bind fun y932 => (if y932.length + l0_0.length < 17592186044416 then ((some (y932 ++ l0_0 : List Int)).bind fun y935 => (if y935.length + l0_1.length < 17592186044416 then ((some (y935 ++ l0_1 : List Int)).bind fun y938 => (if y938.length + l0_2.length < 17592186044416 then (spec_CountPointers.l0 k 0 (y938 ++ l0_2) 0) else (none))) else (none))) else (none))) else (some 0))) = some r := h
 clear h
 replace H := Option.bind_eq_some_iff.mp H
 obtain ⟨t931, A20, H⟩ := H
 replace H : (if t931 = true then ((some (([] : List Int) : List Int)).bind fun y932 => (if y932.length + l0_0.length < 17592186044416 then ((some (y932 ++ l0_0 : List Int)).bind fun y935 => (if y935.length + l0_1.length < 17592186044416 then ((some (y935 ++ l0_1 : List Int)).bind fun y938 => (if y938.length + l0_2.length < 17592186044416 then (spec_CountPointers.l0 k 0 (y938 ++ l0_2) 0) else (none))) else (none))) else (none))) else (some 0)) = some r := H
 have A2 := am A20
 clear A20
 by_cases c3 : t931 = true
 ·subst c3
  have H1 : ((some (([] : List Int) : List Int)).bind fun y932 => (if y932.length + l0_0.length < 17592186044416 then ((some (y932 ++ l0_0 : List Int)).bind fun y935 => (if y935.length + l0_1.length < 17592186044416 then ((some (y935 ++ l0_1 : List Int)).bind fun y938 => (if y938.length + l0_2.length < 17592186044416 then (spec_CountPointers.l0 k 0 (y938 ++ l0_2) 0) else (none))) else (none))) else (none))) = some r := by rw [if_pos rfl] at H; exact H
  clear H
  have H := H1
  clear H1
  obtain ⟨y932, hy932⟩ : ∃ y_ : List Int, y_ = (([] : List Int)) := ⟨_, rfl⟩
  replace H : (if y932.length + l0_0.length < 17592186044416 then ((some (y932 ++ l0_0 : List Int)).bind fun y935 => (if y935.length + l0_1.length < 17592186044416 then ((some (y935 ++ l0_1 : List Int)).bind fun y938 => (if y938.length + l0_2.length < 17592186044416 then (spec_CountPointers.l0 k 0 (y938 ++ l0_2) 0) else (none))) else (none))) else (none)) = some r := by first | (rw [hy932]; with_reducible exact H) | (have H2_ := (Option.bind_some _ _).symm.trans H; rw [hy932]; with_reducible exact H2_) | (have H2_ := (Option.bind_some _ _).symm.trans H; with_reducible exact H2_) | with_reducible exact H | (rw [hy932]; exact H) | exact H
  have Ny932 := am hy932
  clear hy932
  by_cases c4 : y932.length + l0_0.length < 17592186044416
  ·rw [if_pos c4] at H
   have LMc4 := am c4
   clear c4
   obtain ⟨y935, hy935⟩ : ∃ y_ : List Int, y_ = (y932 ++ l0_0) := ⟨_, rfl⟩
   replace H : (if y935.length + l0_1.length < 17592186044416 then ((some (y935 ++ l0_1 : List Int)).bind fun y938 => (if y938.length + l0_2.length < 17592186044416 then (spec_CountPointers.l0 k 0 (y938 ++ l0_2) 0) else (none))) else (none)) = some r := by first | (rw [hy935]; with_reducible exact H) | (have H2_ := (Option.bind_some _ _).symm.trans H; rw [hy935]; with_reducible exact H2_) | (have H2_ := (Option.bind_some _ _).symm.trans H; with_reducible exact H2_) | with_reducible exact H | (rw [hy935]; exact H) | exact H
   have Ny935 := am hy935
   clear hy935
   by_cases c5 : y935.length + l0_1.length < 17592186044416
   ·rw [if_pos c5] at H
    have LMc5 := am c5
    clear c5
    obtain ⟨y938, hy938⟩ : ∃ y_ : List Int, y_ = (y935 ++ l0_1) := ⟨_, rfl⟩
    replace H : (if y938.length + l0_2.length < 17592186044416 then (spec_CountPointers.l0 k 0 (y938 ++ l0_2) 0) else (none)) = some r := by first | (rw [hy938]; with_reducible exact H) | (have H2_ := (Option.bind_some _ _).symm.trans H; rw [hy938]; with_reducible exact H2_) | (have H2_ := (Option.bind_some _ _).symm.trans H; with_reducible exact H2_) | with_reducible exact H | (rw [hy938]; exact H) | exact H
    have Ny938 := am hy938
    clear hy938
    by_cases c6 : y938.length + l0_2.length < 17592186044416
    ·rw [if_pos c6] at H
     have LMc6 := am c6
     clear c6
     obtain ⟨y941, hy941⟩ : ∃ y_ : List Int, y_ = (y938 ++ l0_2) := ⟨_, rfl⟩
     replace H : (spec_CountPointers.l0 k 0 y941 0) = some r := by first | (rw [hy941]; with_reducible exact H) | (have H2_ := (Option.bind_some _ _).symm.trans H; rw [hy941]; with_reducible exact H2_) | (have H2_ := (Option.bind_some _ _).symm.trans H; with_reducible exact H2_) | with_reducible exact H | (rw [hy941]; exact H) | exact H
     have Ny941 := am hy941
     clear hy941
     have H' := am H
     clear H
     go_enter Try.func34, Try.ntmps34
     try go_wp2_with (first | ((with_reducible refine gate_dst (N := 1) rfl ?_); refine box_event ?hg (N := 1) ?hd (cs := #[.slice A0_0 l0_0.length c0_0, .slice A0_1 l0_1.length c0_1, .slice A0_2 l0_2.length c0_2]) (t := 25) ?hr ?_; (case hd => rfl); (case hg => rfl); (case hr => first | (go_simp; done) | (go_simp; rfl)); intro gb930 hg w7 hbox hb; have BK930 := am (hbox); have GW930 := am ((by rw [hg]; exact (below_size (bl HB.out)) : w.heap.size ≤ gb930)); have GE930 := am ((by rw [hg]; exact (below_size (bl HB.out)) : w.heap.size ≤ gb930)); replace HB := am (below_step (bl HB.out) hb); clear hb hbox hg; have hcz8_0 : w7.cell? ⟨gb930, 0, none⟩ = some (.slice A0_0 l0_0.length c0_0) := (blk_cell BK930.out 0).trans rfl; have hcz8_1 : w7.cell? ⟨gb930, 1, none⟩ = some (.slice A0_1 l0_1.length c0_1) := (blk_cell BK930.out 1).trans rfl; have hcz8_2 : w7.cell? ⟨gb930, 2, none⟩ = some (.slice A0_2 l0_2.length c0_2) := (blk_cell BK930.out 2).trans rfl; have hfz8_0 := blk_frozen BK930.out 0; have hfz8_1 := blk_frozen BK930.out 1; have hfz8_2 := blk_frozen BK930.out 2) | ((with_reducible refine gate_callee (f := 37) rfl ?_); refine goesL_ (some 7) rfl rfl Try.func37 (by kernel_rfl) rfl #[.agg #[.slice A0_0 l0_0.length c0_0, .slice A0_1 l0_1.length c0_1, .slice A0_2 l0_2.length c0_2]] rfl (by (try simp only [List.map_toArray, List.map_cons, List.map_nil]); first | done | rfl | (simp only [List.length_drop, List.length_take]; rfl)) ?_; (with_reducible refine (spec_HeapValid.calls k _ _ l0_0 _ _ l0_1 _ _ l0_2 true _ ?side1 ?side2 ?side3 ?side4 ?side5 ?side6 A2.out).mono ?_); (case side1 => exact cl (Kd.C_below HR0_0.out HB.out)); (case side2 => exact HC0_0.out); (case side3 => exact cl (Kd.C_below HR0_1.out HB.out)); (case side4 => exact HC0_1.out); (case side5 => exact cl (Kd.C_below HR0_2.out HB.out)); (case side6 => exact HC0_2.out); rintro e w9 ⟨rfl, hb⟩; refine ⟨_, rfl, ?_⟩; replace BK930 := am (blk_below (g := gb930) (o := .cells #[.slice A0_0 l0_0.length c0_0, .slice A0_1 l0_1.length c0_1, .slice A0_2 l0_2.length c0_2] 25 (0, 0)) (kl BK930.out) hb); replace HB := am (below_step (bs1 GE930.out HB.out) hb); (try clear hb); (try clear hb2); (try clear hk); (try clear hi)))
     replace BK930 := am (blk_drew BK930.out)
     replace HB := am (below_drew1 HB.out)
     refine start_ (n := 11) (S := fun w' => w'.cell? ⟨gb930, 0, none⟩ = some (.slice A0_0 l0_0.length c0_0) ∧ w'.cell? ⟨gb930, 1, none⟩ = some (.slice A0_1 l0_1.length c0_1) ∧ w'.cell? ⟨gb930, 2, none⟩ = some (.slice A0_2 l0_2.length c0_2)) (ds := []) #[false, false, false, false, false, false, false, false, false, false, false] (by kernel_rfl) rfl rfl ⟨(blk_cell BK930.out 0).trans rfl, (blk_cell BK930.out 1).trans rfl, (blk_cell BK930.out 2).trans rfl⟩ (fun hHeld => ?_); refine with_tabW spec_CountPointers.tab4 spec_CountPointers.bits4 (fun HT_ HW_ => ?_)
     generalize w9.drew = w10 at BK930 HB hHeld ⊢
     refine pure_ (i := 1) (N := some 10) (v := ?_) (a' := ?_) #[false, true, false, false, false, false, false, false, false, false, false] rfl rfl (any_of HT_.out (by kernel_rfl)) (fun _ _ _ h => h) (Or.inl ⟨by rfl, ?_⟩) ?_ ?_
     rotate_left
     ·intro w'
      go_simp
      with_reducible rfl
     rotate_left
     ·simp only [Act.put, List.setIfInBounds_toArray, List.set_cons_zero, List.set_cons_succ, i64_w, i32_w]
      rfl
     refine pure_ (i := 4) (N := some 13) (v := ?_) (a' := ?_) #[false, true, false, false, true, false, false, false, false, false, false] rfl rfl (any_of HT_.out (by kernel_rfl)) (fun _ _ _ h => h) (Or.inl ⟨by rfl, ?_⟩) ?_ ?_
     rotate_left
     ·intro w'
      go_simp
      with_reducible rfl
     rotate_left
     ·simp only [Act.put, List.setIfInBounds_toArray, List.set_cons_zero, List.set_cons_succ, i64_w, i32_w]
      rfl
     refine pure_ (i := 7) (N := some 16) (v := ?_) (a' := ?_) #[false, true, false, false, true, false, false, true, false, false, false] rfl rfl (any_of HT_.out (by kernel_rfl)) (fun _ _ _ h => h) (Or.inl ⟨by rfl, ?_⟩) ?_ ?_
     rotate_left
     ·intro w'
      go_simp
      with_reducible rfl
     rotate_left
     ·simp only [Act.put, List.setIfInBounds_toArray, List.set_cons_zero, List.set_cons_succ, i64_w, i32_w]
      rfl
     refine take_ (i := 2) (N := some 11) (v := ?_) (a' := ?_) #[false, true, true, false, true, false, false, true, false, false, false] rfl rfl (take_ofW HT_.out HW_.out (by kernel_rfl)) (fun _ _ _ h => h) (Or.inl ⟨by rfl, ?_⟩) hHeld ?_ ?_
     rotate_left
     ·rintro w' ⟨s0, s1, s2⟩
      go_simp
      with_reducible rfl
     rotate_left
     ·simp only [Act.put, List.setIfInBounds_toArray, List.set_cons_zero, List.set_cons_succ, i64_w, i32_w]
      rfl
     refine take_ (i := 5) (N := some 14) (v := ?_) (a' := ?_) #[false, true, true, false, true, true, false, true, false, false, false] rfl rfl (take_ofW HT_.out HW_.out (by kernel_rfl)) (fun _ _ _ h => h) (Or.inl ⟨by rfl, ?_⟩) hHeld ?_ ?_
     rotate_left
     ·rintro w' ⟨s0, s1, s2⟩
      go_simp
      with_reducible rfl
     rotate_left
     ·simp only [Act.put, List.setIfInBounds_toArray, List.set_cons_zero, List.set_cons_succ, i64_w, i32_w]
      rfl
     refine take_ (i := 8) (N := some 17) (v := ?_) (a' := ?_) #[false, true, true, false, true, true, false, true, true, false, false] rfl rfl (take_ofW HT_.out HW_.out (by kernel_rfl)) (fun _ _ _ h => h) (Or.inl ⟨by rfl, ?_⟩) hHeld ?_ ?_
     rotate_left
     ·rintro w' ⟨s0, s1, s2⟩
      go_simp
      with_reducible rfl
     rotate_left
     ·simp only [Act.put, List.setIfInBounds_toArray, List.set_cons_zero, List.set_cons_succ, i64_w, i32_w]
      rfl
     refine one_ (i := 0) (N := some 9) #[true, true, true, false, true, true, false, true, true, false, false] rfl rfl (one_of HT_.out (by kernel_rfl)) (by decide) (fun K hK => ?_)
     refine Kd.R_lit_step (Kd.int .i64) _ 3 ?hg (N := 9) ?hd (xs := ([] : List Int)) (inner := []) (ok := fun _ => True) (okp := fun _ => True) ?hr ?hp (fun _ hk => hk) trivial (Below.refl _ _) (Nat.le_refl _) (by simp) ?_; (case hd => rfl); (case hg => rfl); (case hr => first | (go_simp; done) | (go_simp; rfl)); (case hp => exact (Reps.none _ _))
     intro v933 w11 ho12 hb hg_ hnew_
     clear hg_ hnew_
     (first | rw [← Ny932.out] at ho12 | (simp only [Int.reduceToNat] at ho12; rw [← Ny932.out] at ho12))
     have HO934 := am (Kd.R_lower ho12 (below_size (bs1 GE930.out HB.out)))
     replace BK930 := am (blk_below (g := gb930) (o := .cells #[.slice A0_0 l0_0.length c0_0, .slice A0_1 l0_1.length c0_1, .slice A0_2 l0_2.length c0_2] 25 (0, 0)) (kl BK930.out) hb)
     replace HB := am (below_step (bs1 GE930.out HB.out) hb)
     clear hb ho12
     refine hK.out _ _ ⟨(blk_cell BK930.out 0).trans rfl, (blk_cell BK930.out 1).trans rfl, (blk_cell BK930.out 2).trans rfl⟩ (fun hHeld => ?_)
     clear hK K
     refine norm_ (a' := ?_) ?_ ?_
     rotate_left
     ·show Act.put _ (some 9) _ = _
      simp only [Act.put, List.setIfInBounds_toArray, List.set_cons_zero, List.set_cons_succ, i64_w, i32_w]
      rfl
     refine one_ (i := 3) (N := some 12) #[true, true, true, true, true, true, false, true, true, false, false] rfl rfl (one_of HT_.out (by kernel_rfl)) (by decide) (fun K hK => ?_)
     refine Kd.R_append_rows_step (Kd.int .i64) (w0 := w) w.heap.size (by rfl) (.tmp 9) (.tmp 11) 23 3 (.int .i64 0) 8 rfl Try.underlying23 info3 rfl (by decide) (by omega) v933 y932 l0_0 _ _ _ (fun _ => True) (fun _ => False) rfl rfl ?aO ?aR (fun _ _ h => h) (fun _ h => h.elim) ?aF ?aB ?aS ?aL ?_
     (case aR => exact cl (Kd.C_below HR0_0.out HB.out))
     (case aB => exact (bs1 GE930.out HB.out))
     (case aF => exact (fun _ _ => trivial))
     (case aO => exact (rl HO934.out))
     (case aS => exact (below_size (bs1 GE930.out HB.out)))
     (case aL => have := LMc4.out; omega)
     intro v936 w13 ho hb hg hat
     rw [← Ny935.out] at ho
     replace BK930 := am (blk_grown (g := gb930) (o := .cells #[.slice A0_0 l0_0.length c0_0, .slice A0_1 l0_1.length c0_1, .slice A0_2 l0_2.length c0_2] 25 (0, 0)) (kl BK930.out) hg (Kd.R_ne HO934.out BK930.out (by decide)))
     replace HB := am (hb)
     have HO937 := am (ho)
     clear HO934
     clear ho hb hg hat
     refine hK.out _ _ ⟨(blk_cell BK930.out 0).trans rfl, (blk_cell BK930.out 1).trans rfl, (blk_cell BK930.out 2).trans rfl⟩ (fun hHeld => ?_)
     clear hK K
     refine norm_ (a' := ?_) ?_ ?_
     rotate_left
     ·show Act.put _ (some 12) _ = _
      simp only [Act.put, List.setIfInBounds_toArray, List.set_cons_zero, List.set_cons_succ, i64_w, i32_w]
      rfl
     refine one_ (i := 6) (N := some 15) #[true, true, true, true, true, true, true, true, true, false, false] rfl rfl (one_of HT_.out (by kernel_rfl)) (by decide) (fun K hK => ?_)
     refine Kd.R_append_rows_step (Kd.int .i64) (w0 := w) w.heap.size (by rfl) (.tmp 12) (.tmp 14) 23 3 (.int .i64 0) 8 rfl Try.underlying23 info3 rfl (by decide) (by omega) v936 y935 l0_1 _ _ _ (fun _ => True) (fun _ => False) rfl rfl ?aO ?aR (fun _ _ h => h) (fun _ h => h.elim) ?aF ?aB ?aS ?aL ?_
     (case aR => exact cl (Kd.C_below HR0_1.out HB.out))
     (case aB => exact (bs1 GE930.out HB.out))
     (case aF => exact (fun _ _ => trivial))
     (case aO => exact (rl HO937.out))
     (case aS => exact (below_size (bs1 GE930.out HB.out)))
     (case aL => have := LMc5.out; omega)
     intro v939 w14 ho hb hg hat
     rw [← Ny938.out] at ho
     replace BK930 := am (blk_grown (g := gb930) (o := .cells #[.slice A0_0 l0_0.length c0_0, .slice A0_1 l0_1.length c0_1, .slice A0_2 l0_2.length c0_2] 25 (0, 0)) (kl BK930.out) hg (Kd.R_ne HO937.out BK930.out (by decide)))
     replace HB := am (hb)
     have HO940 := am (ho)
     clear HO937
     clear ho hb hg hat
     refine hK.out _ _ ⟨(blk_cell BK930.out 0).trans rfl, (blk_cell BK930.out 1).trans rfl, (blk_cell BK930.out 2).trans rfl⟩ (fun hHeld => ?_)
     clear hK K
     refine norm_ (a' := ?_) ?_ ?_
     rotate_left
     ·show Act.put _ (some 15) _ = _
      simp only [Act.put, List.setIfInBounds_toArray, List.set_cons_zero, List.set_cons_succ, i64_w, i32_w]
      rfl
     refine one_ (i := 9) (N := some 18) #[true, true, true, true, true, true, true, true, true, true, false] rfl rfl (one_of HT_.out (by kernel_rfl)) (by decide) (fun K hK => ?_)
     refine Kd.R_append_rows_step (Kd.int .i64) (w0 := w) w.heap.size (by rfl) (.tmp 15) (.tmp 17) 23 3 (.int .i64 0) 8 rfl Try.underlying23 info3 rfl (by decide) (by omega) v939 y938 l0_2 _ _ _ (fun _ => True) (fun _ => False) rfl rfl ?aO ?aR (fun _ _ h => h) (fun _ h => h.elim) ?aF ?aB ?aS ?aL ?_
     (case aR => exact cl (Kd.C_below HR0_2.out HB.out))
     (case aB => exact (bs1 GE930.out HB.out))
     (case aF => exact (fun _ _ => trivial))
     (case aO => exact (rl HO940.out))
     (case aS => exact (below_size (bs1 GE930.out HB.out)))
     (case aL => have := LMc6.out; omega)
     intro v942 w15 ho hb hg hat
     rw [← Ny941.out] at ho
     replace BK930 := am (blk_grown (g := gb930) (o := .cells #[.slice A0_0 l0_0.length c0_0, .slice A0_1 l0_1.length c0_1, .slice A0_2 l0_2.length c0_2] 25 (0, 0)) (kl BK930.out) hg (Kd.R_ne HO940.out BK930.out (by decide)))
     replace HB := am (hb)
     have HO943 := am (ho)
     clear HO940
     clear ho hb hg hat
     refine hK.out _ _ ⟨(blk_cell BK930.out 0).trans rfl, (blk_cell BK930.out 1).trans rfl, (blk_cell BK930.out 2).trans rfl⟩ (fun hHeld => ?_)
     clear hK K
     refine norm_ (a' := ?_) ?_ ?_
     rotate_left
     ·show Act.put _ (some 18) _ = _
      simp only [Act.put, List.setIfInBounds_toArray, List.set_cons_zero, List.set_cons_succ, i64_w, i32_w]
      rfl
     refine pure_ (i := 10) (N := some 4) (v := ?_) (a' := ?_) #[true, true, true, true, true, true, true, true, true, true, true] rfl rfl (any_of HT_.out (by kernel_rfl)) (fun _ _ _ h => h) (Or.inl ⟨by rfl, ?_⟩) ?_ ?_
     rotate_left
     ·intro w'
      go_simp
      with_reducible rfl
     rotate_left
     ·simp only [Act.put, List.setIfInBounds_toArray, List.set_cons_zero, List.set_cons_succ, i64_w, i32_w]
      rfl
     refine done_ (done_of HT_.out (by kernel_rfl)) ?_
     try go_wp2
     go_loopg [3, 5] k (fun kq v3 v5 w' => ∃ (x3_1 : Int) (x5_1 : Int), v3 = .int .i64 x3_1 ∧ v5 = .int .i64 x5_1 ∧ Aside0 (spec_CountPointers.l0 kq x3_1 y941 x5_1 = some r) ∧ Aside0 (kq ≤ k) ∧ Aside0 (Kd.R (Kd.int .i64) 3 w' w.heap.size (fun _ => True) v942 y941) ∧ Aside0 (w'.heap[gb930]? = some (.cells #[(.slice A0_0 l0_0.length c0_0), (.slice A0_1 l0_1.length c0_1), (.slice A0_2 l0_2.length c0_2)] 25 (0, 0))) ∧ Aside0 (Below w.heap.size w w'))
     case atStart => exact ⟨(0), (0), (by first | rfl | (simp; done) | (simp [*]; done)), (by first | rfl | (simp; done) | (simp [*]; done)), H', ⟨Nat.le_refl _⟩, ⟨rl HO943.out⟩, ⟨kl BK930.out⟩, ⟨by exact bs1 GE930.out HB.out⟩⟩
     case round =>
      clear H'
      try clear p2
      try clear c3
      try clear c4
      try clear c5
      try clear c6
      try clear hcz8_0
      try clear hcz8_1
      try clear hcz8_2
      try clear hfz8_0
      try clear hfz8_1
      try clear hfz8_2
      obtain ⟨x3_1, x5_1, rfl, rfl, HA, HK1, HO_4, BK930, HB⟩ := hrel
      cases gk with
      | zero => exact absurd HA.out (by simp [spec_CountPointers.l0])
      | succ k1 =>
       have H := HA.out
       clear HA
       simp only [spec_CountPointers.l0] at H
       by_cases c16 : x5_1 < (y941.length : Int)
       ·rw [if_pos c16] at H
        have c16b0 : decide (x5_1 < (y941.length : Int)) = true := decide_eq_true c16
        clear c16
        by_cases c17 : 0 ≤ x5_1
        ·rw [if_pos c17] at H
         have c17b0 : decide (0 ≤ x5_1) = true := decide_eq_true c17
         clear c17
         by_cases c18 : (rd y941 x5_1) = (-1)
         ·rw [if_pos c18] at H
          have c18b0 : ((rd y941 x5_1) == (-1)) = true := beq_iff_eq.mpr c18
          have c18b1 : ((rd y941 x5_1) != (-1)) = false := bne_eq_false_iff_eq.mpr c18
          clear c18
          have H' := am H
          clear H
          obtain ⟨Ao19, co19, eo19⟩ := Kd.R_slice HO_4.out
          subst eo19
          have p944 : 0 ≤ (x5_1 : Int) := of_decide_eq_true (by first | (with_reducible assumption) | assumption)
          have q944 : x5_1 < (y941.length : Int) := of_decide_eq_true (by first | (with_reducible assumption) | assumption)
          obtain ⟨ad944, e944, hx944_0⟩ := Kd.at_int (Kd.R_reads' HO_4.out).2.2 x5_1 p944 q944
          cases e944
          replace p944 := eq_true p944
          replace q944 := eq_true q944
          go_wp2
          go_roundg k1
          case measure => have := HK1.out; omega
          case rel => exact ⟨(x3_1), (wrap64 (x5_1 + 1)), (by first | rfl | (simp; done) | (simp [*]; done)), (by first | rfl | (simp; done) | (simp [*]; done)), H', ⟨by have := HK1.out; omega⟩, ⟨rl HO_4.out⟩, ⟨kl BK930.out⟩, ⟨by exact bs1 GE930.out HB.out⟩⟩
         ·rw [if_neg c18] at H
          have c18b0 : ((rd y941 x5_1) == (-1)) = false := beq_eq_false_iff_ne.mpr c18
          have c18b1 : ((rd y941 x5_1) != (-1)) = true := bne_iff_ne.mpr c18
          have H' := am H
          clear H
          obtain ⟨Ao20, co20, eo20⟩ := Kd.R_slice HO_4.out
          subst eo20
          have p944 : 0 ≤ (x5_1 : Int) := of_decide_eq_true (by first | (with_reducible assumption) | assumption)
          have q944 : x5_1 < (y941.length : Int) := of_decide_eq_true (by first | (with_reducible assumption) | assumption)
          obtain ⟨ad944, e944, hx944_0⟩ := Kd.at_int (Kd.R_reads' HO_4.out).2.2 x5_1 p944 q944
          cases e944
          replace p944 := eq_true p944
          replace q944 := eq_true q944
          go_wp2
          go_roundg k1
          case measure => have := HK1.out; omega
          case rel => exact ⟨(wrap64 (x3_1 + 1)), (wrap64 (x5_1 + 1)), (by first | rfl | (simp; done) | (simp [*]; done)), (by first | rfl | (simp; done) | (simp [*]; done)), H', ⟨by have := HK1.out; omega⟩, ⟨rl HO_4.out⟩, ⟨kl BK930.out⟩, ⟨by exact bs1 GE930.out HB.out⟩⟩
        ·rw [if_neg c17] at H
         exact absurd H (by simp)
       ·rw [if_neg c16] at H
        have c16b0 : decide (x5_1 < (y941.length : Int)) = false := decide_eq_false c16
        clear c16
        obtain rfl := Option.some.inj H
        obtain ⟨Ao21, co21, eo21⟩ := Kd.R_slice HO_4.out
        subst eo21
        go_wp2
        go_ret
        exact ⟨by first | rfl | (simp [errW_none, errW_some] <;> rfl) | (simp [*, errW_none, errW_some] <;> rfl), by exact bs1 GE930.out HB.out⟩
    ·rw [if_neg c6] at H
     exact absurd H (by simp)
   ·rw [if_neg c5] at H
    exact absurd H (by simp)
  ·rw [if_neg c4] at H
   exact absurd H (by simp)
 ·replace c3 := Bool.eq_false_iff.mpr c3
  subst c3
  have H1 : (some 0) = some r := by rw [if_neg (show ¬ (false = true) by decide)] at H; exact H
  clear H
  have H := H1
  clear H1
  obtain rfl := Option.some.inj H
  go_enter Try.func34, Try.ntmps34
  go_wp2_with (first | ((with_reducible refine gate_dst (N := 1) rfl ?_); refine box_event ?hg (N := 1) ?hd (cs := #[.slice A0_0 l0_0.length c0_0, .slice A0_1 l0_1.length c0_1, .slice A0_2 l0_2.length c0_2]) (t := 25) ?hr ?_; (case hd => rfl); (case hg => rfl); (case hr => first | (go_simp; done) | (go_simp; rfl)); intro gb930 hg w22 hbox hb; have BK930 := am (hbox); have GW930 := am ((by rw [hg]; exact (below_size (bl HB.out)) : w.heap.size ≤ gb930)); have GE930 := am ((by rw [hg]; exact (below_size (bl HB.out)) : w.heap.size ≤ gb930)); replace HB := am (below_step (bl HB.out) hb); clear hb hbox hg; have hcz23_0 : w22.cell? ⟨gb930, 0, none⟩ = some (.slice A0_0 l0_0.length c0_0) := (blk_cell BK930.out 0).trans rfl; have hcz23_1 : w22.cell? ⟨gb930, 1, none⟩ = some (.slice A0_1 l0_1.length c0_1) := (blk_cell BK930.out 1).trans rfl; have hcz23_2 : w22.cell? ⟨gb930, 2, none⟩ = some (.slice A0_2 l0_2.length c0_2) := (blk_cell BK930.out 2).trans rfl; have hfz23_0 := blk_frozen BK930.out 0; have hfz23_1 := blk_frozen BK930.out 1; have hfz23_2 := blk_frozen BK930.out 2) | ((with_reducible refine gate_callee (f := 37) rfl ?_); refine goesL_ (some 7) rfl rfl Try.func37 (by kernel_rfl) rfl #[.agg #[.slice A0_0 l0_0.length c0_0, .slice A0_1 l0_1.length c0_1, .slice A0_2 l0_2.length c0_2]] rfl (by (try simp only [List.map_toArray, List.map_cons, List.map_nil]); first | done | rfl | (simp only [List.length_drop, List.length_take]; rfl)) ?_; (with_reducible refine (spec_HeapValid.calls k _ _ l0_0 _ _ l0_1 _ _ l0_2 false _ ?side1 ?side2 ?side3 ?side4 ?side5 ?side6 A2.out).mono ?_); (case side1 => exact cl (Kd.C_below HR0_0.out HB.out)); (case side2 => exact HC0_0.out); (case side3 => exact cl (Kd.C_below HR0_1.out HB.out)); (case side4 => exact HC0_1.out); (case side5 => exact cl (Kd.C_below HR0_2.out HB.out)); (case side6 => exact HC0_2.out); rintro e w24 ⟨rfl, hb⟩; refine ⟨_, rfl, ?_⟩; replace BK930 := am (blk_below (g := gb930) (o := .cells #[.slice A0_0 l0_0.length c0_0, .slice A0_1 l0_1.length c0_1, .slice A0_2 l0_2.length c0_2] 25 (0, 0)) (kl BK930.out) hb); replace HB := am (below_step (bs1 GE930.out HB.out) hb); (try clear hb); (try clear hb2); (try clear hk); (try clear hi)))
  go_ret
  exact ⟨by first | rfl | (simp [errW_none, errW_some] <;> rfl) | (simp [*, errW_none, errW_some] <;> rfl), by exact bs1 GE930.out HB.out⟩

end Go.Proofs.Ytghgpinhghhlgaa.A
