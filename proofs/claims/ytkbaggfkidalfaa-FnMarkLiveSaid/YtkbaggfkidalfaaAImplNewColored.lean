/- Contracts of functions of the given program (AImplNewColored). No conditions beyond those stated. -/
import Derived.Test.YtkbaggfkidalfaaA0
import Derived.Test.YtkbaggfkidalfaaAImplCopied
import Derived.Test.YtkbaggfkidalfaaAImplHeapValid
import Derived.Test.YtkbaggfkidalfaaA0
namespace Go.Proofs.Ytkbaggfkidalfaa.A
open Go.RowKit Go.Proofs.YtkbaggfkidalfaaW.PrintWords Go.Proofs.YtkbaggfkidalfaaW.PrintLast Go.Proofs.YtkbaggfkidalfaaW.PrintMore
attribute [local go_sem] max2_int min2_int max_two min_two max_three min_three max_four min_four   -- for this text's walks alone
set_option linter.unusedVariables false
set_option linter.unusedSimpArgs false

/-! ### impl_NewColored -/
def impl_NewColored.f (k : Nat) (l0_0 : List Int) (l0_1 : List Int) (l0_2 : List Int) : Option (List Int × List Int × List Int × List Int × Bool) := (impl_HeapValid.f k l0_0 l0_1 l0_2).bind fun t1427 => (if t1427 = true then ((impl_copied.f l0_0 l0_1 l0_2).bind fun bt1428 => (if 0 ≤ (l0_0.length : Int) then (if ((l0_0.length : Int) : Int).toNat ≤ 35184372088832 then (some (bt1428.1, bt1428.2.1, bt1428.2.2, (List.replicate ((l0_0.length : Int) : Int).toNat 0), true)) else (none)) else (none))) else (some (([] : List Int), ([] : List Int), ([] : List Int), ([] : List Int), false)))
theorem impl_NewColored.mono : ∀ a0 a1 a2 k, LeO (impl_NewColored.f k a0 a1 a2) (impl_NewColored.f (k + 1) a0 a1 a2) := by
 intro a0 a1 a2 k
 unfold impl_NewColored.f
 repeat' first
   | (with_reducible exact impl_HeapValid.mono _ _ _ _)
   | (with_reducible exact LeO.refl _)
   | (with_reducible exact LeO.none _)
   | (with_reducible refine LeO.ite ?_ ?_)
   | (with_reducible refine LeO.bind ?_ (fun _ => ?_))
   | exact impl_HeapValid.mono _ _ _ _
   | exact LeO.none _
   | refine LeO.ite ?_ ?_
   | refine LeO.bind ?_ (fun _ => ?_)
def impl_NewColored.T3 : Bool × List (List Nat × List Nat) := (true, [([], []), ([0], [0]), ([], []), ([2], [2]), ([3], [3]), ([4, 4], [4]), ([1, 5], [1, 5]), ([6, 1, 0, 1, 2, 3, 4, 5, 6], [6]), ([7, 0, 1, 2, 3, 4, 5, 6, 7], [])])
def impl_NewColored.B3 : List Nat := [0, 1, 0, 4, 12, 28, 63, 127, 255]
theorem impl_NewColored.tab3 : rtab .any (opsOf Try.f44 3) = impl_NewColored.T3 := by kernel_rfl
theorem impl_NewColored.bits3 : waitsOk impl_NewColored.T3.2 impl_NewColored.B3 = true := by kernel_rfl
set_option maxHeartbeats 8000000 in
set_option maxRecDepth 100000 in
theorem impl_NewColored.calls (k : Nat) (A0_0 : Option Addr) (c0_0 : Nat) (l0_0 : List Int) (A0_1 : Option Addr) (c0_1 : Nat) (l0_1 : List Int) (A0_2 : Option Addr) (c0_2 : Nat) (l0_2 : List Int) (r1 : List Int) (r2 : List Int) (r3 : List Int) (r4 : List Int) (r5 : Bool) (w : World) (hr0_0 : Kd.C (Kd.int .i64) w A0_0 l0_0.length l0_0) (hc0_0 : l0_0.length ≤ c0_0) (hr0_1 : Kd.C (Kd.int .i64) w A0_1 l0_1.length l0_1) (hc0_1 : l0_1.length ≤ c0_1) (hr0_2 : Kd.C (Kd.int .i64) w A0_2 l0_2.length l0_2) (hc0_2 : l0_2.length ≤ c0_2) (h : impl_NewColored.f k l0_0 l0_1 l0_2 = some (r1, r2, r3, r4, r5)) :
  Calls Try.prog 44 #[.agg #[.slice A0_0 l0_0.length c0_0, .slice A0_1 l0_1.length c0_1, .slice A0_2 l0_2.length c0_2]] w fun e w' => ∃ v0_ v1_ v2_ v3_ : Value, e = .returned (.tuple #[.agg #[v0_, v1_, v2_, v3_], .bool r5]) ∧ Kd.R (Kd.int .i64) 3 w' w.heap.size (fun k_ => some k_ ≠ (v1_ : Value).ownBlock ∧ some k_ ≠ (v2_ : Value).ownBlock ∧ some k_ ≠ (v3_ : Value).ownBlock) v0_ r1 ∧ Kd.R (Kd.int .i64) 3 w' w.heap.size (fun k_ => some k_ ≠ (v0_ : Value).ownBlock ∧ some k_ ≠ (v2_ : Value).ownBlock ∧ some k_ ≠ (v3_ : Value).ownBlock) v1_ r2 ∧ Kd.R (Kd.int .i64) 3 w' w.heap.size (fun k_ => some k_ ≠ (v0_ : Value).ownBlock ∧ some k_ ≠ (v1_ : Value).ownBlock ∧ some k_ ≠ (v3_ : Value).ownBlock) v2_ r3 ∧ Kd.R (Kd.int .i64) 3 w' w.heap.size (fun k_ => some k_ ≠ (v0_ : Value).ownBlock ∧ some k_ ≠ (v1_ : Value).ownBlock ∧ some k_ ≠ (v2_ : Value).ownBlock) v3_ r4 ∧ Below w.heap.size w w' := by
 have hu28 := Try.underlying28
 have hu30 := Try.underlying30
 have HR0_0 := am hr0_0
 have HC0_0 := am hc0_0
 clear hr0_0 hc0_0
 have HR0_1 := am hr0_1
 have HC0_1 := am hc0_1
 clear hr0_1 hc0_1
 have HR0_2 := am hr0_2
 have HC0_2 := am hc0_2
 clear hr0_2 hc0_2
 have HB := am (Below.refl w.heap.size w)
 have H : ((impl_HeapValid.f k l0_0 l0_1 l0_2).bind fun t1427 => (if t1427 = true then ((impl_copied.f l0_0 l0_1 l0_2).bind fun bt1428 => (if 0 ≤ (l0_0.length : Int) then (if ((l0_0.length : Int) : Int).toNat ≤ 35184372088832 then (some (bt1428.1, bt1428.2.1, bt1428.2.2, (List.replicate ((l0_0.length : Int) : Int).toNat 0), true)) else (none)) else (none))) else (some (([] : List Int), ([] : List Int), ([] : List Int), ([] : List Int), false)))) = some (r1, r2, r3, r4, r5) := h
 clear h
 replace H := Option.bind_eq_some_iff.mp H
 obtain ⟨t1427, A20, H⟩ := H
 replace H : (if t1427 = true then ((impl_copied.f l0_0 l0_1 l0_2).bind fun bt1428 => (if 0 ≤ (l0_0.length : Int) then (if ((l0_0.length : Int) : Int).toNat ≤ 35184372088832 then (some (bt1428.1, bt1428.2.1, bt1428.2.2, (List.replicate ((l0_0.length : Int) : Int).toNat 0), true)) else (none)) else (none))) else (some (([] : List Int), ([] : List Int), ([] : List Int), ([] : List Int), false))) = some (r1, r2, r3, r4, r5) := H
 have A2 := am A20
 clear A20
 by_cases c3 : t1427 = true
 ·subst c3
  have H1 : ((impl_copied.f l0_0 l0_1 l0_2).bind fun bt1428 => (if 0 ≤ (l0_0.length : Int) then (if ((l0_0.length : Int) : Int).toNat ≤ 35184372088832 then (some (bt1428.1, bt1428.2.1, bt1428.2.2, (List.replicate ((l0_0.length : Int) : Int).toNat 0), true)) else (none)) else (none))) = some (r1, r2, r3, r4, r5) := by rw [if_pos rfl] at H; exact H
  clear H
  have H := H1
  clear H1
  replace H := Option.bind_eq_some_iff.mp H
  obtain ⟨⟨t1428, t1431, t1434⟩, A40, H⟩ := H
  replace H : (if 0 ≤ (l0_0.length : Int) then (if ((l0_0.length : Int) : Int).toNat ≤ 35184372088832 then (some (t1428, t1431, t1434, (List.replicate ((l0_0.length : Int) : Int).toNat 0), true)) else (none)) else (none)) = some (r1, r2, r3, r4, r5) := H
  have A4 := am A40
  clear A40
  by_cases c5 : 0 ≤ (l0_0.length : Int)
  ·rw [if_pos c5] at H
   have c5b0 := eq_true c5
   have c5b1 : decide (0 ≤ (l0_0.length : Int)) = true := decide_eq_true c5
   clear c5
   by_cases c6 : ((l0_0.length : Int) : Int).toNat ≤ 35184372088832
   ·rw [if_pos c6] at H
    have c6b0 := eq_true c6
    have c6b1 : decide (((l0_0.length : Int) : Int).toNat ≤ 35184372088832) = true := decide_eq_true c6
    clear c6
    obtain ⟨y1437, hy1437⟩ : ∃ y_ : List Int, y_ = (List.replicate ((l0_0.length : Int) : Int).toNat 0) := ⟨_, rfl⟩
    replace H : (some (t1428, t1431, t1434, y1437, true)) = some (r1, r2, r3, r4, r5) := by first | (rw [hy1437]; with_reducible exact H) | (have H2_ := (Option.bind_some _ _).symm.trans H; rw [hy1437]; with_reducible exact H2_) | (have H2_ := (Option.bind_some _ _).symm.trans H; with_reducible exact H2_) | with_reducible exact H | (rw [hy1437]; exact H) | exact H
    have Ny1437 := am hy1437
    clear hy1437
    simp only [Option.some.injEq, Prod.mk.injEq] at H
    obtain ⟨rfl, rfl, rfl, rfl, rfl⟩ := H
    go_enter Try.func44, Try.ntmps44
    try go_wp2_with (first | ((with_reducible refine gate_dst (N := 1) rfl ?_); refine box_event ?hg (N := 1) ?hd (cs := #[.slice A0_0 l0_0.length c0_0, .slice A0_1 l0_1.length c0_1, .slice A0_2 l0_2.length c0_2]) (t := 28) ?hr ?_; (case hd => rfl); (case hg => rfl); (case hr => first | (go_simp; done) | (go_simp; rfl)); intro gb1425 hg w7 hbox hb; have BK1425 := am (hbox); have GW1425 := am ((by rw [hg]; exact (below_size (bl HB.out)) : w.heap.size ≤ gb1425)); have GE1425 := am ((by rw [hg]; exact (below_size (bl HB.out)) : w.heap.size ≤ gb1425)); replace HB := am (below_step (bl HB.out) hb); clear hb hbox hg) | ((with_reducible refine gate_dst (N := 2) rfl ?_); refine box_event ?hg (N := 2) ?hd (cs := #[.slice none 0 0, .slice none 0 0, .slice none 0 0, .slice none 0 0]) (t := 30) ?hr ?_; (case hd => rfl); (case hg => rfl); (case hr => first | (go_simp; done) | (go_simp; rfl)); intro gb1426 hg w8 hbox hb; have BK1426 := am (hbox); have GW1426 := am ((by rw [hg]; exact (below_size (bs1 GE1425.out HB.out)) : w.heap.size ≤ gb1426)); have GE1426 := am ((by rw [hg]; exact (below_size (bs1 GE1425.out HB.out)) : w.heap.size ≤ gb1426)); replace HB := am (below_step (bs1 GE1425.out HB.out) hb); have NB1425_1426 := nb BK1425 hg; have NB1426_1425 := nc BK1425 hg; replace BK1425 := bb BK1425 hb; clear hb hbox hg; have hnb9 := NB1425_1426.out; have hnc9 := NB1426_1425.out; obtain ⟨hcz10_0, hcz10_1, hcz10_2, hfz10_0, hfz10_1, hfz10_2⟩ := cf3 BK1425) | ((with_reducible refine gate_callee (f := 50) rfl ?_); refine gL (some 5) rfl rfl Try.func50 (by kernel_rfl) rfl #[.agg #[.slice A0_0 l0_0.length c0_0, .slice A0_1 l0_1.length c0_1, .slice A0_2 l0_2.length c0_2]] rfl ?_; (with_reducible refine (impl_HeapValid.calls k (fun k_ => k_ < w.heap.size) _ _ l0_0 (fun k_ => k_ < w.heap.size) _ _ l0_1 (fun k_ => k_ < w.heap.size) _ _ l0_2 true _ ?side1 ?side2 ?side3 A2.out).mono ?_); (case side1 => exact Kd.V_mk HC0_0.out (Kd.F_below (Kd.C_F (Kd.heap_int .i64) HR0_0.out) (bs2 GE1425.out GE1426.out HB.out))); (case side2 => exact Kd.V_mk HC0_1.out (Kd.F_below (Kd.C_F (Kd.heap_int .i64) HR0_1.out) (bs2 GE1425.out GE1426.out HB.out))); (case side3 => exact Kd.V_mk HC0_2.out (Kd.F_below (Kd.C_F (Kd.heap_int .i64) HR0_2.out) (bs2 GE1425.out GE1426.out HB.out))); rintro e w11 ⟨rfl, hb⟩; refine ⟨_, rfl, ?_⟩; replace BK1425 := bb BK1425 hb; replace BK1426 := bb BK1426 hb; replace HB := am (below_step (bs2 GE1425.out GE1426.out HB.out) hb); (try clear hb)))
    replace BK1425 := am (blk_drew BK1425.out)
    replace BK1426 := am (blk_drew BK1426.out)
    replace HB := am (below_drew1 HB.out)
    refine start_ (n := 9) (S := fun w' => w'.cell? ⟨gb1425, 0, none⟩ = some (.slice A0_0 l0_0.length c0_0) ∧ w'.cell? ⟨gb1425, 1, none⟩ = some (.slice A0_1 l0_1.length c0_1) ∧ w'.cell? ⟨gb1425, 2, none⟩ = some (.slice A0_2 l0_2.length c0_2)) (ds := []) #[false, false, false, false, false, false, false, false, false] (by kernel_rfl) rfl rfl ⟨(blk_cell BK1425.out 0).trans rfl, (blk_cell BK1425.out 1).trans rfl, (blk_cell BK1425.out 2).trans rfl⟩ (fun hHeld => ?_); refine with_tabW impl_NewColored.tab3 impl_NewColored.bits3 (fun HT_ HW_ => ?_)
    generalize w11.drew = w12 at BK1425 BK1426 HB hHeld ⊢
    refine pure_ (i := 2) (N := some 10) (v := ?_) (a' := ?_) #[false, false, true, false, false, false, false, false, false] rfl rfl (any_of HT_.out (by kernel_rfl)) (fun _ _ _ h => h) (Or.inl ⟨by rfl, ?_⟩) ?_ ?_
    rotate_left
    ·intro w'
     go_simp
     with_reducible rfl
    rotate_left
    ·simp only [Act.put, List.setIfInBounds_toArray, List.set_cons_zero, List.set_cons_succ, i64_w, i32_w]
     rfl
    refine take_ (i := 0) (N := some 8) (v := ?_) (a' := ?_) #[true, false, true, false, false, false, false, false, false] rfl rfl (take_ofW HT_.out HW_.out (by kernel_rfl)) (fun _ _ _ h => h) (Or.inl ⟨by rfl, ?_⟩) hHeld ?_ ?_
    rotate_left
    ·rintro w' ⟨s0, s1, s2⟩
     go_simp
     with_reducible rfl
    rotate_left
    ·simp only [Act.put, List.setIfInBounds_toArray, List.set_cons_zero, List.set_cons_succ, i64_w, i32_w]
     rfl
    refine take_ (i := 3) (N := some 11) (v := ?_) (a' := ?_) #[true, false, true, true, false, false, false, false, false] rfl rfl (take_ofW HT_.out HW_.out (by kernel_rfl)) (fun _ _ _ h => h) (Or.inl ⟨by rfl, ?_⟩) hHeld ?_ ?_
    rotate_left
    ·rintro w' ⟨s0, s1, s2⟩
     go_simp
     with_reducible rfl
    rotate_left
    ·simp only [Act.put, List.setIfInBounds_toArray, List.set_cons_zero, List.set_cons_succ, i64_w, i32_w]
     rfl
    refine pure_ (i := 4) (N := some 12) (v := ?_) (a' := ?_) #[true, false, true, true, true, false, false, false, false] rfl rfl (any_of HT_.out (by kernel_rfl)) (fun _ _ _ h => h) (Or.inl ⟨by rfl, ?_⟩) ?_ ?_
    rotate_left
    ·intro w'
     go_simp
     with_reducible rfl
    rotate_left
    ·simp only [Act.put, List.setIfInBounds_toArray, List.set_cons_zero, List.set_cons_succ, i64_w, i32_w]
     rfl
    refine join_ (σ := Value × Value × Value × Value) 3 #[true, true, true, true, true, true, false, false, false] (fun s_ => [(9, .agg #[s_.1, s_.2.1, s_.2.2.1]), (13, s_.2.2.2)]) (fun s_ w' => (w'.cell? ⟨gb1425, 0, none⟩ = some (.slice A0_0 l0_0.length c0_0) ∧ w'.cell? ⟨gb1425, 1, none⟩ = some (.slice A0_1 l0_1.length c0_1) ∧ w'.cell? ⟨gb1425, 2, none⟩ = some (.slice A0_2 l0_2.length c0_2)) ∧ (Kd.R (Kd.int .i64) 3 w' w.heap.size (fun k_ => some k_ ≠ (s_.2.1 : Value).ownBlock ∧ some k_ ≠ (s_.2.2.1 : Value).ownBlock ∧ some k_ ≠ (s_.2.2.2 : Value).ownBlock) s_.1 t1428) ∧ (Kd.R (Kd.int .i64) 3 w' w.heap.size (fun k_ => some k_ ≠ (s_.1 : Value).ownBlock ∧ some k_ ≠ (s_.2.2.1 : Value).ownBlock ∧ some k_ ≠ (s_.2.2.2 : Value).ownBlock) s_.2.1 t1431) ∧ (Kd.R (Kd.int .i64) 3 w' w.heap.size (fun k_ => some k_ ≠ (s_.1 : Value).ownBlock ∧ some k_ ≠ (s_.2.1 : Value).ownBlock ∧ some k_ ≠ (s_.2.2.2 : Value).ownBlock) s_.2.2.1 t1434) ∧ (Kd.R (Kd.int .i64) 3 w' w.heap.size (fun k_ => some k_ ≠ (s_.1 : Value).ownBlock ∧ some k_ ≠ (s_.2.1 : Value).ownBlock ∧ some k_ ≠ (s_.2.2.1 : Value).ownBlock) s_.2.2.2 y1437) ∧ (w'.heap[gb1425]? = some (.cells #[.slice A0_0 l0_0.length c0_0, .slice A0_1 l0_1.length c0_1, .slice A0_2 l0_2.length c0_2] 28 (0, 0))) ∧ (w'.heap[gb1426]? = some (.cells #[.slice none 0 0, .slice none 0 0, .slice none 0 0, .slice none 0 0] 30 (0, 0))) ∧ (Below w.heap.size w w')) ?_ ?_
    rotate_left
    ·intro hCont
     refine two_ (i := 1) (j := 5) (Ni := some 9) (Nj := some 13) #[true, true, true, true, true, false, false, false, false] #[true, false, true, true, true, true, false, false, false] rfl rfl rfl rfl (two_of HT_.out (by kernel_rfl)) (by decide) (by decide) (fun K hK => ?_) (fun K hK => ?_)
     ·skip
      refine goes_ Try.func82 (by kernel_rfl) rfl #[.agg #[.slice A0_0 l0_0.length c0_0, .slice A0_1 l0_1.length c0_1, .slice A0_2 l0_2.length c0_2]] (by rfl) rfl rfl (by (try simp only [List.map_toArray, List.map_cons, List.map_nil]); first | done | rfl | (simp only [List.length_drop, List.length_take]; rfl)) ?_
      with_reducible refine (impl_copied.calls _ _ l0_0 _ _ l0_1 _ _ l0_2 t1428 t1431 t1434 _ ?side1 ?side2 ?side3 ?side4 ?side5 ?side6 A4.out).mono ?_
      (case side1 => exact ci HR0_0 HB)
      (case side2 => exact HC0_0.out)
      (case side3 => exact ci HR0_1 HB)
      (case side4 => exact HC0_1.out)
      (case side5 => exact ci HR0_2 HB)
      (case side6 => exact HC0_2.out)
      rintro e w13 ⟨v1429, v1432, v1435, rfl, ho0, ho1, ho2, hb⟩
      refine ⟨_, rfl, ?_⟩
      have HO1430 := ln0 ho0 (bs2 GE1425.out GE1426.out HB.out)
      have HO1433 := ln0 ho1 (bs2 GE1425.out GE1426.out HB.out)
      have HO1436 := ln0 ho2 (bs2 GE1425.out GE1426.out HB.out)
      replace BK1425 := bb BK1425 hb
      replace BK1426 := bb BK1426 hb
      replace HB := am (below_step (bs2 GE1425.out GE1426.out HB.out) hb)
      (try clear hb ho0 ho1 ho2)
      refine hK.out _ _ ⟨(blk_cell BK1425.out 0).trans rfl, (blk_cell BK1425.out 1).trans rfl, (blk_cell BK1425.out 2).trans rfl⟩ (fun hHeld => ?_)
      clear hK K
      refine norm_ (a' := ?_) ?_ ?_
      rotate_left
      ·show Act.put _ (some 9) _ = _
       simp only [Act.put, List.setIfInBounds_toArray, List.set_cons_zero, List.set_cons_succ, i64_w, i32_w]
       rfl
      refine one_ (i := 5) (N := some 13) #[true, true, true, true, true, true, false, false, false] rfl rfl (one_of HT_.out (by kernel_rfl)) (by decide) (fun K hK => ?_)
      refine Kd.R_make_step (Kd.int .i64) _ 3 (by rfl) (N := 13) rfl 22 _ _ rfl (l0_0.length : Int) rfl rfl Try.underlying22 (.int .i64 0) 8 info3 rfl (by decide) (by omega) 0 (ok := fun _ => True) (okp := fun _ => True) rfl (fun _ hk => hk) trivial (of_decide_eq_true (by first | (with_reducible assumption) | assumption)) (Nat.le_trans (Nat.mul_le_mul_right _ (of_decide_eq_true (by first | (with_reducible assumption) | assumption) : (l0_0.length : Int).toNat ≤ 35184372088832)) (by omega)) (Below.refl _ _) (Nat.le_refl _) ?_
      intro v1438 w14 ho15 hb hg_ hnew_
      clear hg_ hnew_
      (first | rw [← Ny1437.out] at ho15 | (simp only [Int.reduceToNat] at ho15; rw [← Ny1437.out] at ho15))
      have HO1439 := ln3 ho15 (rl HO1430.out) (rl HO1433.out) (rl HO1436.out) (bs2 GE1425.out GE1426.out HB.out)
      replace HO1430 := am (Kd.R_elder' (rl HO1430.out) (Kd.R_base ho15) hb)
      replace HO1433 := am (Kd.R_elder' (rl HO1433.out) (Kd.R_base ho15) hb)
      replace HO1436 := am (Kd.R_elder' (rl HO1436.out) (Kd.R_base ho15) hb)
      replace BK1425 := bb BK1425 hb
      replace BK1426 := bb BK1426 hb
      replace HB := am (below_step (bs2 GE1425.out GE1426.out HB.out) hb)
      clear hb ho15
      obtain ⟨Ao16, co16, eo16⟩ := Kd.R_slice HO1439.out
      (first | subst eo16 | (injection eo16 with f1_ f2_ f3_; have f4_ := f1_.symm; have f5_ := f3_.symm; clear f1_ f2_ f3_; subst f4_; subst f5_))
      obtain ⟨Ao17, co17, eo17⟩ := Kd.R_slice HO1436.out
      (first | subst eo17 | (injection eo17 with f1_ f2_ f3_; have f4_ := f1_.symm; have f5_ := f3_.symm; clear f1_ f2_ f3_; subst f4_; subst f5_))
      obtain ⟨Ao18, co18, eo18⟩ := Kd.R_slice HO1433.out
      (first | subst eo18 | (injection eo18 with f1_ f2_ f3_; have f4_ := f1_.symm; have f5_ := f3_.symm; clear f1_ f2_ f3_; subst f4_; subst f5_))
      obtain ⟨Ao19, co19, eo19⟩ := Kd.R_slice HO1430.out
      (first | subst eo19 | (injection eo19 with f1_ f2_ f3_; have f4_ := f1_.symm; have f5_ := f3_.symm; clear f1_ f2_ f3_; subst f4_; subst f5_))
      refine hK.out _ _ ⟨(blk_cell BK1425.out 0).trans rfl, (blk_cell BK1425.out 1).trans rfl, (blk_cell BK1425.out 2).trans rfl⟩ (fun hHeld => ?_)
      clear hK K
      refine norm_ (a' := ?_) ?_ ?_
      rotate_left
      ·show Act.put _ (some 13) _ = _
       simp only [Act.put, List.setIfInBounds_toArray, List.set_cons_zero, List.set_cons_succ, i64_w, i32_w]
       rfl
      exact norm_ (by simp only [putAll, Act.put, List.setIfInBounds_toArray, List.set_cons_zero, List.set_cons_succ]) (hCont (.slice Ao19 t1428.length co19, .slice Ao18 t1431.length co18, .slice Ao17 t1434.length co17, .slice Ao16 y1437.length co16) _ ⟨hHeld, (rl (Kd.R_mono HO1430.out (fun _ hk => by first | exact ⟨hk.1.1, ⟨hk.1.2, hk.2⟩⟩ | (simp only [ne_eq] at hk ⊢; simp only [hk, not_false_eq_true, and_self])))), (rl (Kd.R_mono HO1433.out (fun _ hk => by first | exact ⟨hk.1.1, ⟨hk.1.2, hk.2⟩⟩ | (simp only [ne_eq] at hk ⊢; simp only [hk, not_false_eq_true, and_self])))), (rl (Kd.R_mono HO1436.out (fun _ hk => by first | exact ⟨hk.1.1, ⟨hk.1.2, hk.2⟩⟩ | (simp only [ne_eq] at hk ⊢; simp only [hk, not_false_eq_true, and_self])))), (rl (Kd.R_mono HO1439.out (fun _ hk => by first | exact ⟨hk.1.1.2, ⟨hk.1.2, hk.2⟩⟩ | (simp only [ne_eq] at hk ⊢; simp only [hk, not_false_eq_true, and_self])))), (kl BK1425.out), (kl BK1426.out), (bs2 GE1425.out GE1426.out HB.out)⟩)
     ·skip
      refine Kd.R_make_step (Kd.int .i64) _ 3 (by rfl) (N := 13) rfl 22 _ _ rfl (l0_0.length : Int) rfl rfl Try.underlying22 (.int .i64 0) 8 info3 rfl (by decide) (by omega) 0 (ok := fun _ => True) (okp := fun _ => True) rfl (fun _ hk => hk) trivial (of_decide_eq_true (by first | (with_reducible assumption) | assumption)) (Nat.le_trans (Nat.mul_le_mul_right _ (of_decide_eq_true (by first | (with_reducible assumption) | assumption) : (l0_0.length : Int).toNat ≤ 35184372088832)) (by omega)) (Below.refl _ _) (Nat.le_refl _) ?_
      intro v1438 w13 ho14 hb hg_ hnew_
      clear hg_ hnew_
      (first | rw [← Ny1437.out] at ho14 | (simp only [Int.reduceToNat] at ho14; rw [← Ny1437.out] at ho14))
      have HO1439 := ln0 ho14 (bs2 GE1425.out GE1426.out HB.out)
      replace BK1425 := bb BK1425 hb
      replace BK1426 := bb BK1426 hb
      replace HB := am (below_step (bs2 GE1425.out GE1426.out HB.out) hb)
      clear hb ho14
      refine hK.out _ _ ⟨(blk_cell BK1425.out 0).trans rfl, (blk_cell BK1425.out 1).trans rfl, (blk_cell BK1425.out 2).trans rfl⟩ (fun hHeld => ?_)
      clear hK K
      refine norm_ (a' := ?_) ?_ ?_
      rotate_left
      ·show Act.put _ (some 13) _ = _
       simp only [Act.put, List.setIfInBounds_toArray, List.set_cons_zero, List.set_cons_succ, i64_w, i32_w]
       rfl
      refine one_ (i := 1) (N := some 9) #[true, true, true, true, true, true, false, false, false] rfl rfl (one_of HT_.out (by kernel_rfl)) (by decide) (fun K hK => ?_)
      refine goes_ Try.func82 (by kernel_rfl) rfl #[.agg #[.slice A0_0 l0_0.length c0_0, .slice A0_1 l0_1.length c0_1, .slice A0_2 l0_2.length c0_2]] (by rfl) rfl rfl (by (try simp only [List.map_toArray, List.map_cons, List.map_nil]); first | done | rfl | (simp only [List.length_drop, List.length_take]; rfl)) ?_
      with_reducible refine (impl_copied.calls _ _ l0_0 _ _ l0_1 _ _ l0_2 t1428 t1431 t1434 _ ?side1 ?side2 ?side3 ?side4 ?side5 ?side6 A4.out).mono ?_
      (case side1 => exact ci HR0_0 HB)
      (case side2 => exact HC0_0.out)
      (case side3 => exact ci HR0_1 HB)
      (case side4 => exact HC0_1.out)
      (case side5 => exact ci HR0_2 HB)
      (case side6 => exact HC0_2.out)
      rintro e w15 ⟨v1429, v1432, v1435, rfl, ho0, ho1, ho2, hb⟩
      refine ⟨_, rfl, ?_⟩
      have HO1430 := ln1 ho0 (rl HO1439.out) (bs2 GE1425.out GE1426.out HB.out)
      have HO1433 := ln1 ho1 (rl HO1439.out) (bs2 GE1425.out GE1426.out HB.out)
      have HO1436 := ln1 ho2 (rl HO1439.out) (bs2 GE1425.out GE1426.out HB.out)
      replace HO1439 := td3 (rl HO1439.out) hb ho0 ho1 ho2
      replace BK1425 := bb BK1425 hb
      replace BK1426 := bb BK1426 hb
      replace HB := am (below_step (bs2 GE1425.out GE1426.out HB.out) hb)
      (try clear hb ho0 ho1 ho2)
      obtain ⟨Ao16, co16, eo16⟩ := Kd.R_slice HO1439.out
      (first | subst eo16 | (injection eo16 with f1_ f2_ f3_; have f4_ := f1_.symm; have f5_ := f3_.symm; clear f1_ f2_ f3_; subst f4_; subst f5_))
      obtain ⟨Ao17, co17, eo17⟩ := Kd.R_slice HO1436.out
      (first | subst eo17 | (injection eo17 with f1_ f2_ f3_; have f4_ := f1_.symm; have f5_ := f3_.symm; clear f1_ f2_ f3_; subst f4_; subst f5_))
      obtain ⟨Ao18, co18, eo18⟩ := Kd.R_slice HO1433.out
      (first | subst eo18 | (injection eo18 with f1_ f2_ f3_; have f4_ := f1_.symm; have f5_ := f3_.symm; clear f1_ f2_ f3_; subst f4_; subst f5_))
      obtain ⟨Ao19, co19, eo19⟩ := Kd.R_slice HO1430.out
      (first | subst eo19 | (injection eo19 with f1_ f2_ f3_; have f4_ := f1_.symm; have f5_ := f3_.symm; clear f1_ f2_ f3_; subst f4_; subst f5_))
      refine hK.out _ _ ⟨(blk_cell BK1425.out 0).trans rfl, (blk_cell BK1425.out 1).trans rfl, (blk_cell BK1425.out 2).trans rfl⟩ (fun hHeld => ?_)
      clear hK K
      refine norm_ (a' := ?_) ?_ ?_
      rotate_left
      ·show Act.put _ (some 9) _ = _
       simp only [Act.put, List.setIfInBounds_toArray, List.set_cons_zero, List.set_cons_succ, i64_w, i32_w]
       rfl
      exact norm_ (by simp only [putAll, Act.put, List.setIfInBounds_toArray, List.set_cons_zero, List.set_cons_succ]) (hCont (.slice Ao19 t1428.length co19, .slice Ao18 t1431.length co18, .slice Ao17 t1434.length co17, .slice Ao16 y1437.length co16) _ ⟨hHeld, (rl (Kd.R_mono HO1430.out (fun _ hk => by first | exact ⟨hk.1.1, ⟨hk.1.2, hk.2⟩⟩ | (simp only [ne_eq] at hk ⊢; simp only [hk, not_false_eq_true, and_self])))), (rl (Kd.R_mono HO1433.out (fun _ hk => by first | exact ⟨hk.1.1, ⟨hk.1.2, hk.2⟩⟩ | (simp only [ne_eq] at hk ⊢; simp only [hk, not_false_eq_true, and_self])))), (rl (Kd.R_mono HO1436.out (fun _ hk => by first | exact ⟨hk.1.1, ⟨hk.1.2, hk.2⟩⟩ | (simp only [ne_eq] at hk ⊢; simp only [hk, not_false_eq_true, and_self])))), (rl (Kd.R_mono HO1439.out (fun _ hk => by first | exact ⟨hk.1.1.2, ⟨hk.1.2, hk.2⟩⟩ | (simp only [ne_eq] at hk ⊢; simp only [hk, not_false_eq_true, and_self])))), (kl BK1425.out), (kl BK1426.out), (bs2 GE1425.out GE1426.out HB.out)⟩)
    rintro ⟨v1429, v1432, v1435, v1438⟩ w20 ⟨hS_, h0_, h1_, h2_, h3_, h4_, h5_, h6_⟩
    have HO1430 : Aside0 (Kd.R (Kd.int .i64) 3 w20 w.heap.size (fun k_ => some k_ ≠ (v1432 : Value).ownBlock ∧ some k_ ≠ (v1435 : Value).ownBlock ∧ some k_ ≠ (v1438 : Value).ownBlock) v1429 t1428) := ⟨h0_⟩
    have HO1433 : Aside0 (Kd.R (Kd.int .i64) 3 w20 w.heap.size (fun k_ => some k_ ≠ (v1429 : Value).ownBlock ∧ some k_ ≠ (v1435 : Value).ownBlock ∧ some k_ ≠ (v1438 : Value).ownBlock) v1432 t1431) := ⟨h1_⟩
    have HO1436 : Aside0 (Kd.R (Kd.int .i64) 3 w20 w.heap.size (fun k_ => some k_ ≠ (v1429 : Value).ownBlock ∧ some k_ ≠ (v1432 : Value).ownBlock ∧ some k_ ≠ (v1438 : Value).ownBlock) v1435 t1434) := ⟨h2_⟩
    have HO1439 : Aside0 (Kd.R (Kd.int .i64) 3 w20 w.heap.size (fun k_ => some k_ ≠ (v1429 : Value).ownBlock ∧ some k_ ≠ (v1432 : Value).ownBlock ∧ some k_ ≠ (v1435 : Value).ownBlock) v1438 y1437) := ⟨h3_⟩
    replace BK1425 : Aside0 (w20.heap[gb1425]? = some (.cells #[.slice A0_0 l0_0.length c0_0, .slice A0_1 l0_1.length c0_1, .slice A0_2 l0_2.length c0_2] 28 (0, 0))) := ⟨h4_⟩
    replace BK1426 : Aside0 (w20.heap[gb1426]? = some (.cells #[.slice none 0 0, .slice none 0 0, .slice none 0 0, .slice none 0 0] 30 (0, 0))) := ⟨h5_⟩
    replace HB : Aside0 (Below w.heap.size w w20) := ⟨h6_⟩
    clear h0_ h1_ h2_ h3_ h4_ h5_ h6_
    have hHeld : w20.cell? ⟨gb1425, 0, none⟩ = some (.slice A0_0 l0_0.length c0_0) ∧ w20.cell? ⟨gb1425, 1, none⟩ = some (.slice A0_1 l0_1.length c0_1) ∧ w20.cell? ⟨gb1425, 2, none⟩ = some (.slice A0_2 l0_2.length c0_2) := hS_
    obtain ⟨Ao21, co21, eo21⟩ := Kd.R_slice HO1439.out
    (first | subst eo21 | (injection eo21 with f1_ f2_ f3_; have f4_ := f1_.symm; have f5_ := f3_.symm; clear f1_ f2_ f3_; subst f4_; subst f5_))
    obtain ⟨Ao22, co22, eo22⟩ := Kd.R_slice HO1436.out
    (first | subst eo22 | (injection eo22 with f1_ f2_ f3_; have f4_ := f1_.symm; have f5_ := f3_.symm; clear f1_ f2_ f3_; subst f4_; subst f5_))
    obtain ⟨Ao23, co23, eo23⟩ := Kd.R_slice HO1433.out
    (first | subst eo23 | (injection eo23 with f1_ f2_ f3_; have f4_ := f1_.symm; have f5_ := f3_.symm; clear f1_ f2_ f3_; subst f4_; subst f5_))
    obtain ⟨Ao24, co24, eo24⟩ := Kd.R_slice HO1430.out
    (first | subst eo24 | (injection eo24 with f1_ f2_ f3_; have f4_ := f1_.symm; have f5_ := f3_.symm; clear f1_ f2_ f3_; subst f4_; subst f5_))
    refine norm_ (a' := ?_) ?_ ?_
    rotate_left
    ·simp only [putAll, Act.put, List.setIfInBounds_toArray, List.set_cons_zero, List.set_cons_succ]
     rfl
    refine pure_ (i := 6) (N := some 14) (v := ?_) (a' := ?_) #[true, true, true, true, true, true, true, false, false] rfl rfl (any_of HT_.out (by kernel_rfl)) (fun _ _ _ h => h) (Or.inl ⟨by rfl, ?_⟩) ?_ ?_
    rotate_left
    ·intro w'
     go_simp
     with_reducible rfl
    rotate_left
    ·simp only [Act.put, List.setIfInBounds_toArray, List.set_cons_zero, List.set_cons_succ, i64_w, i32_w]
     rfl
    refine one_ (i := 7) (N := none) #[true, true, true, true, true, true, true, true, false] rfl rfl (one_of HT_.out (by kernel_rfl)) (by decide) (fun K hK => ?_)
    have hs25 : w20.cell? ⟨gb1426, 0, none⟩ = some (.slice none 0 0) := (blk_cell BK1426.out 0).trans rfl
    have hfs25 := blk_frozen BK1426.out 0
    have hns25_0 := NB1425_1426.out
    have hms25_0 := NB1426_1425.out
    have hs26 : w20.cell? ⟨gb1426, 1, none⟩ = some (.slice none 0 0) := (blk_cell BK1426.out 1).trans rfl
    have hfs26 := blk_frozen BK1426.out 1
    have hns26_0 := NB1425_1426.out
    have hms26_0 := NB1426_1425.out
    have hs27 : w20.cell? ⟨gb1426, 2, none⟩ = some (.slice none 0 0) := (blk_cell BK1426.out 2).trans rfl
    have hfs27 := blk_frozen BK1426.out 2
    have hns27_0 := NB1425_1426.out
    have hms27_0 := NB1426_1425.out
    have hs28 : w20.cell? ⟨gb1426, 3, none⟩ = some (.slice none 0 0) := (blk_cell BK1426.out 3).trans rfl
    have hfs28 := blk_frozen BK1426.out 3
    have hns28_0 := NB1425_1426.out
    have hms28_0 := NB1426_1425.out
    refine skip_ (w1 := ?_) (by rfl) rfl ?_ ?_
    rotate_left
    ·go_simp
     rfl
    refine hK.out _ _ ⟨((cell_far (p := ⟨gb1426, _, none⟩) NB1425_1426.out _).trans (((cell_far (p := ⟨gb1426, _, none⟩) NB1425_1426.out _).trans (((cell_far (p := ⟨gb1426, _, none⟩) NB1425_1426.out _).trans (((cell_far (p := ⟨gb1426, _, none⟩) NB1425_1426.out _).trans (hHeld.1)))))))), ((cell_far (p := ⟨gb1426, _, none⟩) NB1425_1426.out _).trans (((cell_far (p := ⟨gb1426, _, none⟩) NB1425_1426.out _).trans (((cell_far (p := ⟨gb1426, _, none⟩) NB1425_1426.out _).trans (((cell_far (p := ⟨gb1426, _, none⟩) NB1425_1426.out _).trans (hHeld.2.1)))))))), ((cell_far (p := ⟨gb1426, _, none⟩) NB1425_1426.out _).trans (((cell_far (p := ⟨gb1426, _, none⟩) NB1425_1426.out _).trans (((cell_far (p := ⟨gb1426, _, none⟩) NB1425_1426.out _).trans (((cell_far (p := ⟨gb1426, _, none⟩) NB1425_1426.out _).trans (hHeld.2.2))))))))⟩ (fun hHeld => ?_)
    clear hK K
    refine pure_ (i := 8) (N := some 3) (v := ?_) (a' := ?_) #[true, true, true, true, true, true, true, true, true] rfl rfl (any_of HT_.out (by kernel_rfl)) (fun _ _ _ h => h) (Or.inl ⟨by rfl, ?_⟩) ?_ ?_
    rotate_left
    ·intro w'
     go_simp
     with_reducible rfl
    rotate_left
    ·simp only [Act.put, List.setIfInBounds_toArray, List.set_cons_zero, List.set_cons_succ, i64_w, i32_w]
     rfl
    refine done_ (done_of HT_.out (by kernel_rfl)) ?_
    try go_wp2
    refine bodyPost_ret (results_ct rfl _ _ gb1426 30 #[.slice Ao24 t1428.length co24, .slice Ao23 t1431.length co23, .slice Ao22 t1434.length co22, .slice Ao21 y1437.length co21] (0, 0) _ rfl (kp4 (kf0 BK1426.out)) Try.underlying30 rfl (by kernel_rfl)) rfl ?_
    exact ⟨_, _, _, _, by first | rfl | (simp [errW_none, errW_some] <;> rfl) | (simp [*, errW_none, errW_some] <;> rfl), by exact ro (rg BK1426 HO1430), by exact ro (rg BK1426 HO1433), by exact ro (rg BK1426 HO1436), by exact ro (rg BK1426 HO1439), by exact bs2 GE1425.out GE1426.out HB.out⟩
   ·rw [if_neg c6] at H
    exact absurd H (by simp)
  ·rw [if_neg c5] at H
   exact absurd H (by simp)
 ·replace c3 := Bool.eq_false_iff.mpr c3
  subst c3
  have H1 : (some (([] : List Int), ([] : List Int), ([] : List Int), ([] : List Int), false)) = some (r1, r2, r3, r4, r5) := by rw [if_neg (show ¬ (false = true) by decide)] at H; exact H
  clear H
  have H := H1
  clear H1
  simp only [Option.some.injEq, Prod.mk.injEq] at H
  obtain ⟨rfl, rfl, rfl, rfl, rfl⟩ := H
  go_enter Try.func44, Try.ntmps44
  go_wp2_with (first | ((with_reducible refine gate_dst (N := 1) rfl ?_); refine box_event ?hg (N := 1) ?hd (cs := #[.slice A0_0 l0_0.length c0_0, .slice A0_1 l0_1.length c0_1, .slice A0_2 l0_2.length c0_2]) (t := 28) ?hr ?_; (case hd => rfl); (case hg => rfl); (case hr => first | (go_simp; done) | (go_simp; rfl)); intro gb1425 hg w29 hbox hb; have BK1425 := am (hbox); have GW1425 := am ((by rw [hg]; exact (below_size (bl HB.out)) : w.heap.size ≤ gb1425)); have GE1425 := am ((by rw [hg]; exact (below_size (bl HB.out)) : w.heap.size ≤ gb1425)); replace HB := am (below_step (bl HB.out) hb); clear hb hbox hg) | ((with_reducible refine gate_dst (N := 2) rfl ?_); refine box_event ?hg (N := 2) ?hd (cs := #[.slice none 0 0, .slice none 0 0, .slice none 0 0, .slice none 0 0]) (t := 30) ?hr ?_; (case hd => rfl); (case hg => rfl); (case hr => first | (go_simp; done) | (go_simp; rfl)); intro gb1426 hg w30 hbox hb; have BK1426 := am (hbox); have GW1426 := am ((by rw [hg]; exact (below_size (bs1 GE1425.out HB.out)) : w.heap.size ≤ gb1426)); have GE1426 := am ((by rw [hg]; exact (below_size (bs1 GE1425.out HB.out)) : w.heap.size ≤ gb1426)); replace HB := am (below_step (bs1 GE1425.out HB.out) hb); have NB1425_1426 := nb BK1425 hg; have NB1426_1425 := nc BK1425 hg; replace BK1425 := bb BK1425 hb; clear hb hbox hg; have hnb31 := NB1425_1426.out; have hnc31 := NB1426_1425.out; obtain ⟨hcz32_0, hcz32_1, hcz32_2, hfz32_0, hfz32_1, hfz32_2⟩ := cf3 BK1425) | ((with_reducible refine gate_callee (f := 50) rfl ?_); refine gL (some 5) rfl rfl Try.func50 (by kernel_rfl) rfl #[.agg #[.slice A0_0 l0_0.length c0_0, .slice A0_1 l0_1.length c0_1, .slice A0_2 l0_2.length c0_2]] rfl ?_; (with_reducible refine (impl_HeapValid.calls k (fun k_ => k_ < w.heap.size) _ _ l0_0 (fun k_ => k_ < w.heap.size) _ _ l0_1 (fun k_ => k_ < w.heap.size) _ _ l0_2 false _ ?side1 ?side2 ?side3 A2.out).mono ?_); (case side1 => exact Kd.V_mk HC0_0.out (Kd.F_below (Kd.C_F (Kd.heap_int .i64) HR0_0.out) (bs2 GE1425.out GE1426.out HB.out))); (case side2 => exact Kd.V_mk HC0_1.out (Kd.F_below (Kd.C_F (Kd.heap_int .i64) HR0_1.out) (bs2 GE1425.out GE1426.out HB.out))); (case side3 => exact Kd.V_mk HC0_2.out (Kd.F_below (Kd.C_F (Kd.heap_int .i64) HR0_2.out) (bs2 GE1425.out GE1426.out HB.out))); rintro e w33 ⟨rfl, hb⟩; refine ⟨_, rfl, ?_⟩; replace BK1425 := bb BK1425 hb; replace BK1426 := bb BK1426 hb; replace HB := am (below_step (bs2 GE1425.out GE1426.out HB.out) hb); (try clear hb); obtain ⟨hcz34_0, hcz34_1, hcz34_2, hcz34_3, hfz34_0, hfz34_1, hfz34_2, hfz34_3⟩ := cf4 BK1426))
  refine bodyPost_ret (results_ct rfl _ _ gb1426 30 #[.slice none 0 0, .slice none 0 0, .slice none 0 0, .slice none 0 0] (0, 0) _ rfl (kp4 (kf0 BK1426.out)) Try.underlying30 rfl (by kernel_rfl)) rfl ?_
  exact ⟨_, _, _, _, by first | rfl | (simp [errW_none, errW_some] <;> rfl) | (simp [*, errW_none, errW_some] <;> rfl), by first | exact Kd.R_nil _ _ _ _ _ | exact Kd.N_nil _ _ _ _ _ | exact Kd.V_nil _ _ _ _ _ | exact Kd.Q_nil _ _ _ _ _ | exact Kd.S_nil _ _ _ _ _, by first | exact Kd.R_nil _ _ _ _ _ | exact Kd.N_nil _ _ _ _ _ | exact Kd.V_nil _ _ _ _ _ | exact Kd.Q_nil _ _ _ _ _ | exact Kd.S_nil _ _ _ _ _, by first | exact Kd.R_nil _ _ _ _ _ | exact Kd.N_nil _ _ _ _ _ | exact Kd.V_nil _ _ _ _ _ | exact Kd.Q_nil _ _ _ _ _ | exact Kd.S_nil _ _ _ _ _, by first | exact Kd.R_nil _ _ _ _ _ | exact Kd.N_nil _ _ _ _ _ | exact Kd.V_nil _ _ _ _ _ | exact Kd.Q_nil _ _ _ _ _ | exact Kd.S_nil _ _ _ _ _, by exact bs2 GE1425.out GE1426.out HB.out⟩

end Go.Proofs.Ytkbaggfkidalfaa.A
