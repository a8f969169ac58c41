/- Contracts of functions of the given program (ASpecL1Copy). No conditions beyond those stated. -/
import Derived.Test.YtomeaapjjmaepaaDoorA0
import Derived.Test.YtomeaapjjmaepaaDoorA0
namespace Go.Proofs.YtomeaapjjmaepaaDoor.A
open Go.RowKit Go.Proofs.YtomeaapjjmaepaaDoorW.PrintWords Go.Proofs.YtomeaapjjmaepaaDoorW.PrintLast Go.Proofs.YtomeaapjjmaepaaDoorW.PrintMore
attribute [local go_sem] max2_int min2_int max_two min_two max_three min_three max_four min_four   -- for this text's walks alone
set_option linter.unusedVariables false
set_option linter.unusedSimpArgs false

/-! ### spec_l1Copy -/
def spec_l1Copy.f (l0_0 : List Int) (l0_1 : List Int) (l0_2 : List Int) : Option (List Int × List Int × List Int) := (some (([] : List Int) : List Int)).bind fun y386 => (if y386.length + l0_0.length < 17592186044416 then ((some (([] : List Int) : List Int)).bind fun y392 => (if y392.length + l0_1.length < 17592186044416 then ((some (([] : List Int) : List Int)).bind fun y398 => (if y398.length + l0_2.length < 17592186044416 then (some ((y386 ++ l0_0), (y392 ++ l0_1), (y398 ++ l0_2))) else (none))) else (none))) else (none))
def spec_l1Copy.T1 : Bool × List (List Nat × List Nat) := (true, [([], []), ([], []), ([1], [1]), ([0, 2], [0, 2]), ([], []), ([], []), ([5], [5]), ([4, 6, 3], [4, 6]), ([], []), ([], []), ([9], [9]), ([8, 10, 7], [8, 10]), ([3, 7, 11], [3, 7, 11]), ([12, 11, 0, 1, 2, 3, 4, 5, 6, 7, 8, 9, 10, 11, 12], [12])])
def spec_l1Copy.B1 : List Nat := [0, 0, 2, 7, 0, 0, 32, 127, 0, 0, 512, 2047, 4095, 8191]
theorem spec_l1Copy.tab1 : rtab .any (opsOf Tryd.f50 1) = spec_l1Copy.T1 := by kernel_rfl
theorem spec_l1Copy.bits1 : waitsOk spec_l1Copy.T1.2 spec_l1Copy.B1 = true := by kernel_rfl
set_option maxHeartbeats 8000000 in
set_option maxRecDepth 100000 in
theorem spec_l1Copy.calls (A0_0 : Option Addr) (c0_0 : Nat) (l0_0 : List Int) (A0_1 : Option Addr) (c0_1 : Nat) (l0_1 : List Int) (A0_2 : Option Addr) (c0_2 : Nat) (l0_2 : List Int) (r1 : List Int) (r2 : List Int) (r3 : List Int) (w : World) (hr0_0 : Kd.C (Kd.int .i64) w A0_0 l0_0.length l0_0) (hc0_0 : l0_0.length ≤ c0_0) (hr0_1 : Kd.C (Kd.int .i64) w A0_1 l0_1.length l0_1) (hc0_1 : l0_1.length ≤ c0_1) (hr0_2 : Kd.C (Kd.int .i64) w A0_2 l0_2.length l0_2) (hc0_2 : l0_2.length ≤ c0_2) (h : spec_l1Copy.f l0_0 l0_1 l0_2 = some (r1, r2, r3)) :
  Calls Tryd.prog 50 #[.agg #[.slice A0_0 l0_0.length c0_0, .slice A0_1 l0_1.length c0_1, .slice A0_2 l0_2.length c0_2]] w fun e w' => ∃ v0_ v1_ v2_ : Value, e = .returned (.agg #[v0_, v1_, v2_]) ∧ Kd.R (Kd.int .i64) 3 w' w.heap.size (fun k_ => some k_ ≠ (v1_ : Value).ownBlock ∧ some k_ ≠ (v2_ : Value).ownBlock) v0_ r1 ∧ Kd.R (Kd.int .i64) 3 w' w.heap.size (fun k_ => some k_ ≠ (v0_ : Value).ownBlock ∧ some k_ ≠ (v2_ : Value).ownBlock) v1_ r2 ∧ Kd.R (Kd.int .i64) 3 w' w.heap.size (fun k_ => some k_ ≠ (v0_ : Value).ownBlock ∧ some k_ ≠ (v1_ : Value).ownBlock) v2_ r3 ∧ Below w.heap.size w w' := by
 have hu24 := Tryd.underlying24
 have HR0_0 := am hr0_0
 have HC0_0 := am hc0_0
 clear hr0_0 hc0_0
 have HR0_1 := am hr0_1
 have HC0_1 := am hc0_1
 clear hr0_1 hc0_1
 have HR0_2 := am hr0_2
 have HC0_2 := am hc0_2
 clear hr0_2 hc0_2
 have HB := am (Below.refl w.heap.size w)
 have H : ((some (([] : List Int) : List Int)).bind fun y386 => (if y386.length + l0_0.length < 17592186044416 then ((some (([] : List Int) : List Int)).bind fun y392 => (if y392.length + l0_1.length < 17592186044416 then ((some (([] : List Int) : List Int)).bind fun y398 => (if y398.length + l0_2.length < 17592186044416 then (some ((y386 ++ l0_0), (y392 ++ l0_1), (y398 ++ l0_2))) else (none))) else (none))) else (none))) = some (r1, r2, r3) := h
 clear h
 obtain ⟨y386, hy386⟩ : ∃ y_ : List Int, y_ = (([] : List Int)) := ⟨_, rfl⟩
 replace H : (if y386.length + l0_0.length < 17592186044416 then ((some (([] : List Int) : List Int)).bind fun y392 => (if y392.length + l0_1.length < 17592186044416 then ((some (([] : List Int) : List Int)).bind fun y398 => (if y398.length + l0_2.length < 17592186044416 then (some ((y386 ++ l0_0), (y392 ++ l0_1), (y398 ++ l0_2))) else (none))) else (none))) else (none)) = some (r1, r2, r3) := by first | (rw [hy386]; with_reducible exact H) | (have H2_ := (Option.bind_some _ _).symm.trans H; rw [hy386]; with_reducible exact H2_) | (have H2_ := (Option.bind_some _ _).symm.trans H; with_reducible exact H2_) | with_reducible exact H | (rw [hy386]; exact H) | exact H
 have Ny386 := am hy386
 clear hy386
 by_cases c2 : y386.length + l0_0.length < 17592186044416
 ·rw [if_pos c2] at H
  have LMc2 := am c2
  clear c2
  obtain ⟨y389, hy389⟩ : ∃ y_ : List Int, y_ = (y386 ++ l0_0) := ⟨_, rfl⟩
  replace H : ((some (([] : List Int) : List Int)).bind fun y392 => (if y392.length + l0_1.length < 17592186044416 then ((some (([] : List Int) : List Int)).bind fun y398 => (if y398.length + l0_2.length < 17592186044416 then (some (y389, (y392 ++ l0_1), (y398 ++ l0_2))) else (none))) else (none))) = some (r1, r2, r3) := by first | (rw [hy389]; with_reducible exact H) | (have H2_ := (Option.bind_some _ _).symm.trans H; rw [hy389]; with_reducible exact H2_) | (have H2_ := (Option.bind_some _ _).symm.trans H; with_reducible exact H2_) | with_reducible exact H | (rw [hy389]; exact H) | exact H
  have Ny389 := am hy389
  clear hy389
  obtain ⟨y392, hy392⟩ : ∃ y_ : List Int, y_ = (([] : List Int)) := ⟨_, rfl⟩
  replace H : (if y392.length + l0_1.length < 17592186044416 then ((some (([] : List Int) : List Int)).bind fun y398 => (if y398.length + l0_2.length < 17592186044416 then (some (y389, (y392 ++ l0_1), (y398 ++ l0_2))) else (none))) else (none)) = some (r1, r2, r3) := by first | (rw [hy392]; with_reducible exact H) | (have H2_ := (Option.bind_some _ _).symm.trans H; rw [hy392]; with_reducible exact H2_) | (have H2_ := (Option.bind_some _ _).symm.trans H; with_reducible exact H2_) | with_reducible exact H | (rw [hy392]; exact H) | exact H
  have Ny392 := am hy392
  clear hy392
  by_cases c3 : y392.length + l0_1.length < 17592186044416
  ·rw [if_pos c3] at H
   have LMc3 := am c3
   clear c3
   obtain ⟨y395, hy395⟩ : ∃ y_ : List Int, y_ = (y392 ++ l0_1) := ⟨_, rfl⟩
   replace H : ((some (([] : List Int) : List Int)).bind fun y398 => (if y398.length + l0_2.length < 17592186044416 then (some (y389, y395, (y398 ++ l0_2))) else (none))) = some (r1, r2, r3) := by first | (rw [hy395]; with_reducible exact H) | (have H2_ := (Option.bind_some _ _).symm.trans H; rw [hy395]; with_reducible exact H2_) | (have H2_ := (Option.bind_some _ _).symm.trans H; with_reducible exact H2_) | with_reducible exact H | (rw [hy395]; exact H) | exact H
   have Ny395 := am hy395
   clear hy395
   obtain ⟨y398, hy398⟩ : ∃ y_ : List Int, y_ = (([] : List Int)) := ⟨_, rfl⟩
   replace H : (if y398.length + l0_2.length < 17592186044416 then (some (y389, y395, (y398 ++ l0_2))) else (none)) = some (r1, r2, r3) := by first | (rw [hy398]; with_reducible exact H) | (have H2_ := (Option.bind_some _ _).symm.trans H; rw [hy398]; with_reducible exact H2_) | (have H2_ := (Option.bind_some _ _).symm.trans H; with_reducible exact H2_) | with_reducible exact H | (rw [hy398]; exact H) | exact H
   have Ny398 := am hy398
   clear hy398
   by_cases c4 : y398.length + l0_2.length < 17592186044416
   ·rw [if_pos c4] at H
    have LMc4 := am c4
    clear c4
    obtain ⟨y401, hy401⟩ : ∃ y_ : List Int, y_ = (y398 ++ l0_2) := ⟨_, rfl⟩
    replace H : (some (y389, y395, y401)) = some (r1, r2, r3) := by first | (rw [hy401]; with_reducible exact H) | (have H2_ := (Option.bind_some _ _).symm.trans H; rw [hy401]; with_reducible exact H2_) | (have H2_ := (Option.bind_some _ _).symm.trans H; with_reducible exact H2_) | with_reducible exact H | (rw [hy401]; exact H) | exact H
    have Ny401 := am hy401
    clear hy401
    simp only [Option.some.injEq, Prod.mk.injEq] at H
    obtain ⟨rfl, rfl, rfl⟩ := H
    go_enter Tryd.func50, Tryd.ntmps50
    try go_wp2_with (first | ((with_reducible refine gate_dst (N := 1) rfl ?_); refine box_event ?hg (N := 1) ?hd (cs := #[.slice A0_0 l0_0.length c0_0, .slice A0_1 l0_1.length c0_1, .slice A0_2 l0_2.length c0_2]) (t := 24) ?hr ?_; (case hd => rfl); (case hg => rfl); (case hr => first | (go_simp; done) | (go_simp; rfl)); intro gb384 hg w5 hbox hb; have BK384 := am (hbox); have GW384 := am ((by rw [hg]; exact (below_size (bl HB.out)) : w.heap.size ≤ gb384)); have GE384 := am ((by rw [hg]; exact (below_size (bl HB.out)) : w.heap.size ≤ gb384)); replace HB := am (below_step (bl HB.out) hb); clear hb hbox hg) | ((with_reducible refine gate_dst (N := 2) rfl ?_); refine box_event ?hg (N := 2) ?hd (cs := #[.slice none 0 0, .slice none 0 0, .slice none 0 0]) (t := 24) ?hr ?_; (case hd => rfl); (case hg => rfl); (case hr => first | (go_simp; done) | (go_simp; rfl)); intro gb385 hg w6 hbox hb; have BK385 := am (hbox); have GW385 := am ((by rw [hg]; exact (below_size (bs1 GE384.out HB.out)) : w.heap.size ≤ gb385)); have GE385 := am ((by rw [hg]; exact (below_size (bs1 GE384.out HB.out)) : w.heap.size ≤ gb385)); replace HB := am (below_step (bs1 GE384.out HB.out) hb); have NB384_385 := nb BK384 hg; have NB385_384 := nc BK384 hg; replace BK384 := bb BK384 hb; clear hb hbox hg))
    replace BK384 := am (blk_drew BK384.out)
    replace BK385 := am (blk_drew BK385.out)
    replace HB := am (below_drew1 HB.out)
    refine start_ (n := 14) (S := fun w' => w'.cell? ⟨gb384, 0, none⟩ = some (.slice A0_0 l0_0.length c0_0) ∧ w'.cell? ⟨gb384, 1, none⟩ = some (.slice A0_1 l0_1.length c0_1) ∧ w'.cell? ⟨gb384, 2, none⟩ = some (.slice A0_2 l0_2.length c0_2)) (ds := []) #[false, false, false, false, false, false, false, false, false, false, false, false, false, false] (by kernel_rfl) rfl rfl ⟨(blk_cell BK384.out 0).trans rfl, (blk_cell BK384.out 1).trans rfl, (blk_cell BK384.out 2).trans rfl⟩ (fun hHeld => ?_); refine with_tabW spec_l1Copy.tab1 spec_l1Copy.bits1 (fun HT_ HW_ => ?_)
    generalize w6.drew = w7 at BK384 BK385 HB hHeld ⊢
    refine pure_ (i := 1) (N := some 4) (v := ?_) (a' := ?_) #[false, true, false, false, false, false, false, false, false, false, false, false, false, false] rfl rfl (any_of HT_.out (by kernel_rfl)) (fun _ _ _ h => h) (Or.inl ⟨by rfl, ?_⟩) ?_ ?_
    rotate_left
    ·intro w'
     go_simp
     with_reducible rfl
    rotate_left
    ·simp only [Act.put, List.setIfInBounds_toArray, List.set_cons_zero, List.set_cons_succ, i64_w, i32_w]
     rfl
    refine pure_ (i := 5) (N := some 8) (v := ?_) (a' := ?_) #[false, true, false, false, false, true, false, false, false, false, false, false, false, false] rfl rfl (any_of HT_.out (by kernel_rfl)) (fun _ _ _ h => h) (Or.inl ⟨by rfl, ?_⟩) ?_ ?_
    rotate_left
    ·intro w'
     go_simp
     with_reducible rfl
    rotate_left
    ·simp only [Act.put, List.setIfInBounds_toArray, List.set_cons_zero, List.set_cons_succ, i64_w, i32_w]
     rfl
    refine pure_ (i := 9) (N := some 12) (v := ?_) (a' := ?_) #[false, true, false, false, false, true, false, false, false, true, false, false, false, false] rfl rfl (any_of HT_.out (by kernel_rfl)) (fun _ _ _ h => h) (Or.inl ⟨by rfl, ?_⟩) ?_ ?_
    rotate_left
    ·intro w'
     go_simp
     with_reducible rfl
    rotate_left
    ·simp only [Act.put, List.setIfInBounds_toArray, List.set_cons_zero, List.set_cons_succ, i64_w, i32_w]
     rfl
    refine take_ (i := 2) (N := some 5) (v := ?_) (a' := ?_) #[false, true, true, false, false, true, false, false, false, true, false, false, false, false] rfl rfl (take_ofW HT_.out HW_.out (by kernel_rfl)) (fun _ _ _ h => h) (Or.inl ⟨by rfl, ?_⟩) hHeld ?_ ?_
    rotate_left
    ·rintro w' ⟨s0, s1, s2⟩
     go_simp
     with_reducible rfl
    rotate_left
    ·simp only [Act.put, List.setIfInBounds_toArray, List.set_cons_zero, List.set_cons_succ, i64_w, i32_w]
     rfl
    refine take_ (i := 6) (N := some 9) (v := ?_) (a' := ?_) #[false, true, true, false, false, true, true, false, false, true, false, false, false, false] rfl rfl (take_ofW HT_.out HW_.out (by kernel_rfl)) (fun _ _ _ h => h) (Or.inl ⟨by rfl, ?_⟩) hHeld ?_ ?_
    rotate_left
    ·rintro w' ⟨s0, s1, s2⟩
     go_simp
     with_reducible rfl
    rotate_left
    ·simp only [Act.put, List.setIfInBounds_toArray, List.set_cons_zero, List.set_cons_succ, i64_w, i32_w]
     rfl
    refine take_ (i := 10) (N := some 13) (v := ?_) (a' := ?_) #[false, true, true, false, false, true, true, false, false, true, true, false, false, false] rfl rfl (take_ofW HT_.out HW_.out (by kernel_rfl)) (fun _ _ _ h => h) (Or.inl ⟨by rfl, ?_⟩) hHeld ?_ ?_
    rotate_left
    ·rintro w' ⟨s0, s1, s2⟩
     go_simp
     with_reducible rfl
    rotate_left
    ·simp only [Act.put, List.setIfInBounds_toArray, List.set_cons_zero, List.set_cons_succ, i64_w, i32_w]
     rfl
    refine join_ (σ := Value × Value × Value × Value × Value) 3 #[true, true, true, true, true, true, true, true, true, true, true, false, false, false] (fun s_ => [(3, s_.1), (6, s_.2.1), (7, s_.2.2.1), (10, s_.2.2.2.1), (11, s_.2.2.2.2)]) (fun s_ w' => (w'.cell? ⟨gb384, 0, none⟩ = some (.slice A0_0 l0_0.length c0_0) ∧ w'.cell? ⟨gb384, 1, none⟩ = some (.slice A0_1 l0_1.length c0_1) ∧ w'.cell? ⟨gb384, 2, none⟩ = some (.slice A0_2 l0_2.length c0_2)) ∧ (Kd.R (Kd.int .i64) 3 w' w.heap.size (fun k_ => some k_ ≠ (s_.2.2.2.1 : Value).ownBlock ∧ some k_ ≠ (s_.2.2.2.2 : Value).ownBlock) s_.2.1 y389) ∧ (Kd.R (Kd.int .i64) 3 w' w.heap.size (fun k_ => some k_ ≠ (s_.2.1 : Value).ownBlock ∧ some k_ ≠ (s_.2.2.2.2 : Value).ownBlock) s_.2.2.2.1 y395) ∧ (Kd.R (Kd.int .i64) 3 w' w.heap.size (fun k_ => some k_ ≠ (s_.2.1 : Value).ownBlock ∧ some k_ ≠ (s_.2.2.2.1 : Value).ownBlock) s_.2.2.2.2 y398) ∧ (w'.heap[gb384]? = some (.cells #[.slice A0_0 l0_0.length c0_0, .slice A0_1 l0_1.length c0_1, .slice A0_2 l0_2.length c0_2] 24 (0, 0))) ∧ (w'.heap[gb385]? = some (.cells #[.slice none 0 0, .slice none 0 0, .slice none 0 0] 24 (0, 0))) ∧ (Below w.heap.size w w')) ?_ ?_
    rotate_left
    ·intro hJ0_3_4_7_8
     refine join_ (σ := Value × Value × Value × Value) 4 #[true, true, true, true, true, true, true, true, false, true, true, false, false, false] (fun s_ => [(3, s_.1), (6, s_.2.1), (7, s_.2.2.1), (10, s_.2.2.2)]) (fun s_ w' => (w'.cell? ⟨gb384, 0, none⟩ = some (.slice A0_0 l0_0.length c0_0) ∧ w'.cell? ⟨gb384, 1, none⟩ = some (.slice A0_1 l0_1.length c0_1) ∧ w'.cell? ⟨gb384, 2, none⟩ = some (.slice A0_2 l0_2.length c0_2)) ∧ (Kd.R (Kd.int .i64) 3 w' w.heap.size (fun k_ => some k_ ≠ (s_.2.2.2 : Value).ownBlock) s_.2.1 y389) ∧ (Kd.R (Kd.int .i64) 3 w' w.heap.size (fun k_ => some k_ ≠ (s_.2.1 : Value).ownBlock) s_.2.2.2 y395) ∧ (w'.heap[gb384]? = some (.cells #[.slice A0_0 l0_0.length c0_0, .slice A0_1 l0_1.length c0_1, .slice A0_2 l0_2.length c0_2] 24 (0, 0))) ∧ (w'.heap[gb385]? = some (.cells #[.slice none 0 0, .slice none 0 0, .slice none 0 0] 24 (0, 0))) ∧ (Below w.heap.size w w')) ?_ ?_
     rotate_left
     ·intro hJ0_3_4_7
      refine join_ (σ := Value × Value × Value × Value) 4 #[true, true, true, true, true, true, true, false, true, true, true, false, false, false] (fun s_ => [(3, s_.1), (6, s_.2.1), (7, s_.2.2.1), (11, s_.2.2.2)]) (fun s_ w' => (w'.cell? ⟨gb384, 0, none⟩ = some (.slice A0_0 l0_0.length c0_0) ∧ w'.cell? ⟨gb384, 1, none⟩ = some (.slice A0_1 l0_1.length c0_1) ∧ w'.cell? ⟨gb384, 2, none⟩ = some (.slice A0_2 l0_2.length c0_2)) ∧ (Kd.R (Kd.int .i64) 3 w' w.heap.size (fun k_ => some k_ ≠ (s_.2.2.1 : Value).ownBlock ∧ some k_ ≠ (s_.2.2.2 : Value).ownBlock) s_.2.1 y389) ∧ (Kd.R (Kd.int .i64) 3 w' w.heap.size (fun k_ => some k_ ≠ (s_.2.1 : Value).ownBlock ∧ some k_ ≠ (s_.2.2.2 : Value).ownBlock) s_.2.2.1 y392) ∧ (Kd.R (Kd.int .i64) 3 w' w.heap.size (fun k_ => some k_ ≠ (s_.2.1 : Value).ownBlock ∧ some k_ ≠ (s_.2.2.1 : Value).ownBlock) s_.2.2.2 y398) ∧ (w'.heap[gb384]? = some (.cells #[.slice A0_0 l0_0.length c0_0, .slice A0_1 l0_1.length c0_1, .slice A0_2 l0_2.length c0_2] 24 (0, 0))) ∧ (w'.heap[gb385]? = some (.cells #[.slice none 0 0, .slice none 0 0, .slice none 0 0] 24 (0, 0))) ∧ (Below w.heap.size w w')) ?_ ?_
      rotate_left
      ·intro hJ0_3_4_8
       refine join_ (σ := Value × Value × Value) 5 #[true, true, true, true, true, true, true, false, false, true, true, false, false, false] (fun s_ => [(3, s_.1), (6, s_.2.1), (7, s_.2.2)]) (fun s_ w' => (w'.cell? ⟨gb384, 0, none⟩ = some (.slice A0_0 l0_0.length c0_0) ∧ w'.cell? ⟨gb384, 1, none⟩ = some (.slice A0_1 l0_1.length c0_1) ∧ w'.cell? ⟨gb384, 2, none⟩ = some (.slice A0_2 l0_2.length c0_2)) ∧ (Kd.R (Kd.int .i64) 3 w' w.heap.size (fun k_ => some k_ ≠ (s_.2.2 : Value).ownBlock) s_.2.1 y389) ∧ (Kd.R (Kd.int .i64) 3 w' w.heap.size (fun k_ => some k_ ≠ (s_.2.1 : Value).ownBlock) s_.2.2 y392) ∧ (w'.heap[gb384]? = some (.cells #[.slice A0_0 l0_0.length c0_0, .slice A0_1 l0_1.length c0_1, .slice A0_2 l0_2.length c0_2] 24 (0, 0))) ∧ (w'.heap[gb385]? = some (.cells #[.slice none 0 0, .slice none 0 0, .slice none 0 0] 24 (0, 0))) ∧ (Below w.heap.size w w')) ?_ ?_
       rotate_left
       ·intro hJ0_3_4
        refine join_ (σ := Value × Value × Value) 5 #[true, true, true, true, false, true, true, false, true, true, true, false, false, false] (fun s_ => [(3, s_.1), (6, s_.2.1), (11, s_.2.2)]) (fun s_ w' => (w'.cell? ⟨gb384, 0, none⟩ = some (.slice A0_0 l0_0.length c0_0) ∧ w'.cell? ⟨gb384, 1, none⟩ = some (.slice A0_1 l0_1.length c0_1) ∧ w'.cell? ⟨gb384, 2, none⟩ = some (.slice A0_2 l0_2.length c0_2)) ∧ (Kd.R (Kd.int .i64) 3 w' w.heap.size (fun k_ => some k_ ≠ (s_.2.2 : Value).ownBlock) s_.2.1 y389) ∧ (Kd.R (Kd.int .i64) 3 w' w.heap.size (fun k_ => some k_ ≠ (s_.2.1 : Value).ownBlock) s_.2.2 y398) ∧ (w'.heap[gb384]? = some (.cells #[.slice A0_0 l0_0.length c0_0, .slice A0_1 l0_1.length c0_1, .slice A0_2 l0_2.length c0_2] 24 (0, 0))) ∧ (w'.heap[gb385]? = some (.cells #[.slice none 0 0, .slice none 0 0, .slice none 0 0] 24 (0, 0))) ∧ (Below w.heap.size w w')) ?_ ?_
        rotate_left
        ·intro hJ0_3_8
         refine join_ (σ := Value × Value × Value) 5 #[true, true, true, false, true, true, true, false, true, true, true, false, false, false] (fun s_ => [(3, s_.1), (7, s_.2.1), (11, s_.2.2)]) (fun s_ w' => (w'.cell? ⟨gb384, 0, none⟩ = some (.slice A0_0 l0_0.length c0_0) ∧ w'.cell? ⟨gb384, 1, none⟩ = some (.slice A0_1 l0_1.length c0_1) ∧ w'.cell? ⟨gb384, 2, none⟩ = some (.slice A0_2 l0_2.length c0_2)) ∧ (Kd.R (Kd.int .i64) 3 w' w.heap.size (fun k_ => some k_ ≠ (s_.2.1 : Value).ownBlock ∧ some k_ ≠ (s_.2.2 : Value).ownBlock) s_.1 y386) ∧ (Kd.R (Kd.int .i64) 3 w' w.heap.size (fun k_ => some k_ ≠ (s_.1 : Value).ownBlock ∧ some k_ ≠ (s_.2.2 : Value).ownBlock) s_.2.1 y392) ∧ (Kd.R (Kd.int .i64) 3 w' w.heap.size (fun k_ => some k_ ≠ (s_.1 : Value).ownBlock ∧ some k_ ≠ (s_.2.1 : Value).ownBlock) s_.2.2 y398) ∧ (w'.heap[gb384]? = some (.cells #[.slice A0_0 l0_0.length c0_0, .slice A0_1 l0_1.length c0_1, .slice A0_2 l0_2.length c0_2] 24 (0, 0))) ∧ (w'.heap[gb385]? = some (.cells #[.slice none 0 0, .slice none 0 0, .slice none 0 0] 24 (0, 0))) ∧ (Below w.heap.size w w')) ?_ ?_
         rotate_left
         ·intro hJ0_4_8
          refine join_ (σ := Value × Value) 6 #[true, true, true, true, false, true, true, false, false, true, true, false, false, false] (fun s_ => [(3, s_.1), (6, s_.2)]) (fun s_ w' => (w'.cell? ⟨gb384, 0, none⟩ = some (.slice A0_0 l0_0.length c0_0) ∧ w'.cell? ⟨gb384, 1, none⟩ = some (.slice A0_1 l0_1.length c0_1) ∧ w'.cell? ⟨gb384, 2, none⟩ = some (.slice A0_2 l0_2.length c0_2)) ∧ (Kd.R (Kd.int .i64) 3 w' w.heap.size (fun _ => True) s_.2 y389) ∧ (w'.heap[gb384]? = some (.cells #[.slice A0_0 l0_0.length c0_0, .slice A0_1 l0_1.length c0_1, .slice A0_2 l0_2.length c0_2] 24 (0, 0))) ∧ (w'.heap[gb385]? = some (.cells #[.slice none 0 0, .slice none 0 0, .slice none 0 0] 24 (0, 0))) ∧ (Below w.heap.size w w')) ?_ ?_
          rotate_left
          ·intro hJ0_3
           refine join_ (σ := Value × Value) 6 #[true, true, true, false, true, true, true, false, false, true, true, false, false, false] (fun s_ => [(3, s_.1), (7, s_.2)]) (fun s_ w' => (w'.cell? ⟨gb384, 0, none⟩ = some (.slice A0_0 l0_0.length c0_0) ∧ w'.cell? ⟨gb384, 1, none⟩ = some (.slice A0_1 l0_1.length c0_1) ∧ w'.cell? ⟨gb384, 2, none⟩ = some (.slice A0_2 l0_2.length c0_2)) ∧ (Kd.R (Kd.int .i64) 3 w' w.heap.size (fun k_ => some k_ ≠ (s_.2 : Value).ownBlock) s_.1 y386) ∧ (Kd.R (Kd.int .i64) 3 w' w.heap.size (fun k_ => some k_ ≠ (s_.1 : Value).ownBlock) s_.2 y392) ∧ (w'.heap[gb384]? = some (.cells #[.slice A0_0 l0_0.length c0_0, .slice A0_1 l0_1.length c0_1, .slice A0_2 l0_2.length c0_2] 24 (0, 0))) ∧ (w'.heap[gb385]? = some (.cells #[.slice none 0 0, .slice none 0 0, .slice none 0 0] 24 (0, 0))) ∧ (Below w.heap.size w w')) ?_ ?_
           rotate_left
           ·intro hJ0_4
            refine join_ (σ := Value × Value) 6 #[true, true, true, false, false, true, true, false, true, true, true, false, false, false] (fun s_ => [(3, s_.1), (11, s_.2)]) (fun s_ w' => (w'.cell? ⟨gb384, 0, none⟩ = some (.slice A0_0 l0_0.length c0_0) ∧ w'.cell? ⟨gb384, 1, none⟩ = some (.slice A0_1 l0_1.length c0_1) ∧ w'.cell? ⟨gb384, 2, none⟩ = some (.slice A0_2 l0_2.length c0_2)) ∧ (Kd.R (Kd.int .i64) 3 w' w.heap.size (fun k_ => some k_ ≠ (s_.2 : Value).ownBlock) s_.1 y386) ∧ (Kd.R (Kd.int .i64) 3 w' w.heap.size (fun k_ => some k_ ≠ (s_.1 : Value).ownBlock) s_.2 y398) ∧ (w'.heap[gb384]? = some (.cells #[.slice A0_0 l0_0.length c0_0, .slice A0_1 l0_1.length c0_1, .slice A0_2 l0_2.length c0_2] 24 (0, 0))) ∧ (w'.heap[gb385]? = some (.cells #[.slice none 0 0, .slice none 0 0, .slice none 0 0] 24 (0, 0))) ∧ (Below w.heap.size w w')) ?_ ?_
            rotate_left
            ·intro hJ0_8
             refine join_ (σ := Value × Value) 6 #[false, true, true, false, true, true, true, false, true, true, true, false, false, false] (fun s_ => [(7, s_.1), (11, s_.2)]) (fun s_ w' => (w'.cell? ⟨gb384, 0, none⟩ = some (.slice A0_0 l0_0.length c0_0) ∧ w'.cell? ⟨gb384, 1, none⟩ = some (.slice A0_1 l0_1.length c0_1) ∧ w'.cell? ⟨gb384, 2, none⟩ = some (.slice A0_2 l0_2.length c0_2)) ∧ (Kd.R (Kd.int .i64) 3 w' w.heap.size (fun k_ => some k_ ≠ (s_.2 : Value).ownBlock) s_.1 y392) ∧ (Kd.R (Kd.int .i64) 3 w' w.heap.size (fun k_ => some k_ ≠ (s_.1 : Value).ownBlock) s_.2 y398) ∧ (w'.heap[gb384]? = some (.cells #[.slice A0_0 l0_0.length c0_0, .slice A0_1 l0_1.length c0_1, .slice A0_2 l0_2.length c0_2] 24 (0, 0))) ∧ (w'.heap[gb385]? = some (.cells #[.slice none 0 0, .slice none 0 0, .slice none 0 0] 24 (0, 0))) ∧ (Below w.heap.size w w')) ?_ ?_
             rotate_left
             ·intro hJ4_8
              refine join_ (σ := Value) 7 #[true, true, true, false, false, true, true, false, false, true, true, false, false, false] (fun s_ => [(3, s_)]) (fun s_ w' => (w'.cell? ⟨gb384, 0, none⟩ = some (.slice A0_0 l0_0.length c0_0) ∧ w'.cell? ⟨gb384, 1, none⟩ = some (.slice A0_1 l0_1.length c0_1) ∧ w'.cell? ⟨gb384, 2, none⟩ = some (.slice A0_2 l0_2.length c0_2)) ∧ (Kd.R (Kd.int .i64) 3 w' w.heap.size (fun _ => True) s_ y386) ∧ (w'.heap[gb384]? = some (.cells #[.slice A0_0 l0_0.length c0_0, .slice A0_1 l0_1.length c0_1, .slice A0_2 l0_2.length c0_2] 24 (0, 0))) ∧ (w'.heap[gb385]? = some (.cells #[.slice none 0 0, .slice none 0 0, .slice none 0 0] 24 (0, 0))) ∧ (Below w.heap.size w w')) ?_ ?_
              rotate_left
              ·intro hJ0
               refine join_ (σ := Value) 7 #[false, true, true, false, true, true, true, false, false, true, true, false, false, false] (fun s_ => [(7, s_)]) (fun s_ w' => (w'.cell? ⟨gb384, 0, none⟩ = some (.slice A0_0 l0_0.length c0_0) ∧ w'.cell? ⟨gb384, 1, none⟩ = some (.slice A0_1 l0_1.length c0_1) ∧ w'.cell? ⟨gb384, 2, none⟩ = some (.slice A0_2 l0_2.length c0_2)) ∧ (Kd.R (Kd.int .i64) 3 w' w.heap.size (fun _ => True) s_ y392) ∧ (w'.heap[gb384]? = some (.cells #[.slice A0_0 l0_0.length c0_0, .slice A0_1 l0_1.length c0_1, .slice A0_2 l0_2.length c0_2] 24 (0, 0))) ∧ (w'.heap[gb385]? = some (.cells #[.slice none 0 0, .slice none 0 0, .slice none 0 0] 24 (0, 0))) ∧ (Below w.heap.size w w')) ?_ ?_
               rotate_left
               ·intro hJ4
                refine join_ (σ := Value) 7 #[false, true, true, false, false, true, true, false, true, true, true, false, false, false] (fun s_ => [(11, s_)]) (fun s_ w' => (w'.cell? ⟨gb384, 0, none⟩ = some (.slice A0_0 l0_0.length c0_0) ∧ w'.cell? ⟨gb384, 1, none⟩ = some (.slice A0_1 l0_1.length c0_1) ∧ w'.cell? ⟨gb384, 2, none⟩ = some (.slice A0_2 l0_2.length c0_2)) ∧ (Kd.R (Kd.int .i64) 3 w' w.heap.size (fun _ => True) s_ y398) ∧ (w'.heap[gb384]? = some (.cells #[.slice A0_0 l0_0.length c0_0, .slice A0_1 l0_1.length c0_1, .slice A0_2 l0_2.length c0_2] 24 (0, 0))) ∧ (w'.heap[gb385]? = some (.cells #[.slice none 0 0, .slice none 0 0, .slice none 0 0] 24 (0, 0))) ∧ (Below w.heap.size w w')) ?_ ?_
                rotate_left
                ·intro hJ8
                 refine three_ (i := 0) (j := 4) (k := 8) (Ni := some 3) (Nj := some 7) (Nk := some 11) #[true, true, true, false, false, true, true, false, false, true, true, false, false, false] #[false, true, true, false, true, true, true, false, false, true, true, false, false, false] #[false, true, true, false, false, true, true, false, true, true, true, false, false, false] rfl rfl rfl rfl rfl rfl (three_of HT_.out (by kernel_rfl)) (by decide) (by decide) (by decide) (fun K hK => ?_) (fun K hK => ?_) (fun K hK => ?_)
                 ·skip
                  refine Kd.R_lit_step (Kd.int .i64) _ 3 ?hg (N := 3) ?hd (xs := ([] : List Int)) (inner := []) (ok := fun _ => True) (okp := fun _ => True) ?hr ?hp (fun _ hk => hk) trivial (Below.refl _ _) (Nat.le_refl _) (by simp) ?_; (case hd => rfl); (case hg => rfl); (case hr => first | (go_simp; done) | (go_simp; rfl)); (case hp => exact (Reps.none _ _))
                  intro v387 w8 ho9 hb hg_ hnew_
                  clear hg_ hnew_
                  (first | rw [← Ny386.out] at ho9 | (simp only [Int.reduceToNat] at ho9; rw [← Ny386.out] at ho9))
                  have HO388 := ln0 ho9 (bs2 GE384.out GE385.out HB.out)
                  replace BK384 := bb BK384 hb
                  replace BK385 := bb BK385 hb
                  replace HB := am (below_step (bs2 GE384.out GE385.out HB.out) hb)
                  clear hb ho9
                  refine hK.out _ _ ⟨(blk_cell BK384.out 0).trans rfl, (blk_cell BK384.out 1).trans rfl, (blk_cell BK384.out 2).trans rfl⟩ (fun hHeld => ?_)
                  clear hK K
                  refine norm_ (a' := ?_) ?_ ?_
                  rotate_left
                  ·show Act.put _ (some 3) _ = _
                   simp only [Act.put, List.setIfInBounds_toArray, List.set_cons_zero, List.set_cons_succ, i64_w, i32_w]
                   rfl
                  exact norm_ (by first | (simp only [putAll, Act.put, List.setIfInBounds_toArray, List.set_cons_zero, List.set_cons_succ]; done) | (simp only [putAll, Act.put, List.setIfInBounds_toArray, List.set_cons_zero, List.set_cons_succ]; rfl)) (hJ0 (v387) _ ⟨hHeld, (rl HO388.out), (kl BK384.out), (kl BK385.out), (bs2 GE384.out GE385.out HB.out)⟩)
                 ·skip
                  refine Kd.R_lit_step (Kd.int .i64) _ 3 ?hg (N := 7) ?hd (xs := ([] : List Int)) (inner := []) (ok := fun _ => True) (okp := fun _ => True) ?hr ?hp (fun _ hk => hk) trivial (Below.refl _ _) (Nat.le_refl _) (by simp) ?_; (case hd => rfl); (case hg => rfl); (case hr => first | (go_simp; done) | (go_simp; rfl)); (case hp => exact (Reps.none _ _))
                  intro v393 w8 ho9 hb hg_ hnew_
                  clear hg_ hnew_
                  (first | rw [← Ny392.out] at ho9 | (simp only [Int.reduceToNat] at ho9; rw [← Ny392.out] at ho9))
                  have HO394 := ln0 ho9 (bs2 GE384.out GE385.out HB.out)
                  replace BK384 := bb BK384 hb
                  replace BK385 := bb BK385 hb
                  replace HB := am (below_step (bs2 GE384.out GE385.out HB.out) hb)
                  clear hb ho9
                  refine hK.out _ _ ⟨(blk_cell BK384.out 0).trans rfl, (blk_cell BK384.out 1).trans rfl, (blk_cell BK384.out 2).trans rfl⟩ (fun hHeld => ?_)
                  clear hK K
                  refine norm_ (a' := ?_) ?_ ?_
                  rotate_left
                  ·show Act.put _ (some 7) _ = _
                   simp only [Act.put, List.setIfInBounds_toArray, List.set_cons_zero, List.set_cons_succ, i64_w, i32_w]
                   rfl
                  exact norm_ (by first | (simp only [putAll, Act.put, List.setIfInBounds_toArray, List.set_cons_zero, List.set_cons_succ]; done) | (simp only [putAll, Act.put, List.setIfInBounds_toArray, List.set_cons_zero, List.set_cons_succ]; rfl)) (hJ4 (v393) _ ⟨hHeld, (rl HO394.out), (kl BK384.out), (kl BK385.out), (bs2 GE384.out GE385.out HB.out)⟩)
                 ·skip
                  refine Kd.R_lit_step (Kd.int .i64) _ 3 ?hg (N := 11) ?hd (xs := ([] : List Int)) (inner := []) (ok := fun _ => True) (okp := fun _ => True) ?hr ?hp (fun _ hk => hk) trivial (Below.refl _ _) (Nat.le_refl _) (by simp) ?_; (case hd => rfl); (case hg => rfl); (case hr => first | (go_simp; done) | (go_simp; rfl)); (case hp => exact (Reps.none _ _))
                  intro v399 w8 ho9 hb hg_ hnew_
                  clear hg_ hnew_
                  (first | rw [← Ny398.out] at ho9 | (simp only [Int.reduceToNat] at ho9; rw [← Ny398.out] at ho9))
                  have HO400 := ln0 ho9 (bs2 GE384.out GE385.out HB.out)
                  replace BK384 := bb BK384 hb
                  replace BK385 := bb BK385 hb
                  replace HB := am (below_step (bs2 GE384.out GE385.out HB.out) hb)
                  clear hb ho9
                  refine hK.out _ _ ⟨(blk_cell BK384.out 0).trans rfl, (blk_cell BK384.out 1).trans rfl, (blk_cell BK384.out 2).trans rfl⟩ (fun hHeld => ?_)
                  clear hK K
                  refine norm_ (a' := ?_) ?_ ?_
                  rotate_left
                  ·show Act.put _ (some 11) _ = _
                   simp only [Act.put, List.setIfInBounds_toArray, List.set_cons_zero, List.set_cons_succ, i64_w, i32_w]
                   rfl
                  exact norm_ (by first | (simp only [putAll, Act.put, List.setIfInBounds_toArray, List.set_cons_zero, List.set_cons_succ]; done) | (simp only [putAll, Act.put, List.setIfInBounds_toArray, List.set_cons_zero, List.set_cons_succ]; rfl)) (hJ8 (v399) _ ⟨hHeld, (rl HO400.out), (kl BK384.out), (kl BK385.out), (bs2 GE384.out GE385.out HB.out)⟩)
                ·skip
                 rintro v399 w10 ⟨hS_, h0_, h1_, h2_, h3_⟩
                 have HO400 : Aside0 (Kd.R (Kd.int .i64) 3 w10 w.heap.size (fun _ => True) v399 y398) := ⟨h0_⟩
                 replace BK384 : Aside0 (w10.heap[gb384]? = some (.cells #[.slice A0_0 l0_0.length c0_0, .slice A0_1 l0_1.length c0_1, .slice A0_2 l0_2.length c0_2] 24 (0, 0))) := ⟨h1_⟩
                 replace BK385 : Aside0 (w10.heap[gb385]? = some (.cells #[.slice none 0 0, .slice none 0 0, .slice none 0 0] 24 (0, 0))) := ⟨h2_⟩
                 replace HB : Aside0 (Below w.heap.size w w10) := ⟨h3_⟩
                 clear h0_ h1_ h2_ h3_
                 have hHeld : w10.cell? ⟨gb384, 0, none⟩ = some (.slice A0_0 l0_0.length c0_0) ∧ w10.cell? ⟨gb384, 1, none⟩ = some (.slice A0_1 l0_1.length c0_1) ∧ w10.cell? ⟨gb384, 2, none⟩ = some (.slice A0_2 l0_2.length c0_2) := hS_
                 refine norm_ (a' := ?_) ?_ ?_
                 rotate_left
                 ·simp only [putAll, Act.put, List.setIfInBounds_toArray, List.set_cons_zero, List.set_cons_succ]
                  rfl
                 refine two_ (i := 0) (j := 4) (Ni := some 3) (Nj := some 7) #[true, true, true, false, false, true, true, false, true, true, true, false, false, false] #[false, true, true, false, true, true, true, false, true, true, true, false, false, false] rfl rfl rfl rfl (two_of HT_.out (by kernel_rfl)) (by decide) (by decide) (fun K hK => ?_) (fun K hK => ?_)
                 ·skip
                  refine Kd.R_lit_step (Kd.int .i64) _ 3 ?hg (N := 3) ?hd (xs := ([] : List Int)) (inner := []) (ok := fun _ => True) (okp := fun _ => True) ?hr ?hp (fun _ hk => hk) trivial (Below.refl _ _) (Nat.le_refl _) (by simp) ?_; (case hd => rfl); (case hg => rfl); (case hr => first | (go_simp; done) | (go_simp; rfl)); (case hp => exact (Reps.none _ _))
                  intro v387 w11 ho12 hb hg_ hnew_
                  clear hg_ hnew_
                  (first | rw [← Ny386.out] at ho12 | (simp only [Int.reduceToNat] at ho12; rw [← Ny386.out] at ho12))
                  have HO388 := ln1 ho12 (rl HO400.out) (bs2 GE384.out GE385.out HB.out)
                  replace HO400 := am (Kd.R_elder' (rl HO400.out) (Kd.R_base ho12) hb)
                  replace BK384 := bb BK384 hb
                  replace BK385 := bb BK385 hb
                  replace HB := am (below_step (bs2 GE384.out GE385.out HB.out) hb)
                  clear hb ho12
                  refine hK.out _ _ ⟨(blk_cell BK384.out 0).trans rfl, (blk_cell BK384.out 1).trans rfl, (blk_cell BK384.out 2).trans rfl⟩ (fun hHeld => ?_)
                  clear hK K
                  refine norm_ (a' := ?_) ?_ ?_
                  rotate_left
                  ·show Act.put _ (some 3) _ = _
                   simp only [Act.put, List.setIfInBounds_toArray, List.set_cons_zero, List.set_cons_succ, i64_w, i32_w]
                   rfl
                  exact norm_ (by first | (simp only [putAll, Act.put, List.setIfInBounds_toArray, List.set_cons_zero, List.set_cons_succ]; done) | (simp only [putAll, Act.put, List.setIfInBounds_toArray, List.set_cons_zero, List.set_cons_succ]; rfl)) (hJ0_8 (v387, v399) _ ⟨hHeld, (rl (Kd.R_mono HO388.out (fun _ hk => by first | exact hk.2 | (simp only [ne_eq] at hk ⊢; simp only [hk, not_false_eq_true, and_self])))), (rl (Kd.R_mono HO400.out (fun _ hk => by first | exact hk.2 | (simp only [ne_eq] at hk ⊢; simp only [hk, not_false_eq_true, and_self])))), (kl BK384.out), (kl BK385.out), (bs2 GE384.out GE385.out HB.out)⟩)
                 ·skip
                  refine Kd.R_lit_step (Kd.int .i64) _ 3 ?hg (N := 7) ?hd (xs := ([] : List Int)) (inner := []) (ok := fun _ => True) (okp := fun _ => True) ?hr ?hp (fun _ hk => hk) trivial (Below.refl _ _) (Nat.le_refl _) (by simp) ?_; (case hd => rfl); (case hg => rfl); (case hr => first | (go_simp; done) | (go_simp; rfl)); (case hp => exact (Reps.none _ _))
                  intro v393 w11 ho12 hb hg_ hnew_
                  clear hg_ hnew_
                  (first | rw [← Ny392.out] at ho12 | (simp only [Int.reduceToNat] at ho12; rw [← Ny392.out] at ho12))
                  have HO394 := ln1 ho12 (rl HO400.out) (bs2 GE384.out GE385.out HB.out)
                  replace HO400 := am (Kd.R_elder' (rl HO400.out) (Kd.R_base ho12) hb)
                  replace BK384 := bb BK384 hb
                  replace BK385 := bb BK385 hb
                  replace HB := am (below_step (bs2 GE384.out GE385.out HB.out) hb)
                  clear hb ho12
                  refine hK.out _ _ ⟨(blk_cell BK384.out 0).trans rfl, (blk_cell BK384.out 1).trans rfl, (blk_cell BK384.out 2).trans rfl⟩ (fun hHeld => ?_)
                  clear hK K
                  refine norm_ (a' := ?_) ?_ ?_
                  rotate_left
                  ·show Act.put _ (some 7) _ = _
                   simp only [Act.put, List.setIfInBounds_toArray, List.set_cons_zero, List.set_cons_succ, i64_w, i32_w]
                   rfl
                  exact norm_ (by first | (simp only [putAll, Act.put, List.setIfInBounds_toArray, List.set_cons_zero, List.set_cons_succ]; done) | (simp only [putAll, Act.put, List.setIfInBounds_toArray, List.set_cons_zero, List.set_cons_succ]; rfl)) (hJ4_8 (v393, v399) _ ⟨hHeld, (rl (Kd.R_mono HO394.out (fun _ hk => by first | exact hk.2 | (simp only [ne_eq] at hk ⊢; simp only [hk, not_false_eq_true, and_self])))), (rl (Kd.R_mono HO400.out (fun _ hk => by first | exact hk.2 | (simp only [ne_eq] at hk ⊢; simp only [hk, not_false_eq_true, and_self])))), (kl BK384.out), (kl BK385.out), (bs2 GE384.out GE385.out HB.out)⟩)
               ·skip
                rintro v393 w10 ⟨hS_, h0_, h1_, h2_, h3_⟩
                have HO394 : Aside0 (Kd.R (Kd.int .i64) 3 w10 w.heap.size (fun _ => True) v393 y392) := ⟨h0_⟩
                replace BK384 : Aside0 (w10.heap[gb384]? = some (.cells #[.slice A0_0 l0_0.length c0_0, .slice A0_1 l0_1.length c0_1, .slice A0_2 l0_2.length c0_2] 24 (0, 0))) := ⟨h1_⟩
                replace BK385 : Aside0 (w10.heap[gb385]? = some (.cells #[.slice none 0 0, .slice none 0 0, .slice none 0 0] 24 (0, 0))) := ⟨h2_⟩
                replace HB : Aside0 (Below w.heap.size w w10) := ⟨h3_⟩
                clear h0_ h1_ h2_ h3_
                have hHeld : w10.cell? ⟨gb384, 0, none⟩ = some (.slice A0_0 l0_0.length c0_0) ∧ w10.cell? ⟨gb384, 1, none⟩ = some (.slice A0_1 l0_1.length c0_1) ∧ w10.cell? ⟨gb384, 2, none⟩ = some (.slice A0_2 l0_2.length c0_2) := hS_
                refine norm_ (a' := ?_) ?_ ?_
                rotate_left
                ·simp only [putAll, Act.put, List.setIfInBounds_toArray, List.set_cons_zero, List.set_cons_succ]
                 rfl
                refine two_ (i := 0) (j := 8) (Ni := some 3) (Nj := some 11) #[true, true, true, false, true, true, true, false, false, true, true, false, false, false] #[false, true, true, false, true, true, true, false, true, true, true, false, false, false] rfl rfl rfl rfl (two_of HT_.out (by kernel_rfl)) (by decide) (by decide) (fun K hK => ?_) (fun K hK => ?_)
                ·skip
                 refine Kd.R_lit_step (Kd.int .i64) _ 3 ?hg (N := 3) ?hd (xs := ([] : List Int)) (inner := []) (ok := fun _ => True) (okp := fun _ => True) ?hr ?hp (fun _ hk => hk) trivial (Below.refl _ _) (Nat.le_refl _) (by simp) ?_; (case hd => rfl); (case hg => rfl); (case hr => first | (go_simp; done) | (go_simp; rfl)); (case hp => exact (Reps.none _ _))
                 intro v387 w11 ho12 hb hg_ hnew_
                 clear hg_ hnew_
                 (first | rw [← Ny386.out] at ho12 | (simp only [Int.reduceToNat] at ho12; rw [← Ny386.out] at ho12))
                 have HO388 := ln1 ho12 (rl HO394.out) (bs2 GE384.out GE385.out HB.out)
                 replace HO394 := am (Kd.R_elder' (rl HO394.out) (Kd.R_base ho12) hb)
                 replace BK384 := bb BK384 hb
                 replace BK385 := bb BK385 hb
                 replace HB := am (below_step (bs2 GE384.out GE385.out HB.out) hb)
                 clear hb ho12
                 refine hK.out _ _ ⟨(blk_cell BK384.out 0).trans rfl, (blk_cell BK384.out 1).trans rfl, (blk_cell BK384.out 2).trans rfl⟩ (fun hHeld => ?_)
                 clear hK K
                 refine norm_ (a' := ?_) ?_ ?_
                 rotate_left
                 ·show Act.put _ (some 3) _ = _
                  simp only [Act.put, List.setIfInBounds_toArray, List.set_cons_zero, List.set_cons_succ, i64_w, i32_w]
                  rfl
                 exact norm_ (by first | (simp only [putAll, Act.put, List.setIfInBounds_toArray, List.set_cons_zero, List.set_cons_succ]; done) | (simp only [putAll, Act.put, List.setIfInBounds_toArray, List.set_cons_zero, List.set_cons_succ]; rfl)) (hJ0_4 (v387, v393) _ ⟨hHeld, (rl (Kd.R_mono HO388.out (fun _ hk => by first | exact hk.2 | (simp only [ne_eq] at hk ⊢; simp only [hk, not_false_eq_true, and_self])))), (rl (Kd.R_mono HO394.out (fun _ hk => by first | exact hk.2 | (simp only [ne_eq] at hk ⊢; simp only [hk, not_false_eq_true, and_self])))), (kl BK384.out), (kl BK385.out), (bs2 GE384.out GE385.out HB.out)⟩)
                ·skip
                 refine Kd.R_lit_step (Kd.int .i64) _ 3 ?hg (N := 11) ?hd (xs := ([] : List Int)) (inner := []) (ok := fun _ => True) (okp := fun _ => True) ?hr ?hp (fun _ hk => hk) trivial (Below.refl _ _) (Nat.le_refl _) (by simp) ?_; (case hd => rfl); (case hg => rfl); (case hr => first | (go_simp; done) | (go_simp; rfl)); (case hp => exact (Reps.none _ _))
                 intro v399 w11 ho12 hb hg_ hnew_
                 clear hg_ hnew_
                 (first | rw [← Ny398.out] at ho12 | (simp only [Int.reduceToNat] at ho12; rw [← Ny398.out] at ho12))
                 have HO400 := ln1 ho12 (rl HO394.out) (bs2 GE384.out GE385.out HB.out)
                 replace HO394 := am (Kd.R_elder' (rl HO394.out) (Kd.R_base ho12) hb)
                 replace BK384 := bb BK384 hb
                 replace BK385 := bb BK385 hb
                 replace HB := am (below_step (bs2 GE384.out GE385.out HB.out) hb)
                 clear hb ho12
                 refine hK.out _ _ ⟨(blk_cell BK384.out 0).trans rfl, (blk_cell BK384.out 1).trans rfl, (blk_cell BK384.out 2).trans rfl⟩ (fun hHeld => ?_)
                 clear hK K
                 refine norm_ (a' := ?_) ?_ ?_
                 rotate_left
                 ·show Act.put _ (some 11) _ = _
                  simp only [Act.put, List.setIfInBounds_toArray, List.set_cons_zero, List.set_cons_succ, i64_w, i32_w]
                  rfl
                 exact norm_ (by first | (simp only [putAll, Act.put, List.setIfInBounds_toArray, List.set_cons_zero, List.set_cons_succ]; done) | (simp only [putAll, Act.put, List.setIfInBounds_toArray, List.set_cons_zero, List.set_cons_succ]; rfl)) (hJ4_8 (v393, v399) _ ⟨hHeld, (rl (Kd.R_mono HO394.out (fun _ hk => by first | exact hk.2 | (simp only [ne_eq] at hk ⊢; simp only [hk, not_false_eq_true, and_self])))), (rl (Kd.R_mono HO400.out (fun _ hk => by first | exact hk.2 | (simp only [ne_eq] at hk ⊢; simp only [hk, not_false_eq_true, and_self])))), (kl BK384.out), (kl BK385.out), (bs2 GE384.out GE385.out HB.out)⟩)
              ·skip
               rintro v387 w10 ⟨hS_, h0_, h1_, h2_, h3_⟩
               have HO388 : Aside0 (Kd.R (Kd.int .i64) 3 w10 w.heap.size (fun _ => True) v387 y386) := ⟨h0_⟩
               replace BK384 : Aside0 (w10.heap[gb384]? = some (.cells #[.slice A0_0 l0_0.length c0_0, .slice A0_1 l0_1.length c0_1, .slice A0_2 l0_2.length c0_2] 24 (0, 0))) := ⟨h1_⟩
               replace BK385 : Aside0 (w10.heap[gb385]? = some (.cells #[.slice none 0 0, .slice none 0 0, .slice none 0 0] 24 (0, 0))) := ⟨h2_⟩
               replace HB : Aside0 (Below w.heap.size w w10) := ⟨h3_⟩
               clear h0_ h1_ h2_ h3_
               have hHeld : w10.cell? ⟨gb384, 0, none⟩ = some (.slice A0_0 l0_0.length c0_0) ∧ w10.cell? ⟨gb384, 1, none⟩ = some (.slice A0_1 l0_1.length c0_1) ∧ w10.cell? ⟨gb384, 2, none⟩ = some (.slice A0_2 l0_2.length c0_2) := hS_
               refine norm_ (a' := ?_) ?_ ?_
               rotate_left
               ·simp only [putAll, Act.put, List.setIfInBounds_toArray, List.set_cons_zero, List.set_cons_succ]
                rfl
               refine three_ (i := 3) (j := 4) (k := 8) (Ni := some 6) (Nj := some 7) (Nk := some 11) #[true, true, true, true, false, true, true, false, false, true, true, false, false, false] #[true, true, true, false, true, true, true, false, false, true, true, false, false, false] #[true, true, true, false, false, true, true, false, true, true, true, false, false, false] rfl rfl rfl rfl rfl rfl (three_of HT_.out (by kernel_rfl)) (by decide) (by decide) (by decide) (fun K hK => ?_) (fun K hK => ?_) (fun K hK => ?_)
               ·skip
                refine Kd.R_append_rows_step (Kd.int .i64) (w0 := w) w.heap.size (by rfl) (.tmp 3) (.tmp 5) 22 3 (.int .i64 0) 8 rfl Tryd.underlying22 info3 rfl (by decide) (by omega) v387 y386 l0_0 _ _ _ (fun _ => True) (fun _ => False) rfl rfl ?aO ?aR (fun _ _ h => h) (fun _ h => h.elim) ?aF ?aB ?aS ?aL ?_
                (case aR => exact ci HR0_0 HB)
                (case aB => exact (bs2 GE384.out GE385.out HB.out))
                (case aF => exact (fun _ _ => trivial))
                (case aO => exact (rl HO388.out))
                (case aS => exact (below_size (bs2 GE384.out GE385.out HB.out)))
                (case aL => have := LMc2.out; omega)
                intro v390 w11 ho hb hg hat
                rw [← Ny389.out] at ho
                replace BK384 := am (blk_grown (g := gb384) (o := .cells #[.slice A0_0 l0_0.length c0_0, .slice A0_1 l0_1.length c0_1, .slice A0_2 l0_2.length c0_2] 24 (0, 0)) (kl BK384.out) hg (Kd.R_ne HO388.out BK384.out (by decide)))
                replace BK385 := am (blk_grown (g := gb385) (o := .cells #[.slice none 0 0, .slice none 0 0, .slice none 0 0] 24 (0, 0)) (kl BK385.out) hg (Kd.R_ne HO388.out BK385.out (by decide)))
                replace HB := am (hb)
                have HO391 := am (ho)
                clear HO388
                clear ho hb hg hat
                refine hK.out _ _ ⟨(blk_cell BK384.out 0).trans rfl, (blk_cell BK384.out 1).trans rfl, (blk_cell BK384.out 2).trans rfl⟩ (fun hHeld => ?_)
                clear hK K
                refine norm_ (a' := ?_) ?_ ?_
                rotate_left
                ·show Act.put _ (some 6) _ = _
                 simp only [Act.put, List.setIfInBounds_toArray, List.set_cons_zero, List.set_cons_succ, i64_w, i32_w]
                 rfl
                exact norm_ (by first | (simp only [putAll, Act.put, List.setIfInBounds_toArray, List.set_cons_zero, List.set_cons_succ]; done) | (simp only [putAll, Act.put, List.setIfInBounds_toArray, List.set_cons_zero, List.set_cons_succ]; rfl)) (hJ0_3 (v387, v390) _ ⟨hHeld, (rl HO391.out), (kl BK384.out), (kl BK385.out), (bs2 GE384.out GE385.out HB.out)⟩)
               ·skip
                refine Kd.R_lit_step (Kd.int .i64) _ 3 ?hg (N := 7) ?hd (xs := ([] : List Int)) (inner := []) (ok := fun _ => True) (okp := fun _ => True) ?hr ?hp (fun _ hk => hk) trivial (Below.refl _ _) (Nat.le_refl _) (by simp) ?_; (case hd => rfl); (case hg => rfl); (case hr => first | (go_simp; done) | (go_simp; rfl)); (case hp => exact (Reps.none _ _))
                intro v393 w11 ho12 hb hg_ hnew_
                clear hg_ hnew_
                (first | rw [← Ny392.out] at ho12 | (simp only [Int.reduceToNat] at ho12; rw [← Ny392.out] at ho12))
                have HO394 := ln1 ho12 (rl HO388.out) (bs2 GE384.out GE385.out HB.out)
                replace HO388 := am (Kd.R_elder' (rl HO388.out) (Kd.R_base ho12) hb)
                replace BK384 := bb BK384 hb
                replace BK385 := bb BK385 hb
                replace HB := am (below_step (bs2 GE384.out GE385.out HB.out) hb)
                clear hb ho12
                refine hK.out _ _ ⟨(blk_cell BK384.out 0).trans rfl, (blk_cell BK384.out 1).trans rfl, (blk_cell BK384.out 2).trans rfl⟩ (fun hHeld => ?_)
                clear hK K
                refine norm_ (a' := ?_) ?_ ?_
                rotate_left
                ·show Act.put _ (some 7) _ = _
                 simp only [Act.put, List.setIfInBounds_toArray, List.set_cons_zero, List.set_cons_succ, i64_w, i32_w]
                 rfl
                exact norm_ (by first | (simp only [putAll, Act.put, List.setIfInBounds_toArray, List.set_cons_zero, List.set_cons_succ]; done) | (simp only [putAll, Act.put, List.setIfInBounds_toArray, List.set_cons_zero, List.set_cons_succ]; rfl)) (hJ0_4 (v387, v393) _ ⟨hHeld, (rl (Kd.R_mono HO388.out (fun _ hk => by first | exact hk.2 | (simp only [ne_eq] at hk ⊢; simp only [hk, not_false_eq_true, and_self])))), (rl (Kd.R_mono HO394.out (fun _ hk => by first | exact hk.2 | (simp only [ne_eq] at hk ⊢; simp only [hk, not_false_eq_true, and_self])))), (kl BK384.out), (kl BK385.out), (bs2 GE384.out GE385.out HB.out)⟩)
               ·skip
                refine Kd.R_lit_step (Kd.int .i64) _ 3 ?hg (N := 11) ?hd (xs := ([] : List Int)) (inner := []) (ok := fun _ => True) (okp := fun _ => True) ?hr ?hp (fun _ hk => hk) trivial (Below.refl _ _) (Nat.le_refl _) (by simp) ?_; (case hd => rfl); (case hg => rfl); (case hr => first | (go_simp; done) | (go_simp; rfl)); (case hp => exact (Reps.none _ _))
                intro v399 w11 ho12 hb hg_ hnew_
                clear hg_ hnew_
                (first | rw [← Ny398.out] at ho12 | (simp only [Int.reduceToNat] at ho12; rw [← Ny398.out] at ho12))
                have HO400 := ln1 ho12 (rl HO388.out) (bs2 GE384.out GE385.out HB.out)
                replace HO388 := am (Kd.R_elder' (rl HO388.out) (Kd.R_base ho12) hb)
                replace BK384 := bb BK384 hb
                replace BK385 := bb BK385 hb
                replace HB := am (below_step (bs2 GE384.out GE385.out HB.out) hb)
                clear hb ho12
                refine hK.out _ _ ⟨(blk_cell BK384.out 0).trans rfl, (blk_cell BK384.out 1).trans rfl, (blk_cell BK384.out 2).trans rfl⟩ (fun hHeld => ?_)
                clear hK K
                refine norm_ (a' := ?_) ?_ ?_
                rotate_left
                ·show Act.put _ (some 11) _ = _
                 simp only [Act.put, List.setIfInBounds_toArray, List.set_cons_zero, List.set_cons_succ, i64_w, i32_w]
                 rfl
                exact norm_ (by first | (simp only [putAll, Act.put, List.setIfInBounds_toArray, List.set_cons_zero, List.set_cons_succ]; done) | (simp only [putAll, Act.put, List.setIfInBounds_toArray, List.set_cons_zero, List.set_cons_succ]; rfl)) (hJ0_8 (v387, v399) _ ⟨hHeld, (rl (Kd.R_mono HO388.out (fun _ hk => by first | exact hk.2 | (simp only [ne_eq] at hk ⊢; simp only [hk, not_false_eq_true, and_self])))), (rl (Kd.R_mono HO400.out (fun _ hk => by first | exact hk.2 | (simp only [ne_eq] at hk ⊢; simp only [hk, not_false_eq_true, and_self])))), (kl BK384.out), (kl BK385.out), (bs2 GE384.out GE385.out HB.out)⟩)
             ·skip
              rintro ⟨v393, v399⟩ w12 ⟨hS_, h0_, h1_, h2_, h3_, h4_⟩
              have HO394 : Aside0 (Kd.R (Kd.int .i64) 3 w12 w.heap.size (fun k_ => some k_ ≠ (v399 : Value).ownBlock) v393 y392) := ⟨h0_⟩
              have HO400 : Aside0 (Kd.R (Kd.int .i64) 3 w12 w.heap.size (fun k_ => some k_ ≠ (v393 : Value).ownBlock) v399 y398) := ⟨h1_⟩
              replace BK384 : Aside0 (w12.heap[gb384]? = some (.cells #[.slice A0_0 l0_0.length c0_0, .slice A0_1 l0_1.length c0_1, .slice A0_2 l0_2.length c0_2] 24 (0, 0))) := ⟨h2_⟩
              replace BK385 : Aside0 (w12.heap[gb385]? = some (.cells #[.slice none 0 0, .slice none 0 0, .slice none 0 0] 24 (0, 0))) := ⟨h3_⟩
              replace HB : Aside0 (Below w.heap.size w w12) := ⟨h4_⟩
              clear h0_ h1_ h2_ h3_ h4_
              have hHeld : w12.cell? ⟨gb384, 0, none⟩ = some (.slice A0_0 l0_0.length c0_0) ∧ w12.cell? ⟨gb384, 1, none⟩ = some (.slice A0_1 l0_1.length c0_1) ∧ w12.cell? ⟨gb384, 2, none⟩ = some (.slice A0_2 l0_2.length c0_2) := hS_
              refine norm_ (a' := ?_) ?_ ?_
              rotate_left
              ·simp only [putAll, Act.put, List.setIfInBounds_toArray, List.set_cons_zero, List.set_cons_succ]
               rfl
              refine one_ (i := 0) (N := some 3) #[true, true, true, false, true, true, true, false, true, true, true, false, false, false] rfl rfl (one_of HT_.out (by kernel_rfl)) (by decide) (fun K hK => ?_)
              refine Kd.R_lit_step (Kd.int .i64) _ 3 ?hg (N := 3) ?hd (xs := ([] : List Int)) (inner := []) (ok := fun _ => True) (okp := fun _ => True) ?hr ?hp (fun _ hk => hk) trivial (Below.refl _ _) (Nat.le_refl _) (by simp) ?_; (case hd => rfl); (case hg => rfl); (case hr => first | (go_simp; done) | (go_simp; rfl)); (case hp => exact (Reps.none _ _))
              intro v387 w13 ho14 hb hg_ hnew_
              clear hg_ hnew_
              (first | rw [← Ny386.out] at ho14 | (simp only [Int.reduceToNat] at ho14; rw [← Ny386.out] at ho14))
              have HO388 := ln2 ho14 (rl HO394.out) (rl HO400.out) (bs2 GE384.out GE385.out HB.out)
              replace HO394 := am (Kd.R_elder' (rl HO394.out) (Kd.R_base ho14) hb)
              replace HO400 := am (Kd.R_elder' (rl HO400.out) (Kd.R_base ho14) hb)
              replace BK384 := bb BK384 hb
              replace BK385 := bb BK385 hb
              replace HB := am (below_step (bs2 GE384.out GE385.out HB.out) hb)
              clear hb ho14
              refine hK.out _ _ ⟨(blk_cell BK384.out 0).trans rfl, (blk_cell BK384.out 1).trans rfl, (blk_cell BK384.out 2).trans rfl⟩ (fun hHeld => ?_)
              clear hK K
              refine norm_ (a' := ?_) ?_ ?_
              rotate_left
              ·show Act.put _ (some 3) _ = _
               simp only [Act.put, List.setIfInBounds_toArray, List.set_cons_zero, List.set_cons_succ, i64_w, i32_w]
               rfl
              exact norm_ (by first | (simp only [putAll, Act.put, List.setIfInBounds_toArray, List.set_cons_zero, List.set_cons_succ]; done) | (simp only [putAll, Act.put, List.setIfInBounds_toArray, List.set_cons_zero, List.set_cons_succ]; rfl)) (hJ0_4_8 (v387, v393, v399) _ ⟨hHeld, (rl (Kd.R_mono HO388.out (fun _ hk => by first | exact ⟨hk.1.2, hk.2⟩ | (simp only [ne_eq] at hk ⊢; simp only [hk, not_false_eq_true, and_self])))), (rl (Kd.R_mono HO394.out (fun _ hk => by first | exact ⟨hk.2, hk.1⟩ | (simp only [ne_eq] at hk ⊢; simp only [hk, not_false_eq_true, and_self])))), (rl (Kd.R_mono HO400.out (fun _ hk => by first | exact ⟨hk.2, hk.1⟩ | (simp only [ne_eq] at hk ⊢; simp only [hk, not_false_eq_true, and_self])))), (kl BK384.out), (kl BK385.out), (bs2 GE384.out GE385.out HB.out)⟩)
            ·skip
             rintro ⟨v387, v399⟩ w12 ⟨hS_, h0_, h1_, h2_, h3_, h4_⟩
             have HO388 : Aside0 (Kd.R (Kd.int .i64) 3 w12 w.heap.size (fun k_ => some k_ ≠ (v399 : Value).ownBlock) v387 y386) := ⟨h0_⟩
             have HO400 : Aside0 (Kd.R (Kd.int .i64) 3 w12 w.heap.size (fun k_ => some k_ ≠ (v387 : Value).ownBlock) v399 y398) := ⟨h1_⟩
             replace BK384 : Aside0 (w12.heap[gb384]? = some (.cells #[.slice A0_0 l0_0.length c0_0, .slice A0_1 l0_1.length c0_1, .slice A0_2 l0_2.length c0_2] 24 (0, 0))) := ⟨h2_⟩
             replace BK385 : Aside0 (w12.heap[gb385]? = some (.cells #[.slice none 0 0, .slice none 0 0, .slice none 0 0] 24 (0, 0))) := ⟨h3_⟩
             replace HB : Aside0 (Below w.heap.size w w12) := ⟨h4_⟩
             clear h0_ h1_ h2_ h3_ h4_
             have hHeld : w12.cell? ⟨gb384, 0, none⟩ = some (.slice A0_0 l0_0.length c0_0) ∧ w12.cell? ⟨gb384, 1, none⟩ = some (.slice A0_1 l0_1.length c0_1) ∧ w12.cell? ⟨gb384, 2, none⟩ = some (.slice A0_2 l0_2.length c0_2) := hS_
             refine norm_ (a' := ?_) ?_ ?_
             rotate_left
             ·simp only [putAll, Act.put, List.setIfInBounds_toArray, List.set_cons_zero, List.set_cons_succ]
              rfl
             refine two_ (i := 3) (j := 4) (Ni := some 6) (Nj := some 7) #[true, true, true, true, false, true, true, false, true, true, true, false, false, false] #[true, true, true, false, true, true, true, false, true, true, true, false, false, false] rfl rfl rfl rfl (two_of HT_.out (by kernel_rfl)) (by decide) (by decide) (fun K hK => ?_) (fun K hK => ?_)
             ·skip
              refine Kd.R_append_rows_step (Kd.int .i64) (w0 := w) w.heap.size (by rfl) (.tmp 3) (.tmp 5) 22 3 (.int .i64 0) 8 rfl Tryd.underlying22 info3 rfl (by decide) (by omega) v387 y386 l0_0 _ _ _ (fun k_ => some k_ ≠ (v399 : Value).ownBlock) (fun _ => False) rfl rfl ?aO ?aR (fun _ _ h => h) (fun _ h => h.elim) ?aF ?aB ?aS ?aL ?_
              (case aR => exact ci HR0_0 HB)
              (case aB => exact (bs2 GE384.out GE385.out HB.out))
              (case aF => exact (fun k_ hk => Kd.fresh' (Kd.R_lt (rl HO400.out)) k_ hk))
              (case aO => exact (rl HO388.out))
              (case aS => exact (below_size (bs2 GE384.out GE385.out HB.out)))
              (case aL => have := LMc2.out; omega)
              intro v390 w13 ho hb hg hat
              rw [← Ny389.out] at ho
              replace BK384 := am (blk_grown (g := gb384) (o := .cells #[.slice A0_0 l0_0.length c0_0, .slice A0_1 l0_1.length c0_1, .slice A0_2 l0_2.length c0_2] 24 (0, 0)) (kl BK384.out) hg (Kd.R_ne HO388.out BK384.out (by decide)))
              replace BK385 := am (blk_grown (g := gb385) (o := .cells #[.slice none 0 0, .slice none 0 0, .slice none 0 0] 24 (0, 0)) (kl BK385.out) hg (Kd.R_ne HO388.out BK385.out (by decide)))
              replace HO400 := am (Kd.R_after (ok := (fun _ => True)) (rl (Kd.R_mono HO400.out (fun _ hk => ⟨trivial, hk⟩))) hg hat)
              replace HB := am (hb)
              have HO391 := am (ho)
              clear HO388
              clear ho hb hg hat
              refine hK.out _ _ ⟨(blk_cell BK384.out 0).trans rfl, (blk_cell BK384.out 1).trans rfl, (blk_cell BK384.out 2).trans rfl⟩ (fun hHeld => ?_)
              clear hK K
              refine norm_ (a' := ?_) ?_ ?_
              rotate_left
              ·show Act.put _ (some 6) _ = _
               simp only [Act.put, List.setIfInBounds_toArray, List.set_cons_zero, List.set_cons_succ, i64_w, i32_w]
               rfl
              exact norm_ (by first | (simp only [putAll, Act.put, List.setIfInBounds_toArray, List.set_cons_zero, List.set_cons_succ]; done) | (simp only [putAll, Act.put, List.setIfInBounds_toArray, List.set_cons_zero, List.set_cons_succ]; rfl)) (hJ0_3_8 (v387, v390, v399) _ ⟨hHeld, (rl HO391.out), (rl (Kd.R_mono HO400.out (fun _ hk => by first | exact hk.2 | (simp only [ne_eq] at hk ⊢; simp only [hk, not_false_eq_true, and_self])))), (kl BK384.out), (kl BK385.out), (bs2 GE384.out GE385.out HB.out)⟩)
             ·skip
              refine Kd.R_lit_step (Kd.int .i64) _ 3 ?hg (N := 7) ?hd (xs := ([] : List Int)) (inner := []) (ok := fun _ => True) (okp := fun _ => True) ?hr ?hp (fun _ hk => hk) trivial (Below.refl _ _) (Nat.le_refl _) (by simp) ?_; (case hd => rfl); (case hg => rfl); (case hr => first | (go_simp; done) | (go_simp; rfl)); (case hp => exact (Reps.none _ _))
              intro v393 w13 ho14 hb hg_ hnew_
              clear hg_ hnew_
              (first | rw [← Ny392.out] at ho14 | (simp only [Int.reduceToNat] at ho14; rw [← Ny392.out] at ho14))
              have HO394 := ln2 ho14 (rl HO388.out) (rl HO400.out) (bs2 GE384.out GE385.out HB.out)
              replace HO388 := am (Kd.R_elder' (rl HO388.out) (Kd.R_base ho14) hb)
              replace HO400 := am (Kd.R_elder' (rl HO400.out) (Kd.R_base ho14) hb)
              replace BK384 := bb BK384 hb
              replace BK385 := bb BK385 hb
              replace HB := am (below_step (bs2 GE384.out GE385.out HB.out) hb)
              clear hb ho14
              refine hK.out _ _ ⟨(blk_cell BK384.out 0).trans rfl, (blk_cell BK384.out 1).trans rfl, (blk_cell BK384.out 2).trans rfl⟩ (fun hHeld => ?_)
              clear hK K
              refine norm_ (a' := ?_) ?_ ?_
              rotate_left
              ·show Act.put _ (some 7) _ = _
               simp only [Act.put, List.setIfInBounds_toArray, List.set_cons_zero, List.set_cons_succ, i64_w, i32_w]
               rfl
              exact norm_ (by first | (simp only [putAll, Act.put, List.setIfInBounds_toArray, List.set_cons_zero, List.set_cons_succ]; done) | (simp only [putAll, Act.put, List.setIfInBounds_toArray, List.set_cons_zero, List.set_cons_succ]; rfl)) (hJ0_4_8 (v387, v393, v399) _ ⟨hHeld, (rl (Kd.R_mono HO388.out (fun _ hk => by first | exact ⟨hk.2, hk.1⟩ | (simp only [ne_eq] at hk ⊢; simp only [hk, not_false_eq_true, and_self])))), (rl (Kd.R_mono HO394.out (fun _ hk => by first | exact ⟨hk.1.2, hk.2⟩ | (simp only [ne_eq] at hk ⊢; simp only [hk, not_false_eq_true, and_self])))), (rl HO400.out), (kl BK384.out), (kl BK385.out), (bs2 GE384.out GE385.out HB.out)⟩)
           ·skip
            rintro ⟨v387, v393⟩ w12 ⟨hS_, h0_, h1_, h2_, h3_, h4_⟩
            have HO388 : Aside0 (Kd.R (Kd.int .i64) 3 w12 w.heap.size (fun k_ => some k_ ≠ (v393 : Value).ownBlock) v387 y386) := ⟨h0_⟩
            have HO394 : Aside0 (Kd.R (Kd.int .i64) 3 w12 w.heap.size (fun k_ => some k_ ≠ (v387 : Value).ownBlock) v393 y392) := ⟨h1_⟩
            replace BK384 : Aside0 (w12.heap[gb384]? = some (.cells #[.slice A0_0 l0_0.length c0_0, .slice A0_1 l0_1.length c0_1, .slice A0_2 l0_2.length c0_2] 24 (0, 0))) := ⟨h2_⟩
            replace BK385 : Aside0 (w12.heap[gb385]? = some (.cells #[.slice none 0 0, .slice none 0 0, .slice none 0 0] 24 (0, 0))) := ⟨h3_⟩
            replace HB : Aside0 (Below w.heap.size w w12) := ⟨h4_⟩
            clear h0_ h1_ h2_ h3_ h4_
            have hHeld : w12.cell? ⟨gb384, 0, none⟩ = some (.slice A0_0 l0_0.length c0_0) ∧ w12.cell? ⟨gb384, 1, none⟩ = some (.slice A0_1 l0_1.length c0_1) ∧ w12.cell? ⟨gb384, 2, none⟩ = some (.slice A0_2 l0_2.length c0_2) := hS_
            refine norm_ (a' := ?_) ?_ ?_
            rotate_left
            ·simp only [putAll, Act.put, List.setIfInBounds_toArray, List.set_cons_zero, List.set_cons_succ]
             rfl
            refine two_ (i := 3) (j := 8) (Ni := some 6) (Nj := some 11) #[true, true, true, true, true, true, true, false, false, true, true, false, false, false] #[true, true, true, false, true, true, true, false, true, true, true, false, false, false] rfl rfl rfl rfl (two_of HT_.out (by kernel_rfl)) (by decide) (by decide) (fun K hK => ?_) (fun K hK => ?_)
            ·skip
             refine Kd.R_append_rows_step (Kd.int .i64) (w0 := w) w.heap.size (by rfl) (.tmp 3) (.tmp 5) 22 3 (.int .i64 0) 8 rfl Tryd.underlying22 info3 rfl (by decide) (by omega) v387 y386 l0_0 _ _ _ (fun k_ => some k_ ≠ (v393 : Value).ownBlock) (fun _ => False) rfl rfl ?aO ?aR (fun _ _ h => h) (fun _ h => h.elim) ?aF ?aB ?aS ?aL ?_
             (case aR => exact ci HR0_0 HB)
             (case aB => exact (bs2 GE384.out GE385.out HB.out))
             (case aF => exact (fun k_ hk => Kd.fresh' (Kd.R_lt (rl HO394.out)) k_ hk))
             (case aO => exact (rl HO388.out))
             (case aS => exact (below_size (bs2 GE384.out GE385.out HB.out)))
             (case aL => have := LMc2.out; omega)
             intro v390 w13 ho hb hg hat
             rw [← Ny389.out] at ho
             replace BK384 := am (blk_grown (g := gb384) (o := .cells #[.slice A0_0 l0_0.length c0_0, .slice A0_1 l0_1.length c0_1, .slice A0_2 l0_2.length c0_2] 24 (0, 0)) (kl BK384.out) hg (Kd.R_ne HO388.out BK384.out (by decide)))
             replace BK385 := am (blk_grown (g := gb385) (o := .cells #[.slice none 0 0, .slice none 0 0, .slice none 0 0] 24 (0, 0)) (kl BK385.out) hg (Kd.R_ne HO388.out BK385.out (by decide)))
             replace HO394 := am (Kd.R_after (ok := (fun _ => True)) (rl (Kd.R_mono HO394.out (fun _ hk => ⟨trivial, hk⟩))) hg hat)
             replace HB := am (hb)
             have HO391 := am (ho)
             clear HO388
             clear ho hb hg hat
             refine hK.out _ _ ⟨(blk_cell BK384.out 0).trans rfl, (blk_cell BK384.out 1).trans rfl, (blk_cell BK384.out 2).trans rfl⟩ (fun hHeld => ?_)
             clear hK K
             refine norm_ (a' := ?_) ?_ ?_
             rotate_left
             ·show Act.put _ (some 6) _ = _
              simp only [Act.put, List.setIfInBounds_toArray, List.set_cons_zero, List.set_cons_succ, i64_w, i32_w]
              rfl
             exact norm_ (by first | (simp only [putAll, Act.put, List.setIfInBounds_toArray, List.set_cons_zero, List.set_cons_succ]; done) | (simp only [putAll, Act.put, List.setIfInBounds_toArray, List.set_cons_zero, List.set_cons_succ]; rfl)) (hJ0_3_4 (v387, v390, v393) _ ⟨hHeld, (rl HO391.out), (rl (Kd.R_mono HO394.out (fun _ hk => by first | exact hk.2 | (simp only [ne_eq] at hk ⊢; simp only [hk, not_false_eq_true, and_self])))), (kl BK384.out), (kl BK385.out), (bs2 GE384.out GE385.out HB.out)⟩)
            ·skip
             refine Kd.R_lit_step (Kd.int .i64) _ 3 ?hg (N := 11) ?hd (xs := ([] : List Int)) (inner := []) (ok := fun _ => True) (okp := fun _ => True) ?hr ?hp (fun _ hk => hk) trivial (Below.refl _ _) (Nat.le_refl _) (by simp) ?_; (case hd => rfl); (case hg => rfl); (case hr => first | (go_simp; done) | (go_simp; rfl)); (case hp => exact (Reps.none _ _))
             intro v399 w13 ho14 hb hg_ hnew_
             clear hg_ hnew_
             (first | rw [← Ny398.out] at ho14 | (simp only [Int.reduceToNat] at ho14; rw [← Ny398.out] at ho14))
             have HO400 := ln2 ho14 (rl HO388.out) (rl HO394.out) (bs2 GE384.out GE385.out HB.out)
             replace HO388 := am (Kd.R_elder' (rl HO388.out) (Kd.R_base ho14) hb)
             replace HO394 := am (Kd.R_elder' (rl HO394.out) (Kd.R_base ho14) hb)
             replace BK384 := bb BK384 hb
             replace BK385 := bb BK385 hb
             replace HB := am (below_step (bs2 GE384.out GE385.out HB.out) hb)
             clear hb ho14
             refine hK.out _ _ ⟨(blk_cell BK384.out 0).trans rfl, (blk_cell BK384.out 1).trans rfl, (blk_cell BK384.out 2).trans rfl⟩ (fun hHeld => ?_)
             clear hK K
             refine norm_ (a' := ?_) ?_ ?_
             rotate_left
             ·show Act.put _ (some 11) _ = _
              simp only [Act.put, List.setIfInBounds_toArray, List.set_cons_zero, List.set_cons_succ, i64_w, i32_w]
              rfl
             exact norm_ (by first | (simp only [putAll, Act.put, List.setIfInBounds_toArray, List.set_cons_zero, List.set_cons_succ]; done) | (simp only [putAll, Act.put, List.setIfInBounds_toArray, List.set_cons_zero, List.set_cons_succ]; rfl)) (hJ0_4_8 (v387, v393, v399) _ ⟨hHeld, (rl HO388.out), (rl HO394.out), (rl (Kd.R_mono HO400.out (fun _ hk => by first | exact ⟨hk.1.2, hk.2⟩ | (simp only [ne_eq] at hk ⊢; simp only [hk, not_false_eq_true, and_self])))), (kl BK384.out), (kl BK385.out), (bs2 GE384.out GE385.out HB.out)⟩)
          ·skip
           rintro ⟨v387, v390⟩ w11 ⟨hS_, h0_, h1_, h2_, h3_⟩
           have HO391 : Aside0 (Kd.R (Kd.int .i64) 3 w11 w.heap.size (fun _ => True) v390 y389) := ⟨h0_⟩
           replace BK384 : Aside0 (w11.heap[gb384]? = some (.cells #[.slice A0_0 l0_0.length c0_0, .slice A0_1 l0_1.length c0_1, .slice A0_2 l0_2.length c0_2] 24 (0, 0))) := ⟨h1_⟩
           replace BK385 : Aside0 (w11.heap[gb385]? = some (.cells #[.slice none 0 0, .slice none 0 0, .slice none 0 0] 24 (0, 0))) := ⟨h2_⟩
           replace HB : Aside0 (Below w.heap.size w w11) := ⟨h3_⟩
           clear h0_ h1_ h2_ h3_
           have hHeld : w11.cell? ⟨gb384, 0, none⟩ = some (.slice A0_0 l0_0.length c0_0) ∧ w11.cell? ⟨gb384, 1, none⟩ = some (.slice A0_1 l0_1.length c0_1) ∧ w11.cell? ⟨gb384, 2, none⟩ = some (.slice A0_2 l0_2.length c0_2) := hS_
           refine norm_ (a' := ?_) ?_ ?_
           rotate_left
           ·simp only [putAll, Act.put, List.setIfInBounds_toArray, List.set_cons_zero, List.set_cons_succ]
            rfl
           refine two_ (i := 4) (j := 8) (Ni := some 7) (Nj := some 11) #[true, true, true, true, true, true, true, false, false, true, true, false, false, false] #[true, true, true, true, false, true, true, false, true, true, true, false, false, false] rfl rfl rfl rfl (two_of HT_.out (by kernel_rfl)) (by decide) (by decide) (fun K hK => ?_) (fun K hK => ?_)
           ·skip
            refine Kd.R_lit_step (Kd.int .i64) _ 3 ?hg (N := 7) ?hd (xs := ([] : List Int)) (inner := []) (ok := fun _ => True) (okp := fun _ => True) ?hr ?hp (fun _ hk => hk) trivial (Below.refl _ _) (Nat.le_refl _) (by simp) ?_; (case hd => rfl); (case hg => rfl); (case hr => first | (go_simp; done) | (go_simp; rfl)); (case hp => exact (Reps.none _ _))
            intro v393 w12 ho13 hb hg_ hnew_
            clear hg_ hnew_
            (first | rw [← Ny392.out] at ho13 | (simp only [Int.reduceToNat] at ho13; rw [← Ny392.out] at ho13))
            have HO394 := ln1 ho13 (rl HO391.out) (bs2 GE384.out GE385.out HB.out)
            replace HO391 := am (Kd.R_elder' (rl HO391.out) (Kd.R_base ho13) hb)
            replace BK384 := bb BK384 hb
            replace BK385 := bb BK385 hb
            replace HB := am (below_step (bs2 GE384.out GE385.out HB.out) hb)
            clear hb ho13
            refine hK.out _ _ ⟨(blk_cell BK384.out 0).trans rfl, (blk_cell BK384.out 1).trans rfl, (blk_cell BK384.out 2).trans rfl⟩ (fun hHeld => ?_)
            clear hK K
            refine norm_ (a' := ?_) ?_ ?_
            rotate_left
            ·show Act.put _ (some 7) _ = _
             simp only [Act.put, List.setIfInBounds_toArray, List.set_cons_zero, List.set_cons_succ, i64_w, i32_w]
             rfl
            exact norm_ (by first | (simp only [putAll, Act.put, List.setIfInBounds_toArray, List.set_cons_zero, List.set_cons_succ]; done) | (simp only [putAll, Act.put, List.setIfInBounds_toArray, List.set_cons_zero, List.set_cons_succ]; rfl)) (hJ0_3_4 (v387, v390, v393) _ ⟨hHeld, (rl (Kd.R_mono HO391.out (fun _ hk => by first | exact hk.2 | (simp only [ne_eq] at hk ⊢; simp only [hk, not_false_eq_true, and_self])))), (rl (Kd.R_mono HO394.out (fun _ hk => by first | exact hk.2 | (simp only [ne_eq] at hk ⊢; simp only [hk, not_false_eq_true, and_self])))), (kl BK384.out), (kl BK385.out), (bs2 GE384.out GE385.out HB.out)⟩)
           ·skip
            refine Kd.R_lit_step (Kd.int .i64) _ 3 ?hg (N := 11) ?hd (xs := ([] : List Int)) (inner := []) (ok := fun _ => True) (okp := fun _ => True) ?hr ?hp (fun _ hk => hk) trivial (Below.refl _ _) (Nat.le_refl _) (by simp) ?_; (case hd => rfl); (case hg => rfl); (case hr => first | (go_simp; done) | (go_simp; rfl)); (case hp => exact (Reps.none _ _))
            intro v399 w12 ho13 hb hg_ hnew_
            clear hg_ hnew_
            (first | rw [← Ny398.out] at ho13 | (simp only [Int.reduceToNat] at ho13; rw [← Ny398.out] at ho13))
            have HO400 := ln1 ho13 (rl HO391.out) (bs2 GE384.out GE385.out HB.out)
            replace HO391 := am (Kd.R_elder' (rl HO391.out) (Kd.R_base ho13) hb)
            replace BK384 := bb BK384 hb
            replace BK385 := bb BK385 hb
            replace HB := am (below_step (bs2 GE384.out GE385.out HB.out) hb)
            clear hb ho13
            refine hK.out _ _ ⟨(blk_cell BK384.out 0).trans rfl, (blk_cell BK384.out 1).trans rfl, (blk_cell BK384.out 2).trans rfl⟩ (fun hHeld => ?_)
            clear hK K
            refine norm_ (a' := ?_) ?_ ?_
            rotate_left
            ·show Act.put _ (some 11) _ = _
             simp only [Act.put, List.setIfInBounds_toArray, List.set_cons_zero, List.set_cons_succ, i64_w, i32_w]
             rfl
            exact norm_ (by first | (simp only [putAll, Act.put, List.setIfInBounds_toArray, List.set_cons_zero, List.set_cons_succ]; done) | (simp only [putAll, Act.put, List.setIfInBounds_toArray, List.set_cons_zero, List.set_cons_succ]; rfl)) (hJ0_3_8 (v387, v390, v399) _ ⟨hHeld, (rl (Kd.R_mono HO391.out (fun _ hk => by first | exact hk.2 | (simp only [ne_eq] at hk ⊢; simp only [hk, not_false_eq_true, and_self])))), (rl (Kd.R_mono HO400.out (fun _ hk => by first | exact hk.2 | (simp only [ne_eq] at hk ⊢; simp only [hk, not_false_eq_true, and_self])))), (kl BK384.out), (kl BK385.out), (bs2 GE384.out GE385.out HB.out)⟩)
         ·skip
          rintro ⟨v387, v393, v399⟩ w14 ⟨hS_, h0_, h1_, h2_, h3_, h4_, h5_⟩
          have HO388 : Aside0 (Kd.R (Kd.int .i64) 3 w14 w.heap.size (fun k_ => some k_ ≠ (v393 : Value).ownBlock ∧ some k_ ≠ (v399 : Value).ownBlock) v387 y386) := ⟨h0_⟩
          have HO394 : Aside0 (Kd.R (Kd.int .i64) 3 w14 w.heap.size (fun k_ => some k_ ≠ (v387 : Value).ownBlock ∧ some k_ ≠ (v399 : Value).ownBlock) v393 y392) := ⟨h1_⟩
          have HO400 : Aside0 (Kd.R (Kd.int .i64) 3 w14 w.heap.size (fun k_ => some k_ ≠ (v387 : Value).ownBlock ∧ some k_ ≠ (v393 : Value).ownBlock) v399 y398) := ⟨h2_⟩
          replace BK384 : Aside0 (w14.heap[gb384]? = some (.cells #[.slice A0_0 l0_0.length c0_0, .slice A0_1 l0_1.length c0_1, .slice A0_2 l0_2.length c0_2] 24 (0, 0))) := ⟨h3_⟩
          replace BK385 : Aside0 (w14.heap[gb385]? = some (.cells #[.slice none 0 0, .slice none 0 0, .slice none 0 0] 24 (0, 0))) := ⟨h4_⟩
          replace HB : Aside0 (Below w.heap.size w w14) := ⟨h5_⟩
          clear h0_ h1_ h2_ h3_ h4_ h5_
          have hHeld : w14.cell? ⟨gb384, 0, none⟩ = some (.slice A0_0 l0_0.length c0_0) ∧ w14.cell? ⟨gb384, 1, none⟩ = some (.slice A0_1 l0_1.length c0_1) ∧ w14.cell? ⟨gb384, 2, none⟩ = some (.slice A0_2 l0_2.length c0_2) := hS_
          refine norm_ (a' := ?_) ?_ ?_
          rotate_left
          ·simp only [putAll, Act.put, List.setIfInBounds_toArray, List.set_cons_zero, List.set_cons_succ]
           rfl
          refine one_ (i := 3) (N := some 6) #[true, true, true, true, true, true, true, false, true, true, true, false, false, false] rfl rfl (one_of HT_.out (by kernel_rfl)) (by decide) (fun K hK => ?_)
          refine Kd.R_append_rows_step (Kd.int .i64) (w0 := w) w.heap.size (by rfl) (.tmp 3) (.tmp 5) 22 3 (.int .i64 0) 8 rfl Tryd.underlying22 info3 rfl (by decide) (by omega) v387 y386 l0_0 _ _ _ (fun k_ => some k_ ≠ (v393 : Value).ownBlock ∧ some k_ ≠ (v399 : Value).ownBlock) (fun _ => False) rfl rfl ?aO ?aR (fun _ _ h => h) (fun _ h => h.elim) ?aF ?aB ?aS ?aL ?_
          (case aR => exact ci HR0_0 HB)
          (case aB => exact (bs2 GE384.out GE385.out HB.out))
          (case aF => exact (fun k_ hk => ⟨Kd.fresh' (Kd.R_lt (rl HO394.out)) k_ hk, Kd.fresh' (Kd.R_lt (rl HO400.out)) k_ hk⟩))
          (case aO => exact (rl HO388.out))
          (case aS => exact (below_size (bs2 GE384.out GE385.out HB.out)))
          (case aL => have := LMc2.out; omega)
          intro v390 w15 ho hb hg hat
          rw [← Ny389.out] at ho
          replace BK384 := am (blk_grown (g := gb384) (o := .cells #[.slice A0_0 l0_0.length c0_0, .slice A0_1 l0_1.length c0_1, .slice A0_2 l0_2.length c0_2] 24 (0, 0)) (kl BK384.out) hg (Kd.R_ne HO388.out BK384.out (by decide)))
          replace BK385 := am (blk_grown (g := gb385) (o := .cells #[.slice none 0 0, .slice none 0 0, .slice none 0 0] 24 (0, 0)) (kl BK385.out) hg (Kd.R_ne HO388.out BK385.out (by decide)))
          replace HO394 := am (Kd.R_after (ok := (fun k_ => some k_ ≠ (v399 : Value).ownBlock)) (rl (Kd.R_mono HO394.out (fun _ hk => by first | exact ⟨hk.2, hk.1⟩ | (simp only [ne_eq] at hk ⊢; simp only [hk, not_false_eq_true, and_self])))) hg hat)
          replace HO400 := am (Kd.R_after (ok := (fun k_ => some k_ ≠ (v393 : Value).ownBlock)) (rl (Kd.R_mono HO400.out (fun _ hk => by first | exact ⟨hk.2, hk.1⟩ | (simp only [ne_eq] at hk ⊢; simp only [hk, not_false_eq_true, and_self])))) hg hat)
          replace HB := am (hb)
          have HO391 := am (ho)
          clear HO388
          clear ho hb hg hat
          refine hK.out _ _ ⟨(blk_cell BK384.out 0).trans rfl, (blk_cell BK384.out 1).trans rfl, (blk_cell BK384.out 2).trans rfl⟩ (fun hHeld => ?_)
          clear hK K
          refine norm_ (a' := ?_) ?_ ?_
          rotate_left
          ·show Act.put _ (some 6) _ = _
           simp only [Act.put, List.setIfInBounds_toArray, List.set_cons_zero, List.set_cons_succ, i64_w, i32_w]
           rfl
          exact norm_ (by first | (simp only [putAll, Act.put, List.setIfInBounds_toArray, List.set_cons_zero, List.set_cons_succ]; done) | (simp only [putAll, Act.put, List.setIfInBounds_toArray, List.set_cons_zero, List.set_cons_succ]; rfl)) (hJ0_3_4_8 (v387, v390, v393, v399) _ ⟨hHeld, (rl HO391.out), (rl (Kd.R_mono HO394.out (fun _ hk => by first | exact ⟨hk.2, hk.1⟩ | (simp only [ne_eq] at hk ⊢; simp only [hk, not_false_eq_true, and_self])))), (rl (Kd.R_mono HO400.out (fun _ hk => by first | exact ⟨hk.2, hk.1⟩ | (simp only [ne_eq] at hk ⊢; simp only [hk, not_false_eq_true, and_self])))), (kl BK384.out), (kl BK385.out), (bs2 GE384.out GE385.out HB.out)⟩)
        ·skip
         rintro ⟨v387, v390, v399⟩ w13 ⟨hS_, h0_, h1_, h2_, h3_, h4_⟩
         have HO391 : Aside0 (Kd.R (Kd.int .i64) 3 w13 w.heap.size (fun k_ => some k_ ≠ (v399 : Value).ownBlock) v390 y389) := ⟨h0_⟩
         have HO400 : Aside0 (Kd.R (Kd.int .i64) 3 w13 w.heap.size (fun k_ => some k_ ≠ (v390 : Value).ownBlock) v399 y398) := ⟨h1_⟩
         replace BK384 : Aside0 (w13.heap[gb384]? = some (.cells #[.slice A0_0 l0_0.length c0_0, .slice A0_1 l0_1.length c0_1, .slice A0_2 l0_2.length c0_2] 24 (0, 0))) := ⟨h2_⟩
         replace BK385 : Aside0 (w13.heap[gb385]? = some (.cells #[.slice none 0 0, .slice none 0 0, .slice none 0 0] 24 (0, 0))) := ⟨h3_⟩
         replace HB : Aside0 (Below w.heap.size w w13) := ⟨h4_⟩
         clear h0_ h1_ h2_ h3_ h4_
         have hHeld : w13.cell? ⟨gb384, 0, none⟩ = some (.slice A0_0 l0_0.length c0_0) ∧ w13.cell? ⟨gb384, 1, none⟩ = some (.slice A0_1 l0_1.length c0_1) ∧ w13.cell? ⟨gb384, 2, none⟩ = some (.slice A0_2 l0_2.length c0_2) := hS_
         refine norm_ (a' := ?_) ?_ ?_
         rotate_left
         ·simp only [putAll, Act.put, List.setIfInBounds_toArray, List.set_cons_zero, List.set_cons_succ]
          rfl
         refine one_ (i := 4) (N := some 7) #[true, true, true, true, true, true, true, false, true, true, true, false, false, false] rfl rfl (one_of HT_.out (by kernel_rfl)) (by decide) (fun K hK => ?_)
         refine Kd.R_lit_step (Kd.int .i64) _ 3 ?hg (N := 7) ?hd (xs := ([] : List Int)) (inner := []) (ok := fun _ => True) (okp := fun _ => True) ?hr ?hp (fun _ hk => hk) trivial (Below.refl _ _) (Nat.le_refl _) (by simp) ?_; (case hd => rfl); (case hg => rfl); (case hr => first | (go_simp; done) | (go_simp; rfl)); (case hp => exact (Reps.none _ _))
         intro v393 w14 ho15 hb hg_ hnew_
         clear hg_ hnew_
         (first | rw [← Ny392.out] at ho15 | (simp only [Int.reduceToNat] at ho15; rw [← Ny392.out] at ho15))
         have HO394 := ln2 ho15 (rl HO391.out) (rl HO400.out) (bs2 GE384.out GE385.out HB.out)
         replace HO391 := am (Kd.R_elder' (rl HO391.out) (Kd.R_base ho15) hb)
         replace HO400 := am (Kd.R_elder' (rl HO400.out) (Kd.R_base ho15) hb)
         replace BK384 := bb BK384 hb
         replace BK385 := bb BK385 hb
         replace HB := am (below_step (bs2 GE384.out GE385.out HB.out) hb)
         clear hb ho15
         refine hK.out _ _ ⟨(blk_cell BK384.out 0).trans rfl, (blk_cell BK384.out 1).trans rfl, (blk_cell BK384.out 2).trans rfl⟩ (fun hHeld => ?_)
         clear hK K
         refine norm_ (a' := ?_) ?_ ?_
         rotate_left
         ·show Act.put _ (some 7) _ = _
          simp only [Act.put, List.setIfInBounds_toArray, List.set_cons_zero, List.set_cons_succ, i64_w, i32_w]
          rfl
         exact norm_ (by first | (simp only [putAll, Act.put, List.setIfInBounds_toArray, List.set_cons_zero, List.set_cons_succ]; done) | (simp only [putAll, Act.put, List.setIfInBounds_toArray, List.set_cons_zero, List.set_cons_succ]; rfl)) (hJ0_3_4_8 (v387, v390, v393, v399) _ ⟨hHeld, (rl (Kd.R_mono HO391.out (fun _ hk => by first | exact ⟨hk.2, hk.1⟩ | (simp only [ne_eq] at hk ⊢; simp only [hk, not_false_eq_true, and_self])))), (rl (Kd.R_mono HO394.out (fun _ hk => by first | exact ⟨hk.1.2, hk.2⟩ | (simp only [ne_eq] at hk ⊢; simp only [hk, not_false_eq_true, and_self])))), (rl HO400.out), (kl BK384.out), (kl BK385.out), (bs2 GE384.out GE385.out HB.out)⟩)
       ·skip
        rintro ⟨v387, v390, v393⟩ w13 ⟨hS_, h0_, h1_, h2_, h3_, h4_⟩
        have HO391 : Aside0 (Kd.R (Kd.int .i64) 3 w13 w.heap.size (fun k_ => some k_ ≠ (v393 : Value).ownBlock) v390 y389) := ⟨h0_⟩
        have HO394 : Aside0 (Kd.R (Kd.int .i64) 3 w13 w.heap.size (fun k_ => some k_ ≠ (v390 : Value).ownBlock) v393 y392) := ⟨h1_⟩
        replace BK384 : Aside0 (w13.heap[gb384]? = some (.cells #[.slice A0_0 l0_0.length c0_0, .slice A0_1 l0_1.length c0_1, .slice A0_2 l0_2.length c0_2] 24 (0, 0))) := ⟨h2_⟩
        replace BK385 : Aside0 (w13.heap[gb385]? = some (.cells #[.slice none 0 0, .slice none 0 0, .slice none 0 0] 24 (0, 0))) := ⟨h3_⟩
        replace HB : Aside0 (Below w.heap.size w w13) := ⟨h4_⟩
        clear h0_ h1_ h2_ h3_ h4_
        have hHeld : w13.cell? ⟨gb384, 0, none⟩ = some (.slice A0_0 l0_0.length c0_0) ∧ w13.cell? ⟨gb384, 1, none⟩ = some (.slice A0_1 l0_1.length c0_1) ∧ w13.cell? ⟨gb384, 2, none⟩ = some (.slice A0_2 l0_2.length c0_2) := hS_
        refine norm_ (a' := ?_) ?_ ?_
        rotate_left
        ·simp only [putAll, Act.put, List.setIfInBounds_toArray, List.set_cons_zero, List.set_cons_succ]
         rfl
        refine two_ (i := 7) (j := 8) (Ni := some 10) (Nj := some 11) #[true, true, true, true, true, true, true, true, false, true, true, false, false, false] #[true, true, true, true, true, true, true, false, true, true, true, false, false, false] rfl rfl rfl rfl (two_of HT_.out (by kernel_rfl)) (by decide) (by decide) (fun K hK => ?_) (fun K hK => ?_)
        ·skip
         refine Kd.R_append_rows_step (Kd.int .i64) (w0 := w) w.heap.size (by rfl) (.tmp 7) (.tmp 9) 22 3 (.int .i64 0) 8 rfl Tryd.underlying22 info3 rfl (by decide) (by omega) v393 y392 l0_1 _ _ _ (fun k_ => some k_ ≠ (v390 : Value).ownBlock) (fun _ => False) rfl rfl ?aO ?aR (fun _ _ h => h) (fun _ h => h.elim) ?aF ?aB ?aS ?aL ?_
         (case aR => exact ci HR0_1 HB)
         (case aB => exact (bs2 GE384.out GE385.out HB.out))
         (case aF => exact (fun k_ hk => Kd.fresh' (Kd.R_lt (rl HO391.out)) k_ hk))
         (case aO => exact (rl HO394.out))
         (case aS => exact (below_size (bs2 GE384.out GE385.out HB.out)))
         (case aL => have := LMc3.out; omega)
         intro v396 w14 ho hb hg hat
         rw [← Ny395.out] at ho
         replace BK384 := am (blk_grown (g := gb384) (o := .cells #[.slice A0_0 l0_0.length c0_0, .slice A0_1 l0_1.length c0_1, .slice A0_2 l0_2.length c0_2] 24 (0, 0)) (kl BK384.out) hg (Kd.R_ne HO394.out BK384.out (by decide)))
         replace BK385 := am (blk_grown (g := gb385) (o := .cells #[.slice none 0 0, .slice none 0 0, .slice none 0 0] 24 (0, 0)) (kl BK385.out) hg (Kd.R_ne HO394.out BK385.out (by decide)))
         replace HO391 := am (Kd.R_after (ok := (fun _ => True)) (rl (Kd.R_mono HO391.out (fun _ hk => ⟨trivial, hk⟩))) hg hat)
         replace HB := am (hb)
         have HO397 := am (ho)
         clear HO394
         clear ho hb hg hat
         refine hK.out _ _ ⟨(blk_cell BK384.out 0).trans rfl, (blk_cell BK384.out 1).trans rfl, (blk_cell BK384.out 2).trans rfl⟩ (fun hHeld => ?_)
         clear hK K
         refine norm_ (a' := ?_) ?_ ?_
         rotate_left
         ·show Act.put _ (some 10) _ = _
          simp only [Act.put, List.setIfInBounds_toArray, List.set_cons_zero, List.set_cons_succ, i64_w, i32_w]
          rfl
         exact norm_ (by first | (simp only [putAll, Act.put, List.setIfInBounds_toArray, List.set_cons_zero, List.set_cons_succ]; done) | (simp only [putAll, Act.put, List.setIfInBounds_toArray, List.set_cons_zero, List.set_cons_succ]; rfl)) (hJ0_3_4_7 (v387, v390, v393, v396) _ ⟨hHeld, (rl (Kd.R_mono HO391.out (fun _ hk => by first | exact hk.2 | (simp only [ne_eq] at hk ⊢; simp only [hk, not_false_eq_true, and_self])))), (rl HO397.out), (kl BK384.out), (kl BK385.out), (bs2 GE384.out GE385.out HB.out)⟩)
        ·skip
         refine Kd.R_lit_step (Kd.int .i64) _ 3 ?hg (N := 11) ?hd (xs := ([] : List Int)) (inner := []) (ok := fun _ => True) (okp := fun _ => True) ?hr ?hp (fun _ hk => hk) trivial (Below.refl _ _) (Nat.le_refl _) (by simp) ?_; (case hd => rfl); (case hg => rfl); (case hr => first | (go_simp; done) | (go_simp; rfl)); (case hp => exact (Reps.none _ _))
         intro v399 w14 ho15 hb hg_ hnew_
         clear hg_ hnew_
         (first | rw [← Ny398.out] at ho15 | (simp only [Int.reduceToNat] at ho15; rw [← Ny398.out] at ho15))
         have HO400 := ln2 ho15 (rl HO391.out) (rl HO394.out) (bs2 GE384.out GE385.out HB.out)
         replace HO391 := am (Kd.R_elder' (rl HO391.out) (Kd.R_base ho15) hb)
         replace HO394 := am (Kd.R_elder' (rl HO394.out) (Kd.R_base ho15) hb)
         replace BK384 := bb BK384 hb
         replace BK385 := bb BK385 hb
         replace HB := am (below_step (bs2 GE384.out GE385.out HB.out) hb)
         clear hb ho15
         refine hK.out _ _ ⟨(blk_cell BK384.out 0).trans rfl, (blk_cell BK384.out 1).trans rfl, (blk_cell BK384.out 2).trans rfl⟩ (fun hHeld => ?_)
         clear hK K
         refine norm_ (a' := ?_) ?_ ?_
         rotate_left
         ·show Act.put _ (some 11) _ = _
          simp only [Act.put, List.setIfInBounds_toArray, List.set_cons_zero, List.set_cons_succ, i64_w, i32_w]
          rfl
         exact norm_ (by first | (simp only [putAll, Act.put, List.setIfInBounds_toArray, List.set_cons_zero, List.set_cons_succ]; done) | (simp only [putAll, Act.put, List.setIfInBounds_toArray, List.set_cons_zero, List.set_cons_succ]; rfl)) (hJ0_3_4_8 (v387, v390, v393, v399) _ ⟨hHeld, (rl HO391.out), (rl HO394.out), (rl (Kd.R_mono HO400.out (fun _ hk => by first | exact ⟨hk.1.2, hk.2⟩ | (simp only [ne_eq] at hk ⊢; simp only [hk, not_false_eq_true, and_self])))), (kl BK384.out), (kl BK385.out), (bs2 GE384.out GE385.out HB.out)⟩)
      ·skip
       rintro ⟨v387, v390, v393, v399⟩ w15 ⟨hS_, h0_, h1_, h2_, h3_, h4_, h5_⟩
       have HO391 : Aside0 (Kd.R (Kd.int .i64) 3 w15 w.heap.size (fun k_ => some k_ ≠ (v393 : Value).ownBlock ∧ some k_ ≠ (v399 : Value).ownBlock) v390 y389) := ⟨h0_⟩
       have HO394 : Aside0 (Kd.R (Kd.int .i64) 3 w15 w.heap.size (fun k_ => some k_ ≠ (v390 : Value).ownBlock ∧ some k_ ≠ (v399 : Value).ownBlock) v393 y392) := ⟨h1_⟩
       have HO400 : Aside0 (Kd.R (Kd.int .i64) 3 w15 w.heap.size (fun k_ => some k_ ≠ (v390 : Value).ownBlock ∧ some k_ ≠ (v393 : Value).ownBlock) v399 y398) := ⟨h2_⟩
       replace BK384 : Aside0 (w15.heap[gb384]? = some (.cells #[.slice A0_0 l0_0.length c0_0, .slice A0_1 l0_1.length c0_1, .slice A0_2 l0_2.length c0_2] 24 (0, 0))) := ⟨h3_⟩
       replace BK385 : Aside0 (w15.heap[gb385]? = some (.cells #[.slice none 0 0, .slice none 0 0, .slice none 0 0] 24 (0, 0))) := ⟨h4_⟩
       replace HB : Aside0 (Below w.heap.size w w15) := ⟨h5_⟩
       clear h0_ h1_ h2_ h3_ h4_ h5_
       have hHeld : w15.cell? ⟨gb384, 0, none⟩ = some (.slice A0_0 l0_0.length c0_0) ∧ w15.cell? ⟨gb384, 1, none⟩ = some (.slice A0_1 l0_1.length c0_1) ∧ w15.cell? ⟨gb384, 2, none⟩ = some (.slice A0_2 l0_2.length c0_2) := hS_
       refine norm_ (a' := ?_) ?_ ?_
       rotate_left
       ·simp only [putAll, Act.put, List.setIfInBounds_toArray, List.set_cons_zero, List.set_cons_succ]
        rfl
       refine one_ (i := 7) (N := some 10) #[true, true, true, true, true, true, true, true, true, true, true, false, false, false] rfl rfl (one_of HT_.out (by kernel_rfl)) (by decide) (fun K hK => ?_)
       refine Kd.R_append_rows_step (Kd.int .i64) (w0 := w) w.heap.size (by rfl) (.tmp 7) (.tmp 9) 22 3 (.int .i64 0) 8 rfl Tryd.underlying22 info3 rfl (by decide) (by omega) v393 y392 l0_1 _ _ _ (fun k_ => some k_ ≠ (v390 : Value).ownBlock ∧ some k_ ≠ (v399 : Value).ownBlock) (fun _ => False) rfl rfl ?aO ?aR (fun _ _ h => h) (fun _ h => h.elim) ?aF ?aB ?aS ?aL ?_
       (case aR => exact ci HR0_1 HB)
       (case aB => exact (bs2 GE384.out GE385.out HB.out))
       (case aF => exact (fun k_ hk => ⟨Kd.fresh' (Kd.R_lt (rl HO391.out)) k_ hk, Kd.fresh' (Kd.R_lt (rl HO400.out)) k_ hk⟩))
       (case aO => exact (rl HO394.out))
       (case aS => exact (below_size (bs2 GE384.out GE385.out HB.out)))
       (case aL => have := LMc3.out; omega)
       intro v396 w16 ho hb hg hat
       rw [← Ny395.out] at ho
       replace BK384 := am (blk_grown (g := gb384) (o := .cells #[.slice A0_0 l0_0.length c0_0, .slice A0_1 l0_1.length c0_1, .slice A0_2 l0_2.length c0_2] 24 (0, 0)) (kl BK384.out) hg (Kd.R_ne HO394.out BK384.out (by decide)))
       replace BK385 := am (blk_grown (g := gb385) (o := .cells #[.slice none 0 0, .slice none 0 0, .slice none 0 0] 24 (0, 0)) (kl BK385.out) hg (Kd.R_ne HO394.out BK385.out (by decide)))
       replace HO391 := am (Kd.R_after (ok := (fun k_ => some k_ ≠ (v399 : Value).ownBlock)) (rl (Kd.R_mono HO391.out (fun _ hk => by first | exact ⟨hk.2, hk.1⟩ | (simp only [ne_eq] at hk ⊢; simp only [hk, not_false_eq_true, and_self])))) hg hat)
       replace HO400 := am (Kd.R_after (ok := (fun k_ => some k_ ≠ (v390 : Value).ownBlock)) (rl HO400.out) hg hat)
       replace HB := am (hb)
       have HO397 := am (ho)
       clear HO394
       clear ho hb hg hat
       refine hK.out _ _ ⟨(blk_cell BK384.out 0).trans rfl, (blk_cell BK384.out 1).trans rfl, (blk_cell BK384.out 2).trans rfl⟩ (fun hHeld => ?_)
       clear hK K
       refine norm_ (a' := ?_) ?_ ?_
       rotate_left
       ·show Act.put _ (some 10) _ = _
        simp only [Act.put, List.setIfInBounds_toArray, List.set_cons_zero, List.set_cons_succ, i64_w, i32_w]
        rfl
       exact norm_ (by first | (simp only [putAll, Act.put, List.setIfInBounds_toArray, List.set_cons_zero, List.set_cons_succ]; done) | (simp only [putAll, Act.put, List.setIfInBounds_toArray, List.set_cons_zero, List.set_cons_succ]; rfl)) (hJ0_3_4_7_8 (v387, v390, v393, v396, v399) _ ⟨hHeld, (rl (Kd.R_mono HO391.out (fun _ hk => by first | exact ⟨hk.2, hk.1⟩ | (simp only [ne_eq] at hk ⊢; simp only [hk, not_false_eq_true, and_self])))), (rl HO397.out), (rl HO400.out), (kl BK384.out), (kl BK385.out), (bs2 GE384.out GE385.out HB.out)⟩)
     ·skip
      rintro ⟨v387, v390, v393, v396⟩ w14 ⟨hS_, h0_, h1_, h2_, h3_, h4_⟩
      have HO391 : Aside0 (Kd.R (Kd.int .i64) 3 w14 w.heap.size (fun k_ => some k_ ≠ (v396 : Value).ownBlock) v390 y389) := ⟨h0_⟩
      have HO397 : Aside0 (Kd.R (Kd.int .i64) 3 w14 w.heap.size (fun k_ => some k_ ≠ (v390 : Value).ownBlock) v396 y395) := ⟨h1_⟩
      replace BK384 : Aside0 (w14.heap[gb384]? = some (.cells #[.slice A0_0 l0_0.length c0_0, .slice A0_1 l0_1.length c0_1, .slice A0_2 l0_2.length c0_2] 24 (0, 0))) := ⟨h2_⟩
      replace BK385 : Aside0 (w14.heap[gb385]? = some (.cells #[.slice none 0 0, .slice none 0 0, .slice none 0 0] 24 (0, 0))) := ⟨h3_⟩
      replace HB : Aside0 (Below w.heap.size w w14) := ⟨h4_⟩
      clear h0_ h1_ h2_ h3_ h4_
      have hHeld : w14.cell? ⟨gb384, 0, none⟩ = some (.slice A0_0 l0_0.length c0_0) ∧ w14.cell? ⟨gb384, 1, none⟩ = some (.slice A0_1 l0_1.length c0_1) ∧ w14.cell? ⟨gb384, 2, none⟩ = some (.slice A0_2 l0_2.length c0_2) := hS_
      refine norm_ (a' := ?_) ?_ ?_
      rotate_left
      ·simp only [putAll, Act.put, List.setIfInBounds_toArray, List.set_cons_zero, List.set_cons_succ]
       rfl
      refine one_ (i := 8) (N := some 11) #[true, true, true, true, true, true, true, true, true, true, true, false, false, false] rfl rfl (one_of HT_.out (by kernel_rfl)) (by decide) (fun K hK => ?_)
      refine Kd.R_lit_step (Kd.int .i64) _ 3 ?hg (N := 11) ?hd (xs := ([] : List Int)) (inner := []) (ok := fun _ => True) (okp := fun _ => True) ?hr ?hp (fun _ hk => hk) trivial (Below.refl _ _) (Nat.le_refl _) (by simp) ?_; (case hd => rfl); (case hg => rfl); (case hr => first | (go_simp; done) | (go_simp; rfl)); (case hp => exact (Reps.none _ _))
      intro v399 w15 ho16 hb hg_ hnew_
      clear hg_ hnew_
      (first | rw [← Ny398.out] at ho16 | (simp only [Int.reduceToNat] at ho16; rw [← Ny398.out] at ho16))
      have HO400 := ln2 ho16 (rl HO391.out) (rl HO397.out) (bs2 GE384.out GE385.out HB.out)
      replace HO391 := am (Kd.R_elder' (rl HO391.out) (Kd.R_base ho16) hb)
      replace HO397 := am (Kd.R_elder' (rl HO397.out) (Kd.R_base ho16) hb)
      replace BK384 := bb BK384 hb
      replace BK385 := bb BK385 hb
      replace HB := am (below_step (bs2 GE384.out GE385.out HB.out) hb)
      clear hb ho16
      refine hK.out _ _ ⟨(blk_cell BK384.out 0).trans rfl, (blk_cell BK384.out 1).trans rfl, (blk_cell BK384.out 2).trans rfl⟩ (fun hHeld => ?_)
      clear hK K
      refine norm_ (a' := ?_) ?_ ?_
      rotate_left
      ·show Act.put _ (some 11) _ = _
       simp only [Act.put, List.setIfInBounds_toArray, List.set_cons_zero, List.set_cons_succ, i64_w, i32_w]
       rfl
      exact norm_ (by first | (simp only [putAll, Act.put, List.setIfInBounds_toArray, List.set_cons_zero, List.set_cons_succ]; done) | (simp only [putAll, Act.put, List.setIfInBounds_toArray, List.set_cons_zero, List.set_cons_succ]; rfl)) (hJ0_3_4_7_8 (v387, v390, v393, v396, v399) _ ⟨hHeld, (rl HO391.out), (rl HO397.out), (rl (Kd.R_mono HO400.out (fun _ hk => by first | exact ⟨hk.1.2, hk.2⟩ | (simp only [ne_eq] at hk ⊢; simp only [hk, not_false_eq_true, and_self])))), (kl BK384.out), (kl BK385.out), (bs2 GE384.out GE385.out HB.out)⟩)
    rintro ⟨v387, v390, v393, v396, v399⟩ w16 ⟨hS_, h0_, h1_, h2_, h3_, h4_, h5_⟩
    have HO391 : Aside0 (Kd.R (Kd.int .i64) 3 w16 w.heap.size (fun k_ => some k_ ≠ (v396 : Value).ownBlock ∧ some k_ ≠ (v399 : Value).ownBlock) v390 y389) := ⟨h0_⟩
    have HO397 : Aside0 (Kd.R (Kd.int .i64) 3 w16 w.heap.size (fun k_ => some k_ ≠ (v390 : Value).ownBlock ∧ some k_ ≠ (v399 : Value).ownBlock) v396 y395) := ⟨h1_⟩
    have HO400 : Aside0 (Kd.R (Kd.int .i64) 3 w16 w.heap.size (fun k_ => some k_ ≠ (v390 : Value).ownBlock ∧ some k_ ≠ (v396 : Value).ownBlock) v399 y398) := ⟨h2_⟩
    replace BK384 : Aside0 (w16.heap[gb384]? = some (.cells #[.slice A0_0 l0_0.length c0_0, .slice A0_1 l0_1.length c0_1, .slice A0_2 l0_2.length c0_2] 24 (0, 0))) := ⟨h3_⟩
    replace BK385 : Aside0 (w16.heap[gb385]? = some (.cells #[.slice none 0 0, .slice none 0 0, .slice none 0 0] 24 (0, 0))) := ⟨h4_⟩
    replace HB : Aside0 (Below w.heap.size w w16) := ⟨h5_⟩
    clear h0_ h1_ h2_ h3_ h4_ h5_
    have hHeld : w16.cell? ⟨gb384, 0, none⟩ = some (.slice A0_0 l0_0.length c0_0) ∧ w16.cell? ⟨gb384, 1, none⟩ = some (.slice A0_1 l0_1.length c0_1) ∧ w16.cell? ⟨gb384, 2, none⟩ = some (.slice A0_2 l0_2.length c0_2) := hS_
    refine norm_ (a' := ?_) ?_ ?_
    rotate_left
    ·simp only [putAll, Act.put, List.setIfInBounds_toArray, List.set_cons_zero, List.set_cons_succ]
     rfl
    refine one_ (i := 11) (N := some 14) #[true, true, true, true, true, true, true, true, true, true, true, true, false, false] rfl rfl (one_of HT_.out (by kernel_rfl)) (by decide) (fun K hK => ?_)
    refine Kd.R_append_rows_step (Kd.int .i64) (w0 := w) w.heap.size (by rfl) (.tmp 11) (.tmp 13) 22 3 (.int .i64 0) 8 rfl Tryd.underlying22 info3 rfl (by decide) (by omega) v399 y398 l0_2 _ _ _ (fun k_ => some k_ ≠ (v390 : Value).ownBlock ∧ some k_ ≠ (v396 : Value).ownBlock) (fun _ => False) rfl rfl ?aO ?aR (fun _ _ h => h) (fun _ h => h.elim) ?aF ?aB ?aS ?aL ?_
    (case aR => exact ci HR0_2 HB)
    (case aB => exact (bs2 GE384.out GE385.out HB.out))
    (case aF => exact (fun k_ hk => ⟨Kd.fresh' (Kd.R_lt (rl HO391.out)) k_ hk, Kd.fresh' (Kd.R_lt (rl HO397.out)) k_ hk⟩))
    (case aO => exact (rl HO400.out))
    (case aS => exact (below_size (bs2 GE384.out GE385.out HB.out)))
    (case aL => have := LMc4.out; omega)
    intro v402 w17 ho hb hg hat
    rw [← Ny401.out] at ho
    replace BK384 := am (blk_grown (g := gb384) (o := .cells #[.slice A0_0 l0_0.length c0_0, .slice A0_1 l0_1.length c0_1, .slice A0_2 l0_2.length c0_2] 24 (0, 0)) (kl BK384.out) hg (Kd.R_ne HO400.out BK384.out (by decide)))
    replace BK385 := am (blk_grown (g := gb385) (o := .cells #[.slice none 0 0, .slice none 0 0, .slice none 0 0] 24 (0, 0)) (kl BK385.out) hg (Kd.R_ne HO400.out BK385.out (by decide)))
    replace HO391 := am (Kd.R_after (ok := (fun k_ => some k_ ≠ (v396 : Value).ownBlock)) (rl HO391.out) hg hat)
    replace HO397 := am (Kd.R_after (ok := (fun k_ => some k_ ≠ (v390 : Value).ownBlock)) (rl HO397.out) hg hat)
    replace HB := am (hb)
    have HO403 := am (ho)
    clear HO400
    clear ho hb hg hat
    obtain ⟨Ao18, co18, eo18⟩ := Kd.R_slice HO403.out
    (first | subst eo18 | (injection eo18 with f1_ f2_ f3_; have f4_ := f1_.symm; have f5_ := f3_.symm; clear f1_ f2_ f3_; subst f4_; subst f5_))
    obtain ⟨Ao19, co19, eo19⟩ := Kd.R_slice HO397.out
    (first | subst eo19 | (injection eo19 with f1_ f2_ f3_; have f4_ := f1_.symm; have f5_ := f3_.symm; clear f1_ f2_ f3_; subst f4_; subst f5_))
    obtain ⟨Ao20, co20, eo20⟩ := Kd.R_slice HO391.out
    (first | subst eo20 | (injection eo20 with f1_ f2_ f3_; have f4_ := f1_.symm; have f5_ := f3_.symm; clear f1_ f2_ f3_; subst f4_; subst f5_))
    refine hK.out _ _ ⟨(blk_cell BK384.out 0).trans rfl, (blk_cell BK384.out 1).trans rfl, (blk_cell BK384.out 2).trans rfl⟩ (fun hHeld => ?_)
    clear hK K
    refine norm_ (a' := ?_) ?_ ?_
    rotate_left
    ·show Act.put _ (some 14) _ = _
     simp only [Act.put, List.setIfInBounds_toArray, List.set_cons_zero, List.set_cons_succ, i64_w, i32_w]
     rfl
    refine pure_ (i := 12) (N := some 15) (v := ?_) (a' := ?_) #[true, true, true, true, true, true, true, true, true, true, true, true, true, false] rfl rfl (any_of HT_.out (by kernel_rfl)) (fun _ _ _ h => h) (Or.inl ⟨by rfl, ?_⟩) ?_ ?_
    rotate_left
    ·intro w'
     go_simp
     with_reducible rfl
    rotate_left
    ·simp only [Act.put, List.setIfInBounds_toArray, List.set_cons_zero, List.set_cons_succ, i64_w, i32_w]
     rfl
    refine one_ (i := 13) (N := none) #[true, true, true, true, true, true, true, true, true, true, true, true, true, true] rfl rfl (one_of HT_.out (by kernel_rfl)) (by decide) (fun K hK => ?_)
    have hs21 : w17.cell? ⟨gb385, 0, none⟩ = some (.slice none 0 0) := (blk_cell BK385.out 0).trans rfl
    have hfs21 := blk_frozen BK385.out 0
    have hns21_0 := NB384_385.out
    have hms21_0 := NB385_384.out
    have hs22 : w17.cell? ⟨gb385, 1, none⟩ = some (.slice none 0 0) := (blk_cell BK385.out 1).trans rfl
    have hfs22 := blk_frozen BK385.out 1
    have hns22_0 := NB384_385.out
    have hms22_0 := NB385_384.out
    have hs23 : w17.cell? ⟨gb385, 2, none⟩ = some (.slice none 0 0) := (blk_cell BK385.out 2).trans rfl
    have hfs23 := blk_frozen BK385.out 2
    have hns23_0 := NB384_385.out
    have hms23_0 := NB385_384.out
    refine skip_ (w1 := ?_) (by rfl) rfl ?_ ?_
    rotate_left
    ·go_simp
     rfl
    refine hK.out _ _ ⟨((cell_far (p := ⟨gb385, _, none⟩) NB384_385.out _).trans (((cell_far (p := ⟨gb385, _, none⟩) NB384_385.out _).trans (((cell_far (p := ⟨gb385, _, none⟩) NB384_385.out _).trans (hHeld.1)))))), ((cell_far (p := ⟨gb385, _, none⟩) NB384_385.out _).trans (((cell_far (p := ⟨gb385, _, none⟩) NB384_385.out _).trans (((cell_far (p := ⟨gb385, _, none⟩) NB384_385.out _).trans (hHeld.2.1)))))), ((cell_far (p := ⟨gb385, _, none⟩) NB384_385.out _).trans (((cell_far (p := ⟨gb385, _, none⟩) NB384_385.out _).trans (((cell_far (p := ⟨gb385, _, none⟩) NB384_385.out _).trans (hHeld.2.2))))))⟩ (fun hHeld => ?_)
    clear hK K
    refine done_ (done_of HT_.out (by kernel_rfl)) ?_
    try go_wp2
    refine bodyPost_ret (results_cell_row rfl _ _ gb385 24 #[.slice Ao20 y389.length co20, .slice Ao19 y395.length co19, .slice Ao18 y401.length co18] (0, 0) _ rfl (kp3 (kf0 BK385.out)) Tryd.underlying24 rfl (by kernel_rfl)) rfl ?_
    exact ⟨_, _, _, by first | rfl | (simp [errW_none, errW_some] <;> rfl) | (simp [*, errW_none, errW_some] <;> rfl), by exact ro (rg BK385 HO391), by exact ro (rg BK385 HO397), by exact ro (rg BK385 HO403), by exact bs2 GE384.out GE385.out HB.out⟩
   ·rw [if_neg c4] at H
    exact absurd H (by simp)
  ·rw [if_neg c3] at H
   exact absurd H (by simp)
 ·rw [if_neg c2] at H
  exact absurd H (by simp)

end Go.Proofs.YtomeaapjjmaepaaDoor.A
