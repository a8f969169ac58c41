/- Contracts of functions of the given program (CLawsFnExactPathTo). No conditions beyond those stated. -/
import Derived.Test.YtffnpclehhoeaaaA0
import Derived.Test.YtffnpclehhoeaaaAImplPathTo
import Derived.Test.YtffnpclehhoeaaaALawsEqHeap
import Derived.Test.YtffnpclehhoeaaaALawsEqIntS
import Derived.Test.YtffnpclehhoeaaaALawsHeldIntS
import Derived.Test.YtffnpclehhoeaaaALawsMarkHeap
import Derived.Test.YtffnpclehhoeaaaALawsMarkIntS
import Derived.Test.YtffnpclehhoeaaaALawsSzHeap
import Derived.Test.YtffnpclehhoeaaaALawsToHeap
import Derived.Test.YtffnpclehhoeaaaASpecPathTo
import Derived.Test.YtffnpclehhoeaaaA0
namespace Go.Proofs.Ytffnpclehhoeaaa.A
open Go.RowKit Go.Proofs.YtffnpclehhoeaaaW.PrintWords Go.Proofs.YtffnpclehhoeaaaW.PrintLast Go.Proofs.YtffnpclehhoeaaaW.PrintMore
attribute [local go_sem] max2_int min2_int max_two min_two max_three min_three max_four min_four   -- for this text's walks alone
set_option linter.unusedVariables false
set_option linter.unusedSimpArgs false

/-! ### laws_FnExactPathTo -/
mutual
def laws_FnExactPathTo.j0 : Nat → Int → List Int → Bool → List Int → Bool → Bool → List Int → List Int → List Int → List Int → List Int → List Int → Option (Bool)
  | 0, _, _, _, _, _, _, _, _, _, _, _, _ => none
  | k + 1, x1, x6, x7, x9, x10, x44, x995000, x995001, x995002, x1019000, x1019001, x1019002 => if x44 = true then (none) else ((laws_toHeap.f k x995000 x995001 x995002).bind fun bt1024 => ((laws_eqHeap.f k x1019000 x1019001 x1019002 bt1024.1 bt1024.2.1 bt1024.2.2).bind fun t1033 => (if t1033 = true then ((laws_markHeap.f k x1019000 x1019001 x1019002 1).bind fun bt1034 => (if bt1034.1 < 0 then (laws_FnExactPathTo.j1 k x1 x6 x7 x9 true x995000 x995001 x995002) else ((laws_eqIntS.f k x9 x6).bind fun t1038 => (if t1038 = true then (laws_FnExactPathTo.j1 k x1 x6 x7 x9 (x10 != x7) x995000 x995001 x995002) else (laws_FnExactPathTo.j1 k x1 x6 x7 x9 true x995000 x995001 x995002))))) else (none))))
def laws_FnExactPathTo.j1 : Nat → Int → List Int → Bool → List Int → Bool → List Int → List Int → List Int → Option (Bool)
  | 0, _, _, _, _, _, _, _, _ => none
  | k + 1, x1, x6, x7, x9, x65, x995000, x995001, x995002 => if x65 = true then (none) else ((laws_markIntS.f k x9 1).bind fun bt1039 => ((laws_heldIntS.f k bt1039.2 1).bind fun t1041 => (if t1041 < 0 then (none) else (if t1041 = bt1039.1 then ((laws_toHeap.f k x995000 x995001 x995002).bind fun bt1042 => ((impl_PathTo.f k bt1042.1 bt1042.2.1 bt1042.2.2 x1).bind fun bt1051 => ((laws_eqIntS.f k bt1051.1 x6).bind fun t1055 => (if t1055 = true then (laws_FnExactPathTo.j2 k bt1039.2 bt1039.1 (bt1051.2 != x7)) else (laws_FnExactPathTo.j2 k bt1039.2 bt1039.1 true))))) else (none)))))
def laws_FnExactPathTo.j2 : Nat → List Int → Int → Bool → Option (Bool)
  | 0, _, _, _ => none
  | k + 1, x9, x12, x92 => if x92 = true then (none) else ((laws_heldIntS.f k x9 1).bind fun t1056 => (if t1056 < 0 then (none) else (if t1056 = x12 then (some true) else (none))))
end
def laws_FnExactPathTo.f (k : Nat) (l0_0 : List Int) (l0_1 : List Int) (l0_2 : List Int) (a1 : Int) : Option (Bool) := (laws_szHeap.f l0_0 l0_1 l0_2 1048576).bind fun t995 => (if t995 < 0 then (some true) else ((laws_toHeap.f k l0_0 l0_1 l0_2).bind fun bt996 => ((spec_PathTo.f k bt996.1 bt996.2.1 bt996.2.2 a1).bind fun bt1005 => ((laws_toHeap.f k l0_0 l0_1 l0_2).bind fun bt1009 => ((impl_PathTo.f k bt1009.1 bt1009.2.1 bt1009.2.2 a1).bind fun bt1019 => ((laws_eqIntS.f k bt1019.1 bt1005.1).bind fun t1023 => (if t1023 = true then (laws_FnExactPathTo.j0 k a1 bt1005.1 bt1005.2 bt1019.1 bt1019.2 (bt1019.2 != bt1005.2) l0_0 l0_1 l0_2 bt1009.1 bt1009.2.1 bt1009.2.2) else (laws_FnExactPathTo.j0 k a1 bt1005.1 bt1005.2 bt1019.1 bt1019.2 true l0_0 l0_1 l0_2 bt1009.1 bt1009.2.1 bt1009.2.2))))))))
theorem laws_FnExactPathTo.mono_l : ∀ k, (∀ y0 y1 y2 y3 y4 y5 y6 y7 y8 y9 y10 y11, LeO (laws_FnExactPathTo.j0 k y0 y1 y2 y3 y4 y5 y6 y7 y8 y9 y10 y11) (laws_FnExactPathTo.j0 (k + 1) y0 y1 y2 y3 y4 y5 y6 y7 y8 y9 y10 y11)) ∧ (∀ y0 y1 y2 y3 y4 y5 y6 y7, LeO (laws_FnExactPathTo.j1 k y0 y1 y2 y3 y4 y5 y6 y7) (laws_FnExactPathTo.j1 (k + 1) y0 y1 y2 y3 y4 y5 y6 y7)) ∧ (∀ y0 y1 y2, LeO (laws_FnExactPathTo.j2 k y0 y1 y2) (laws_FnExactPathTo.j2 (k + 1) y0 y1 y2))
  | 0 => ⟨fun _ _ _ _ _ _ _ _ _ _ _ _ r h => by simp [laws_FnExactPathTo.j0] at h, fun _ _ _ _ _ _ _ _ r h => by simp [laws_FnExactPathTo.j1] at h, fun _ _ _ r h => by simp [laws_FnExactPathTo.j2] at h⟩
  | k + 1 => by
    obtain ⟨ih0, ih1, ih2⟩ := laws_FnExactPathTo.mono_l k
    refine ⟨?_, ?_, ?_⟩
    · intro y0 y1 y2 y3 y4 y5 y6 y7 y8 y9 y10 y11
      unfold laws_FnExactPathTo.j0
      repeat' first
      | (with_reducible exact ih0 _ _ _ _ _ _ _ _ _ _ _ _)
      | (with_reducible exact ih1 _ _ _ _ _ _ _ _)
      | (with_reducible exact ih2 _ _ _)
      | (with_reducible exact impl_PathTo.mono _ _ _ _ _)
      | (with_reducible exact laws_eqHeap.mono _ _ _ _ _ _ _)
      | (with_reducible exact laws_eqIntS.mono _ _ _)
      | (with_reducible exact laws_heldIntS.mono _ _ _)
      | (with_reducible exact laws_markHeap.mono _ _ _ _ _)
      | (with_reducible exact laws_markIntS.mono _ _ _)
      | (with_reducible exact laws_toHeap.mono _ _ _ _)
      | (with_reducible exact spec_PathTo.mono _ _ _ _ _)
      | (with_reducible exact LeO.refl _)
      | (with_reducible exact LeO.none _)
      | (with_reducible refine LeO.ite ?_ ?_)
      | (with_reducible refine LeO.bind ?_ (fun _ => ?_))
      | exact ih0 _ _ _ _ _ _ _ _ _ _ _ _
      | exact ih1 _ _ _ _ _ _ _ _
      | exact ih2 _ _ _
      | exact impl_PathTo.mono _ _ _ _ _
      | exact laws_eqHeap.mono _ _ _ _ _ _ _
      | exact laws_eqIntS.mono _ _ _
      | exact laws_heldIntS.mono _ _ _
      | exact laws_markHeap.mono _ _ _ _ _
      | exact laws_markIntS.mono _ _ _
      | exact laws_toHeap.mono _ _ _ _
      | exact spec_PathTo.mono _ _ _ _ _
      | exact LeO.none _
      | refine LeO.ite ?_ ?_
      | refine LeO.bind ?_ (fun _ => ?_)
    · intro y0 y1 y2 y3 y4 y5 y6 y7
      unfold laws_FnExactPathTo.j1
      repeat' first
      | (with_reducible exact ih0 _ _ _ _ _ _ _ _ _ _ _ _)
      | (with_reducible exact ih1 _ _ _ _ _ _ _ _)
      | (with_reducible exact ih2 _ _ _)
      | (with_reducible exact impl_PathTo.mono _ _ _ _ _)
      | (with_reducible exact laws_eqHeap.mono _ _ _ _ _ _ _)
      | (with_reducible exact laws_eqIntS.mono _ _ _)
      | (with_reducible exact laws_heldIntS.mono _ _ _)
      | (with_reducible exact laws_markHeap.mono _ _ _ _ _)
      | (with_reducible exact laws_markIntS.mono _ _ _)
      | (with_reducible exact laws_toHeap.mono _ _ _ _)
      | (with_reducible exact spec_PathTo.mono _ _ _ _ _)
      | (with_reducible exact LeO.refl _)
      | (with_reducible exact LeO.none _)
      | (with_reducible refine LeO.ite ?_ ?_)
      | (with_reducible refine LeO.bind ?_ (fun _ => ?_))
      | exact ih0 _ _ _ _ _ _ _ _ _ _ _ _
      | exact ih1 _ _ _ _ _ _ _ _
      | exact ih2 _ _ _
      | exact impl_PathTo.mono _ _ _ _ _
      | exact laws_eqHeap.mono _ _ _ _ _ _ _
      | exact laws_eqIntS.mono _ _ _
      | exact laws_heldIntS.mono _ _ _
      | exact laws_markHeap.mono _ _ _ _ _
      | exact laws_markIntS.mono _ _ _
      | exact laws_toHeap.mono _ _ _ _
      | exact spec_PathTo.mono _ _ _ _ _
      | exact LeO.none _
      | refine LeO.ite ?_ ?_
      | refine LeO.bind ?_ (fun _ => ?_)
    · intro y0 y1 y2
      unfold laws_FnExactPathTo.j2
      repeat' first
      | (with_reducible exact ih0 _ _ _ _ _ _ _ _ _ _ _ _)
      | (with_reducible exact ih1 _ _ _ _ _ _ _ _)
      | (with_reducible exact ih2 _ _ _)
      | (with_reducible exact impl_PathTo.mono _ _ _ _ _)
      | (with_reducible exact laws_eqHeap.mono _ _ _ _ _ _ _)
      | (with_reducible exact laws_eqIntS.mono _ _ _)
      | (with_reducible exact laws_heldIntS.mono _ _ _)
      | (with_reducible exact laws_markHeap.mono _ _ _ _ _)
      | (with_reducible exact laws_markIntS.mono _ _ _)
      | (with_reducible exact laws_toHeap.mono _ _ _ _)
      | (with_reducible exact spec_PathTo.mono _ _ _ _ _)
      | (with_reducible exact LeO.refl _)
      | (with_reducible exact LeO.none _)
      | (with_reducible refine LeO.ite ?_ ?_)
      | (with_reducible refine LeO.bind ?_ (fun _ => ?_))
      | exact ih0 _ _ _ _ _ _ _ _ _ _ _ _
      | exact ih1 _ _ _ _ _ _ _ _
      | exact ih2 _ _ _
      | exact impl_PathTo.mono _ _ _ _ _
      | exact laws_eqHeap.mono _ _ _ _ _ _ _
      | exact laws_eqIntS.mono _ _ _
      | exact laws_heldIntS.mono _ _ _
      | exact laws_markHeap.mono _ _ _ _ _
      | exact laws_markIntS.mono _ _ _
      | exact laws_toHeap.mono _ _ _ _
      | exact spec_PathTo.mono _ _ _ _ _
      | exact LeO.none _
      | refine LeO.ite ?_ ?_
      | refine LeO.bind ?_ (fun _ => ?_)
theorem laws_FnExactPathTo.mono : ∀ a0 a1 a2 a3 k, LeO (laws_FnExactPathTo.f k a0 a1 a2 a3) (laws_FnExactPathTo.f (k + 1) a0 a1 a2 a3) := by
  intro a0 a1 a2 a3 k
  obtain ⟨ih0, ih1, ih2⟩ := laws_FnExactPathTo.mono_l k
  unfold laws_FnExactPathTo.f
  repeat' first
      | (with_reducible exact ih0 _ _ _ _ _ _ _ _ _ _ _ _)
      | (with_reducible exact ih1 _ _ _ _ _ _ _ _)
      | (with_reducible exact ih2 _ _ _)
      | (with_reducible exact impl_PathTo.mono _ _ _ _ _)
      | (with_reducible exact laws_eqHeap.mono _ _ _ _ _ _ _)
      | (with_reducible exact laws_eqIntS.mono _ _ _)
      | (with_reducible exact laws_heldIntS.mono _ _ _)
      | (with_reducible exact laws_markHeap.mono _ _ _ _ _)
      | (with_reducible exact laws_markIntS.mono _ _ _)
      | (with_reducible exact laws_toHeap.mono _ _ _ _)
      | (with_reducible exact spec_PathTo.mono _ _ _ _ _)
      | (with_reducible exact LeO.refl _)
      | (with_reducible exact LeO.none _)
      | (with_reducible refine LeO.ite ?_ ?_)
      | (with_reducible refine LeO.bind ?_ (fun _ => ?_))
      | exact ih0 _ _ _ _ _ _ _ _ _ _ _ _
      | exact ih1 _ _ _ _ _ _ _ _
      | exact ih2 _ _ _
      | exact impl_PathTo.mono _ _ _ _ _
      | exact laws_eqHeap.mono _ _ _ _ _ _ _
      | exact laws_eqIntS.mono _ _ _
      | exact laws_heldIntS.mono _ _ _
      | exact laws_markHeap.mono _ _ _ _ _
      | exact laws_markIntS.mono _ _ _
      | exact laws_toHeap.mono _ _ _ _
      | exact spec_PathTo.mono _ _ _ _ _
      | exact LeO.none _
      | refine LeO.ite ?_ ?_
      | refine LeO.bind ?_ (fun _ => ?_)
set_option maxHeartbeats 8000000 in
set_option maxRecDepth 100000 in
theorem laws_FnExactPathTo.calls (k : Nat) (A0_0 : Option Addr) (c0_0 : Nat) (l0_0 : List Int) (A0_1 : Option Addr) (c0_1 : Nat) (l0_1 : List Int) (A0_2 : Option Addr) (c0_2 : Nat) (l0_2 : List Int) (a1 : Int) (r : Bool) (w : World) (hr0_0 : Kd.C (Kd.int .i64) w A0_0 l0_0.length l0_0) (hc0_0 : l0_0.length ≤ c0_0) (hr0_1 : Kd.C (Kd.int .i64) w A0_1 l0_1.length l0_1) (hc0_1 : l0_1.length ≤ c0_1) (hr0_2 : Kd.C (Kd.int .i64) w A0_2 l0_2.length l0_2) (hc0_2 : l0_2.length ≤ c0_2) (h : laws_FnExactPathTo.f k l0_0 l0_1 l0_2 a1 = some r) :
    Calls Try.prog 10 #[.agg #[.slice A0_0 l0_0.length c0_0, .slice A0_1 l0_1.length c0_1, .slice A0_2 l0_2.length c0_2], .int .i64 a1] w fun e w' => e = .returned (.bool r) ∧ Below w.heap.size w w' := by
  have hu24 := Try.underlying24
  have hu28 := Try.underlying28
  have HR0_0 := am hr0_0
  have HC0_0 := am hc0_0
  clear hr0_0 hc0_0
  have HR0_1 := am hr0_1
  have HC0_1 := am hc0_1
  clear hr0_1 hc0_1
  have HR0_2 := am hr0_2
  have HC0_2 := am hc0_2
  clear hr0_2 hc0_2
  have HB := am (Below.refl w.heap.size w)
  have H : ((laws_szHeap.f l0_0 l0_1 l0_2 1048576).bind fun t995 => (if t995 < 0 then (some true) else ((laws_toHeap.f k l0_0 l0_1 l0_2).bind fun bt996 => ((spec_PathTo.f k bt996.1 bt996.2.1 bt996.2.2 a1).bind fun bt1005 => ((laws_toHeap.f k l0_0 l0_1 l0_2).bind fun bt1009 => ((impl_PathTo.f k bt1009.1 bt1009.2.1 bt1009.2.2 a1).bind fun bt1019 => ((laws_eqIntS.f k bt1019.1 bt1005.1).bind fun t1023 => (if t1023 = true then (laws_FnExactPathTo.j0 k a1 bt1005.1 bt1005.2 bt1019.1 bt1019.2 (bt1019.2 != bt1005.2) l0_0 l0_1 l0_2 bt1009.1 bt1009.2.1 bt1009.2.2) else (laws_FnExactPathTo.j0 k a1 bt1005.1 bt1005.2 bt1019.1 bt1019.2 true l0_0 l0_1 l0_2 bt1009.1 bt1009.2.1 bt1009.2.2))))))))) = some r := h
  clear h
  replace H := Option.bind_eq_some_iff.mp H
  obtain ⟨t995, A30, H⟩ := H
  replace H : (if t995 < 0 then (some true) else ((laws_toHeap.f k l0_0 l0_1 l0_2).bind fun bt996 => ((spec_PathTo.f k bt996.1 bt996.2.1 bt996.2.2 a1).bind fun bt1005 => ((laws_toHeap.f k l0_0 l0_1 l0_2).bind fun bt1009 => ((impl_PathTo.f k bt1009.1 bt1009.2.1 bt1009.2.2 a1).bind fun bt1019 => ((laws_eqIntS.f k bt1019.1 bt1005.1).bind fun t1023 => (if t1023 = true then (laws_FnExactPathTo.j0 k a1 bt1005.1 bt1005.2 bt1019.1 bt1019.2 (bt1019.2 != bt1005.2) l0_0 l0_1 l0_2 bt1009.1 bt1009.2.1 bt1009.2.2) else (laws_FnExactPathTo.j0 k a1 bt1005.1 bt1005.2 bt1019.1 bt1019.2 true l0_0 l0_1 l0_2 bt1009.1 bt1009.2.1 bt1009.2.2)))))))) = some r := H
  have A3 := am A30
  clear A30
  by_cases c4 : t995 < 0
  · rw [if_pos c4] at H
    have c4b0 : decide (t995 < 0) = true := decide_eq_true c4
    clear c4
    obtain rfl := Option.some.inj H
    go_enter Try.func10, Try.ntmps10
    go_wp2_with (first | ((with_reducible refine gate_dst (N := 2) rfl ?_); refine box_event ?hg (N := 2) ?hd (cs := #[.slice A0_0 l0_0.length c0_0, .slice A0_1 l0_1.length c0_1, .slice A0_2 l0_2.length c0_2]) (t := 24) ?hr ?_; (case hd => rfl); (case hg => rfl); (case hr => first | (go_simp; done) | (go_simp; rfl)); intro gb994 hg w5 hbox hb; have n0_ := am (below_step (bl HB.out) hb); have n1_ := am (hbox); have n2_ := am ((by rw [hg]; exact (below_size (bl HB.out)) : w.heap.size ≤ gb994)); have n3_ := am ((by rw [hg]; exact (below_size (bl HB.out)) : w.heap.size ≤ gb994)); clear HB; have HB := n0_; have BK994 := n1_; have GW994 := n2_; have GE994 := n3_; clear n0_ n1_ n2_ n3_; clear hb hbox hg; have hcz6_0 : w5.cell? ⟨gb994, 0, none⟩ = some (.slice A0_0 l0_0.length c0_0) := (blk_cell BK994.out 0).trans rfl; have hcz6_1 : w5.cell? ⟨gb994, 1, none⟩ = some (.slice A0_1 l0_1.length c0_1) := (blk_cell BK994.out 1).trans rfl; have hcz6_2 : w5.cell? ⟨gb994, 2, none⟩ = some (.slice A0_2 l0_2.length c0_2) := (blk_cell BK994.out 2).trans rfl; have hfz6_0 := blk_frozen BK994.out 0; have hfz6_1 := blk_frozen BK994.out 1; have hfz6_2 := blk_frozen BK994.out 2) | ((with_reducible refine gate_callee (f := 15) rfl ?_); refine goesL_ (some 18) rfl rfl Try.func15 (by kernel_rfl) rfl #[.agg #[.slice A0_0 l0_0.length c0_0, .slice A0_1 l0_1.length c0_1, .slice A0_2 l0_2.length c0_2], .int .i64 1048576] rfl (by (try simp only [List.map_toArray, List.map_cons, List.map_nil]); first | done | rfl | (simp only [List.length_drop, List.length_take]; rfl)) ?_; (with_reducible refine (laws_szHeap.calls _ _ l0_0 _ _ l0_1 _ _ l0_2 1048576 t995 _ ?side1 ?side2 ?side3 ?side4 ?side5 ?side6 A3.out).mono ?_); (case side1 => exact cl (Kd.C_below HR0_0.out HB.out)); (case side2 => exact HC0_0.out); (case side3 => exact cl (Kd.C_below HR0_1.out HB.out)); (case side4 => exact HC0_1.out); (case side5 => exact cl (Kd.C_below HR0_2.out HB.out)); (case side6 => exact HC0_2.out); rintro e w7 ⟨rfl, hb⟩; refine ⟨_, rfl, ?_⟩; have n0_ := am (blk_below (g := gb994) (o := .cells #[.slice A0_0 l0_0.length c0_0, .slice A0_1 l0_1.length c0_1, .slice A0_2 l0_2.length c0_2] 24 (0, 0)) (kl BK994.out) hb); have n1_ := am (below_step (by repeat (first | (with_reducible first | exact HB.out | apply below_alloc | apply pw_below_drewN | apply below_drew1 | refine below_set ?_ GE994.out) | exact HB.out)) hb); clear BK994; clear HB; have BK994 := n0_; have HB := n1_; clear n0_ n1_; (try clear hb); (try clear hb2); (try clear hk); (try clear hi)))
    go_ret
    exact ⟨by first | rfl | (simp [errW_none, errW_some] <;> rfl) | (simp [*, errW_none, errW_some] <;> rfl), by repeat (first | (with_reducible first | exact HB.out | apply below_alloc | apply pw_below_drewN | apply below_drew1 | refine below_set ?_ GE994.out) | exact HB.out)⟩
  · rw [if_neg c4] at H
    have c4b0 : decide (t995 < 0) = false := decide_eq_false c4
    clear c4
    replace H := Option.bind_eq_some_iff.mp H
    obtain ⟨⟨t996, t999, t1002⟩, A80, H⟩ := H
    replace H : ((spec_PathTo.f k t996 t999 t1002 a1).bind fun bt1005 => ((laws_toHeap.f k l0_0 l0_1 l0_2).bind fun bt1009 => ((impl_PathTo.f k bt1009.1 bt1009.2.1 bt1009.2.2 a1).bind fun bt1019 => ((laws_eqIntS.f k bt1019.1 bt1005.1).bind fun t1023 => (if t1023 = true then (laws_FnExactPathTo.j0 k a1 bt1005.1 bt1005.2 bt1019.1 bt1019.2 (bt1019.2 != bt1005.2) l0_0 l0_1 l0_2 bt1009.1 bt1009.2.1 bt1009.2.2) else (laws_FnExactPathTo.j0 k a1 bt1005.1 bt1005.2 bt1019.1 bt1019.2 true l0_0 l0_1 l0_2 bt1009.1 bt1009.2.1 bt1009.2.2)))))) = some r := H
    have A8 := am A80
    clear A80
    replace H := Option.bind_eq_some_iff.mp H
    obtain ⟨⟨t1005, t1008⟩, A90, H⟩ := H
    replace H : ((laws_toHeap.f k l0_0 l0_1 l0_2).bind fun bt1009 => ((impl_PathTo.f k bt1009.1 bt1009.2.1 bt1009.2.2 a1).bind fun bt1019 => ((laws_eqIntS.f k bt1019.1 t1005).bind fun t1023 => (if t1023 = true then (laws_FnExactPathTo.j0 k a1 t1005 t1008 bt1019.1 bt1019.2 (bt1019.2 != t1008) l0_0 l0_1 l0_2 bt1009.1 bt1009.2.1 bt1009.2.2) else (laws_FnExactPathTo.j0 k a1 t1005 t1008 bt1019.1 bt1019.2 true l0_0 l0_1 l0_2 bt1009.1 bt1009.2.1 bt1009.2.2))))) = some r := H
    have A9 := am A90
    clear A90
    replace H := Option.bind_eq_some_iff.mp H
    obtain ⟨⟨t1009, t1012, t1015⟩, A100, H⟩ := H
    replace H : ((impl_PathTo.f k t1009 t1012 t1015 a1).bind fun bt1019 => ((laws_eqIntS.f k bt1019.1 t1005).bind fun t1023 => (if t1023 = true then (laws_FnExactPathTo.j0 k a1 t1005 t1008 bt1019.1 bt1019.2 (bt1019.2 != t1008) l0_0 l0_1 l0_2 t1009 t1012 t1015) else (laws_FnExactPathTo.j0 k a1 t1005 t1008 bt1019.1 bt1019.2 true l0_0 l0_1 l0_2 t1009 t1012 t1015)))) = some r := H
    have A10 := am A100
    clear A100
    replace H := Option.bind_eq_some_iff.mp H
    obtain ⟨⟨t1019, t1022⟩, A110, H⟩ := H
    replace H : ((laws_eqIntS.f k t1019 t1005).bind fun t1023 => (if t1023 = true then (laws_FnExactPathTo.j0 k a1 t1005 t1008 t1019 t1022 (t1022 != t1008) l0_0 l0_1 l0_2 t1009 t1012 t1015) else (laws_FnExactPathTo.j0 k a1 t1005 t1008 t1019 t1022 true l0_0 l0_1 l0_2 t1009 t1012 t1015))) = some r := H
    have A11 := am A110
    clear A110
    have HC12 := am H
    clear H
    go_enter Try.func10, Try.ntmps10
    go_upto_region 8 with (first | ((with_reducible refine gate_dst (N := 2) rfl ?_); refine box_event ?hg (N := 2) ?hd (cs := #[.slice A0_0 l0_0.length c0_0, .slice A0_1 l0_1.length c0_1, .slice A0_2 l0_2.length c0_2]) (t := 24) ?hr ?_; (case hd => rfl); (case hg => rfl); (case hr => first | (go_simp; done) | (go_simp; rfl)); intro gb994 hg w13 hbox hb; have n0_ := am (below_step (bl HB.out) hb); have n1_ := am (hbox); have n2_ := am ((by rw [hg]; exact (below_size (bl HB.out)) : w.heap.size ≤ gb994)); have n3_ := am ((by rw [hg]; exact (below_size (bl HB.out)) : w.heap.size ≤ gb994)); clear HB; have HB := n0_; have BK994 := n1_; have GW994 := n2_; have GE994 := n3_; clear n0_ n1_ n2_ n3_; clear hb hbox hg; have hcz14_0 : w13.cell? ⟨gb994, 0, none⟩ = some (.slice A0_0 l0_0.length c0_0) := (blk_cell BK994.out 0).trans rfl; have hcz14_1 : w13.cell? ⟨gb994, 1, none⟩ = some (.slice A0_1 l0_1.length c0_1) := (blk_cell BK994.out 1).trans rfl; have hcz14_2 : w13.cell? ⟨gb994, 2, none⟩ = some (.slice A0_2 l0_2.length c0_2) := (blk_cell BK994.out 2).trans rfl; have hfz14_0 := blk_frozen BK994.out 0; have hfz14_1 := blk_frozen BK994.out 1; have hfz14_2 := blk_frozen BK994.out 2) | ((with_reducible refine gate_callee (f := 15) rfl ?_); refine goesL_ (some 18) rfl rfl Try.func15 (by kernel_rfl) rfl #[.agg #[.slice A0_0 l0_0.length c0_0, .slice A0_1 l0_1.length c0_1, .slice A0_2 l0_2.length c0_2], .int .i64 1048576] rfl (by (try simp only [List.map_toArray, List.map_cons, List.map_nil]); first | done | rfl | (simp only [List.length_drop, List.length_take]; rfl)) ?_; (with_reducible refine (laws_szHeap.calls _ _ l0_0 _ _ l0_1 _ _ l0_2 1048576 t995 _ ?side1 ?side2 ?side3 ?side4 ?side5 ?side6 A3.out).mono ?_); (case side1 => exact cl (Kd.C_below HR0_0.out HB.out)); (case side2 => exact HC0_0.out); (case side3 => exact cl (Kd.C_below HR0_1.out HB.out)); (case side4 => exact HC0_1.out); (case side5 => exact cl (Kd.C_below HR0_2.out HB.out)); (case side6 => exact HC0_2.out); rintro e w15 ⟨rfl, hb⟩; refine ⟨_, rfl, ?_⟩; have n0_ := am (blk_below (g := gb994) (o := .cells #[.slice A0_0 l0_0.length c0_0, .slice A0_1 l0_1.length c0_1, .slice A0_2 l0_2.length c0_2] 24 (0, 0)) (kl BK994.out) hb); have n1_ := am (below_step (by repeat (first | (with_reducible first | exact HB.out | apply below_alloc | apply pw_below_drewN | apply below_drew1 | refine below_set ?_ GE994.out) | exact HB.out)) hb); clear BK994; clear HB; have BK994 := n0_; have HB := n1_; clear n0_ n1_; (try clear hb); (try clear hb2); (try clear hk); (try clear hi); have hcz16_0 : w15.cell? ⟨gb994, 0, none⟩ = some (.slice A0_0 l0_0.length c0_0) := (blk_cell BK994.out 0).trans rfl; have hcz16_1 : w15.cell? ⟨gb994, 1, none⟩ = some (.slice A0_1 l0_1.length c0_1) := (blk_cell BK994.out 1).trans rfl; have hcz16_2 : w15.cell? ⟨gb994, 2, none⟩ = some (.slice A0_2 l0_2.length c0_2) := (blk_cell BK994.out 2).trans rfl; have hfz16_0 := blk_frozen BK994.out 0; have hfz16_1 := blk_frozen BK994.out 1; have hfz16_2 := blk_frozen BK994.out 2) | ((with_reducible refine gate_callee (f := 17) rfl ?_); refine goesL_ (some 23) rfl rfl Try.func17 (by kernel_rfl) rfl #[.agg #[.slice A0_0 l0_0.length c0_0, .slice A0_1 l0_1.length c0_1, .slice A0_2 l0_2.length c0_2]] rfl (by (try simp only [List.map_toArray, List.map_cons, List.map_nil]); first | done | rfl | (simp only [List.length_drop, List.length_take]; rfl)) ?_; (with_reducible refine (laws_toHeap.calls k _ _ l0_0 _ _ l0_1 _ _ l0_2 t996 t999 t1002 _ ?side1 ?side2 ?side3 ?side4 ?side5 ?side6 A8.out).mono ?_); (case side1 => exact cl (Kd.C_below HR0_0.out HB.out)); (case side2 => exact HC0_0.out); (case side3 => exact cl (Kd.C_below HR0_1.out HB.out)); (case side4 => exact HC0_1.out); (case side5 => exact cl (Kd.C_below HR0_2.out HB.out)); (case side6 => exact HC0_2.out); rintro e w17 ⟨v997, v1000, v1003, rfl, ho0, ho1, ho2, hb⟩; refine ⟨_, rfl, ?_⟩; have n0_ := am (Kd.R_lower ho0 (below_size (by repeat (first | (with_reducible first | exact HB.out | apply below_alloc | apply pw_below_drewN | apply below_drew1 | refine below_set ?_ GE994.out) | exact HB.out)))); have n1_ := am (Kd.R_lower ho1 (below_size (by repeat (first | (with_reducible first | exact HB.out | apply below_alloc | apply pw_below_drewN | apply below_drew1 | refine below_set ?_ GE994.out) | exact HB.out)))); have n2_ := am (Kd.R_lower ho2 (below_size (by repeat (first | (with_reducible first | exact HB.out | apply below_alloc | apply pw_below_drewN | apply below_drew1 | refine below_set ?_ GE994.out) | exact HB.out)))); have n3_ := am (blk_below (g := gb994) (o := .cells #[.slice A0_0 l0_0.length c0_0, .slice A0_1 l0_1.length c0_1, .slice A0_2 l0_2.length c0_2] 24 (0, 0)) (kl BK994.out) hb); have n4_ := am (below_step (by repeat (first | (with_reducible first | exact HB.out | apply below_alloc | apply pw_below_drewN | apply below_drew1 | refine below_set ?_ GE994.out) | exact HB.out)) hb); clear BK994; clear HB; have HO998 := n0_; have HO1001 := n1_; have HO1004 := n2_; have BK994 := n3_; have HB := n4_; clear n0_ n1_ n2_ n3_ n4_; (try clear hb); (try clear hb2); (try clear hk); (try clear hi); (try clear ho0); (try clear ho1); (try clear ho2); obtain ⟨Ao18, co18, eo18⟩ := Kd.R_slice HO998.out; subst eo18; obtain ⟨Ao19, co19, eo19⟩ := Kd.R_slice HO1001.out; subst eo19; obtain ⟨Ao20, co20, eo20⟩ := Kd.R_slice HO1004.out; subst eo20) | ((with_reducible refine gate_callee (f := 48) rfl ?_); refine goesL_ (some 25) rfl rfl Try.func48 (by kernel_rfl) rfl #[.agg #[.slice Ao18 t996.length co18, .slice Ao19 t999.length co19, .slice Ao20 t1002.length co20], .int .i64 a1] rfl (by (try simp only [List.map_toArray, List.map_cons, List.map_nil]); first | done | rfl | (simp only [List.length_drop, List.length_take]; rfl)) ?_; (with_reducible refine (spec_PathTo.calls k _ _ t996 _ _ t999 _ _ t1002 a1 t1005 t1008 _ ?side1 ?side2 ?side3 ?side4 ?side5 ?side6 A9.out).mono ?_); (case side1 => repeat (first | exact (Kd.R_reads' HO998.out).2.2 | (with_reducible refine Kd.C_alloc ?_ _) | (with_reducible refine Kd.C_drewN ?_ _) | (with_reducible refine Kd.C_drew ?_))); (case side2 => exact (Kd.R_reads' HO998.out).2.1); (case side3 => repeat (first | exact (Kd.R_reads' HO1001.out).2.2 | (with_reducible refine Kd.C_alloc ?_ _) | (with_reducible refine Kd.C_drewN ?_ _) | (with_reducible refine Kd.C_drew ?_))); (case side4 => exact (Kd.R_reads' HO1001.out).2.1); (case side5 => repeat (first | exact (Kd.R_reads' HO1004.out).2.2 | (with_reducible refine Kd.C_alloc ?_ _) | (with_reducible refine Kd.C_drewN ?_ _) | (with_reducible refine Kd.C_drew ?_))); (case side6 => exact (Kd.R_reads' HO1004.out).2.1); rintro e w21 ⟨v1006, rfl, ho0, hb⟩; refine ⟨_, rfl, ?_⟩; have n0_ := am (Kd.R_elder' (rl HO998.out) (Kd.R_base ho0) hb); have n1_ := am (Kd.R_elder' (rl HO1001.out) (Kd.R_base ho0) hb); have n2_ := am (Kd.R_elder' (rl HO1004.out) (Kd.R_base ho0) hb); have n3_ := am (Kd.R_lower (Kd.R_new' (Kd.R_new' (Kd.R_new' ho0 (Kd.R_lt (rl HO998.out))) (Kd.R_lt (rl HO1001.out))) (Kd.R_lt (rl HO1004.out))) (below_size (by repeat (first | (with_reducible first | exact HB.out | apply below_alloc | apply pw_below_drewN | apply below_drew1 | refine below_set ?_ GE994.out) | exact HB.out)))); have n4_ := am (blk_below (g := gb994) (o := .cells #[.slice A0_0 l0_0.length c0_0, .slice A0_1 l0_1.length c0_1, .slice A0_2 l0_2.length c0_2] 24 (0, 0)) (kl BK994.out) hb); have n5_ := am (below_step (by repeat (first | (with_reducible first | exact HB.out | apply below_alloc | apply pw_below_drewN | apply below_drew1 | refine below_set ?_ GE994.out) | exact HB.out)) hb); clear HO998; clear HO1001; clear HO1004; clear BK994; clear HB; have HO998 := n0_; have HO1001 := n1_; have HO1004 := n2_; have HO1007 := n3_; have BK994 := n4_; have HB := n5_; clear n0_ n1_ n2_ n3_ n4_ n5_; (try clear hb); (try clear hb2); (try clear hk); (try clear hi); (try clear ho0); have hcz22_0 : w21.cell? ⟨gb994, 0, none⟩ = some (.slice A0_0 l0_0.length c0_0) := (blk_cell BK994.out 0).trans rfl; have hcz22_1 : w21.cell? ⟨gb994, 1, none⟩ = some (.slice A0_1 l0_1.length c0_1) := (blk_cell BK994.out 1).trans rfl; have hcz22_2 : w21.cell? ⟨gb994, 2, none⟩ = some (.slice A0_2 l0_2.length c0_2) := (blk_cell BK994.out 2).trans rfl; have hfz22_0 := blk_frozen BK994.out 0; have hfz22_1 := blk_frozen BK994.out 1; have hfz22_2 := blk_frozen BK994.out 2) | ((with_reducible refine gate_callee (f := 17) rfl ?_); refine goesL_ (some 29) rfl rfl Try.func17 (by kernel_rfl) rfl #[.agg #[.slice A0_0 l0_0.length c0_0, .slice A0_1 l0_1.length c0_1, .slice A0_2 l0_2.length c0_2]] rfl (by (try simp only [List.map_toArray, List.map_cons, List.map_nil]); first | done | rfl | (simp only [List.length_drop, List.length_take]; rfl)) ?_; (with_reducible refine (laws_toHeap.calls k _ _ l0_0 _ _ l0_1 _ _ l0_2 t1009 t1012 t1015 _ ?side1 ?side2 ?side3 ?side4 ?side5 ?side6 A10.out).mono ?_); (case side1 => exact cl (Kd.C_below HR0_0.out HB.out)); (case side2 => exact HC0_0.out); (case side3 => exact cl (Kd.C_below HR0_1.out HB.out)); (case side4 => exact HC0_1.out); (case side5 => exact cl (Kd.C_below HR0_2.out HB.out)); (case side6 => exact HC0_2.out); rintro e w23 ⟨v1010, v1013, v1016, rfl, ho0, ho1, ho2, hb⟩; refine ⟨_, rfl, ?_⟩; have n0_ := am (Kd.R_mono (Kd.R_told (Kd.R_told (Kd.R_told (Kd.R_old (rl HO998.out) hb) (Kd.R_base ho0)) (Kd.R_base ho1)) (Kd.R_base ho2)) (fun _ h_ => h_.1)); have n1_ := am (Kd.R_mono (Kd.R_told (Kd.R_told (Kd.R_told (Kd.R_old (rl HO1001.out) hb) (Kd.R_base ho0)) (Kd.R_base ho1)) (Kd.R_base ho2)) (fun _ h_ => h_.1)); have n2_ := am (Kd.R_mono (Kd.R_told (Kd.R_told (Kd.R_told (Kd.R_old (rl HO1004.out) hb) (Kd.R_base ho0)) (Kd.R_base ho1)) (Kd.R_base ho2)) (fun _ h_ => h_.1)); have n3_ := am (Kd.R_mono (Kd.R_told (Kd.R_told (Kd.R_told (Kd.R_old (rl HO1007.out) hb) (Kd.R_base ho0)) (Kd.R_base ho1)) (Kd.R_base ho2)) (fun _ h_ => h_.1)); have n4_ := am (Kd.R_lower (Kd.R_new' (Kd.R_new' (Kd.R_new' (Kd.R_new' ho0 (Kd.R_lt (rl HO998.out))) (Kd.R_lt (rl HO1001.out))) (Kd.R_lt (rl HO1004.out))) (Kd.R_lt (rl HO1007.out))) (below_size (by repeat (first | (with_reducible first | exact HB.out | apply below_alloc | apply pw_below_drewN | apply below_drew1 | refine below_set ?_ GE994.out) | exact HB.out)))); have n5_ := am (Kd.R_lower (Kd.R_new' (Kd.R_new' (Kd.R_new' (Kd.R_new' ho1 (Kd.R_lt (rl HO998.out))) (Kd.R_lt (rl HO1001.out))) (Kd.R_lt (rl HO1004.out))) (Kd.R_lt (rl HO1007.out))) (below_size (by repeat (first | (with_reducible first | exact HB.out | apply below_alloc | apply pw_below_drewN | apply below_drew1 | refine below_set ?_ GE994.out) | exact HB.out)))); have n6_ := am (Kd.R_lower (Kd.R_new' (Kd.R_new' (Kd.R_new' (Kd.R_new' ho2 (Kd.R_lt (rl HO998.out))) (Kd.R_lt (rl HO1001.out))) (Kd.R_lt (rl HO1004.out))) (Kd.R_lt (rl HO1007.out))) (below_size (by repeat (first | (with_reducible first | exact HB.out | apply below_alloc | apply pw_below_drewN | apply below_drew1 | refine below_set ?_ GE994.out) | exact HB.out)))); have n7_ := am (blk_below (g := gb994) (o := .cells #[.slice A0_0 l0_0.length c0_0, .slice A0_1 l0_1.length c0_1, .slice A0_2 l0_2.length c0_2] 24 (0, 0)) (kl BK994.out) hb); have n8_ := am (below_step (by repeat (first | (with_reducible first | exact HB.out | apply below_alloc | apply pw_below_drewN | apply below_drew1 | refine below_set ?_ GE994.out) | exact HB.out)) hb); clear HO998; clear HO1001; clear HO1004; clear HO1007; clear BK994; clear HB; have HO998 := n0_; have HO1001 := n1_; have HO1004 := n2_; have HO1007 := n3_; have HO1011 := n4_; have HO1014 := n5_; have HO1017 := n6_; have BK994 := n7_; have HB := n8_; clear n0_ n1_ n2_ n3_ n4_ n5_ n6_ n7_ n8_; (try clear hb); (try clear hb2); (try clear hk); (try clear hi); (try clear ho0); (try clear ho1); (try clear ho2)) | ((with_reducible refine gate_dst (N := 8) rfl ?_); refine box_event ?hg (N := 8) ?hd (cs := #[.slice none 0 0, .slice none 0 0, .slice none 0 0]) (t := 28) ?hr ?_; (case hd => rfl); (case hg => rfl); (case hr => first | (go_simp; done) | (go_simp; rfl)); intro gb1018 hg w24 hbox hb; have n0_ := am (Kd.R_below (rl HO998.out) hb); have n1_ := am (Kd.R_below (rl HO1001.out) hb); have n2_ := am (Kd.R_below (rl HO1004.out) hb); have n3_ := am (Kd.R_below (rl HO1007.out) hb); have n4_ := am (Kd.R_below (rl HO1011.out) hb); have n5_ := am (Kd.R_below (rl HO1014.out) hb); have n6_ := am (Kd.R_below (rl HO1017.out) hb); have n7_ := am (blk_below (g := gb994) (o := .cells #[.slice A0_0 l0_0.length c0_0, .slice A0_1 l0_1.length c0_1, .slice A0_2 l0_2.length c0_2] 24 (0, 0)) (kl BK994.out) hb); have n8_ := am (below_step (by repeat (first | (with_reducible first | exact HB.out | apply below_alloc | apply pw_below_drewN | apply below_drew1 | refine below_set ?_ GE994.out) | exact HB.out)) hb); have n9_ := am (hbox); have n10_ := am ((by rw [hg]; exact (below_size (by repeat (first | (with_reducible first | exact HB.out | apply below_alloc | apply pw_below_drewN | apply below_drew1 | refine below_set ?_ GE994.out) | exact HB.out))) : w.heap.size ≤ gb1018)); have n11_ := am ((by rw [hg]; exact (below_size (by repeat (first | (with_reducible first | exact HB.out | apply below_alloc | apply pw_below_drewN | apply below_drew1 | refine below_set ?_ GE994.out) | exact HB.out))) : w.heap.size ≤ gb1018)); have n12_ := am ((by rw [hg]; exact Nat.ne_of_lt (blk_lt (g := gb994) (o := .cells #[.slice A0_0 l0_0.length c0_0, .slice A0_1 l0_1.length c0_1, .slice A0_2 l0_2.length c0_2] 24 (0, 0)) (kl BK994.out)) : gb994 ≠ gb1018)); have n13_ := am ((by rw [hg]; exact Nat.ne_of_gt (blk_lt (g := gb994) (o := .cells #[.slice A0_0 l0_0.length c0_0, .slice A0_1 l0_1.length c0_1, .slice A0_2 l0_2.length c0_2] 24 (0, 0)) (kl BK994.out)) : gb1018 ≠ gb994)); clear HO998; clear HO1001; clear HO1004; clear HO1007; clear HO1011; clear HO1014; clear HO1017; clear BK994; clear HB; have HO998 := n0_; have HO1001 := n1_; have HO1004 := n2_; have HO1007 := n3_; have HO1011 := n4_; have HO1014 := n5_; have HO1017 := n6_; have BK994 := n7_; have HB := n8_; have BK1018 := n9_; have GW1018 := n10_; have GE1018 := n11_; have NB994_1018 := n12_; have NB1018_994 := n13_; clear n0_ n1_ n2_ n3_ n4_ n5_ n6_ n7_ n8_ n9_ n10_ n11_ n12_ n13_; clear hb hbox hg; obtain ⟨Ao25, co25, eo25⟩ := Kd.R_slice HO1011.out; subst eo25; have hnb26 := NB1018_994.out; have hnc26 := NB994_1018.out; have hcz27_0 : w24.cell? ⟨gb1018, 0, none⟩ = some (.slice none 0 0) := (blk_cell BK1018.out 0).trans rfl; have hcz27_1 : w24.cell? ⟨gb1018, 1, none⟩ = some (.slice none 0 0) := (blk_cell BK1018.out 1).trans rfl; have hcz27_2 : w24.cell? ⟨gb1018, 2, none⟩ = some (.slice none 0 0) := (blk_cell BK1018.out 2).trans rfl; have hfz27_0 := blk_frozen BK1018.out 0; have hfz27_1 := blk_frozen BK1018.out 1; have hfz27_2 := blk_frozen BK1018.out 2; obtain ⟨Ao28, co28, eo28⟩ := Kd.R_slice HO1014.out; subst eo28; obtain ⟨Ao29, co29, eo29⟩ := Kd.R_slice HO1017.out; subst eo29) | ((with_reducible refine gate_callee (f := 47) rfl ?_); refine goesL_ (some 33) rfl rfl Try.func47 (by kernel_rfl) rfl #[.agg #[.slice Ao25 t1009.length co25, .slice Ao28 t1012.length co28, .slice Ao29 t1015.length co29], .int .i64 a1] rfl (by (try simp only [List.map_toArray, List.map_cons, List.map_nil]); first | done | rfl | (simp only [List.length_drop, List.length_take]; rfl)) ?_; (with_reducible refine (impl_PathTo.calls k _ _ t1009 _ _ t1012 _ _ t1015 a1 t1019 t1022 _ ?side1 ?side2 ?side3 ?side4 ?side5 ?side6 A11.out).mono ?_); (case side1 => exact (Kd.R_reads' (rl ((far3 HO1011.out BK1018.out (by decide) (.slice Ao25 t1009.length co25) (.slice Ao28 t1012.length co28) (.slice Ao29 t1015.length co29))))).2.2); (case side2 => exact (Kd.R_reads' HO1011.out).2.1); (case side3 => exact (Kd.R_reads' (rl ((far3 HO1014.out BK1018.out (by decide) (.slice Ao25 t1009.length co25) (.slice Ao28 t1012.length co28) (.slice Ao29 t1015.length co29))))).2.2); (case side4 => exact (Kd.R_reads' HO1014.out).2.1); (case side5 => exact (Kd.R_reads' (rl ((far3 HO1017.out BK1018.out (by decide) (.slice Ao25 t1009.length co25) (.slice Ao28 t1012.length co28) (.slice Ao29 t1015.length co29))))).2.2); (case side6 => exact (Kd.R_reads' HO1017.out).2.1); rintro e w30 ⟨v1020, rfl, ho0, hb⟩; refine ⟨_, rfl, ?_⟩; have n0_ := am (Kd.R_elder' (rl ((far3 HO998.out BK1018.out (by decide) (.slice Ao25 t1009.length co25) (.slice Ao28 t1012.length co28) (.slice Ao29 t1015.length co29)))) (Kd.R_base ho0) hb); have n1_ := am (Kd.R_elder' (rl ((far3 HO1001.out BK1018.out (by decide) (.slice Ao25 t1009.length co25) (.slice Ao28 t1012.length co28) (.slice Ao29 t1015.length co29)))) (Kd.R_base ho0) hb); have n2_ := am (Kd.R_elder' (rl ((far3 HO1004.out BK1018.out (by decide) (.slice Ao25 t1009.length co25) (.slice Ao28 t1012.length co28) (.slice Ao29 t1015.length co29)))) (Kd.R_base ho0) hb); have n3_ := am (Kd.R_elder' (rl ((far3 HO1007.out BK1018.out (by decide) (.slice Ao25 t1009.length co25) (.slice Ao28 t1012.length co28) (.slice Ao29 t1015.length co29)))) (Kd.R_base ho0) hb); have n4_ := am (Kd.R_elder' (rl ((far3 HO1011.out BK1018.out (by decide) (.slice Ao25 t1009.length co25) (.slice Ao28 t1012.length co28) (.slice Ao29 t1015.length co29)))) (Kd.R_base ho0) hb); have n5_ := am (Kd.R_elder' (rl ((far3 HO1014.out BK1018.out (by decide) (.slice Ao25 t1009.length co25) (.slice Ao28 t1012.length co28) (.slice Ao29 t1015.length co29)))) (Kd.R_base ho0) hb); have n6_ := am (Kd.R_elder' (rl ((far3 HO1017.out BK1018.out (by decide) (.slice Ao25 t1009.length co25) (.slice Ao28 t1012.length co28) (.slice Ao29 t1015.length co29)))) (Kd.R_base ho0) hb); have n7_ := am (Kd.R_lower (Kd.R_new' (Kd.R_new' (Kd.R_new' (Kd.R_new' (Kd.R_new' (Kd.R_new' (Kd.R_new' ho0 (Kd.R_lt (rl ((far3 HO998.out BK1018.out (by decide) (.slice Ao25 t1009.length co25) (.slice Ao28 t1012.length co28) (.slice Ao29 t1015.length co29)))))) (Kd.R_lt (rl ((far3 HO1001.out BK1018.out (by decide) (.slice Ao25 t1009.length co25) (.slice Ao28 t1012.length co28) (.slice Ao29 t1015.length co29)))))) (Kd.R_lt (rl ((far3 HO1004.out BK1018.out (by decide) (.slice Ao25 t1009.length co25) (.slice Ao28 t1012.length co28) (.slice Ao29 t1015.length co29)))))) (Kd.R_lt (rl ((far3 HO1007.out BK1018.out (by decide) (.slice Ao25 t1009.length co25) (.slice Ao28 t1012.length co28) (.slice Ao29 t1015.length co29)))))) (Kd.R_lt (rl ((far3 HO1011.out BK1018.out (by decide) (.slice Ao25 t1009.length co25) (.slice Ao28 t1012.length co28) (.slice Ao29 t1015.length co29)))))) (Kd.R_lt (rl ((far3 HO1014.out BK1018.out (by decide) (.slice Ao25 t1009.length co25) (.slice Ao28 t1012.length co28) (.slice Ao29 t1015.length co29)))))) (Kd.R_lt (rl ((far3 HO1017.out BK1018.out (by decide) (.slice Ao25 t1009.length co25) (.slice Ao28 t1012.length co28) (.slice Ao29 t1015.length co29)))))) (below_size (by repeat (first | (with_reducible first | exact HB.out | apply below_alloc | apply pw_below_drewN | apply below_drew1 | refine below_set ?_ GE994.out | refine below_set ?_ GE1018.out) | exact HB.out)))); have n8_ := am (blk_below (g := gb994) (o := .cells #[.slice A0_0 l0_0.length c0_0, .slice A0_1 l0_1.length c0_1, .slice A0_2 l0_2.length c0_2] 24 (0, 0)) (by (with_reducible repeat (first | refine blk_drewN ?_ _ | refine blk_drew ?_ | refine blk_alloc ?_ _)); refine blk_far ?_ NB994_1018.out _; (with_reducible repeat (first | refine blk_drewN ?_ _ | refine blk_drew ?_ | refine blk_alloc ?_ _)); refine blk_far ?_ NB994_1018.out _; (with_reducible repeat (first | refine blk_drewN ?_ _ | refine blk_drew ?_ | refine blk_alloc ?_ _)); refine blk_far ?_ NB994_1018.out _; (with_reducible repeat (first | refine blk_drewN ?_ _ | refine blk_drew ?_ | refine blk_alloc ?_ _)); exact BK994.out) hb); have n9_ := am (blk_below (g := gb1018) (o := .cells #[.slice Ao25 t1009.length co25, .slice Ao28 t1012.length co28, .slice Ao29 t1015.length co29] 28 (0, 0)) (by (with_reducible repeat (first | refine blk_drewN ?_ _ | refine blk_drew ?_ | refine blk_alloc ?_ _)); refine blk_put (cs := #[.slice Ao25 t1009.length co25, .slice Ao28 t1012.length co28, .slice none 0 0]) ?_ 2 _ rfl; (with_reducible repeat (first | refine blk_drewN ?_ _ | refine blk_drew ?_ | refine blk_alloc ?_ _)); refine blk_put (cs := #[.slice Ao25 t1009.length co25, .slice none 0 0, .slice none 0 0]) ?_ 1 _ rfl; (with_reducible repeat (first | refine blk_drewN ?_ _ | refine blk_drew ?_ | refine blk_alloc ?_ _)); refine blk_put (cs := #[.slice none 0 0, .slice none 0 0, .slice none 0 0]) ?_ 0 _ rfl; (with_reducible repeat (first | refine blk_drewN ?_ _ | refine blk_drew ?_ | refine blk_alloc ?_ _)); exact BK1018.out) hb); have n10_ := am (below_step (by repeat (first | (with_reducible first | exact HB.out | apply below_alloc | apply pw_below_drewN | apply below_drew1 | refine below_set ?_ GE994.out | refine below_set ?_ GE1018.out) | exact HB.out)) hb); clear HO998; clear HO1001; clear HO1004; clear HO1007; clear HO1011; clear HO1014; clear HO1017; clear BK994; clear BK1018; clear HB; have HO998 := n0_; have HO1001 := n1_; have HO1004 := n2_; have HO1007 := n3_; have HO1011 := n4_; have HO1014 := n5_; have HO1017 := n6_; have HO1021 := n7_; have BK994 := n8_; have BK1018 := n9_; have HB := n10_; clear n0_ n1_ n2_ n3_ n4_ n5_ n6_ n7_ n8_ n9_ n10_; (try clear hb); (try clear hb2); (try clear hk); (try clear hi); (try clear ho0)))
    (try simp only [Act.put, List.setIfInBounds_toArray, List.set_cons_zero, List.set_cons_succ])
    go_cut [44] (fun v44 wc => ∃ (kq : Nat) (x44_11 : Bool), v44 = .bool x44_11 ∧ Aside0 (laws_FnExactPathTo.j0 kq a1 t1005 t1008 t1019 t1022 x44_11 l0_0 l0_1 l0_2 t1009 t1012 t1015 = some r) ∧ Aside0 (kq ≤ k) ∧ Aside0 (Kd.R (Kd.int .i64) 3 wc w.heap.size (fun k_ => some k_ ≠ (v1020 : Value).ownBlock ∧ some k_ ≠ ((.slice Ao25 t1009.length co25) : Value).ownBlock ∧ some k_ ≠ ((.slice Ao28 t1012.length co28) : Value).ownBlock ∧ some k_ ≠ ((.slice Ao29 t1015.length co29) : Value).ownBlock) v1006 t1005) ∧ Aside0 (Kd.R (Kd.int .i64) 3 wc w.heap.size (fun k_ => some k_ ≠ (v1006 : Value).ownBlock ∧ some k_ ≠ ((.slice Ao25 t1009.length co25) : Value).ownBlock ∧ some k_ ≠ ((.slice Ao28 t1012.length co28) : Value).ownBlock ∧ some k_ ≠ ((.slice Ao29 t1015.length co29) : Value).ownBlock) v1020 t1019) ∧ Aside0 (Kd.R (Kd.int .i64) 3 wc w.heap.size (fun k_ => some k_ ≠ (v1006 : Value).ownBlock ∧ some k_ ≠ (v1020 : Value).ownBlock ∧ some k_ ≠ ((.slice Ao28 t1012.length co28) : Value).ownBlock ∧ some k_ ≠ ((.slice Ao29 t1015.length co29) : Value).ownBlock) (.slice Ao25 t1009.length co25) t1009) ∧ Aside0 (Kd.R (Kd.int .i64) 3 wc w.heap.size (fun k_ => some k_ ≠ (v1006 : Value).ownBlock ∧ some k_ ≠ (v1020 : Value).ownBlock ∧ some k_ ≠ ((.slice Ao25 t1009.length co25) : Value).ownBlock ∧ some k_ ≠ ((.slice Ao29 t1015.length co29) : Value).ownBlock) (.slice Ao28 t1012.length co28) t1012) ∧ Aside0 (Kd.R (Kd.int .i64) 3 wc w.heap.size (fun k_ => some k_ ≠ (v1006 : Value).ownBlock ∧ some k_ ≠ (v1020 : Value).ownBlock ∧ some k_ ≠ ((.slice Ao25 t1009.length co25) : Value).ownBlock ∧ some k_ ≠ ((.slice Ao28 t1012.length co28) : Value).ownBlock) (.slice Ao29 t1015.length co29) t1015) ∧ Aside0 (wc.heap[gb994]? = some (.cells #[(.slice A0_0 l0_0.length c0_0), (.slice A0_1 l0_1.length c0_1), (.slice A0_2 l0_2.length c0_2)] 24 (0, 0))) ∧ Aside0 (wc.heap[gb1018]? = some (.cells #[(.slice Ao25 t1009.length co25), (.slice Ao28 t1012.length co28), (.slice Ao29 t1015.length co29)] 28 (0, 0))) ∧ Aside0 (Below w.heap.size w wc))
    case first =>
      have H := HC12.out
      clear HC12
      replace H := Option.bind_eq_some_iff.mp H
      obtain ⟨t1023, A310, H⟩ := H
      replace H : (if t1023 = true then (laws_FnExactPathTo.j0 k a1 t1005 t1008 t1019 t1022 (t1022 != t1008) l0_0 l0_1 l0_2 t1009 t1012 t1015) else (laws_FnExactPathTo.j0 k a1 t1005 t1008 t1019 t1022 true l0_0 l0_1 l0_2 t1009 t1012 t1015)) = some r := H
      have A31 := am A310
      clear A310
      by_cases c32 : t1023 = true
      · subst c32
        have H1 : (laws_FnExactPathTo.j0 k a1 t1005 t1008 t1019 t1022 (t1022 != t1008) l0_0 l0_1 l0_2 t1009 t1012 t1015) = some r := by rw [if_pos rfl] at H; exact H
        clear H
        have H := H1
        clear H1
        have H' := am H
        clear H
        obtain ⟨Ao33, co33, eo33⟩ := Kd.R_slice HO1021.out
        subst eo33
        obtain ⟨Ao34, co34, eo34⟩ := Kd.R_slice HO1007.out
        subst eo34
        go_wp2_with (first | ((with_reducible refine gate_callee (f := 26) rfl ?_); refine goesL_ (some 38) rfl rfl Try.func26 (by kernel_rfl) rfl #[.slice Ao33 t1019.length co33, .slice Ao34 t1005.length co34] rfl (by (try simp only [List.map_toArray, List.map_cons, List.map_nil]); first | done | rfl | (simp only [List.length_drop, List.length_take]; rfl)) ?_; (with_reducible refine (laws_eqIntS.calls k _ _ t1019 _ _ t1005 true _ ?side1 ?side2 ?side3 ?side4 A31.out).mono ?_); (case side1 => repeat (first | exact (Kd.R_reads' HO1021.out).2.2 | (with_reducible refine Kd.C_alloc ?_ _) | (with_reducible refine Kd.C_drewN ?_ _) | (with_reducible refine Kd.C_drew ?_))); (case side2 => exact (Kd.R_reads' HO1021.out).2.1); (case side3 => repeat (first | exact (Kd.R_reads' HO1007.out).2.2 | (with_reducible refine Kd.C_alloc ?_ _) | (with_reducible refine Kd.C_drewN ?_ _) | (with_reducible refine Kd.C_drew ?_))); (case side4 => exact (Kd.R_reads' HO1007.out).2.1); rintro e w' ⟨rfl, ⟨nd, rfl⟩⟩; refine ⟨_, rfl, ?_⟩))
        go_meet
        case rel => exact ⟨_, ((t1022 != t1008)), (by first | rfl | (simp; done) | (simp [*]; done)), H', ⟨by first | omega | exact Nat.le_refl _⟩, ⟨rl (Kd.R_mono HO1007.out (fun _ hk => by first | exact ⟨hk.2, ⟨hk.1.1.1.2, ⟨hk.1.1.2, hk.1.2⟩⟩⟩ | (simp only [ne_eq] at hk ⊢; simp only [hk, not_false_eq_true, and_self])))⟩, ⟨rl (Kd.R_mono HO1021.out (fun _ hk => by first | exact ⟨hk.1.1.1.2, ⟨hk.1.1.2, ⟨hk.1.2, hk.2⟩⟩⟩ | (simp only [ne_eq] at hk ⊢; simp only [hk, not_false_eq_true, and_self])))⟩, ⟨rl (Kd.R_mono HO1011.out (fun _ hk => by simp only [ne_eq] at hk ⊢; simp only [hk, not_false_eq_true, and_self]))⟩, ⟨rl (Kd.R_mono HO1014.out (fun _ hk => by simp only [ne_eq] at hk ⊢; simp only [hk, not_false_eq_true, and_self]))⟩, ⟨rl (Kd.R_mono HO1017.out (fun _ hk => by simp only [ne_eq] at hk ⊢; simp only [hk, not_false_eq_true, and_self]))⟩, ⟨kl BK994.out⟩, ⟨kl BK1018.out⟩, ⟨by repeat (first | (with_reducible first | exact HB.out | apply below_alloc | apply pw_below_drewN | apply below_drew1 | refine below_set ?_ GE994.out | refine below_set ?_ GE1018.out) | exact HB.out)⟩⟩
      · replace c32 := Bool.eq_false_iff.mpr c32
        subst c32
        have H1 : (laws_FnExactPathTo.j0 k a1 t1005 t1008 t1019 t1022 true l0_0 l0_1 l0_2 t1009 t1012 t1015) = some r := by rw [if_neg (show ¬ (false = true) by decide)] at H; exact H
        clear H
        have H := H1
        clear H1
        have H' := am H
        clear H
        obtain ⟨Ao35, co35, eo35⟩ := Kd.R_slice HO1021.out
        subst eo35
        obtain ⟨Ao36, co36, eo36⟩ := Kd.R_slice HO1007.out
        subst eo36
        go_wp2_with (first | ((with_reducible refine gate_callee (f := 26) rfl ?_); refine goesL_ (some 38) rfl rfl Try.func26 (by kernel_rfl) rfl #[.slice Ao35 t1019.length co35, .slice Ao36 t1005.length co36] rfl (by (try simp only [List.map_toArray, List.map_cons, List.map_nil]); first | done | rfl | (simp only [List.length_drop, List.length_take]; rfl)) ?_; (with_reducible refine (laws_eqIntS.calls k _ _ t1019 _ _ t1005 false _ ?side1 ?side2 ?side3 ?side4 A31.out).mono ?_); (case side1 => repeat (first | exact (Kd.R_reads' HO1021.out).2.2 | (with_reducible refine Kd.C_alloc ?_ _) | (with_reducible refine Kd.C_drewN ?_ _) | (with_reducible refine Kd.C_drew ?_))); (case side2 => exact (Kd.R_reads' HO1021.out).2.1); (case side3 => repeat (first | exact (Kd.R_reads' HO1007.out).2.2 | (with_reducible refine Kd.C_alloc ?_ _) | (with_reducible refine Kd.C_drewN ?_ _) | (with_reducible refine Kd.C_drew ?_))); (case side4 => exact (Kd.R_reads' HO1007.out).2.1); rintro e w' ⟨rfl, ⟨nd, rfl⟩⟩; refine ⟨_, rfl, ?_⟩))
        go_meet
        case rel => exact ⟨_, (true), (by first | rfl | (simp; done) | (simp [*]; done)), H', ⟨by first | omega | exact Nat.le_refl _⟩, ⟨rl (Kd.R_mono HO1007.out (fun _ hk => by first | exact ⟨hk.2, ⟨hk.1.1.1.2, ⟨hk.1.1.2, hk.1.2⟩⟩⟩ | (simp only [ne_eq] at hk ⊢; simp only [hk, not_false_eq_true, and_self])))⟩, ⟨rl (Kd.R_mono HO1021.out (fun _ hk => by first | exact ⟨hk.1.1.1.2, ⟨hk.1.1.2, ⟨hk.1.2, hk.2⟩⟩⟩ | (simp only [ne_eq] at hk ⊢; simp only [hk, not_false_eq_true, and_self])))⟩, ⟨rl (Kd.R_mono HO1011.out (fun _ hk => by simp only [ne_eq] at hk ⊢; simp only [hk, not_false_eq_true, and_self]))⟩, ⟨rl (Kd.R_mono HO1014.out (fun _ hk => by simp only [ne_eq] at hk ⊢; simp only [hk, not_false_eq_true, and_self]))⟩, ⟨rl (Kd.R_mono HO1017.out (fun _ hk => by simp only [ne_eq] at hk ⊢; simp only [hk, not_false_eq_true, and_self]))⟩, ⟨kl BK994.out⟩, ⟨kl BK1018.out⟩, ⟨by repeat (first | (with_reducible first | exact HB.out | apply below_alloc | apply pw_below_drewN | apply below_drew1 | refine below_set ?_ GE994.out | refine below_set ?_ GE1018.out) | exact HB.out)⟩⟩
    case rest =>
      clear HC12
      try clear c1
      try clear c2
      try clear p2
      try clear c3
      try clear c4
      try clear c4b0
      try clear c10
      try clear c15
      try clear c17
      try clear c26
      try clear c32
      try clear hcz14_0
      try clear hcz14_1
      try clear hcz14_2
      try clear hcz16_0
      try clear hcz16_1
      try clear hcz16_2
      try clear hcz22_0
      try clear hcz22_1
      try clear hcz22_2
      try clear hcz27_0
      try clear hcz27_1
      try clear hcz27_2
      try clear hcz6_0
      try clear hcz6_1
      try clear hcz6_2
      try clear hfz14_0
      try clear hfz14_1
      try clear hfz14_2
      try clear hfz16_0
      try clear hfz16_1
      try clear hfz16_2
      try clear hfz22_0
      try clear hfz22_1
      try clear hfz22_2
      try clear hfz27_0
      try clear hfz27_1
      try clear hfz27_2
      try clear hfz6_0
      try clear hfz6_1
      try clear hfz6_2
      obtain ⟨kq, x44_11, rfl, HA, HJ11, HO_6, HO_9, HO_1019000, HO_1019001, HO_1019002, BK994, BK1018, HB⟩ := hcut
      cases kq with
      | zero => exact absurd HA.out (by simp [laws_FnExactPathTo.j0])
      | succ kj11 =>
        have H := HA.out
        clear HA
        simp only [laws_FnExactPathTo.j0] at H
        by_cases c37 : x44_11 = true
        · subst c37
          have H1 : (none) = some r := by rw [if_pos rfl] at H; exact H
          clear H
          have H := H1
          clear H1
          exact absurd H (by simp)
        · replace c37 := Bool.eq_false_iff.mpr c37
          subst c37
          have H1 : ((laws_toHeap.f kj11 l0_0 l0_1 l0_2).bind fun bt1024 => ((laws_eqHeap.f kj11 t1009 t1012 t1015 bt1024.1 bt1024.2.1 bt1024.2.2).bind fun t1033 => (if t1033 = true then ((laws_markHeap.f kj11 t1009 t1012 t1015 1).bind fun bt1034 => (if bt1034.1 < 0 then (laws_FnExactPathTo.j1 kj11 a1 t1005 t1008 t1019 true l0_0 l0_1 l0_2) else ((laws_eqIntS.f kj11 t1019 t1005).bind fun t1038 => (if t1038 = true then (laws_FnExactPathTo.j1 kj11 a1 t1005 t1008 t1019 (t1022 != t1008) l0_0 l0_1 l0_2) else (laws_FnExactPathTo.j1 kj11 a1 t1005 t1008 t1019 true l0_0 l0_1 l0_2))))) else (none)))) = some r := by rw [if_neg (show ¬ (false = true) by decide)] at H; exact H
          clear H
          have H := H1
          clear H1
          replace H := Option.bind_eq_some_iff.mp H
          obtain ⟨⟨t1024, t1027, t1030⟩, A380, H⟩ := H
          replace H : ((laws_eqHeap.f kj11 t1009 t1012 t1015 t1024 t1027 t1030).bind fun t1033 => (if t1033 = true then ((laws_markHeap.f kj11 t1009 t1012 t1015 1).bind fun bt1034 => (if bt1034.1 < 0 then (laws_FnExactPathTo.j1 kj11 a1 t1005 t1008 t1019 true l0_0 l0_1 l0_2) else ((laws_eqIntS.f kj11 t1019 t1005).bind fun t1038 => (if t1038 = true then (laws_FnExactPathTo.j1 kj11 a1 t1005 t1008 t1019 (t1022 != t1008) l0_0 l0_1 l0_2) else (laws_FnExactPathTo.j1 kj11 a1 t1005 t1008 t1019 true l0_0 l0_1 l0_2))))) else (none))) = some r := H
          have A38 := am A380
          clear A380
          replace H := Option.bind_eq_some_iff.mp H
          obtain ⟨t1033, A390, H⟩ := H
          replace H : (if t1033 = true then ((laws_markHeap.f kj11 t1009 t1012 t1015 1).bind fun bt1034 => (if bt1034.1 < 0 then (laws_FnExactPathTo.j1 kj11 a1 t1005 t1008 t1019 true l0_0 l0_1 l0_2) else ((laws_eqIntS.f kj11 t1019 t1005).bind fun t1038 => (if t1038 = true then (laws_FnExactPathTo.j1 kj11 a1 t1005 t1008 t1019 (t1022 != t1008) l0_0 l0_1 l0_2) else (laws_FnExactPathTo.j1 kj11 a1 t1005 t1008 t1019 true l0_0 l0_1 l0_2))))) else (none)) = some r := H
          have A39 := am A390
          clear A390
          by_cases c40 : t1033 = true
          · subst c40
            have H1 : ((laws_markHeap.f kj11 t1009 t1012 t1015 1).bind fun bt1034 => (if bt1034.1 < 0 then (laws_FnExactPathTo.j1 kj11 a1 t1005 t1008 t1019 true l0_0 l0_1 l0_2) else ((laws_eqIntS.f kj11 t1019 t1005).bind fun t1038 => (if t1038 = true then (laws_FnExactPathTo.j1 kj11 a1 t1005 t1008 t1019 (t1022 != t1008) l0_0 l0_1 l0_2) else (laws_FnExactPathTo.j1 kj11 a1 t1005 t1008 t1019 true l0_0 l0_1 l0_2))))) = some r := by rw [if_pos rfl] at H; exact H
            clear H
            have H := H1
            clear H1
            replace H := Option.bind_eq_some_iff.mp H
            obtain ⟨⟨t1034, t1035, t1036, t1037⟩, A410, H⟩ := H
            replace H : (if t1034 < 0 then (laws_FnExactPathTo.j1 kj11 a1 t1005 t1008 t1019 true l0_0 l0_1 l0_2) else ((laws_eqIntS.f kj11 t1019 t1005).bind fun t1038 => (if t1038 = true then (laws_FnExactPathTo.j1 kj11 a1 t1005 t1008 t1019 (t1022 != t1008) l0_0 l0_1 l0_2) else (laws_FnExactPathTo.j1 kj11 a1 t1005 t1008 t1019 true l0_0 l0_1 l0_2)))) = some r := H
            have A41 := am A410
            clear A410
            have HC42 := am H
            clear H
            try go_wp2
            have n0_ := am (Kd.R_drew HO_6.out)
            have n1_ := am (Kd.R_drew HO_9.out)
            have n2_ := am (Kd.R_drew HO_1019000.out)
            have n3_ := am (Kd.R_drew HO_1019001.out)
            have n4_ := am (Kd.R_drew HO_1019002.out)
            have n5_ := am (blk_drew BK994.out)
            have n6_ := am (blk_drew BK1018.out)
            have n7_ := am (below_drew1 HB.out)
            clear HO_6
            clear HO_9
            clear HO_1019000
            clear HO_1019001
            clear HO_1019002
            clear BK994
            clear BK1018
            clear HB
            have HO_6 := n0_
            have HO_9 := n1_
            have HO_1019000 := n2_
            have HO_1019001 := n3_
            have HO_1019002 := n4_
            have BK994 := n5_
            have BK1018 := n6_
            have HB := n7_
            clear n0_ n1_ n2_ n3_ n4_ n5_ n6_ n7_
            refine start_ (n := 5) (S := fun w' => w'.cell? ⟨gb1018, 0, none⟩ = some (.slice Ao25 t1009.length co25) ∧ w'.cell? ⟨gb1018, 1, none⟩ = some (.slice Ao28 t1012.length co28) ∧ w'.cell? ⟨gb1018, 2, none⟩ = some (.slice Ao29 t1015.length co29) ∧ w'.cell? ⟨gb994, 0, none⟩ = some (.slice A0_0 l0_0.length c0_0) ∧ w'.cell? ⟨gb994, 1, none⟩ = some (.slice A0_1 l0_1.length c0_1) ∧ w'.cell? ⟨gb994, 2, none⟩ = some (.slice A0_2 l0_2.length c0_2)) (ds := []) #[false, false, false, false, false] (by kernel_rfl) rfl rfl ⟨(blk_cell BK1018.out 0).trans rfl, (blk_cell BK1018.out 1).trans rfl, (blk_cell BK1018.out 2).trans rfl, (blk_cell BK994.out 0).trans rfl, (blk_cell BK994.out 1).trans rfl, (blk_cell BK994.out 2).trans rfl⟩ (fun hHeld => ?_)
            generalize wc.drew = w43 at HO_6 HO_9 HO_1019000 HO_1019001 HO_1019002 BK994 BK1018 HB hHeld ⊢
            refine take_ (i := 0) (N := some 45) (v := ?_) (a' := ?_) #[true, false, false, false, false] rfl rfl (by kernel_rfl) (fun _ _ _ h => h) (Or.inl ⟨by rfl, ?_⟩) hHeld ?_ ?_
            rotate_left
            · rintro w' ⟨s0, s1, s2, s3, s4, s5⟩
              go_simp
              with_reducible rfl
            rotate_left
            · simp only [Act.put, List.setIfInBounds_toArray, List.set_cons_zero, List.set_cons_succ, i64_w, i32_w]
              rfl
            refine take_ (i := 1) (N := some 46) (v := ?_) (a' := ?_) #[true, true, false, false, false] rfl rfl (by kernel_rfl) (fun _ _ _ h => h) (Or.inl ⟨by rfl, ?_⟩) hHeld ?_ ?_
            rotate_left
            · rintro w' ⟨s0, s1, s2, s3, s4, s5⟩
              go_simp
              with_reducible rfl
            rotate_left
            · simp only [Act.put, List.setIfInBounds_toArray, List.set_cons_zero, List.set_cons_succ, i64_w, i32_w]
              rfl
            refine one_ (i := 2) (N := some 47) #[true, true, true, false, false] rfl rfl (by kernel_rfl) (by decide) (fun K hK => ?_)
            refine goes_ Try.func17 (by kernel_rfl) rfl #[.agg #[.slice A0_0 l0_0.length c0_0, .slice A0_1 l0_1.length c0_1, .slice A0_2 l0_2.length c0_2]] (by rfl) rfl rfl (by (try simp only [List.map_toArray, List.map_cons, List.map_nil]); first | done | rfl | (simp only [List.length_drop, List.length_take]; rfl)) ?_
            with_reducible refine (laws_toHeap.calls kj11 _ _ l0_0 _ _ l0_1 _ _ l0_2 t1024 t1027 t1030 _ ?side1 ?side2 ?side3 ?side4 ?side5 ?side6 A38.out).mono ?_
            (case side1 => exact cl (Kd.C_below HR0_0.out HB.out))
            (case side2 => exact HC0_0.out)
            (case side3 => exact cl (Kd.C_below HR0_1.out HB.out))
            (case side4 => exact HC0_1.out)
            (case side5 => exact cl (Kd.C_below HR0_2.out HB.out))
            (case side6 => exact HC0_2.out)
            rintro e w44 ⟨v1025, v1028, v1031, rfl, ho0, ho1, ho2, hb⟩
            refine ⟨_, rfl, ?_⟩
            have n0_ := am (Kd.R_mono (Kd.R_told (Kd.R_told (Kd.R_told (Kd.R_old (rl HO_6.out) hb) (Kd.R_base ho0)) (Kd.R_base ho1)) (Kd.R_base ho2)) (fun _ h_ => h_.1))
            have n1_ := am (Kd.R_mono (Kd.R_told (Kd.R_told (Kd.R_told (Kd.R_old (rl HO_9.out) hb) (Kd.R_base ho0)) (Kd.R_base ho1)) (Kd.R_base ho2)) (fun _ h_ => h_.1))
            have n2_ := am (Kd.R_mono (Kd.R_told (Kd.R_told (Kd.R_told (Kd.R_old (rl HO_1019000.out) hb) (Kd.R_base ho0)) (Kd.R_base ho1)) (Kd.R_base ho2)) (fun _ h_ => h_.1))
            have n3_ := am (Kd.R_mono (Kd.R_told (Kd.R_told (Kd.R_told (Kd.R_old (rl HO_1019001.out) hb) (Kd.R_base ho0)) (Kd.R_base ho1)) (Kd.R_base ho2)) (fun _ h_ => h_.1))
            have n4_ := am (Kd.R_mono (Kd.R_told (Kd.R_told (Kd.R_told (Kd.R_old (rl HO_1019002.out) hb) (Kd.R_base ho0)) (Kd.R_base ho1)) (Kd.R_base ho2)) (fun _ h_ => h_.1))
            have n5_ := am (Kd.R_lower (Kd.R_new' (Kd.R_new' (Kd.R_new' (Kd.R_new' (Kd.R_new' ho0 (Kd.R_lt (rl HO_6.out))) (Kd.R_lt (rl HO_9.out))) (Kd.R_lt (rl HO_1019000.out))) (Kd.R_lt (rl HO_1019001.out))) (Kd.R_lt (rl HO_1019002.out))) (below_size (by repeat (first | (with_reducible first | exact HB.out | apply below_alloc | apply pw_below_drewN | apply below_drew1 | refine below_set ?_ GE994.out | refine below_set ?_ GE1018.out) | exact HB.out))))
            have n6_ := am (Kd.R_lower (Kd.R_new' (Kd.R_new' (Kd.R_new' (Kd.R_new' (Kd.R_new' ho1 (Kd.R_lt (rl HO_6.out))) (Kd.R_lt (rl HO_9.out))) (Kd.R_lt (rl HO_1019000.out))) (Kd.R_lt (rl HO_1019001.out))) (Kd.R_lt (rl HO_1019002.out))) (below_size (by repeat (first | (with_reducible first | exact HB.out | apply below_alloc | apply pw_below_drewN | apply below_drew1 | refine below_set ?_ GE994.out | refine below_set ?_ GE1018.out) | exact HB.out))))
            have n7_ := am (Kd.R_lower (Kd.R_new' (Kd.R_new' (Kd.R_new' (Kd.R_new' (Kd.R_new' ho2 (Kd.R_lt (rl HO_6.out))) (Kd.R_lt (rl HO_9.out))) (Kd.R_lt (rl HO_1019000.out))) (Kd.R_lt (rl HO_1019001.out))) (Kd.R_lt (rl HO_1019002.out))) (below_size (by repeat (first | (with_reducible first | exact HB.out | apply below_alloc | apply pw_below_drewN | apply below_drew1 | refine below_set ?_ GE994.out | refine below_set ?_ GE1018.out) | exact HB.out))))
            have n8_ := am (blk_below (g := gb994) (o := .cells #[.slice A0_0 l0_0.length c0_0, .slice A0_1 l0_1.length c0_1, .slice A0_2 l0_2.length c0_2] 24 (0, 0)) (kl BK994.out) hb)
            have n9_ := am (blk_below (g := gb1018) (o := .cells #[.slice Ao25 t1009.length co25, .slice Ao28 t1012.length co28, .slice Ao29 t1015.length co29] 28 (0, 0)) (kl BK1018.out) hb)
            have n10_ := am (below_step (by repeat (first | (with_reducible first | exact HB.out | apply below_alloc | apply pw_below_drewN | apply below_drew1 | refine below_set ?_ GE994.out | refine below_set ?_ GE1018.out) | exact HB.out)) hb)
            clear HO_6
            clear HO_9
            clear HO_1019000
            clear HO_1019001
            clear HO_1019002
            clear BK994
            clear BK1018
            clear HB
            have HO_6 := n0_
            have HO_9 := n1_
            have HO_1019000 := n2_
            have HO_1019001 := n3_
            have HO_1019002 := n4_
            have HO1026 := n5_
            have HO1029 := n6_
            have HO1032 := n7_
            have BK994 := n8_
            have BK1018 := n9_
            have HB := n10_
            clear n0_ n1_ n2_ n3_ n4_ n5_ n6_ n7_ n8_ n9_ n10_
            (try clear hb)
            (try clear hb2)
            (try clear hk)
            (try clear hi)
            (try clear ho0)
            (try clear ho1)
            (try clear ho2)
            obtain ⟨Ao45, co45, eo45⟩ := Kd.R_slice HO1026.out
            (first | subst eo45 | (injection eo45 with f1_ f2_ f3_; have f4_ := f1_.symm; have f5_ := f3_.symm; clear f1_ f2_ f3_; subst f4_; subst f5_))
            obtain ⟨Ao46, co46, eo46⟩ := Kd.R_slice HO1029.out
            (first | subst eo46 | (injection eo46 with f1_ f2_ f3_; have f4_ := f1_.symm; have f5_ := f3_.symm; clear f1_ f2_ f3_; subst f4_; subst f5_))
            obtain ⟨Ao47, co47, eo47⟩ := Kd.R_slice HO1032.out
            (first | subst eo47 | (injection eo47 with f1_ f2_ f3_; have f4_ := f1_.symm; have f5_ := f3_.symm; clear f1_ f2_ f3_; subst f4_; subst f5_))
            refine hK.out _ _ ⟨(blk_cell BK1018.out 0).trans rfl, (blk_cell BK1018.out 1).trans rfl, (blk_cell BK1018.out 2).trans rfl, (blk_cell BK994.out 0).trans rfl, (blk_cell BK994.out 1).trans rfl, (blk_cell BK994.out 2).trans rfl⟩ (fun hHeld => ?_)
            clear hK K
            refine norm_ (a' := ?_) ?_ ?_
            rotate_left
            · show Act.put _ (some 47) _ = _
              simp only [Act.put, List.setIfInBounds_toArray, List.set_cons_zero, List.set_cons_succ, i64_w, i32_w]
              rfl
            refine one_ (i := 3) (N := some 48) #[true, true, true, true, false] rfl rfl (by kernel_rfl) (by decide) (fun K hK => ?_)
            refine goes_ Try.func20 (by kernel_rfl) rfl #[.agg #[.slice Ao25 t1009.length co25, .slice Ao28 t1012.length co28, .slice Ao29 t1015.length co29], .agg #[.slice Ao45 t1024.length co45, .slice Ao46 t1027.length co46, .slice Ao47 t1030.length co47]] (by rfl) rfl rfl (by (try simp only [List.map_toArray, List.map_cons, List.map_nil]); first | done | rfl | (simp only [List.length_drop, List.length_take]; rfl)) ?_
            with_reducible refine (laws_eqHeap.calls kj11 _ _ t1009 _ _ t1012 _ _ t1015 _ _ t1024 _ _ t1027 _ _ t1030 true _ ?side1 ?side2 ?side3 ?side4 ?side5 ?side6 ?side7 ?side8 ?side9 ?side10 ?side11 ?side12 A39.out).mono ?_
            (case side1 => repeat (first | exact (Kd.R_reads' HO_1019000.out).2.2 | (with_reducible refine Kd.C_alloc ?_ _) | (with_reducible refine Kd.C_drewN ?_ _) | (with_reducible refine Kd.C_drew ?_)))
            (case side2 => exact (Kd.R_reads' HO_1019000.out).2.1)
            (case side3 => repeat (first | exact (Kd.R_reads' HO_1019001.out).2.2 | (with_reducible refine Kd.C_alloc ?_ _) | (with_reducible refine Kd.C_drewN ?_ _) | (with_reducible refine Kd.C_drew ?_)))
            (case side4 => exact (Kd.R_reads' HO_1019001.out).2.1)
            (case side5 => repeat (first | exact (Kd.R_reads' HO_1019002.out).2.2 | (with_reducible refine Kd.C_alloc ?_ _) | (with_reducible refine Kd.C_drewN ?_ _) | (with_reducible refine Kd.C_drew ?_)))
            (case side6 => exact (Kd.R_reads' HO_1019002.out).2.1)
            (case side7 => repeat (first | exact (Kd.R_reads' HO1026.out).2.2 | (with_reducible refine Kd.C_alloc ?_ _) | (with_reducible refine Kd.C_drewN ?_ _) | (with_reducible refine Kd.C_drew ?_)))
            (case side8 => exact (Kd.R_reads' HO1026.out).2.1)
            (case side9 => repeat (first | exact (Kd.R_reads' HO1029.out).2.2 | (with_reducible refine Kd.C_alloc ?_ _) | (with_reducible refine Kd.C_drewN ?_ _) | (with_reducible refine Kd.C_drew ?_)))
            (case side10 => exact (Kd.R_reads' HO1029.out).2.1)
            (case side11 => repeat (first | exact (Kd.R_reads' HO1032.out).2.2 | (with_reducible refine Kd.C_alloc ?_ _) | (with_reducible refine Kd.C_drewN ?_ _) | (with_reducible refine Kd.C_drew ?_)))
            (case side12 => exact (Kd.R_reads' HO1032.out).2.1)
            rintro e w48 ⟨rfl, hb⟩
            refine ⟨_, rfl, ?_⟩
            have n0_ := am (Kd.R_below (rl HO_6.out) hb)
            have n1_ := am (Kd.R_below (rl HO_9.out) hb)
            have n2_ := am (Kd.R_below (rl HO_1019000.out) hb)
            have n3_ := am (Kd.R_below (rl HO_1019001.out) hb)
            have n4_ := am (Kd.R_below (rl HO_1019002.out) hb)
            have n5_ := am (Kd.R_below (rl HO1026.out) hb)
            have n6_ := am (Kd.R_below (rl HO1029.out) hb)
            have n7_ := am (Kd.R_below (rl HO1032.out) hb)
            have n8_ := am (blk_below (g := gb994) (o := .cells #[.slice A0_0 l0_0.length c0_0, .slice A0_1 l0_1.length c0_1, .slice A0_2 l0_2.length c0_2] 24 (0, 0)) (kl BK994.out) hb)
            have n9_ := am (blk_below (g := gb1018) (o := .cells #[.slice Ao25 t1009.length co25, .slice Ao28 t1012.length co28, .slice Ao29 t1015.length co29] 28 (0, 0)) (kl BK1018.out) hb)
            have n10_ := am (below_step (by repeat (first | (with_reducible first | exact HB.out | apply below_alloc | apply pw_below_drewN | apply below_drew1 | refine below_set ?_ GE994.out | refine below_set ?_ GE1018.out) | exact HB.out)) hb)
            clear HO_6
            clear HO_9
            clear HO_1019000
            clear HO_1019001
            clear HO_1019002
            clear HO1026
            clear HO1029
            clear HO1032
            clear BK994
            clear BK1018
            clear HB
            have HO_6 := n0_
            have HO_9 := n1_
            have HO_1019000 := n2_
            have HO_1019001 := n3_
            have HO_1019002 := n4_
            have HO1026 := n5_
            have HO1029 := n6_
            have HO1032 := n7_
            have BK994 := n8_
            have BK1018 := n9_
            have HB := n10_
            clear n0_ n1_ n2_ n3_ n4_ n5_ n6_ n7_ n8_ n9_ n10_
            (try clear hb)
            (try clear hb2)
            (try clear hk)
            (try clear hi)
            refine hK.out _ _ ⟨(blk_cell BK1018.out 0).trans rfl, (blk_cell BK1018.out 1).trans rfl, (blk_cell BK1018.out 2).trans rfl, (blk_cell BK994.out 0).trans rfl, (blk_cell BK994.out 1).trans rfl, (blk_cell BK994.out 2).trans rfl⟩ (fun hHeld => ?_)
            clear hK K
            refine norm_ (a' := ?_) ?_ ?_
            rotate_left
            · show Act.put _ (some 48) _ = _
              simp only [Act.put, List.setIfInBounds_toArray, List.set_cons_zero, List.set_cons_succ, i64_w, i32_w]
              rfl
            refine pure_ (i := 4) (N := some 49) (v := ?_) (a' := ?_) #[true, true, true, true, true] rfl rfl (by kernel_rfl) (fun _ _ _ h => h) (Or.inl ⟨by rfl, ?_⟩) ?_ ?_
            rotate_left
            · intro w'
              go_simp
              with_reducible rfl
            rotate_left
            · simp only [Act.put, List.setIfInBounds_toArray, List.set_cons_zero, List.set_cons_succ, i64_w, i32_w]
              rfl
            refine done_ (by kernel_rfl) ?_
            have hnb49 := NB1018_994.out
            have hnc49 := NB994_1018.out
            have hcz50_0 : w48.cell? ⟨gb1018, 0, none⟩ = some (.slice Ao25 t1009.length co25) := (blk_cell BK1018.out 0).trans rfl
            have hcz50_1 : w48.cell? ⟨gb1018, 1, none⟩ = some (.slice Ao28 t1012.length co28) := (blk_cell BK1018.out 1).trans rfl
            have hcz50_2 : w48.cell? ⟨gb1018, 2, none⟩ = some (.slice Ao29 t1015.length co29) := (blk_cell BK1018.out 2).trans rfl
            have hfz50_0 := blk_frozen BK1018.out 0
            have hfz50_1 := blk_frozen BK1018.out 1
            have hfz50_2 := blk_frozen BK1018.out 2
            go_upto_region 14 with (first | ((with_reducible refine gate_callee (f := 21) rfl ?_); refine goesL_ (some 52) rfl rfl Try.func21 (by kernel_rfl) rfl #[.agg #[.slice Ao25 t1009.length co25, .slice Ao28 t1012.length co28, .slice Ao29 t1015.length co29], .int .i64 1] rfl (by (try simp only [List.map_toArray, List.map_cons, List.map_nil]); first | done | rfl | (simp only [List.length_drop, List.length_take]; rfl)) ?_; (with_reducible refine (laws_markHeap.calls kj11 (fun k_ => some k_ = (.slice Ao25 t1009.length co25 : Value).ownBlock) (.slice Ao25 t1009.length co25) t1009 (fun k_ => some k_ = (.slice Ao28 t1012.length co28 : Value).ownBlock) (.slice Ao28 t1012.length co28) t1012 (fun k_ => some k_ = (.slice Ao29 t1015.length co29 : Value).ownBlock) (.slice Ao29 t1015.length co29) t1015 1 t1034 t1035 t1036 t1037 w _ ?side1 ?side2 ?side3 ?side4 ?side5 ?side6 ?side7 ?side8 ?side9 ?side10 A41.out).mono ?_); (case side1 => repeat (first | (with_reducible first | exact HB.out | apply below_alloc | apply pw_below_drewN | apply below_drew1 | refine below_set ?_ GE994.out | refine below_set ?_ GE1018.out) | exact HB.out)); (case side2 => exact Kd.R_tight rfl HO_1019000.out); (case side3 => exact fun k_ e_ => by have z_ := HO_1019000.out.1 k_ e_.symm; simp only [ne_eq] at z_; simp only [z_, not_false_eq_true]); (case side4 => exact fun k_ e_ => by have z_ := HO_1019000.out.1 k_ e_.symm; simp only [ne_eq] at z_; simp only [z_, not_false_eq_true]); (case side5 => exact Kd.R_tight rfl HO_1019001.out); (case side6 => exact fun k_ e_ => by have z_ := HO_1019001.out.1 k_ e_.symm; simp only [ne_eq] at z_; simp only [z_, not_false_eq_true]); (case side7 => exact fun k_ e_ => by have z_ := HO_1019001.out.1 k_ e_.symm; simp only [ne_eq] at z_; simp only [z_, not_false_eq_true]); (case side8 => exact Kd.R_tight rfl HO_1019002.out); (case side9 => exact fun k_ e_ => by have z_ := HO_1019002.out.1 k_ e_.symm; simp only [ne_eq] at z_; simp only [z_, not_false_eq_true]); (case side10 => exact fun k_ e_ => by have z_ := HO_1019002.out.1 k_ e_.symm; simp only [ne_eq] at z_; simp only [z_, not_false_eq_true]); rintro e w51 ⟨rfl, hy0, hy1, hy2, hb, hkp⟩; refine ⟨_, rfl, ?_⟩; have n0_ := am (Kd.R_kept (HO_6.out) hkp (fun k_ hk_ hs_ => by simp only [ne_eq] at hk_; simp only [hk_, or_self] at hs_)); have n1_ := am (Kd.R_kept (HO_9.out) hkp (fun k_ hk_ hs_ => by simp only [ne_eq] at hk_; simp only [hk_, or_self] at hs_)); have n2_ := am (Kd.R_reok rfl hy0 (fun k_ e_ => HO_1019000.out.1 k_ e_)); have n3_ := am (Kd.R_reok rfl hy1 (fun k_ e_ => HO_1019001.out.1 k_ e_)); have n4_ := am (Kd.R_reok rfl hy2 (fun k_ e_ => HO_1019002.out.1 k_ e_)); have n5_ := am (blk_kept (kl BK994.out) hkp (fun hs_ => Or.elim hs_ (fun e_ => (fun e_ => (Kd.R_ne HO_1019000.out BK994.out (by decide)) e_) e_) (fun e_ => Or.elim e_ (fun e_ => (fun e_ => (Kd.R_ne HO_1019001.out BK994.out (by decide)) e_) e_) (fun e_ => (fun e_ => (Kd.R_ne HO_1019002.out BK994.out (by decide)) e_) e_)))); have n6_ := am (blk_kept (kl BK1018.out) hkp (fun hs_ => Or.elim hs_ (fun e_ => (fun e_ => (Kd.R_ne HO_1019000.out BK1018.out (by decide)) e_) e_) (fun e_ => Or.elim e_ (fun e_ => (fun e_ => (Kd.R_ne HO_1019001.out BK1018.out (by decide)) e_) e_) (fun e_ => (fun e_ => (Kd.R_ne HO_1019002.out BK1018.out (by decide)) e_) e_)))); have n7_ := am (Kd.R_kept (HO1026.out) hkp (fun k_ hk_ hs_ => by simp only [ne_eq] at hk_; simp only [hk_, or_self] at hs_)); have n8_ := am (Kd.R_kept (HO1029.out) hkp (fun k_ hk_ hs_ => by simp only [ne_eq] at hk_; simp only [hk_, or_self] at hs_)); have n9_ := am (Kd.R_kept (HO1032.out) hkp (fun k_ hk_ hs_ => by simp only [ne_eq] at hk_; simp only [hk_, or_self] at hs_)); have n10_ := am (hb); clear HO_6; clear HO_9; clear HO_1019000; clear HO_1019001; clear HO_1019002; clear BK994; clear BK1018; clear HO1026; clear HO1029; clear HO1032; clear HB; have HO_6 := n0_; have HO_9 := n1_; have HO_1019000 := n2_; have HO_1019001 := n3_; have HO_1019002 := n4_; have BK994 := n5_; have BK1018 := n6_; have HO1026 := n7_; have HO1029 := n8_; have HO1032 := n9_; have HB := n10_; clear n0_ n1_ n2_ n3_ n4_ n5_ n6_ n7_ n8_ n9_ n10_; (try clear hb); (try clear hkp); (try clear hy0); (try clear hy1); (try clear hy2)))
            (try simp only [Act.put, List.setIfInBounds_toArray, List.set_cons_zero, List.set_cons_succ])
            go_cut [65] (fun v65 wc => ∃ (kq : Nat) (x65_41 : Bool), v65 = .bool x65_41 ∧ Aside0 (laws_FnExactPathTo.j1 kq a1 t1005 t1008 t1019 x65_41 l0_0 l0_1 l0_2 = some r) ∧ Aside0 (kq ≤ kj11) ∧ Aside0 (Kd.R (Kd.int .i64) 3 wc w.heap.size (fun k_ => some k_ ≠ (v1020 : Value).ownBlock) v1006 t1005) ∧ Aside0 (Kd.R (Kd.int .i64) 3 wc w.heap.size (fun k_ => some k_ ≠ (v1006 : Value).ownBlock) v1020 t1019) ∧ Aside0 (wc.heap[gb994]? = some (.cells #[(.slice A0_0 l0_0.length c0_0), (.slice A0_1 l0_1.length c0_1), (.slice A0_2 l0_2.length c0_2)] 24 (0, 0))) ∧ Aside0 (Below w.heap.size w wc))
            case first =>
              have H := HC42.out
              clear HC42
              by_cases c52 : t1034 < 0
              · rw [if_pos c52] at H
                have c52b0 : decide (t1034 < 0) = true := decide_eq_true c52
                clear c52
                (first | rw [c52b0] | (simp only [i64_w, i32_w]; rw [c52b0]) | skip)
                have H' := am H
                clear H
                go_wp2
                go_meet
                case rel => exact ⟨_, (true), (by first | rfl | (simp; done) | (simp [*]; done)), H', ⟨by have := HJ11.out; first | omega | exact Nat.le_refl _⟩, ⟨rl (Kd.R_mono HO_6.out (fun _ hk => by first | exact hk.1 | (simp only [ne_eq] at hk ⊢; simp only [hk, not_false_eq_true, and_self])))⟩, ⟨rl (Kd.R_mono HO_9.out (fun _ hk => by first | exact hk.1 | (simp only [ne_eq] at hk ⊢; simp only [hk, not_false_eq_true, and_self])))⟩, ⟨kl BK994.out⟩, ⟨by repeat (first | (with_reducible first | exact HB.out | apply below_alloc | apply pw_below_drewN | apply below_drew1 | refine below_set ?_ GE994.out | refine below_set ?_ GE1018.out) | exact HB.out)⟩⟩
              · rw [if_neg c52] at H
                have c52b0 : decide (t1034 < 0) = false := decide_eq_false c52
                clear c52
                (first | rw [c52b0] | (simp only [i64_w, i32_w]; rw [c52b0]) | skip)
                replace H := Option.bind_eq_some_iff.mp H
                obtain ⟨t1038, A530, H⟩ := H
                replace H : (if t1038 = true then (laws_FnExactPathTo.j1 kj11 a1 t1005 t1008 t1019 (t1022 != t1008) l0_0 l0_1 l0_2) else (laws_FnExactPathTo.j1 kj11 a1 t1005 t1008 t1019 true l0_0 l0_1 l0_2)) = some r := H
                have A53 := am A530
                clear A530
                by_cases c54 : t1038 = true
                · subst c54
                  have H1 : (laws_FnExactPathTo.j1 kj11 a1 t1005 t1008 t1019 (t1022 != t1008) l0_0 l0_1 l0_2) = some r := by rw [if_pos rfl] at H; exact H
                  clear H
                  have H := H1
                  clear H1
                  have H' := am H
                  clear H
                  obtain ⟨Ao55, co55, eo55⟩ := Kd.R_slice HO_9.out
                  subst eo55
                  obtain ⟨Ao56, co56, eo56⟩ := Kd.R_slice HO_6.out
                  subst eo56
                  go_wp2_with (first | (go_at_call 26; (with_reducible refine (laws_eqIntS.calls kj11 _ _ t1019 _ _ t1005 true _ ?side1 ?side2 ?side3 ?side4 A53.out).mono ?_); (case side1 => repeat (first | exact (Kd.R_reads' HO_9.out).2.2 | (with_reducible refine Kd.C_alloc ?_ _) | (with_reducible refine Kd.C_drewN ?_ _) | (with_reducible refine Kd.C_drew ?_))); (case side2 => exact (Kd.R_reads' HO_9.out).2.1); (case side3 => repeat (first | exact (Kd.R_reads' HO_6.out).2.2 | (with_reducible refine Kd.C_alloc ?_ _) | (with_reducible refine Kd.C_drewN ?_ _) | (with_reducible refine Kd.C_drew ?_))); (case side4 => exact (Kd.R_reads' HO_6.out).2.1); rintro e w' ⟨rfl, ⟨nd, rfl⟩⟩))
                  go_meet
                  case rel => exact ⟨_, ((t1022 != t1008)), (by first | rfl | (simp; done) | (simp [*]; done)), H', ⟨by have := HJ11.out; first | omega | exact Nat.le_refl _⟩, ⟨rl (Kd.R_mono HO_6.out (fun _ hk => by first | exact hk.1 | (simp only [ne_eq] at hk ⊢; simp only [hk, not_false_eq_true, and_self])))⟩, ⟨rl (Kd.R_mono HO_9.out (fun _ hk => by first | exact hk.1 | (simp only [ne_eq] at hk ⊢; simp only [hk, not_false_eq_true, and_self])))⟩, ⟨kl BK994.out⟩, ⟨by repeat (first | (with_reducible first | exact HB.out | apply below_alloc | apply pw_below_drewN | apply below_drew1 | refine below_set ?_ GE994.out | refine below_set ?_ GE1018.out) | exact HB.out)⟩⟩
                · replace c54 := Bool.eq_false_iff.mpr c54
                  subst c54
                  have H1 : (laws_FnExactPathTo.j1 kj11 a1 t1005 t1008 t1019 true l0_0 l0_1 l0_2) = some r := by rw [if_neg (show ¬ (false = true) by decide)] at H; exact H
                  clear H
                  have H := H1
                  clear H1
                  have H' := am H
                  clear H
                  obtain ⟨Ao57, co57, eo57⟩ := Kd.R_slice HO_9.out
                  subst eo57
                  obtain ⟨Ao58, co58, eo58⟩ := Kd.R_slice HO_6.out
                  subst eo58
                  go_wp2_with (first | (go_at_call 26; (with_reducible refine (laws_eqIntS.calls kj11 _ _ t1019 _ _ t1005 false _ ?side1 ?side2 ?side3 ?side4 A53.out).mono ?_); (case side1 => repeat (first | exact (Kd.R_reads' HO_9.out).2.2 | (with_reducible refine Kd.C_alloc ?_ _) | (with_reducible refine Kd.C_drewN ?_ _) | (with_reducible refine Kd.C_drew ?_))); (case side2 => exact (Kd.R_reads' HO_9.out).2.1); (case side3 => repeat (first | exact (Kd.R_reads' HO_6.out).2.2 | (with_reducible refine Kd.C_alloc ?_ _) | (with_reducible refine Kd.C_drewN ?_ _) | (with_reducible refine Kd.C_drew ?_))); (case side4 => exact (Kd.R_reads' HO_6.out).2.1); rintro e w' ⟨rfl, ⟨nd, rfl⟩⟩))
                  go_meet
                  case rel => exact ⟨_, (true), (by first | rfl | (simp; done) | (simp [*]; done)), H', ⟨by have := HJ11.out; first | omega | exact Nat.le_refl _⟩, ⟨rl (Kd.R_mono HO_6.out (fun _ hk => by first | exact hk.1 | (simp only [ne_eq] at hk ⊢; simp only [hk, not_false_eq_true, and_self])))⟩, ⟨rl (Kd.R_mono HO_9.out (fun _ hk => by first | exact hk.1 | (simp only [ne_eq] at hk ⊢; simp only [hk, not_false_eq_true, and_self])))⟩, ⟨kl BK994.out⟩, ⟨by repeat (first | (with_reducible first | exact HB.out | apply below_alloc | apply pw_below_drewN | apply below_drew1 | refine below_set ?_ GE994.out | refine below_set ?_ GE1018.out) | exact HB.out)⟩⟩
            case rest =>
              clear HC42
              try clear c1
              try clear c2
              try clear p2
              try clear c3
              try clear c4
              try clear c4b0
              try clear c5
              try clear c10
              try clear c15
              try clear c17
              try clear c20
              try clear c21
              try clear c26
              try clear c32
              try clear c37
              try clear c40
              try clear c47
              try clear c48
              try clear c49
              try clear c52
              try clear c52b0
              try clear c54
              try clear hcz14_0
              try clear hcz14_1
              try clear hcz14_2
              try clear hcz16_0
              try clear hcz16_1
              try clear hcz16_2
              try clear hcz22_0
              try clear hcz22_1
              try clear hcz22_2
              try clear hcz27_0
              try clear hcz27_1
              try clear hcz27_2
              try clear hcz50_0
              try clear hcz50_1
              try clear hcz50_2
              try clear hcz6_0
              try clear hcz6_1
              try clear hcz6_2
              try clear hfz14_0
              try clear hfz14_1
              try clear hfz14_2
              try clear hfz16_0
              try clear hfz16_1
              try clear hfz16_2
              try clear hfz22_0
              try clear hfz22_1
              try clear hfz22_2
              try clear hfz27_0
              try clear hfz27_1
              try clear hfz27_2
              try clear hfz50_0
              try clear hfz50_1
              try clear hfz50_2
              try clear hfz6_0
              try clear hfz6_1
              try clear hfz6_2
              try clear p2
              obtain ⟨kq, x65_41, rfl, HA, HJ41, HO_6, HO_9, BK994, HB⟩ := hcut
              cases kq with
              | zero => exact absurd HA.out (by simp [laws_FnExactPathTo.j1])
              | succ kj41 =>
                have H := HA.out
                clear HA
                simp only [laws_FnExactPathTo.j1] at H
                by_cases c59 : x65_41 = true
                · subst c59
                  have H1 : (none) = some r := by rw [if_pos rfl] at H; exact H
                  clear H
                  have H := H1
                  clear H1
                  exact absurd H (by simp)
                · replace c59 := Bool.eq_false_iff.mpr c59
                  subst c59
                  have H1 : ((laws_markIntS.f kj41 t1019 1).bind fun bt1039 => ((laws_heldIntS.f kj41 bt1039.2 1).bind fun t1041 => (if t1041 < 0 then (none) else (if t1041 = bt1039.1 then ((laws_toHeap.f kj41 l0_0 l0_1 l0_2).bind fun bt1042 => ((impl_PathTo.f kj41 bt1042.1 bt1042.2.1 bt1042.2.2 a1).bind fun bt1051 => ((laws_eqIntS.f kj41 bt1051.1 t1005).bind fun t1055 => (if t1055 = true then (laws_FnExactPathTo.j2 kj41 bt1039.2 bt1039.1 (bt1051.2 != t1008)) else (laws_FnExactPathTo.j2 kj41 bt1039.2 bt1039.1 true))))) else (none))))) = some r := by rw [if_neg (show ¬ (false = true) by decide)] at H; exact H
                  clear H
                  have H := H1
                  clear H1
                  replace H := Option.bind_eq_some_iff.mp H
                  obtain ⟨⟨t1039, t1040⟩, A600, H⟩ := H
                  replace H : ((laws_heldIntS.f kj41 t1040 1).bind fun t1041 => (if t1041 < 0 then (none) else (if t1041 = t1039 then ((laws_toHeap.f kj41 l0_0 l0_1 l0_2).bind fun bt1042 => ((impl_PathTo.f kj41 bt1042.1 bt1042.2.1 bt1042.2.2 a1).bind fun bt1051 => ((laws_eqIntS.f kj41 bt1051.1 t1005).bind fun t1055 => (if t1055 = true then (laws_FnExactPathTo.j2 kj41 t1040 t1039 (bt1051.2 != t1008)) else (laws_FnExactPathTo.j2 kj41 t1040 t1039 true))))) else (none)))) = some r := H
                  have A60 := am A600
                  clear A600
                  replace H := Option.bind_eq_some_iff.mp H
                  obtain ⟨t1041, A610, H⟩ := H
                  replace H : (if t1041 < 0 then (none) else (if t1041 = t1039 then ((laws_toHeap.f kj41 l0_0 l0_1 l0_2).bind fun bt1042 => ((impl_PathTo.f kj41 bt1042.1 bt1042.2.1 bt1042.2.2 a1).bind fun bt1051 => ((laws_eqIntS.f kj41 bt1051.1 t1005).bind fun t1055 => (if t1055 = true then (laws_FnExactPathTo.j2 kj41 t1040 t1039 (bt1051.2 != t1008)) else (laws_FnExactPathTo.j2 kj41 t1040 t1039 true))))) else (none))) = some r := H
                  have A61 := am A610
                  clear A610
                  by_cases c62 : t1041 < 0
                  · rw [if_pos c62] at H
                    exact absurd H (by simp)
                  · rw [if_neg c62] at H
                    have c62b0 : decide (t1041 < 0) = false := decide_eq_false c62
                    clear c62
                    by_cases c63 : t1041 = t1039
                    · rw [if_pos c63] at H
                      have c63b0 : (t1041 == t1039) = true := beq_iff_eq.mpr c63
                      have c63b1 : (t1041 != t1039) = false := bne_eq_false_iff_eq.mpr c63
                      clear c63
                      replace H := Option.bind_eq_some_iff.mp H
                      obtain ⟨⟨t1042, t1045, t1048⟩, A640, H⟩ := H
                      replace H : ((impl_PathTo.f kj41 t1042 t1045 t1048 a1).bind fun bt1051 => ((laws_eqIntS.f kj41 bt1051.1 t1005).bind fun t1055 => (if t1055 = true then (laws_FnExactPathTo.j2 kj41 t1040 t1039 (bt1051.2 != t1008)) else (laws_FnExactPathTo.j2 kj41 t1040 t1039 true)))) = some r := H
                      have A64 := am A640
                      clear A640
                      replace H := Option.bind_eq_some_iff.mp H
                      obtain ⟨⟨t1051, t1054⟩, A650, H⟩ := H
                      replace H : ((laws_eqIntS.f kj41 t1051 t1005).bind fun t1055 => (if t1055 = true then (laws_FnExactPathTo.j2 kj41 t1040 t1039 (t1054 != t1008)) else (laws_FnExactPathTo.j2 kj41 t1040 t1039 true))) = some r := H
                      have A65 := am A650
                      clear A650
                      have HC66 := am H
                      clear H
                      obtain ⟨Ao67, co67, eo67⟩ := Kd.R_slice HO_9.out
                      subst eo67
                      go_upto_region 25 with (first | ((with_reducible refine gate_callee (f := 27) rfl ?_); refine goesL_ (some 68) rfl rfl Try.func27 (by kernel_rfl) rfl #[.slice Ao67 t1019.length co67, .int .i64 1] rfl (by (try simp only [List.map_toArray, List.map_cons, List.map_nil]); first | done | rfl | (simp only [List.length_drop, List.length_take]; rfl)) ?_; (with_reducible refine (laws_markIntS.calls kj41 (fun k_ => some k_ = (.slice Ao67 t1019.length co67 : Value).ownBlock) (.slice Ao67 t1019.length co67) t1019 1 t1039 t1040 w _ ?side1 ?side2 A60.out).mono ?_); (case side1 => repeat (first | (with_reducible first | exact HB.out | apply below_alloc | apply pw_below_drewN | apply below_drew1 | refine below_set ?_ GE994.out) | exact HB.out)); (case side2 => exact Kd.R_tight rfl HO_9.out); rintro e w68 ⟨rfl, hy0, hb, hkp⟩; refine ⟨_, rfl, ?_⟩; have n0_ := am (Kd.R_kept (HO_6.out) hkp (fun k_ hk_ hs_ => (hk_) hs_)); have n1_ := am (Kd.R_reok rfl hy0 (fun k_ e_ => HO_9.out.1 k_ e_)); have n2_ := am (blk_kept (kl BK994.out) hkp (fun hs_ => (fun e_ => (Kd.R_ne HO_9.out BK994.out (by decide)) e_) hs_)); have n3_ := am (hb); clear HO_6; clear HO_9; clear BK994; clear HB; have HO_6 := n0_; have HO_9 := n1_; have BK994 := n2_; have HB := n3_; clear n0_ n1_ n2_ n3_; (try clear hb); (try clear hkp); (try clear hy0)) | ((with_reducible refine gate_callee (f := 28) rfl ?_); refine goesL_ (some 71) rfl rfl Try.func28 (by kernel_rfl) rfl #[.slice Ao67 t1040.length co67, .int .i64 1] rfl (by (try simp only [List.map_toArray, List.map_cons, List.map_nil]); first | done | (rw [show t1040.length = t1019.length from (Kd.R_reads' HO_9.out).1.symm] <;> rfl) | rfl | (simp only [List.length_drop, List.length_take]; rfl)) ?_; (with_reducible refine (laws_heldIntS.calls kj41 _ _ t1040 1 t1041 _ ?side1 ?side2 A61.out).mono ?_); (case side1 => repeat (first | exact (Kd.R_reads' HO_9.out).2.2 | (with_reducible refine Kd.C_alloc ?_ _) | (with_reducible refine Kd.C_drewN ?_ _) | (with_reducible refine Kd.C_drew ?_))); (case side2 => rw [show t1040.length = t1019.length from (Kd.R_reads' HO_9.out).1.symm]; exact (Kd.R_reads' HO_9.out).2.1); rintro e w' ⟨rfl, ⟨nd, rfl⟩⟩; refine ⟨_, rfl, ?_⟩; have hcz69_0 : w68.cell? ⟨gb994, 0, none⟩ = some (.slice A0_0 l0_0.length c0_0) := (blk_cell BK994.out 0).trans rfl; have hcz69_1 : w68.cell? ⟨gb994, 1, none⟩ = some (.slice A0_1 l0_1.length c0_1) := (blk_cell BK994.out 1).trans rfl; have hcz69_2 : w68.cell? ⟨gb994, 2, none⟩ = some (.slice A0_2 l0_2.length c0_2) := (blk_cell BK994.out 2).trans rfl; have hfz69_0 := blk_frozen BK994.out 0; have hfz69_1 := blk_frozen BK994.out 1; have hfz69_2 := blk_frozen BK994.out 2) | ((with_reducible refine gate_callee (f := 17) rfl ?_); refine goesL_ (some 79) rfl rfl Try.func17 (by kernel_rfl) rfl #[.agg #[.slice A0_0 l0_0.length c0_0, .slice A0_1 l0_1.length c0_1, .slice A0_2 l0_2.length c0_2]] rfl (by (try simp only [List.map_toArray, List.map_cons, List.map_nil]); first | done | rfl | (simp only [List.length_drop, List.length_take]; rfl)) ?_; (with_reducible refine (laws_toHeap.calls kj41 _ _ l0_0 _ _ l0_1 _ _ l0_2 t1042 t1045 t1048 _ ?side1 ?side2 ?side3 ?side4 ?side5 ?side6 A64.out).mono ?_); (case side1 => repeat (first | exact (Kd.C_below HR0_0.out (by repeat (first | (with_reducible first | exact HB.out | apply below_alloc | apply pw_below_drewN | apply below_drew1 | refine below_set ?_ GE994.out) | exact HB.out))) | (with_reducible refine Kd.C_alloc ?_ _) | (with_reducible refine Kd.C_drewN ?_ _) | (with_reducible refine Kd.C_drew ?_))); (case side2 => exact HC0_0.out); (case side3 => repeat (first | exact (Kd.C_below HR0_1.out (by repeat (first | (with_reducible first | exact HB.out | apply below_alloc | apply pw_below_drewN | apply below_drew1 | refine below_set ?_ GE994.out) | exact HB.out))) | (with_reducible refine Kd.C_alloc ?_ _) | (with_reducible refine Kd.C_drewN ?_ _) | (with_reducible refine Kd.C_drew ?_))); (case side4 => exact HC0_1.out); (case side5 => repeat (first | exact (Kd.C_below HR0_2.out (by repeat (first | (with_reducible first | exact HB.out | apply below_alloc | apply pw_below_drewN | apply below_drew1 | refine below_set ?_ GE994.out) | exact HB.out))) | (with_reducible refine Kd.C_alloc ?_ _) | (with_reducible refine Kd.C_drewN ?_ _) | (with_reducible refine Kd.C_drew ?_))); (case side6 => exact HC0_2.out); rintro e w70 ⟨v1043, v1046, v1049, rfl, ho0, ho1, ho2, hb⟩; refine ⟨_, rfl, ?_⟩; have n0_ := am (Kd.R_mono (Kd.R_told (Kd.R_told (Kd.R_told (Kd.R_old (rl HO_6.out) hb) (Kd.R_base ho0)) (Kd.R_base ho1)) (Kd.R_base ho2)) (fun _ h_ => h_.1)); have n1_ := am (Kd.R_mono (Kd.R_told (Kd.R_told (Kd.R_told (Kd.R_old (rl HO_9.out) hb) (Kd.R_base ho0)) (Kd.R_base ho1)) (Kd.R_base ho2)) (fun _ h_ => h_.1)); have n2_ := am (Kd.R_lower (Kd.R_new' (Kd.R_new' ho0 (Kd.R_lt (rl HO_6.out))) (Kd.R_lt (rl HO_9.out))) (below_size (by repeat (first | (with_reducible first | exact HB.out | apply below_alloc | apply pw_below_drewN | apply below_drew1 | refine below_set ?_ GE994.out) | exact HB.out)))); have n3_ := am (Kd.R_lower (Kd.R_new' (Kd.R_new' ho1 (Kd.R_lt (rl HO_6.out))) (Kd.R_lt (rl HO_9.out))) (below_size (by repeat (first | (with_reducible first | exact HB.out | apply below_alloc | apply pw_below_drewN | apply below_drew1 | refine below_set ?_ GE994.out) | exact HB.out)))); have n4_ := am (Kd.R_lower (Kd.R_new' (Kd.R_new' ho2 (Kd.R_lt (rl HO_6.out))) (Kd.R_lt (rl HO_9.out))) (below_size (by repeat (first | (with_reducible first | exact HB.out | apply below_alloc | apply pw_below_drewN | apply below_drew1 | refine below_set ?_ GE994.out) | exact HB.out)))); have n5_ := am (blk_below (g := gb994) (o := .cells #[.slice A0_0 l0_0.length c0_0, .slice A0_1 l0_1.length c0_1, .slice A0_2 l0_2.length c0_2] 24 (0, 0)) (kl BK994.out) hb); have n6_ := am (below_step (by repeat (first | (with_reducible first | exact HB.out | apply below_alloc | apply pw_below_drewN | apply below_drew1 | refine below_set ?_ GE994.out) | exact HB.out)) hb); clear HO_6; clear HO_9; clear BK994; clear HB; have HO_6 := n0_; have HO_9 := n1_; have HO1044 := n2_; have HO1047 := n3_; have HO1050 := n4_; have BK994 := n5_; have HB := n6_; clear n0_ n1_ n2_ n3_ n4_ n5_ n6_; (try clear hb); (try clear hb2); (try clear hk); (try clear hi); (try clear ho0); (try clear ho1); (try clear ho2); obtain ⟨Ao71, co71, eo71⟩ := Kd.R_slice HO1044.out; subst eo71; obtain ⟨Ao72, co72, eo72⟩ := Kd.R_slice HO1047.out; subst eo72; obtain ⟨Ao73, co73, eo73⟩ := Kd.R_slice HO1050.out; subst eo73) | ((with_reducible refine gate_callee (f := 47) rfl ?_); refine goesL_ (some 81) rfl rfl Try.func47 (by kernel_rfl) rfl #[.agg #[.slice Ao71 t1042.length co71, .slice Ao72 t1045.length co72, .slice Ao73 t1048.length co73], .int .i64 a1] rfl (by (try simp only [List.map_toArray, List.map_cons, List.map_nil]); first | done | rfl | (simp only [List.length_drop, List.length_take]; rfl)) ?_; (with_reducible refine (impl_PathTo.calls kj41 _ _ t1042 _ _ t1045 _ _ t1048 a1 t1051 t1054 _ ?side1 ?side2 ?side3 ?side4 ?side5 ?side6 A65.out).mono ?_); (case side1 => repeat (first | exact (Kd.R_reads' HO1044.out).2.2 | (with_reducible refine Kd.C_alloc ?_ _) | (with_reducible refine Kd.C_drewN ?_ _) | (with_reducible refine Kd.C_drew ?_))); (case side2 => exact (Kd.R_reads' HO1044.out).2.1); (case side3 => repeat (first | exact (Kd.R_reads' HO1047.out).2.2 | (with_reducible refine Kd.C_alloc ?_ _) | (with_reducible refine Kd.C_drewN ?_ _) | (with_reducible refine Kd.C_drew ?_))); (case side4 => exact (Kd.R_reads' HO1047.out).2.1); (case side5 => repeat (first | exact (Kd.R_reads' HO1050.out).2.2 | (with_reducible refine Kd.C_alloc ?_ _) | (with_reducible refine Kd.C_drewN ?_ _) | (with_reducible refine Kd.C_drew ?_))); (case side6 => exact (Kd.R_reads' HO1050.out).2.1); rintro e w74 ⟨v1052, rfl, ho0, hb⟩; refine ⟨_, rfl, ?_⟩; have n0_ := am (Kd.R_elder' (rl HO_6.out) (Kd.R_base ho0) hb); have n1_ := am (Kd.R_elder' (rl HO_9.out) (Kd.R_base ho0) hb); have n2_ := am (Kd.R_elder' (rl HO1044.out) (Kd.R_base ho0) hb); have n3_ := am (Kd.R_elder' (rl HO1047.out) (Kd.R_base ho0) hb); have n4_ := am (Kd.R_elder' (rl HO1050.out) (Kd.R_base ho0) hb); have n5_ := am (Kd.R_lower (Kd.R_new' (Kd.R_new' (Kd.R_new' (Kd.R_new' (Kd.R_new' ho0 (Kd.R_lt (rl HO_6.out))) (Kd.R_lt (rl HO_9.out))) (Kd.R_lt (rl HO1044.out))) (Kd.R_lt (rl HO1047.out))) (Kd.R_lt (rl HO1050.out))) (below_size (by repeat (first | (with_reducible first | exact HB.out | apply below_alloc | apply pw_below_drewN | apply below_drew1 | refine below_set ?_ GE994.out) | exact HB.out)))); have n6_ := am (blk_below (g := gb994) (o := .cells #[.slice A0_0 l0_0.length c0_0, .slice A0_1 l0_1.length c0_1, .slice A0_2 l0_2.length c0_2] 24 (0, 0)) (kl BK994.out) hb); have n7_ := am (below_step (by repeat (first | (with_reducible first | exact HB.out | apply below_alloc | apply pw_below_drewN | apply below_drew1 | refine below_set ?_ GE994.out) | exact HB.out)) hb); clear HO_6; clear HO_9; clear HO1044; clear HO1047; clear HO1050; clear BK994; clear HB; have HO_6 := n0_; have HO_9 := n1_; have HO1044 := n2_; have HO1047 := n3_; have HO1050 := n4_; have HO1053 := n5_; have BK994 := n6_; have HB := n7_; clear n0_ n1_ n2_ n3_ n4_ n5_ n6_ n7_; (try clear hb); (try clear hb2); (try clear hk); (try clear hi); (try clear ho0)))
                      (try simp only [Act.put, List.setIfInBounds_toArray, List.set_cons_zero, List.set_cons_succ])
                      go_cut [92] (fun v92 wc => ∃ (kq : Nat) (x92_65 : Bool), v92 = .bool x92_65 ∧ Aside0 (laws_FnExactPathTo.j2 kq t1040 t1039 x92_65 = some r) ∧ Aside0 (kq ≤ kj41) ∧ Aside0 (Kd.R (Kd.int .i64) 3 wc w.heap.size (fun _ => True) (.slice Ao67 t1019.length co67) t1040) ∧ Aside0 (Below w.heap.size w wc))
                      case first =>
                        have H := HC66.out
                        clear HC66
                        replace H := Option.bind_eq_some_iff.mp H
                        obtain ⟨t1055, A750, H⟩ := H
                        replace H : (if t1055 = true then (laws_FnExactPathTo.j2 kj41 t1040 t1039 (t1054 != t1008)) else (laws_FnExactPathTo.j2 kj41 t1040 t1039 true)) = some r := H
                        have A75 := am A750
                        clear A750
                        by_cases c76 : t1055 = true
                        · subst c76
                          have H1 : (laws_FnExactPathTo.j2 kj41 t1040 t1039 (t1054 != t1008)) = some r := by rw [if_pos rfl] at H; exact H
                          clear H
                          have H := H1
                          clear H1
                          have H' := am H
                          clear H
                          obtain ⟨Ao77, co77, eo77⟩ := Kd.R_slice HO1053.out
                          subst eo77
                          obtain ⟨Ao78, co78, eo78⟩ := Kd.R_slice HO_6.out
                          subst eo78
                          go_wp2_with (first | ((with_reducible refine gate_callee (f := 26) rfl ?_); refine goesL_ (some 86) rfl rfl Try.func26 (by kernel_rfl) rfl #[.slice Ao77 t1051.length co77, .slice Ao78 t1005.length co78] rfl (by (try simp only [List.map_toArray, List.map_cons, List.map_nil]); first | done | rfl | (simp only [List.length_drop, List.length_take]; rfl)) ?_; (with_reducible refine (laws_eqIntS.calls kj41 _ _ t1051 _ _ t1005 true _ ?side1 ?side2 ?side3 ?side4 A75.out).mono ?_); (case side1 => repeat (first | exact (Kd.R_reads' HO1053.out).2.2 | (with_reducible refine Kd.C_alloc ?_ _) | (with_reducible refine Kd.C_drewN ?_ _) | (with_reducible refine Kd.C_drew ?_))); (case side2 => exact (Kd.R_reads' HO1053.out).2.1); (case side3 => repeat (first | exact (Kd.R_reads' HO_6.out).2.2 | (with_reducible refine Kd.C_alloc ?_ _) | (with_reducible refine Kd.C_drewN ?_ _) | (with_reducible refine Kd.C_drew ?_))); (case side4 => exact (Kd.R_reads' HO_6.out).2.1); rintro e w' ⟨rfl, ⟨nd, rfl⟩⟩; refine ⟨_, rfl, ?_⟩))
                          go_meet
                          case rel => exact ⟨_, ((t1054 != t1008)), (by first | rfl | (simp; done) | (simp [*]; done)), H', ⟨by have := HJ11.out; have := HJ41.out; first | omega | exact Nat.le_refl _⟩, ⟨rl (Kd.R_mono HO_9.out (fun _ hk => trivial))⟩, ⟨by repeat (first | (with_reducible first | exact HB.out | apply below_alloc | apply pw_below_drewN | apply below_drew1 | refine below_set ?_ GE994.out) | exact HB.out)⟩⟩
                        · replace c76 := Bool.eq_false_iff.mpr c76
                          subst c76
                          have H1 : (laws_FnExactPathTo.j2 kj41 t1040 t1039 true) = some r := by rw [if_neg (show ¬ (false = true) by decide)] at H; exact H
                          clear H
                          have H := H1
                          clear H1
                          have H' := am H
                          clear H
                          obtain ⟨Ao79, co79, eo79⟩ := Kd.R_slice HO1053.out
                          subst eo79
                          obtain ⟨Ao80, co80, eo80⟩ := Kd.R_slice HO_6.out
                          subst eo80
                          go_wp2_with (first | ((with_reducible refine gate_callee (f := 26) rfl ?_); refine goesL_ (some 86) rfl rfl Try.func26 (by kernel_rfl) rfl #[.slice Ao79 t1051.length co79, .slice Ao80 t1005.length co80] rfl (by (try simp only [List.map_toArray, List.map_cons, List.map_nil]); first | done | rfl | (simp only [List.length_drop, List.length_take]; rfl)) ?_; (with_reducible refine (laws_eqIntS.calls kj41 _ _ t1051 _ _ t1005 false _ ?side1 ?side2 ?side3 ?side4 A75.out).mono ?_); (case side1 => repeat (first | exact (Kd.R_reads' HO1053.out).2.2 | (with_reducible refine Kd.C_alloc ?_ _) | (with_reducible refine Kd.C_drewN ?_ _) | (with_reducible refine Kd.C_drew ?_))); (case side2 => exact (Kd.R_reads' HO1053.out).2.1); (case side3 => repeat (first | exact (Kd.R_reads' HO_6.out).2.2 | (with_reducible refine Kd.C_alloc ?_ _) | (with_reducible refine Kd.C_drewN ?_ _) | (with_reducible refine Kd.C_drew ?_))); (case side4 => exact (Kd.R_reads' HO_6.out).2.1); rintro e w' ⟨rfl, ⟨nd, rfl⟩⟩; refine ⟨_, rfl, ?_⟩))
                          go_meet
                          case rel => exact ⟨_, (true), (by first | rfl | (simp; done) | (simp [*]; done)), H', ⟨by have := HJ11.out; have := HJ41.out; first | omega | exact Nat.le_refl _⟩, ⟨rl (Kd.R_mono HO_9.out (fun _ hk => trivial))⟩, ⟨by repeat (first | (with_reducible first | exact HB.out | apply below_alloc | apply pw_below_drewN | apply below_drew1 | refine below_set ?_ GE994.out) | exact HB.out)⟩⟩
                      case rest =>
                        clear HC66
                        try clear c1
                        try clear c2
                        try clear p2
                        try clear c3
                        try clear c4
                        try clear c4b0
                        try clear c5
                        try clear c6
                        try clear c7
                        try clear c10
                        try clear c15
                        try clear c17
                        try clear c20
                        try clear c21
                        try clear c26
                        try clear c27
                        try clear c28
                        try clear c32
                        try clear c37
                        try clear c40
                        try clear c47
                        try clear c48
                        try clear c49
                        try clear c52
                        try clear c52b0
                        try clear c54
                        try clear c59
                        try clear c62
                        try clear c62b0
                        try clear c63
                        try clear c63b0
                        try clear c63b1
                        try clear c76
                        try clear hcz14_0
                        try clear hcz14_1
                        try clear hcz14_2
                        try clear hcz16_0
                        try clear hcz16_1
                        try clear hcz16_2
                        try clear hcz22_0
                        try clear hcz22_1
                        try clear hcz22_2
                        try clear hcz27_0
                        try clear hcz27_1
                        try clear hcz27_2
                        try clear hcz50_0
                        try clear hcz50_1
                        try clear hcz50_2
                        try clear hcz69_0
                        try clear hcz69_1
                        try clear hcz69_2
                        try clear hcz6_0
                        try clear hcz6_1
                        try clear hcz6_2
                        try clear hfz14_0
                        try clear hfz14_1
                        try clear hfz14_2
                        try clear hfz16_0
                        try clear hfz16_1
                        try clear hfz16_2
                        try clear hfz22_0
                        try clear hfz22_1
                        try clear hfz22_2
                        try clear hfz27_0
                        try clear hfz27_1
                        try clear hfz27_2
                        try clear hfz50_0
                        try clear hfz50_1
                        try clear hfz50_2
                        try clear hfz69_0
                        try clear hfz69_1
                        try clear hfz69_2
                        try clear hfz6_0
                        try clear hfz6_1
                        try clear hfz6_2
                        try clear p2
                        obtain ⟨kq, x92_65, rfl, HA, HJ65, HO_9, HB⟩ := hcut
                        have hl9_65 := (Kd.R_reads' HO_9.out).1
                        rw [hl9_65] at HO_9
                        (try simp only [hl9_65])
                        cases kq with
                        | zero => exact absurd HA.out (by simp [laws_FnExactPathTo.j2])
                        | succ kj65 =>
                          have H := HA.out
                          clear HA
                          simp only [laws_FnExactPathTo.j2] at H
                          by_cases c81 : x92_65 = true
                          · subst c81
                            have H1 : (none) = some r := by rw [if_pos rfl] at H; exact H
                            clear H
                            have H := H1
                            clear H1
                            exact absurd H (by simp)
                          · replace c81 := Bool.eq_false_iff.mpr c81
                            subst c81
                            have H1 : ((laws_heldIntS.f kj65 t1040 1).bind fun t1056 => (if t1056 < 0 then (none) else (if t1056 = t1039 then (some true) else (none)))) = some r := by rw [if_neg (show ¬ (false = true) by decide)] at H; exact H
                            clear H
                            have H := H1
                            clear H1
                            replace H := Option.bind_eq_some_iff.mp H
                            obtain ⟨t1056, A820, H⟩ := H
                            replace H : (if t1056 < 0 then (none) else (if t1056 = t1039 then (some true) else (none))) = some r := H
                            have A82 := am A820
                            clear A820
                            by_cases c83 : t1056 < 0
                            · rw [if_pos c83] at H
                              exact absurd H (by simp)
                            · rw [if_neg c83] at H
                              have c83b0 : decide (t1056 < 0) = false := decide_eq_false c83
                              clear c83
                              by_cases c84 : t1056 = t1039
                              · rw [if_pos c84] at H
                                have c84b0 : (t1056 == t1039) = true := beq_iff_eq.mpr c84
                                have c84b1 : (t1056 != t1039) = false := bne_eq_false_iff_eq.mpr c84
                                clear c84
                                obtain rfl := Option.some.inj H
                                go_wp2_with (first | ((with_reducible refine gate_callee (f := 28) rfl ?_); refine goesL_ (some 95) rfl rfl Try.func28 (by kernel_rfl) rfl #[.slice Ao67 t1040.length co67, .int .i64 1] rfl (by (try simp only [List.map_toArray, List.map_cons, List.map_nil]); first | done | rfl | (simp only [List.length_drop, List.length_take]; rfl)) ?_; (with_reducible refine (laws_heldIntS.calls kj65 _ _ t1040 1 t1056 _ ?side1 ?side2 A82.out).mono ?_); (case side1 => repeat (first | exact (Kd.R_reads' HO_9.out).2.2 | (with_reducible refine Kd.C_alloc ?_ _) | (with_reducible refine Kd.C_drewN ?_ _) | (with_reducible refine Kd.C_drew ?_))); (case side2 => exact (Kd.R_reads' HO_9.out).2.1); rintro e w' ⟨rfl, ⟨nd, rfl⟩⟩; refine ⟨_, rfl, ?_⟩))
                                go_ret
                                exact ⟨by first | rfl | (simp [errW_none, errW_some] <;> rfl) | (simp [*, errW_none, errW_some] <;> rfl), by repeat (first | (with_reducible first | exact HB.out | apply below_alloc | apply pw_below_drewN | apply below_drew1) | exact HB.out)⟩
                              · rw [if_neg c84] at H
                                exact absurd H (by simp)
                    · rw [if_neg c63] at H
                      exact absurd H (by simp)
          · replace c40 := Bool.eq_false_iff.mpr c40
            subst c40
            have H1 : (none) = some r := by rw [if_neg (show ¬ (false = true) by decide)] at H; exact H
            clear H
            have H := H1
            clear H1
            exact absurd H (by simp)

end Go.Proofs.Ytffnpclehhoeaaa.A
