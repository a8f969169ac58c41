/- Contracts of functions of the given program (CLawsFnExactGarbageOf). No conditions beyond those stated. -/
import Derived.Test.YtffnpclehhoeaaaA0
import Derived.Test.YtffnpclehhoeaaaAImplGarbageOf
import Derived.Test.YtffnpclehhoeaaaALawsEqHeap
import Derived.Test.YtffnpclehhoeaaaALawsEqIntS
import Derived.Test.YtffnpclehhoeaaaALawsHeldIntS
import Derived.Test.YtffnpclehhoeaaaALawsMarkHeap
import Derived.Test.YtffnpclehhoeaaaALawsMarkIntS
import Derived.Test.YtffnpclehhoeaaaALawsSzHeap
import Derived.Test.YtffnpclehhoeaaaALawsToHeap
import Derived.Test.YtffnpclehhoeaaaASpecGarbageOf
import Derived.Test.YtffnpclehhoeaaaA0
namespace Go.Proofs.Ytffnpclehhoeaaa.A
open Go.RowKit Go.Proofs.YtffnpclehhoeaaaW.PrintWords Go.Proofs.YtffnpclehhoeaaaW.PrintLast Go.Proofs.YtffnpclehhoeaaaW.PrintMore
attribute [local go_sem] max2_int min2_int max_two min_two max_three min_three max_four min_four   -- for this text's walks alone
set_option linter.unusedVariables false
set_option linter.unusedSimpArgs false

/-! ### laws_FnExactGarbageOf -/
def laws_FnExactGarbageOf.j0 : Nat → List Int → List Int → Bool → List Int → List Int → List Int → Option (Bool)
  | 0, _, _, _, _, _, _ => none
  | k + 1, x4, x6, x42, x305000, x305001, x305002 => if x42 = true then (none) else ((laws_markIntS.f k x6 1).bind fun bt347 => ((laws_heldIntS.f k bt347.2 1).bind fun t349 => (if t349 < 0 then (none) else (if t349 = bt347.1 then ((laws_toHeap.f k x305000 x305001 x305002).bind fun bt350 => ((impl_GarbageOf.f k bt350.1 bt350.2.1 bt350.2.2).bind fun t359 => ((laws_eqIntS.f k t359 x4).bind fun t362 => (if t362 = true then ((laws_heldIntS.f k bt347.2 1).bind fun t363 => (if t363 < 0 then (none) else (if t363 = bt347.1 then (some true) else (none)))) else (none))))) else (none)))))
def laws_FnExactGarbageOf.f (k : Nat) (l0_0 : List Int) (l0_1 : List Int) (l0_2 : List Int) : Option (Bool) := (laws_szHeap.f l0_0 l0_1 l0_2 1048576).bind fun t305 => (if t305 < 0 then (some true) else ((laws_toHeap.f k l0_0 l0_1 l0_2).bind fun bt306 => ((spec_GarbageOf.f k bt306.1 bt306.2.1 bt306.2.2).bind fun t315 => ((laws_toHeap.f k l0_0 l0_1 l0_2).bind fun bt318 => ((impl_GarbageOf.f k bt318.1 bt318.2.1 bt318.2.2).bind fun t328 => ((laws_eqIntS.f k t328 t315).bind fun t331 => (if t331 = true then ((laws_toHeap.f k l0_0 l0_1 l0_2).bind fun bt332 => ((laws_eqHeap.f k bt318.1 bt318.2.1 bt318.2.2 bt332.1 bt332.2.1 bt332.2.2).bind fun t341 => (if t341 = true then ((laws_markHeap.f k bt318.1 bt318.2.1 bt318.2.2 1).bind fun bt342 => (if bt342.1 < 0 then (laws_FnExactGarbageOf.j0 k t315 t328 true l0_0 l0_1 l0_2) else ((laws_eqIntS.f k t328 t315).bind fun t346 => (laws_FnExactGarbageOf.j0 k t315 t328 (!t346) l0_0 l0_1 l0_2)))) else (none)))) else (none))))))))
theorem laws_FnExactGarbageOf.mono_l : ∀ k, (∀ y0 y1 y2 y3 y4 y5, LeO (laws_FnExactGarbageOf.j0 k y0 y1 y2 y3 y4 y5) (laws_FnExactGarbageOf.j0 (k + 1) y0 y1 y2 y3 y4 y5))
  | 0 => fun _ _ _ _ _ _ r h => by simp [laws_FnExactGarbageOf.j0] at h
  | k + 1 => by
    have ih0 := laws_FnExactGarbageOf.mono_l k
    · intro y0 y1 y2 y3 y4 y5
      unfold laws_FnExactGarbageOf.j0
      repeat' first
      | (with_reducible exact ih0 _ _ _ _ _ _)
      | (with_reducible exact impl_GarbageOf.mono _ _ _ _)
      | (with_reducible exact laws_eqHeap.mono _ _ _ _ _ _ _)
      | (with_reducible exact laws_eqIntS.mono _ _ _)
      | (with_reducible exact laws_heldIntS.mono _ _ _)
      | (with_reducible exact laws_markHeap.mono _ _ _ _ _)
      | (with_reducible exact laws_markIntS.mono _ _ _)
      | (with_reducible exact laws_toHeap.mono _ _ _ _)
      | (with_reducible exact spec_GarbageOf.mono _ _ _ _)
      | (with_reducible exact LeO.refl _)
      | (with_reducible exact LeO.none _)
      | (with_reducible refine LeO.ite ?_ ?_)
      | (with_reducible refine LeO.bind ?_ (fun _ => ?_))
      | exact ih0 _ _ _ _ _ _
      | exact impl_GarbageOf.mono _ _ _ _
      | exact laws_eqHeap.mono _ _ _ _ _ _ _
      | exact laws_eqIntS.mono _ _ _
      | exact laws_heldIntS.mono _ _ _
      | exact laws_markHeap.mono _ _ _ _ _
      | exact laws_markIntS.mono _ _ _
      | exact laws_toHeap.mono _ _ _ _
      | exact spec_GarbageOf.mono _ _ _ _
      | exact LeO.none _
      | refine LeO.ite ?_ ?_
      | refine LeO.bind ?_ (fun _ => ?_)
theorem laws_FnExactGarbageOf.mono : ∀ a0 a1 a2 k, LeO (laws_FnExactGarbageOf.f k a0 a1 a2) (laws_FnExactGarbageOf.f (k + 1) a0 a1 a2) := by
  intro a0 a1 a2 k
  have ih0 := laws_FnExactGarbageOf.mono_l k
  unfold laws_FnExactGarbageOf.f
  repeat' first
      | (with_reducible exact ih0 _ _ _ _ _ _)
      | (with_reducible exact impl_GarbageOf.mono _ _ _ _)
      | (with_reducible exact laws_eqHeap.mono _ _ _ _ _ _ _)
      | (with_reducible exact laws_eqIntS.mono _ _ _)
      | (with_reducible exact laws_heldIntS.mono _ _ _)
      | (with_reducible exact laws_markHeap.mono _ _ _ _ _)
      | (with_reducible exact laws_markIntS.mono _ _ _)
      | (with_reducible exact laws_toHeap.mono _ _ _ _)
      | (with_reducible exact spec_GarbageOf.mono _ _ _ _)
      | (with_reducible exact LeO.refl _)
      | (with_reducible exact LeO.none _)
      | (with_reducible refine LeO.ite ?_ ?_)
      | (with_reducible refine LeO.bind ?_ (fun _ => ?_))
      | exact ih0 _ _ _ _ _ _
      | exact impl_GarbageOf.mono _ _ _ _
      | exact laws_eqHeap.mono _ _ _ _ _ _ _
      | exact laws_eqIntS.mono _ _ _
      | exact laws_heldIntS.mono _ _ _
      | exact laws_markHeap.mono _ _ _ _ _
      | exact laws_markIntS.mono _ _ _
      | exact laws_toHeap.mono _ _ _ _
      | exact spec_GarbageOf.mono _ _ _ _
      | exact LeO.none _
      | refine LeO.ite ?_ ?_
      | refine LeO.bind ?_ (fun _ => ?_)
set_option maxHeartbeats 8000000 in
set_option maxRecDepth 100000 in
theorem laws_FnExactGarbageOf.calls (k : Nat) (A0_0 : Option Addr) (c0_0 : Nat) (l0_0 : List Int) (A0_1 : Option Addr) (c0_1 : Nat) (l0_1 : List Int) (A0_2 : Option Addr) (c0_2 : Nat) (l0_2 : List Int) (r : Bool) (w : World) (hr0_0 : Kd.C (Kd.int .i64) w A0_0 l0_0.length l0_0) (hc0_0 : l0_0.length ≤ c0_0) (hr0_1 : Kd.C (Kd.int .i64) w A0_1 l0_1.length l0_1) (hc0_1 : l0_1.length ≤ c0_1) (hr0_2 : Kd.C (Kd.int .i64) w A0_2 l0_2.length l0_2) (hc0_2 : l0_2.length ≤ c0_2) (h : laws_FnExactGarbageOf.f k l0_0 l0_1 l0_2 = some r) :
    Calls Try.prog 4 #[.agg #[.slice A0_0 l0_0.length c0_0, .slice A0_1 l0_1.length c0_1, .slice A0_2 l0_2.length c0_2]] w fun e w' => e = .returned (.bool r) ∧ Below w.heap.size w w' := by
  have hu24 := Try.underlying24
  have hu28 := Try.underlying28
  have HR0_0 := am hr0_0
  have HC0_0 := am hc0_0
  clear hr0_0 hc0_0
  have HR0_1 := am hr0_1
  have HC0_1 := am hc0_1
  clear hr0_1 hc0_1
  have HR0_2 := am hr0_2
  have HC0_2 := am hc0_2
  clear hr0_2 hc0_2
  have HB := am (Below.refl w.heap.size w)
  have H : ((laws_szHeap.f l0_0 l0_1 l0_2 1048576).bind fun t305 => (if t305 < 0 then (some true) else ((laws_toHeap.f k l0_0 l0_1 l0_2).bind fun bt306 => ((spec_GarbageOf.f k bt306.1 bt306.2.1 bt306.2.2).bind fun t315 => ((laws_toHeap.f k l0_0 l0_1 l0_2).bind fun bt318 => ((impl_GarbageOf.f k bt318.1 bt318.2.1 bt318.2.2).bind fun t328 => ((laws_eqIntS.f k t328 t315).bind fun t331 => (if t331 = true then ((laws_toHeap.f k l0_0 l0_1 l0_2).bind fun bt332 => ((laws_eqHeap.f k bt318.1 bt318.2.1 bt318.2.2 bt332.1 bt332.2.1 bt332.2.2).bind fun t341 => (if t341 = true then ((laws_markHeap.f k bt318.1 bt318.2.1 bt318.2.2 1).bind fun bt342 => (if bt342.1 < 0 then (laws_FnExactGarbageOf.j0 k t315 t328 true l0_0 l0_1 l0_2) else ((laws_eqIntS.f k t328 t315).bind fun t346 => (laws_FnExactGarbageOf.j0 k t315 t328 (!t346) l0_0 l0_1 l0_2)))) else (none)))) else (none))))))))) = some r := h
  clear h
  replace H := Option.bind_eq_some_iff.mp H
  obtain ⟨t305, A20, H⟩ := H
  replace H : (if t305 < 0 then (some true) else ((laws_toHeap.f k l0_0 l0_1 l0_2).bind fun bt306 => ((spec_GarbageOf.f k bt306.1 bt306.2.1 bt306.2.2).bind fun t315 => ((laws_toHeap.f k l0_0 l0_1 l0_2).bind fun bt318 => ((impl_GarbageOf.f k bt318.1 bt318.2.1 bt318.2.2).bind fun t328 => ((laws_eqIntS.f k t328 t315).bind fun t331 => (if t331 = true then ((laws_toHeap.f k l0_0 l0_1 l0_2).bind fun bt332 => ((laws_eqHeap.f k bt318.1 bt318.2.1 bt318.2.2 bt332.1 bt332.2.1 bt332.2.2).bind fun t341 => (if t341 = true then ((laws_markHeap.f k bt318.1 bt318.2.1 bt318.2.2 1).bind fun bt342 => (if bt342.1 < 0 then (laws_FnExactGarbageOf.j0 k t315 t328 true l0_0 l0_1 l0_2) else ((laws_eqIntS.f k t328 t315).bind fun t346 => (laws_FnExactGarbageOf.j0 k t315 t328 (!t346) l0_0 l0_1 l0_2)))) else (none)))) else (none)))))))) = some r := H
  have A2 := am A20
  clear A20
  by_cases c3 : t305 < 0
  · rw [if_pos c3] at H
    have c3b0 : decide (t305 < 0) = true := decide_eq_true c3
    clear c3
    obtain rfl := Option.some.inj H
    go_enter Try.func4, Try.ntmps4
    go_wp2_with (first | ((with_reducible refine gate_dst (N := 1) rfl ?_); refine box_event ?hg (N := 1) ?hd (cs := #[.slice A0_0 l0_0.length c0_0, .slice A0_1 l0_1.length c0_1, .slice A0_2 l0_2.length c0_2]) (t := 24) ?hr ?_; (case hd => rfl); (case hg => rfl); (case hr => first | (go_simp; done) | (go_simp; rfl)); intro gb304 hg w4 hbox hb; have n0_ := am (below_step (bl HB.out) hb); have n1_ := am (hbox); have n2_ := am ((by rw [hg]; exact (below_size (bl HB.out)) : w.heap.size ≤ gb304)); have n3_ := am ((by rw [hg]; exact (below_size (bl HB.out)) : w.heap.size ≤ gb304)); clear HB; have HB := n0_; have BK304 := n1_; have GW304 := n2_; have GE304 := n3_; clear n0_ n1_ n2_ n3_; clear hb hbox hg; have hcz5_0 : w4.cell? ⟨gb304, 0, none⟩ = some (.slice A0_0 l0_0.length c0_0) := (blk_cell BK304.out 0).trans rfl; have hcz5_1 : w4.cell? ⟨gb304, 1, none⟩ = some (.slice A0_1 l0_1.length c0_1) := (blk_cell BK304.out 1).trans rfl; have hcz5_2 : w4.cell? ⟨gb304, 2, none⟩ = some (.slice A0_2 l0_2.length c0_2) := (blk_cell BK304.out 2).trans rfl; have hfz5_0 := blk_frozen BK304.out 0; have hfz5_1 := blk_frozen BK304.out 1; have hfz5_2 := blk_frozen BK304.out 2) | ((with_reducible refine gate_callee (f := 15) rfl ?_); refine goesL_ (some 13) rfl rfl Try.func15 (by kernel_rfl) rfl #[.agg #[.slice A0_0 l0_0.length c0_0, .slice A0_1 l0_1.length c0_1, .slice A0_2 l0_2.length c0_2], .int .i64 1048576] rfl (by (try simp only [List.map_toArray, List.map_cons, List.map_nil]); first | done | rfl | (simp only [List.length_drop, List.length_take]; rfl)) ?_; (with_reducible refine (laws_szHeap.calls _ _ l0_0 _ _ l0_1 _ _ l0_2 1048576 t305 _ ?side1 ?side2 ?side3 ?side4 ?side5 ?side6 A2.out).mono ?_); (case side1 => exact cl (Kd.C_below HR0_0.out HB.out)); (case side2 => exact HC0_0.out); (case side3 => exact cl (Kd.C_below HR0_1.out HB.out)); (case side4 => exact HC0_1.out); (case side5 => exact cl (Kd.C_below HR0_2.out HB.out)); (case side6 => exact HC0_2.out); rintro e w6 ⟨rfl, hb⟩; refine ⟨_, rfl, ?_⟩; have n0_ := am (blk_below (g := gb304) (o := .cells #[.slice A0_0 l0_0.length c0_0, .slice A0_1 l0_1.length c0_1, .slice A0_2 l0_2.length c0_2] 24 (0, 0)) (kl BK304.out) hb); have n1_ := am (below_step (by repeat (first | (with_reducible first | exact HB.out | apply below_alloc | apply pw_below_drewN | apply below_drew1 | refine below_set ?_ GE304.out) | exact HB.out)) hb); clear BK304; clear HB; have BK304 := n0_; have HB := n1_; clear n0_ n1_; (try clear hb); (try clear hb2); (try clear hk); (try clear hi)))
    go_ret
    exact ⟨by first | rfl | (simp [errW_none, errW_some] <;> rfl) | (simp [*, errW_none, errW_some] <;> rfl), by repeat (first | (with_reducible first | exact HB.out | apply below_alloc | apply pw_below_drewN | apply below_drew1 | refine below_set ?_ GE304.out) | exact HB.out)⟩
  · rw [if_neg c3] at H
    have c3b0 : decide (t305 < 0) = false := decide_eq_false c3
    clear c3
    replace H := Option.bind_eq_some_iff.mp H
    obtain ⟨⟨t306, t309, t312⟩, A70, H⟩ := H
    replace H : ((spec_GarbageOf.f k t306 t309 t312).bind fun t315 => ((laws_toHeap.f k l0_0 l0_1 l0_2).bind fun bt318 => ((impl_GarbageOf.f k bt318.1 bt318.2.1 bt318.2.2).bind fun t328 => ((laws_eqIntS.f k t328 t315).bind fun t331 => (if t331 = true then ((laws_toHeap.f k l0_0 l0_1 l0_2).bind fun bt332 => ((laws_eqHeap.f k bt318.1 bt318.2.1 bt318.2.2 bt332.1 bt332.2.1 bt332.2.2).bind fun t341 => (if t341 = true then ((laws_markHeap.f k bt318.1 bt318.2.1 bt318.2.2 1).bind fun bt342 => (if bt342.1 < 0 then (laws_FnExactGarbageOf.j0 k t315 t328 true l0_0 l0_1 l0_2) else ((laws_eqIntS.f k t328 t315).bind fun t346 => (laws_FnExactGarbageOf.j0 k t315 t328 (!t346) l0_0 l0_1 l0_2)))) else (none)))) else (none)))))) = some r := H
    have A7 := am A70
    clear A70
    replace H := Option.bind_eq_some_iff.mp H
    obtain ⟨t315, A80, H⟩ := H
    replace H : ((laws_toHeap.f k l0_0 l0_1 l0_2).bind fun bt318 => ((impl_GarbageOf.f k bt318.1 bt318.2.1 bt318.2.2).bind fun t328 => ((laws_eqIntS.f k t328 t315).bind fun t331 => (if t331 = true then ((laws_toHeap.f k l0_0 l0_1 l0_2).bind fun bt332 => ((laws_eqHeap.f k bt318.1 bt318.2.1 bt318.2.2 bt332.1 bt332.2.1 bt332.2.2).bind fun t341 => (if t341 = true then ((laws_markHeap.f k bt318.1 bt318.2.1 bt318.2.2 1).bind fun bt342 => (if bt342.1 < 0 then (laws_FnExactGarbageOf.j0 k t315 t328 true l0_0 l0_1 l0_2) else ((laws_eqIntS.f k t328 t315).bind fun t346 => (laws_FnExactGarbageOf.j0 k t315 t328 (!t346) l0_0 l0_1 l0_2)))) else (none)))) else (none))))) = some r := H
    have A8 := am A80
    clear A80
    replace H := Option.bind_eq_some_iff.mp H
    obtain ⟨⟨t318, t321, t324⟩, A90, H⟩ := H
    replace H : ((impl_GarbageOf.f k t318 t321 t324).bind fun t328 => ((laws_eqIntS.f k t328 t315).bind fun t331 => (if t331 = true then ((laws_toHeap.f k l0_0 l0_1 l0_2).bind fun bt332 => ((laws_eqHeap.f k t318 t321 t324 bt332.1 bt332.2.1 bt332.2.2).bind fun t341 => (if t341 = true then ((laws_markHeap.f k t318 t321 t324 1).bind fun bt342 => (if bt342.1 < 0 then (laws_FnExactGarbageOf.j0 k t315 t328 true l0_0 l0_1 l0_2) else ((laws_eqIntS.f k t328 t315).bind fun t346 => (laws_FnExactGarbageOf.j0 k t315 t328 (!t346) l0_0 l0_1 l0_2)))) else (none)))) else (none)))) = some r := H
    have A9 := am A90
    clear A90
    replace H := Option.bind_eq_some_iff.mp H
    obtain ⟨t328, A100, H⟩ := H
    replace H : ((laws_eqIntS.f k t328 t315).bind fun t331 => (if t331 = true then ((laws_toHeap.f k l0_0 l0_1 l0_2).bind fun bt332 => ((laws_eqHeap.f k t318 t321 t324 bt332.1 bt332.2.1 bt332.2.2).bind fun t341 => (if t341 = true then ((laws_markHeap.f k t318 t321 t324 1).bind fun bt342 => (if bt342.1 < 0 then (laws_FnExactGarbageOf.j0 k t315 t328 true l0_0 l0_1 l0_2) else ((laws_eqIntS.f k t328 t315).bind fun t346 => (laws_FnExactGarbageOf.j0 k t315 t328 (!t346) l0_0 l0_1 l0_2)))) else (none)))) else (none))) = some r := H
    have A10 := am A100
    clear A100
    replace H := Option.bind_eq_some_iff.mp H
    obtain ⟨t331, A110, H⟩ := H
    replace H : (if t331 = true then ((laws_toHeap.f k l0_0 l0_1 l0_2).bind fun bt332 => ((laws_eqHeap.f k t318 t321 t324 bt332.1 bt332.2.1 bt332.2.2).bind fun t341 => (if t341 = true then ((laws_markHeap.f k t318 t321 t324 1).bind fun bt342 => (if bt342.1 < 0 then (laws_FnExactGarbageOf.j0 k t315 t328 true l0_0 l0_1 l0_2) else ((laws_eqIntS.f k t328 t315).bind fun t346 => (laws_FnExactGarbageOf.j0 k t315 t328 (!t346) l0_0 l0_1 l0_2)))) else (none)))) else (none)) = some r := H
    have A11 := am A110
    clear A110
    by_cases c12 : t331 = true
    · subst c12
      have H1 : ((laws_toHeap.f k l0_0 l0_1 l0_2).bind fun bt332 => ((laws_eqHeap.f k t318 t321 t324 bt332.1 bt332.2.1 bt332.2.2).bind fun t341 => (if t341 = true then ((laws_markHeap.f k t318 t321 t324 1).bind fun bt342 => (if bt342.1 < 0 then (laws_FnExactGarbageOf.j0 k t315 t328 true l0_0 l0_1 l0_2) else ((laws_eqIntS.f k t328 t315).bind fun t346 => (laws_FnExactGarbageOf.j0 k t315 t328 (!t346) l0_0 l0_1 l0_2)))) else (none)))) = some r := by rw [if_pos rfl] at H; exact H
      clear H
      have H := H1
      clear H1
      replace H := Option.bind_eq_some_iff.mp H
      obtain ⟨⟨t332, t335, t338⟩, A130, H⟩ := H
      replace H : ((laws_eqHeap.f k t318 t321 t324 t332 t335 t338).bind fun t341 => (if t341 = true then ((laws_markHeap.f k t318 t321 t324 1).bind fun bt342 => (if bt342.1 < 0 then (laws_FnExactGarbageOf.j0 k t315 t328 true l0_0 l0_1 l0_2) else ((laws_eqIntS.f k t328 t315).bind fun t346 => (laws_FnExactGarbageOf.j0 k t315 t328 (!t346) l0_0 l0_1 l0_2)))) else (none))) = some r := H
      have A13 := am A130
      clear A130
      replace H := Option.bind_eq_some_iff.mp H
      obtain ⟨t341, A140, H⟩ := H
      replace H : (if t341 = true then ((laws_markHeap.f k t318 t321 t324 1).bind fun bt342 => (if bt342.1 < 0 then (laws_FnExactGarbageOf.j0 k t315 t328 true l0_0 l0_1 l0_2) else ((laws_eqIntS.f k t328 t315).bind fun t346 => (laws_FnExactGarbageOf.j0 k t315 t328 (!t346) l0_0 l0_1 l0_2)))) else (none)) = some r := H
      have A14 := am A140
      clear A140
      by_cases c15 : t341 = true
      · subst c15
        have H1 : ((laws_markHeap.f k t318 t321 t324 1).bind fun bt342 => (if bt342.1 < 0 then (laws_FnExactGarbageOf.j0 k t315 t328 true l0_0 l0_1 l0_2) else ((laws_eqIntS.f k t328 t315).bind fun t346 => (laws_FnExactGarbageOf.j0 k t315 t328 (!t346) l0_0 l0_1 l0_2)))) = some r := by rw [if_pos rfl] at H; exact H
        clear H
        have H := H1
        clear H1
        replace H := Option.bind_eq_some_iff.mp H
        obtain ⟨⟨t342, t343, t344, t345⟩, A160, H⟩ := H
        replace H : (if t342 < 0 then (laws_FnExactGarbageOf.j0 k t315 t328 true l0_0 l0_1 l0_2) else ((laws_eqIntS.f k t328 t315).bind fun t346 => (laws_FnExactGarbageOf.j0 k t315 t328 (!t346) l0_0 l0_1 l0_2))) = some r := H
        have A16 := am A160
        clear A160
        have HC17 := am H
        clear H
        go_enter Try.func4, Try.ntmps4
        try go_wp2_with (first | ((with_reducible refine gate_dst (N := 1) rfl ?_); refine box_event ?hg (N := 1) ?hd (cs := #[.slice A0_0 l0_0.length c0_0, .slice A0_1 l0_1.length c0_1, .slice A0_2 l0_2.length c0_2]) (t := 24) ?hr ?_; (case hd => rfl); (case hg => rfl); (case hr => first | (go_simp; done) | (go_simp; rfl)); intro gb304 hg w18 hbox hb; have n0_ := am (below_step (bl HB.out) hb); have n1_ := am (hbox); have n2_ := am ((by rw [hg]; exact (below_size (bl HB.out)) : w.heap.size ≤ gb304)); have n3_ := am ((by rw [hg]; exact (below_size (bl HB.out)) : w.heap.size ≤ gb304)); clear HB; have HB := n0_; have BK304 := n1_; have GW304 := n2_; have GE304 := n3_; clear n0_ n1_ n2_ n3_; clear hb hbox hg; have hcz19_0 : w18.cell? ⟨gb304, 0, none⟩ = some (.slice A0_0 l0_0.length c0_0) := (blk_cell BK304.out 0).trans rfl; have hcz19_1 : w18.cell? ⟨gb304, 1, none⟩ = some (.slice A0_1 l0_1.length c0_1) := (blk_cell BK304.out 1).trans rfl; have hcz19_2 : w18.cell? ⟨gb304, 2, none⟩ = some (.slice A0_2 l0_2.length c0_2) := (blk_cell BK304.out 2).trans rfl; have hfz19_0 := blk_frozen BK304.out 0; have hfz19_1 := blk_frozen BK304.out 1; have hfz19_2 := blk_frozen BK304.out 2) | ((with_reducible refine gate_callee (f := 15) rfl ?_); refine goesL_ (some 13) rfl rfl Try.func15 (by kernel_rfl) rfl #[.agg #[.slice A0_0 l0_0.length c0_0, .slice A0_1 l0_1.length c0_1, .slice A0_2 l0_2.length c0_2], .int .i64 1048576] rfl (by (try simp only [List.map_toArray, List.map_cons, List.map_nil]); first | done | rfl | (simp only [List.length_drop, List.length_take]; rfl)) ?_; (with_reducible refine (laws_szHeap.calls _ _ l0_0 _ _ l0_1 _ _ l0_2 1048576 t305 _ ?side1 ?side2 ?side3 ?side4 ?side5 ?side6 A2.out).mono ?_); (case side1 => exact cl (Kd.C_below HR0_0.out HB.out)); (case side2 => exact HC0_0.out); (case side3 => exact cl (Kd.C_below HR0_1.out HB.out)); (case side4 => exact HC0_1.out); (case side5 => exact cl (Kd.C_below HR0_2.out HB.out)); (case side6 => exact HC0_2.out); rintro e w20 ⟨rfl, hb⟩; refine ⟨_, rfl, ?_⟩; have n0_ := am (blk_below (g := gb304) (o := .cells #[.slice A0_0 l0_0.length c0_0, .slice A0_1 l0_1.length c0_1, .slice A0_2 l0_2.length c0_2] 24 (0, 0)) (kl BK304.out) hb); have n1_ := am (below_step (by repeat (first | (with_reducible first | exact HB.out | apply below_alloc | apply pw_below_drewN | apply below_drew1 | refine below_set ?_ GE304.out) | exact HB.out)) hb); clear BK304; clear HB; have BK304 := n0_; have HB := n1_; clear n0_ n1_; (try clear hb); (try clear hb2); (try clear hk); (try clear hi); have hcz21_0 : w20.cell? ⟨gb304, 0, none⟩ = some (.slice A0_0 l0_0.length c0_0) := (blk_cell BK304.out 0).trans rfl; have hcz21_1 : w20.cell? ⟨gb304, 1, none⟩ = some (.slice A0_1 l0_1.length c0_1) := (blk_cell BK304.out 1).trans rfl; have hcz21_2 : w20.cell? ⟨gb304, 2, none⟩ = some (.slice A0_2 l0_2.length c0_2) := (blk_cell BK304.out 2).trans rfl; have hfz21_0 := blk_frozen BK304.out 0; have hfz21_1 := blk_frozen BK304.out 1; have hfz21_2 := blk_frozen BK304.out 2) | ((with_reducible refine gate_callee (f := 17) rfl ?_); refine goesL_ (some 17) rfl rfl Try.func17 (by kernel_rfl) rfl #[.agg #[.slice A0_0 l0_0.length c0_0, .slice A0_1 l0_1.length c0_1, .slice A0_2 l0_2.length c0_2]] rfl (by (try simp only [List.map_toArray, List.map_cons, List.map_nil]); first | done | rfl | (simp only [List.length_drop, List.length_take]; rfl)) ?_; (with_reducible refine (laws_toHeap.calls k _ _ l0_0 _ _ l0_1 _ _ l0_2 t306 t309 t312 _ ?side1 ?side2 ?side3 ?side4 ?side5 ?side6 A7.out).mono ?_); (case side1 => exact cl (Kd.C_below HR0_0.out HB.out)); (case side2 => exact HC0_0.out); (case side3 => exact cl (Kd.C_below HR0_1.out HB.out)); (case side4 => exact HC0_1.out); (case side5 => exact cl (Kd.C_below HR0_2.out HB.out)); (case side6 => exact HC0_2.out); rintro e w22 ⟨v307, v310, v313, rfl, ho0, ho1, ho2, hb⟩; refine ⟨_, rfl, ?_⟩; have n0_ := am (Kd.R_lower ho0 (below_size (by repeat (first | (with_reducible first | exact HB.out | apply below_alloc | apply pw_below_drewN | apply below_drew1 | refine below_set ?_ GE304.out) | exact HB.out)))); have n1_ := am (Kd.R_lower ho1 (below_size (by repeat (first | (with_reducible first | exact HB.out | apply below_alloc | apply pw_below_drewN | apply below_drew1 | refine below_set ?_ GE304.out) | exact HB.out)))); have n2_ := am (Kd.R_lower ho2 (below_size (by repeat (first | (with_reducible first | exact HB.out | apply below_alloc | apply pw_below_drewN | apply below_drew1 | refine below_set ?_ GE304.out) | exact HB.out)))); have n3_ := am (blk_below (g := gb304) (o := .cells #[.slice A0_0 l0_0.length c0_0, .slice A0_1 l0_1.length c0_1, .slice A0_2 l0_2.length c0_2] 24 (0, 0)) (kl BK304.out) hb); have n4_ := am (below_step (by repeat (first | (with_reducible first | exact HB.out | apply below_alloc | apply pw_below_drewN | apply below_drew1 | refine below_set ?_ GE304.out) | exact HB.out)) hb); clear BK304; clear HB; have HO308 := n0_; have HO311 := n1_; have HO314 := n2_; have BK304 := n3_; have HB := n4_; clear n0_ n1_ n2_ n3_ n4_; (try clear hb); (try clear hb2); (try clear hk); (try clear hi); (try clear ho0); (try clear ho1); (try clear ho2); obtain ⟨Ao23, co23, eo23⟩ := Kd.R_slice HO308.out; subst eo23; obtain ⟨Ao24, co24, eo24⟩ := Kd.R_slice HO311.out; subst eo24; obtain ⟨Ao25, co25, eo25⟩ := Kd.R_slice HO314.out; subst eo25) | ((with_reducible refine gate_callee (f := 24) rfl ?_); refine goesL_ (some 18) rfl rfl Try.func24 (by kernel_rfl) rfl #[.agg #[.slice Ao23 t306.length co23, .slice Ao24 t309.length co24, .slice Ao25 t312.length co25]] rfl (by (try simp only [List.map_toArray, List.map_cons, List.map_nil]); first | done | rfl | (simp only [List.length_drop, List.length_take]; rfl)) ?_; (with_reducible refine (spec_GarbageOf.calls k _ _ t306 _ _ t309 _ _ t312 t315 _ ?side1 ?side2 ?side3 ?side4 ?side5 ?side6 A8.out).mono ?_); (case side1 => repeat (first | exact (Kd.R_reads' HO308.out).2.2 | (with_reducible refine Kd.C_alloc ?_ _) | (with_reducible refine Kd.C_drewN ?_ _) | (with_reducible refine Kd.C_drew ?_))); (case side2 => exact (Kd.R_reads' HO308.out).2.1); (case side3 => repeat (first | exact (Kd.R_reads' HO311.out).2.2 | (with_reducible refine Kd.C_alloc ?_ _) | (with_reducible refine Kd.C_drewN ?_ _) | (with_reducible refine Kd.C_drew ?_))); (case side4 => exact (Kd.R_reads' HO311.out).2.1); (case side5 => repeat (first | exact (Kd.R_reads' HO314.out).2.2 | (with_reducible refine Kd.C_alloc ?_ _) | (with_reducible refine Kd.C_drewN ?_ _) | (with_reducible refine Kd.C_drew ?_))); (case side6 => exact (Kd.R_reads' HO314.out).2.1); rintro e w26 ⟨v316, rfl, ho0, hb⟩; refine ⟨_, rfl, ?_⟩; have n0_ := am (Kd.R_elder' (rl HO308.out) (Kd.R_base ho0) hb); have n1_ := am (Kd.R_elder' (rl HO311.out) (Kd.R_base ho0) hb); have n2_ := am (Kd.R_elder' (rl HO314.out) (Kd.R_base ho0) hb); have n3_ := am (Kd.R_lower (Kd.R_new' (Kd.R_new' (Kd.R_new' ho0 (Kd.R_lt (rl HO308.out))) (Kd.R_lt (rl HO311.out))) (Kd.R_lt (rl HO314.out))) (below_size (by repeat (first | (with_reducible first | exact HB.out | apply below_alloc | apply pw_below_drewN | apply below_drew1 | refine below_set ?_ GE304.out) | exact HB.out)))); have n4_ := am (blk_below (g := gb304) (o := .cells #[.slice A0_0 l0_0.length c0_0, .slice A0_1 l0_1.length c0_1, .slice A0_2 l0_2.length c0_2] 24 (0, 0)) (kl BK304.out) hb); have n5_ := am (below_step (by repeat (first | (with_reducible first | exact HB.out | apply below_alloc | apply pw_below_drewN | apply below_drew1 | refine below_set ?_ GE304.out) | exact HB.out)) hb); clear HO308; clear HO311; clear HO314; clear BK304; clear HB; have HO308 := n0_; have HO311 := n1_; have HO314 := n2_; have HO317 := n3_; have BK304 := n4_; have HB := n5_; clear n0_ n1_ n2_ n3_ n4_ n5_; (try clear hb); (try clear hb2); (try clear hk); (try clear hi); (try clear ho0); have hcz27_0 : w26.cell? ⟨gb304, 0, none⟩ = some (.slice A0_0 l0_0.length c0_0) := (blk_cell BK304.out 0).trans rfl; have hcz27_1 : w26.cell? ⟨gb304, 1, none⟩ = some (.slice A0_1 l0_1.length c0_1) := (blk_cell BK304.out 1).trans rfl; have hcz27_2 : w26.cell? ⟨gb304, 2, none⟩ = some (.slice A0_2 l0_2.length c0_2) := (blk_cell BK304.out 2).trans rfl; have hfz27_0 := blk_frozen BK304.out 0; have hfz27_1 := blk_frozen BK304.out 1; have hfz27_2 := blk_frozen BK304.out 2) | ((with_reducible refine gate_callee (f := 17) rfl ?_); refine goesL_ (some 20) rfl rfl Try.func17 (by kernel_rfl) rfl #[.agg #[.slice A0_0 l0_0.length c0_0, .slice A0_1 l0_1.length c0_1, .slice A0_2 l0_2.length c0_2]] rfl (by (try simp only [List.map_toArray, List.map_cons, List.map_nil]); first | done | rfl | (simp only [List.length_drop, List.length_take]; rfl)) ?_; (with_reducible refine (laws_toHeap.calls k _ _ l0_0 _ _ l0_1 _ _ l0_2 t318 t321 t324 _ ?side1 ?side2 ?side3 ?side4 ?side5 ?side6 A9.out).mono ?_); (case side1 => exact cl (Kd.C_below HR0_0.out HB.out)); (case side2 => exact HC0_0.out); (case side3 => exact cl (Kd.C_below HR0_1.out HB.out)); (case side4 => exact HC0_1.out); (case side5 => exact cl (Kd.C_below HR0_2.out HB.out)); (case side6 => exact HC0_2.out); rintro e w28 ⟨v319, v322, v325, rfl, ho0, ho1, ho2, hb⟩; refine ⟨_, rfl, ?_⟩; have n0_ := am (Kd.R_mono (Kd.R_told (Kd.R_told (Kd.R_told (Kd.R_old (rl HO308.out) hb) (Kd.R_base ho0)) (Kd.R_base ho1)) (Kd.R_base ho2)) (fun _ h_ => h_.1)); have n1_ := am (Kd.R_mono (Kd.R_told (Kd.R_told (Kd.R_told (Kd.R_old (rl HO311.out) hb) (Kd.R_base ho0)) (Kd.R_base ho1)) (Kd.R_base ho2)) (fun _ h_ => h_.1)); have n2_ := am (Kd.R_mono (Kd.R_told (Kd.R_told (Kd.R_told (Kd.R_old (rl HO314.out) hb) (Kd.R_base ho0)) (Kd.R_base ho1)) (Kd.R_base ho2)) (fun _ h_ => h_.1)); have n3_ := am (Kd.R_mono (Kd.R_told (Kd.R_told (Kd.R_told (Kd.R_old (rl HO317.out) hb) (Kd.R_base ho0)) (Kd.R_base ho1)) (Kd.R_base ho2)) (fun _ h_ => h_.1)); have n4_ := am (Kd.R_lower (Kd.R_new' (Kd.R_new' (Kd.R_new' (Kd.R_new' ho0 (Kd.R_lt (rl HO308.out))) (Kd.R_lt (rl HO311.out))) (Kd.R_lt (rl HO314.out))) (Kd.R_lt (rl HO317.out))) (below_size (by repeat (first | (with_reducible first | exact HB.out | apply below_alloc | apply pw_below_drewN | apply below_drew1 | refine below_set ?_ GE304.out) | exact HB.out)))); have n5_ := am (Kd.R_lower (Kd.R_new' (Kd.R_new' (Kd.R_new' (Kd.R_new' ho1 (Kd.R_lt (rl HO308.out))) (Kd.R_lt (rl HO311.out))) (Kd.R_lt (rl HO314.out))) (Kd.R_lt (rl HO317.out))) (below_size (by repeat (first | (with_reducible first | exact HB.out | apply below_alloc | apply pw_below_drewN | apply below_drew1 | refine below_set ?_ GE304.out) | exact HB.out)))); have n6_ := am (Kd.R_lower (Kd.R_new' (Kd.R_new' (Kd.R_new' (Kd.R_new' ho2 (Kd.R_lt (rl HO308.out))) (Kd.R_lt (rl HO311.out))) (Kd.R_lt (rl HO314.out))) (Kd.R_lt (rl HO317.out))) (below_size (by repeat (first | (with_reducible first | exact HB.out | apply below_alloc | apply pw_below_drewN | apply below_drew1 | refine below_set ?_ GE304.out) | exact HB.out)))); have n7_ := am (blk_below (g := gb304) (o := .cells #[.slice A0_0 l0_0.length c0_0, .slice A0_1 l0_1.length c0_1, .slice A0_2 l0_2.length c0_2] 24 (0, 0)) (kl BK304.out) hb); have n8_ := am (below_step (by repeat (first | (with_reducible first | exact HB.out | apply below_alloc | apply pw_below_drewN | apply below_drew1 | refine below_set ?_ GE304.out) | exact HB.out)) hb); clear HO308; clear HO311; clear HO314; clear HO317; clear BK304; clear HB; have HO308 := n0_; have HO311 := n1_; have HO314 := n2_; have HO317 := n3_; have HO320 := n4_; have HO323 := n5_; have HO326 := n6_; have BK304 := n7_; have HB := n8_; clear n0_ n1_ n2_ n3_ n4_ n5_ n6_ n7_ n8_; (try clear hb); (try clear hb2); (try clear hk); (try clear hi); (try clear ho0); (try clear ho1); (try clear ho2)) | ((with_reducible refine gate_dst (N := 5) rfl ?_); refine box_event ?hg (N := 5) ?hd (cs := #[.slice none 0 0, .slice none 0 0, .slice none 0 0]) (t := 28) ?hr ?_; (case hd => rfl); (case hg => rfl); (case hr => first | (go_simp; done) | (go_simp; rfl)); intro gb327 hg w29 hbox hb; have n0_ := am (Kd.R_below (rl HO308.out) hb); have n1_ := am (Kd.R_below (rl HO311.out) hb); have n2_ := am (Kd.R_below (rl HO314.out) hb); have n3_ := am (Kd.R_below (rl HO317.out) hb); have n4_ := am (Kd.R_below (rl HO320.out) hb); have n5_ := am (Kd.R_below (rl HO323.out) hb); have n6_ := am (Kd.R_below (rl HO326.out) hb); have n7_ := am (blk_below (g := gb304) (o := .cells #[.slice A0_0 l0_0.length c0_0, .slice A0_1 l0_1.length c0_1, .slice A0_2 l0_2.length c0_2] 24 (0, 0)) (kl BK304.out) hb); have n8_ := am (below_step (by repeat (first | (with_reducible first | exact HB.out | apply below_alloc | apply pw_below_drewN | apply below_drew1 | refine below_set ?_ GE304.out) | exact HB.out)) hb); have n9_ := am (hbox); have n10_ := am ((by rw [hg]; exact (below_size (by repeat (first | (with_reducible first | exact HB.out | apply below_alloc | apply pw_below_drewN | apply below_drew1 | refine below_set ?_ GE304.out) | exact HB.out))) : w.heap.size ≤ gb327)); have n11_ := am ((by rw [hg]; exact (below_size (by repeat (first | (with_reducible first | exact HB.out | apply below_alloc | apply pw_below_drewN | apply below_drew1 | refine below_set ?_ GE304.out) | exact HB.out))) : w.heap.size ≤ gb327)); have n12_ := am ((by rw [hg]; exact Nat.ne_of_lt (blk_lt (g := gb304) (o := .cells #[.slice A0_0 l0_0.length c0_0, .slice A0_1 l0_1.length c0_1, .slice A0_2 l0_2.length c0_2] 24 (0, 0)) (kl BK304.out)) : gb304 ≠ gb327)); have n13_ := am ((by rw [hg]; exact Nat.ne_of_gt (blk_lt (g := gb304) (o := .cells #[.slice A0_0 l0_0.length c0_0, .slice A0_1 l0_1.length c0_1, .slice A0_2 l0_2.length c0_2] 24 (0, 0)) (kl BK304.out)) : gb327 ≠ gb304)); clear HO308; clear HO311; clear HO314; clear HO317; clear HO320; clear HO323; clear HO326; clear BK304; clear HB; have HO308 := n0_; have HO311 := n1_; have HO314 := n2_; have HO317 := n3_; have HO320 := n4_; have HO323 := n5_; have HO326 := n6_; have BK304 := n7_; have HB := n8_; have BK327 := n9_; have GW327 := n10_; have GE327 := n11_; have NB304_327 := n12_; have NB327_304 := n13_; clear n0_ n1_ n2_ n3_ n4_ n5_ n6_ n7_ n8_ n9_ n10_ n11_ n12_ n13_; clear hb hbox hg; obtain ⟨Ao30, co30, eo30⟩ := Kd.R_slice HO320.out; subst eo30; have hnb31 := NB327_304.out; have hnc31 := NB304_327.out; have hcz32_0 : w29.cell? ⟨gb327, 0, none⟩ = some (.slice none 0 0) := (blk_cell BK327.out 0).trans rfl; have hcz32_1 : w29.cell? ⟨gb327, 1, none⟩ = some (.slice none 0 0) := (blk_cell BK327.out 1).trans rfl; have hcz32_2 : w29.cell? ⟨gb327, 2, none⟩ = some (.slice none 0 0) := (blk_cell BK327.out 2).trans rfl; have hfz32_0 := blk_frozen BK327.out 0; have hfz32_1 := blk_frozen BK327.out 1; have hfz32_2 := blk_frozen BK327.out 2; obtain ⟨Ao33, co33, eo33⟩ := Kd.R_slice HO323.out; subst eo33; obtain ⟨Ao34, co34, eo34⟩ := Kd.R_slice HO326.out; subst eo34) | ((with_reducible refine gate_callee (f := 25) rfl ?_); refine goesL_ (some 22) rfl rfl Try.func25 (by kernel_rfl) rfl #[.agg #[.slice Ao30 t318.length co30, .slice Ao33 t321.length co33, .slice Ao34 t324.length co34]] rfl (by (try simp only [List.map_toArray, List.map_cons, List.map_nil]); first | done | rfl | (simp only [List.length_drop, List.length_take]; rfl)) ?_; (with_reducible refine (impl_GarbageOf.calls k _ _ t318 _ _ t321 _ _ t324 t328 _ ?side1 ?side2 ?side3 ?side4 ?side5 ?side6 A10.out).mono ?_); (case side1 => exact (Kd.R_reads' (rl ((far3 HO320.out BK327.out (by decide) (.slice Ao30 t318.length co30) (.slice Ao33 t321.length co33) (.slice Ao34 t324.length co34))))).2.2); (case side2 => exact (Kd.R_reads' HO320.out).2.1); (case side3 => exact (Kd.R_reads' (rl ((far3 HO323.out BK327.out (by decide) (.slice Ao30 t318.length co30) (.slice Ao33 t321.length co33) (.slice Ao34 t324.length co34))))).2.2); (case side4 => exact (Kd.R_reads' HO323.out).2.1); (case side5 => exact (Kd.R_reads' (rl ((far3 HO326.out BK327.out (by decide) (.slice Ao30 t318.length co30) (.slice Ao33 t321.length co33) (.slice Ao34 t324.length co34))))).2.2); (case side6 => exact (Kd.R_reads' HO326.out).2.1); rintro e w35 ⟨v329, rfl, ho0, hb⟩; refine ⟨_, rfl, ?_⟩; have n0_ := am (Kd.R_elder' (rl ((far3 HO308.out BK327.out (by decide) (.slice Ao30 t318.length co30) (.slice Ao33 t321.length co33) (.slice Ao34 t324.length co34)))) (Kd.R_base ho0) hb); have n1_ := am (Kd.R_elder' (rl ((far3 HO311.out BK327.out (by decide) (.slice Ao30 t318.length co30) (.slice Ao33 t321.length co33) (.slice Ao34 t324.length co34)))) (Kd.R_base ho0) hb); have n2_ := am (Kd.R_elder' (rl ((far3 HO314.out BK327.out (by decide) (.slice Ao30 t318.length co30) (.slice Ao33 t321.length co33) (.slice Ao34 t324.length co34)))) (Kd.R_base ho0) hb); have n3_ := am (Kd.R_elder' (rl ((far3 HO317.out BK327.out (by decide) (.slice Ao30 t318.length co30) (.slice Ao33 t321.length co33) (.slice Ao34 t324.length co34)))) (Kd.R_base ho0) hb); have n4_ := am (Kd.R_elder' (rl ((far3 HO320.out BK327.out (by decide) (.slice Ao30 t318.length co30) (.slice Ao33 t321.length co33) (.slice Ao34 t324.length co34)))) (Kd.R_base ho0) hb); have n5_ := am (Kd.R_elder' (rl ((far3 HO323.out BK327.out (by decide) (.slice Ao30 t318.length co30) (.slice Ao33 t321.length co33) (.slice Ao34 t324.length co34)))) (Kd.R_base ho0) hb); have n6_ := am (Kd.R_elder' (rl ((far3 HO326.out BK327.out (by decide) (.slice Ao30 t318.length co30) (.slice Ao33 t321.length co33) (.slice Ao34 t324.length co34)))) (Kd.R_base ho0) hb); have n7_ := am (Kd.R_lower (Kd.R_new' (Kd.R_new' (Kd.R_new' (Kd.R_new' (Kd.R_new' (Kd.R_new' (Kd.R_new' ho0 (Kd.R_lt (rl ((far3 HO308.out BK327.out (by decide) (.slice Ao30 t318.length co30) (.slice Ao33 t321.length co33) (.slice Ao34 t324.length co34)))))) (Kd.R_lt (rl ((far3 HO311.out BK327.out (by decide) (.slice Ao30 t318.length co30) (.slice Ao33 t321.length co33) (.slice Ao34 t324.length co34)))))) (Kd.R_lt (rl ((far3 HO314.out BK327.out (by decide) (.slice Ao30 t318.length co30) (.slice Ao33 t321.length co33) (.slice Ao34 t324.length co34)))))) (Kd.R_lt (rl ((far3 HO317.out BK327.out (by decide) (.slice Ao30 t318.length co30) (.slice Ao33 t321.length co33) (.slice Ao34 t324.length co34)))))) (Kd.R_lt (rl ((far3 HO320.out BK327.out (by decide) (.slice Ao30 t318.length co30) (.slice Ao33 t321.length co33) (.slice Ao34 t324.length co34)))))) (Kd.R_lt (rl ((far3 HO323.out BK327.out (by decide) (.slice Ao30 t318.length co30) (.slice Ao33 t321.length co33) (.slice Ao34 t324.length co34)))))) (Kd.R_lt (rl ((far3 HO326.out BK327.out (by decide) (.slice Ao30 t318.length co30) (.slice Ao33 t321.length co33) (.slice Ao34 t324.length co34)))))) (below_size (by repeat (first | (with_reducible first | exact HB.out | apply below_alloc | apply pw_below_drewN | apply below_drew1 | refine below_set ?_ GE304.out | refine below_set ?_ GE327.out) | exact HB.out)))); have n8_ := am (blk_below (g := gb304) (o := .cells #[.slice A0_0 l0_0.length c0_0, .slice A0_1 l0_1.length c0_1, .slice A0_2 l0_2.length c0_2] 24 (0, 0)) (by (with_reducible repeat (first | refine blk_drewN ?_ _ | refine blk_drew ?_ | refine blk_alloc ?_ _)); refine blk_far ?_ NB304_327.out _; (with_reducible repeat (first | refine blk_drewN ?_ _ | refine blk_drew ?_ | refine blk_alloc ?_ _)); refine blk_far ?_ NB304_327.out _; (with_reducible repeat (first | refine blk_drewN ?_ _ | refine blk_drew ?_ | refine blk_alloc ?_ _)); refine blk_far ?_ NB304_327.out _; (with_reducible repeat (first | refine blk_drewN ?_ _ | refine blk_drew ?_ | refine blk_alloc ?_ _)); exact BK304.out) hb); have n9_ := am (blk_below (g := gb327) (o := .cells #[.slice Ao30 t318.length co30, .slice Ao33 t321.length co33, .slice Ao34 t324.length co34] 28 (0, 0)) (by (with_reducible repeat (first | refine blk_drewN ?_ _ | refine blk_drew ?_ | refine blk_alloc ?_ _)); refine blk_put (cs := #[.slice Ao30 t318.length co30, .slice Ao33 t321.length co33, .slice none 0 0]) ?_ 2 _ rfl; (with_reducible repeat (first | refine blk_drewN ?_ _ | refine blk_drew ?_ | refine blk_alloc ?_ _)); refine blk_put (cs := #[.slice Ao30 t318.length co30, .slice none 0 0, .slice none 0 0]) ?_ 1 _ rfl; (with_reducible repeat (first | refine blk_drewN ?_ _ | refine blk_drew ?_ | refine blk_alloc ?_ _)); refine blk_put (cs := #[.slice none 0 0, .slice none 0 0, .slice none 0 0]) ?_ 0 _ rfl; (with_reducible repeat (first | refine blk_drewN ?_ _ | refine blk_drew ?_ | refine blk_alloc ?_ _)); exact BK327.out) hb); have n10_ := am (below_step (by repeat (first | (with_reducible first | exact HB.out | apply below_alloc | apply pw_below_drewN | apply below_drew1 | refine below_set ?_ GE304.out | refine below_set ?_ GE327.out) | exact HB.out)) hb); clear HO308; clear HO311; clear HO314; clear HO317; clear HO320; clear HO323; clear HO326; clear BK304; clear BK327; clear HB; have HO308 := n0_; have HO311 := n1_; have HO314 := n2_; have HO317 := n3_; have HO320 := n4_; have HO323 := n5_; have HO326 := n6_; have HO330 := n7_; have BK304 := n8_; have BK327 := n9_; have HB := n10_; clear n0_ n1_ n2_ n3_ n4_ n5_ n6_ n7_ n8_ n9_ n10_; (try clear hb); (try clear hb2); (try clear hk); (try clear hi); (try clear ho0); obtain ⟨Ao36, co36, eo36⟩ := Kd.R_slice HO330.out; subst eo36; obtain ⟨Ao37, co37, eo37⟩ := Kd.R_slice HO317.out; subst eo37) | ((with_reducible refine gate_callee (f := 26) rfl ?_); refine goesL_ (some 25) rfl rfl Try.func26 (by kernel_rfl) rfl #[.slice Ao36 t328.length co36, .slice Ao37 t315.length co37] rfl (by (try simp only [List.map_toArray, List.map_cons, List.map_nil]); first | done | rfl | (simp only [List.length_drop, List.length_take]; rfl)) ?_; (with_reducible refine (laws_eqIntS.calls k _ _ t328 _ _ t315 true _ ?side1 ?side2 ?side3 ?side4 A11.out).mono ?_); (case side1 => repeat (first | exact (Kd.R_reads' HO330.out).2.2 | (with_reducible refine Kd.C_alloc ?_ _) | (with_reducible refine Kd.C_drewN ?_ _) | (with_reducible refine Kd.C_drew ?_))); (case side2 => exact (Kd.R_reads' HO330.out).2.1); (case side3 => repeat (first | exact (Kd.R_reads' HO317.out).2.2 | (with_reducible refine Kd.C_alloc ?_ _) | (with_reducible refine Kd.C_drewN ?_ _) | (with_reducible refine Kd.C_drew ?_))); (case side4 => exact (Kd.R_reads' HO317.out).2.1); rintro e w' ⟨rfl, ⟨nd, rfl⟩⟩; refine ⟨_, rfl, ?_⟩))
        (try (rw [drewN_self w35]; generalize hq_ : World.drewN w35 _ = w35; have n0_ : Aside0 (Kd.R (Kd.int .i64) 3 w35 w.heap.size (fun k_ => some k_ ≠ (.slice Ao24 t309.length co24 : Value).ownBlock ∧ some k_ ≠ (.slice Ao25 t312.length co25 : Value).ownBlock ∧ some k_ ≠ (.slice Ao37 t315.length co37 : Value).ownBlock ∧ some k_ ≠ (.slice Ao30 t318.length co30 : Value).ownBlock ∧ some k_ ≠ (.slice Ao33 t321.length co33 : Value).ownBlock ∧ some k_ ≠ (.slice Ao34 t324.length co34 : Value).ownBlock ∧ some k_ ≠ (.slice Ao36 t328.length co36 : Value).ownBlock) (.slice Ao23 t306.length co23) t306) := ⟨by rw [← hq_]; exact (rl (Kd.R_mono HO308.out (fun _ hk => by simp only [ne_eq] at hk ⊢; simp only [hk, not_false_eq_true, and_self])))⟩; have n1_ : Aside0 (Kd.R (Kd.int .i64) 3 w35 w.heap.size (fun k_ => some k_ ≠ (.slice Ao23 t306.length co23 : Value).ownBlock ∧ some k_ ≠ (.slice Ao25 t312.length co25 : Value).ownBlock ∧ some k_ ≠ (.slice Ao37 t315.length co37 : Value).ownBlock ∧ some k_ ≠ (.slice Ao30 t318.length co30 : Value).ownBlock ∧ some k_ ≠ (.slice Ao33 t321.length co33 : Value).ownBlock ∧ some k_ ≠ (.slice Ao34 t324.length co34 : Value).ownBlock ∧ some k_ ≠ (.slice Ao36 t328.length co36 : Value).ownBlock) (.slice Ao24 t309.length co24) t309) := ⟨by rw [← hq_]; exact (rl (Kd.R_mono HO311.out (fun _ hk => by simp only [ne_eq] at hk ⊢; simp only [hk, not_false_eq_true, and_self])))⟩; have n2_ : Aside0 (Kd.R (Kd.int .i64) 3 w35 w.heap.size (fun k_ => some k_ ≠ (.slice Ao23 t306.length co23 : Value).ownBlock ∧ some k_ ≠ (.slice Ao24 t309.length co24 : Value).ownBlock ∧ some k_ ≠ (.slice Ao37 t315.length co37 : Value).ownBlock ∧ some k_ ≠ (.slice Ao30 t318.length co30 : Value).ownBlock ∧ some k_ ≠ (.slice Ao33 t321.length co33 : Value).ownBlock ∧ some k_ ≠ (.slice Ao34 t324.length co34 : Value).ownBlock ∧ some k_ ≠ (.slice Ao36 t328.length co36 : Value).ownBlock) (.slice Ao25 t312.length co25) t312) := ⟨by rw [← hq_]; exact (rl (Kd.R_mono HO314.out (fun _ hk => by simp only [ne_eq] at hk ⊢; simp only [hk, not_false_eq_true, and_self])))⟩; have n3_ : Aside0 (Kd.R (Kd.int .i64) 3 w35 w.heap.size (fun k_ => some k_ ≠ (.slice Ao23 t306.length co23 : Value).ownBlock ∧ some k_ ≠ (.slice Ao24 t309.length co24 : Value).ownBlock ∧ some k_ ≠ (.slice Ao25 t312.length co25 : Value).ownBlock ∧ some k_ ≠ (.slice Ao30 t318.length co30 : Value).ownBlock ∧ some k_ ≠ (.slice Ao33 t321.length co33 : Value).ownBlock ∧ some k_ ≠ (.slice Ao34 t324.length co34 : Value).ownBlock ∧ some k_ ≠ (.slice Ao36 t328.length co36 : Value).ownBlock) (.slice Ao37 t315.length co37) t315) := ⟨by rw [← hq_]; exact (rl (Kd.R_mono HO317.out (fun _ hk => by simp only [ne_eq] at hk ⊢; simp only [hk, not_false_eq_true, and_self])))⟩; have n4_ : Aside0 (Kd.R (Kd.int .i64) 3 w35 w.heap.size (fun k_ => some k_ ≠ (.slice Ao23 t306.length co23 : Value).ownBlock ∧ some k_ ≠ (.slice Ao24 t309.length co24 : Value).ownBlock ∧ some k_ ≠ (.slice Ao25 t312.length co25 : Value).ownBlock ∧ some k_ ≠ (.slice Ao37 t315.length co37 : Value).ownBlock ∧ some k_ ≠ (.slice Ao33 t321.length co33 : Value).ownBlock ∧ some k_ ≠ (.slice Ao34 t324.length co34 : Value).ownBlock ∧ some k_ ≠ (.slice Ao36 t328.length co36 : Value).ownBlock) (.slice Ao30 t318.length co30) t318) := ⟨by rw [← hq_]; exact (rl (Kd.R_mono HO320.out (fun _ hk => by simp only [ne_eq] at hk ⊢; simp only [hk, not_false_eq_true, and_self])))⟩; have n5_ : Aside0 (Kd.R (Kd.int .i64) 3 w35 w.heap.size (fun k_ => some k_ ≠ (.slice Ao23 t306.length co23 : Value).ownBlock ∧ some k_ ≠ (.slice Ao24 t309.length co24 : Value).ownBlock ∧ some k_ ≠ (.slice Ao25 t312.length co25 : Value).ownBlock ∧ some k_ ≠ (.slice Ao37 t315.length co37 : Value).ownBlock ∧ some k_ ≠ (.slice Ao30 t318.length co30 : Value).ownBlock ∧ some k_ ≠ (.slice Ao34 t324.length co34 : Value).ownBlock ∧ some k_ ≠ (.slice Ao36 t328.length co36 : Value).ownBlock) (.slice Ao33 t321.length co33) t321) := ⟨by rw [← hq_]; exact (rl (Kd.R_mono HO323.out (fun _ hk => by simp only [ne_eq] at hk ⊢; simp only [hk, not_false_eq_true, and_self])))⟩; have n6_ : Aside0 (Kd.R (Kd.int .i64) 3 w35 w.heap.size (fun k_ => some k_ ≠ (.slice Ao23 t306.length co23 : Value).ownBlock ∧ some k_ ≠ (.slice Ao24 t309.length co24 : Value).ownBlock ∧ some k_ ≠ (.slice Ao25 t312.length co25 : Value).ownBlock ∧ some k_ ≠ (.slice Ao37 t315.length co37 : Value).ownBlock ∧ some k_ ≠ (.slice Ao30 t318.length co30 : Value).ownBlock ∧ some k_ ≠ (.slice Ao33 t321.length co33 : Value).ownBlock ∧ some k_ ≠ (.slice Ao36 t328.length co36 : Value).ownBlock) (.slice Ao34 t324.length co34) t324) := ⟨by rw [← hq_]; exact (rl (Kd.R_mono HO326.out (fun _ hk => by simp only [ne_eq] at hk ⊢; simp only [hk, not_false_eq_true, and_self])))⟩; have n7_ : Aside0 (Kd.R (Kd.int .i64) 3 w35 w.heap.size (fun k_ => some k_ ≠ (.slice Ao23 t306.length co23 : Value).ownBlock ∧ some k_ ≠ (.slice Ao24 t309.length co24 : Value).ownBlock ∧ some k_ ≠ (.slice Ao25 t312.length co25 : Value).ownBlock ∧ some k_ ≠ (.slice Ao37 t315.length co37 : Value).ownBlock ∧ some k_ ≠ (.slice Ao30 t318.length co30 : Value).ownBlock ∧ some k_ ≠ (.slice Ao33 t321.length co33 : Value).ownBlock ∧ some k_ ≠ (.slice Ao34 t324.length co34 : Value).ownBlock) (.slice Ao36 t328.length co36) t328) := ⟨by rw [← hq_]; exact (rl (Kd.R_mono HO330.out (fun _ hk => by simp only [ne_eq] at hk ⊢; simp only [hk, not_false_eq_true, and_self])))⟩; have n8_ : Aside0 (w35.heap[gb304]? = some (.cells #[.slice A0_0 l0_0.length c0_0, .slice A0_1 l0_1.length c0_1, .slice A0_2 l0_2.length c0_2] 24 (0, 0))) := ⟨by rw [← hq_]; exact (kl BK304.out)⟩; have n9_ : Aside0 (w35.heap[gb327]? = some (.cells #[.slice Ao30 t318.length co30, .slice Ao33 t321.length co33, .slice Ao34 t324.length co34] 28 (0, 0))) := ⟨by rw [← hq_]; exact (kl BK327.out)⟩; have n10_ : Aside0 (Below w.heap.size w w35) := ⟨by rw [← hq_]; exact (by repeat (first | (with_reducible first | exact HB.out | apply below_alloc | apply pw_below_drewN | apply below_drew1 | refine below_set ?_ GE304.out | refine below_set ?_ GE327.out) | exact HB.out))⟩; clear HO308 HO311 HO314 HO317 HO320 HO323 HO326 HO330 BK304 BK327 HB hq_; have HO308 := n0_; have HO311 := n1_; have HO314 := n2_; have HO317 := n3_; have HO320 := n4_; have HO323 := n5_; have HO326 := n6_; have HO330 := n7_; have BK304 := n8_; have BK327 := n9_; have HB := n10_; clear n0_ n1_ n2_ n3_ n4_ n5_ n6_ n7_ n8_ n9_ n10_))
        have n0_ := am (Kd.R_drew HO308.out)
        have n1_ := am (Kd.R_drew HO311.out)
        have n2_ := am (Kd.R_drew HO314.out)
        have n3_ := am (Kd.R_drew HO317.out)
        have n4_ := am (Kd.R_drew HO320.out)
        have n5_ := am (Kd.R_drew HO323.out)
        have n6_ := am (Kd.R_drew HO326.out)
        have n7_ := am (Kd.R_drew HO330.out)
        have n8_ := am (blk_drew BK304.out)
        have n9_ := am (blk_drew BK327.out)
        have n10_ := am (below_drew1 HB.out)
        clear HO308
        clear HO311
        clear HO314
        clear HO317
        clear HO320
        clear HO323
        clear HO326
        clear HO330
        clear BK304
        clear BK327
        clear HB
        have HO308 := n0_
        have HO311 := n1_
        have HO314 := n2_
        have HO317 := n3_
        have HO320 := n4_
        have HO323 := n5_
        have HO326 := n6_
        have HO330 := n7_
        have BK304 := n8_
        have BK327 := n9_
        have HB := n10_
        clear n0_ n1_ n2_ n3_ n4_ n5_ n6_ n7_ n8_ n9_ n10_
        refine start_ (n := 5) (S := fun w' => w'.cell? ⟨gb327, 0, none⟩ = some (.slice Ao30 t318.length co30) ∧ w'.cell? ⟨gb327, 1, none⟩ = some (.slice Ao33 t321.length co33) ∧ w'.cell? ⟨gb327, 2, none⟩ = some (.slice Ao34 t324.length co34) ∧ w'.cell? ⟨gb304, 0, none⟩ = some (.slice A0_0 l0_0.length c0_0) ∧ w'.cell? ⟨gb304, 1, none⟩ = some (.slice A0_1 l0_1.length c0_1) ∧ w'.cell? ⟨gb304, 2, none⟩ = some (.slice A0_2 l0_2.length c0_2)) (ds := []) #[false, false, false, false, false] (by kernel_rfl) rfl rfl ⟨(blk_cell BK327.out 0).trans rfl, (blk_cell BK327.out 1).trans rfl, (blk_cell BK327.out 2).trans rfl, (blk_cell BK304.out 0).trans rfl, (blk_cell BK304.out 1).trans rfl, (blk_cell BK304.out 2).trans rfl⟩ (fun hHeld => ?_)
        generalize w35.drew = w38 at HO308 HO311 HO314 HO317 HO320 HO323 HO326 HO330 BK304 BK327 HB hHeld ⊢
        refine take_ (i := 0) (N := some 27) (v := ?_) (a' := ?_) #[true, false, false, false, false] rfl rfl (by kernel_rfl) (fun _ _ _ h => h) (Or.inl ⟨by rfl, ?_⟩) hHeld ?_ ?_
        rotate_left
        · rintro w' ⟨s0, s1, s2, s3, s4, s5⟩
          go_simp
          with_reducible rfl
        rotate_left
        · simp only [Act.put, List.setIfInBounds_toArray, List.set_cons_zero, List.set_cons_succ, i64_w, i32_w]
          rfl
        refine take_ (i := 1) (N := some 28) (v := ?_) (a' := ?_) #[true, true, false, false, false] rfl rfl (by kernel_rfl) (fun _ _ _ h => h) (Or.inl ⟨by rfl, ?_⟩) hHeld ?_ ?_
        rotate_left
        · rintro w' ⟨s0, s1, s2, s3, s4, s5⟩
          go_simp
          with_reducible rfl
        rotate_left
        · simp only [Act.put, List.setIfInBounds_toArray, List.set_cons_zero, List.set_cons_succ, i64_w, i32_w]
          rfl
        refine one_ (i := 2) (N := some 29) #[true, true, true, false, false] rfl rfl (by kernel_rfl) (by decide) (fun K hK => ?_)
        refine goes_ Try.func17 (by kernel_rfl) rfl #[.agg #[.slice A0_0 l0_0.length c0_0, .slice A0_1 l0_1.length c0_1, .slice A0_2 l0_2.length c0_2]] (by rfl) rfl rfl (by (try simp only [List.map_toArray, List.map_cons, List.map_nil]); first | done | rfl | (simp only [List.length_drop, List.length_take]; rfl)) ?_
        with_reducible refine (laws_toHeap.calls k _ _ l0_0 _ _ l0_1 _ _ l0_2 t332 t335 t338 _ ?side1 ?side2 ?side3 ?side4 ?side5 ?side6 A13.out).mono ?_
        (case side1 => exact cl (Kd.C_below HR0_0.out HB.out))
        (case side2 => exact HC0_0.out)
        (case side3 => exact cl (Kd.C_below HR0_1.out HB.out))
        (case side4 => exact HC0_1.out)
        (case side5 => exact cl (Kd.C_below HR0_2.out HB.out))
        (case side6 => exact HC0_2.out)
        rintro e w39 ⟨v333, v336, v339, rfl, ho0, ho1, ho2, hb⟩
        refine ⟨_, rfl, ?_⟩
        have n0_ := am (Kd.R_mono (Kd.R_told (Kd.R_told (Kd.R_told (Kd.R_old (rl HO308.out) hb) (Kd.R_base ho0)) (Kd.R_base ho1)) (Kd.R_base ho2)) (fun _ h_ => h_.1))
        have n1_ := am (Kd.R_mono (Kd.R_told (Kd.R_told (Kd.R_told (Kd.R_old (rl HO311.out) hb) (Kd.R_base ho0)) (Kd.R_base ho1)) (Kd.R_base ho2)) (fun _ h_ => h_.1))
        have n2_ := am (Kd.R_mono (Kd.R_told (Kd.R_told (Kd.R_told (Kd.R_old (rl HO314.out) hb) (Kd.R_base ho0)) (Kd.R_base ho1)) (Kd.R_base ho2)) (fun _ h_ => h_.1))
        have n3_ := am (Kd.R_mono (Kd.R_told (Kd.R_told (Kd.R_told (Kd.R_old (rl HO317.out) hb) (Kd.R_base ho0)) (Kd.R_base ho1)) (Kd.R_base ho2)) (fun _ h_ => h_.1))
        have n4_ := am (Kd.R_mono (Kd.R_told (Kd.R_told (Kd.R_told (Kd.R_old (rl HO320.out) hb) (Kd.R_base ho0)) (Kd.R_base ho1)) (Kd.R_base ho2)) (fun _ h_ => h_.1))
        have n5_ := am (Kd.R_mono (Kd.R_told (Kd.R_told (Kd.R_told (Kd.R_old (rl HO323.out) hb) (Kd.R_base ho0)) (Kd.R_base ho1)) (Kd.R_base ho2)) (fun _ h_ => h_.1))
        have n6_ := am (Kd.R_mono (Kd.R_told (Kd.R_told (Kd.R_told (Kd.R_old (rl HO326.out) hb) (Kd.R_base ho0)) (Kd.R_base ho1)) (Kd.R_base ho2)) (fun _ h_ => h_.1))
        have n7_ := am (Kd.R_mono (Kd.R_told (Kd.R_told (Kd.R_told (Kd.R_old (rl HO330.out) hb) (Kd.R_base ho0)) (Kd.R_base ho1)) (Kd.R_base ho2)) (fun _ h_ => h_.1))
        have n8_ := am (Kd.R_lower (Kd.R_new' (Kd.R_new' (Kd.R_new' (Kd.R_new' (Kd.R_new' (Kd.R_new' (Kd.R_new' (Kd.R_new' ho0 (Kd.R_lt (rl HO308.out))) (Kd.R_lt (rl HO311.out))) (Kd.R_lt (rl HO314.out))) (Kd.R_lt (rl HO317.out))) (Kd.R_lt (rl HO320.out))) (Kd.R_lt (rl HO323.out))) (Kd.R_lt (rl HO326.out))) (Kd.R_lt (rl HO330.out))) (below_size (by repeat (first | (with_reducible first | exact HB.out | apply below_alloc | apply pw_below_drewN | apply below_drew1 | refine below_set ?_ GE304.out | refine below_set ?_ GE327.out) | exact HB.out))))
        have n9_ := am (Kd.R_lower (Kd.R_new' (Kd.R_new' (Kd.R_new' (Kd.R_new' (Kd.R_new' (Kd.R_new' (Kd.R_new' (Kd.R_new' ho1 (Kd.R_lt (rl HO308.out))) (Kd.R_lt (rl HO311.out))) (Kd.R_lt (rl HO314.out))) (Kd.R_lt (rl HO317.out))) (Kd.R_lt (rl HO320.out))) (Kd.R_lt (rl HO323.out))) (Kd.R_lt (rl HO326.out))) (Kd.R_lt (rl HO330.out))) (below_size (by repeat (first | (with_reducible first | exact HB.out | apply below_alloc | apply pw_below_drewN | apply below_drew1 | refine below_set ?_ GE304.out | refine below_set ?_ GE327.out) | exact HB.out))))
        have n10_ := am (Kd.R_lower (Kd.R_new' (Kd.R_new' (Kd.R_new' (Kd.R_new' (Kd.R_new' (Kd.R_new' (Kd.R_new' (Kd.R_new' ho2 (Kd.R_lt (rl HO308.out))) (Kd.R_lt (rl HO311.out))) (Kd.R_lt (rl HO314.out))) (Kd.R_lt (rl HO317.out))) (Kd.R_lt (rl HO320.out))) (Kd.R_lt (rl HO323.out))) (Kd.R_lt (rl HO326.out))) (Kd.R_lt (rl HO330.out))) (below_size (by repeat (first | (with_reducible first | exact HB.out | apply below_alloc | apply pw_below_drewN | apply below_drew1 | refine below_set ?_ GE304.out | refine below_set ?_ GE327.out) | exact HB.out))))
        have n11_ := am (blk_below (g := gb304) (o := .cells #[.slice A0_0 l0_0.length c0_0, .slice A0_1 l0_1.length c0_1, .slice A0_2 l0_2.length c0_2] 24 (0, 0)) (kl BK304.out) hb)
        have n12_ := am (blk_below (g := gb327) (o := .cells #[.slice Ao30 t318.length co30, .slice Ao33 t321.length co33, .slice Ao34 t324.length co34] 28 (0, 0)) (kl BK327.out) hb)
        have n13_ := am (below_step (by repeat (first | (with_reducible first | exact HB.out | apply below_alloc | apply pw_below_drewN | apply below_drew1 | refine below_set ?_ GE304.out | refine below_set ?_ GE327.out) | exact HB.out)) hb)
        clear HO308
        clear HO311
        clear HO314
        clear HO317
        clear HO320
        clear HO323
        clear HO326
        clear HO330
        clear BK304
        clear BK327
        clear HB
        have HO308 := n0_
        have HO311 := n1_
        have HO314 := n2_
        have HO317 := n3_
        have HO320 := n4_
        have HO323 := n5_
        have HO326 := n6_
        have HO330 := n7_
        have HO334 := n8_
        have HO337 := n9_
        have HO340 := n10_
        have BK304 := n11_
        have BK327 := n12_
        have HB := n13_
        clear n0_ n1_ n2_ n3_ n4_ n5_ n6_ n7_ n8_ n9_ n10_ n11_ n12_ n13_
        (try clear hb)
        (try clear hb2)
        (try clear hk)
        (try clear hi)
        (try clear ho0)
        (try clear ho1)
        (try clear ho2)
        obtain ⟨Ao40, co40, eo40⟩ := Kd.R_slice HO334.out
        (first | subst eo40 | (injection eo40 with f1_ f2_ f3_; have f4_ := f1_.symm; have f5_ := f3_.symm; clear f1_ f2_ f3_; subst f4_; subst f5_))
        obtain ⟨Ao41, co41, eo41⟩ := Kd.R_slice HO337.out
        (first | subst eo41 | (injection eo41 with f1_ f2_ f3_; have f4_ := f1_.symm; have f5_ := f3_.symm; clear f1_ f2_ f3_; subst f4_; subst f5_))
        obtain ⟨Ao42, co42, eo42⟩ := Kd.R_slice HO340.out
        (first | subst eo42 | (injection eo42 with f1_ f2_ f3_; have f4_ := f1_.symm; have f5_ := f3_.symm; clear f1_ f2_ f3_; subst f4_; subst f5_))
        refine hK.out _ _ ⟨(blk_cell BK327.out 0).trans rfl, (blk_cell BK327.out 1).trans rfl, (blk_cell BK327.out 2).trans rfl, (blk_cell BK304.out 0).trans rfl, (blk_cell BK304.out 1).trans rfl, (blk_cell BK304.out 2).trans rfl⟩ (fun hHeld => ?_)
        clear hK K
        refine norm_ (a' := ?_) ?_ ?_
        rotate_left
        · show Act.put _ (some 29) _ = _
          simp only [Act.put, List.setIfInBounds_toArray, List.set_cons_zero, List.set_cons_succ, i64_w, i32_w]
          rfl
        refine one_ (i := 3) (N := some 30) #[true, true, true, true, false] rfl rfl (by kernel_rfl) (by decide) (fun K hK => ?_)
        refine goes_ Try.func20 (by kernel_rfl) rfl #[.agg #[.slice Ao30 t318.length co30, .slice Ao33 t321.length co33, .slice Ao34 t324.length co34], .agg #[.slice Ao40 t332.length co40, .slice Ao41 t335.length co41, .slice Ao42 t338.length co42]] (by rfl) rfl rfl (by (try simp only [List.map_toArray, List.map_cons, List.map_nil]); first | done | rfl | (simp only [List.length_drop, List.length_take]; rfl)) ?_
        with_reducible refine (laws_eqHeap.calls k _ _ t318 _ _ t321 _ _ t324 _ _ t332 _ _ t335 _ _ t338 true _ ?side1 ?side2 ?side3 ?side4 ?side5 ?side6 ?side7 ?side8 ?side9 ?side10 ?side11 ?side12 A14.out).mono ?_
        (case side1 => repeat (first | exact (Kd.R_reads' HO320.out).2.2 | (with_reducible refine Kd.C_alloc ?_ _) | (with_reducible refine Kd.C_drewN ?_ _) | (with_reducible refine Kd.C_drew ?_)))
        (case side2 => exact (Kd.R_reads' HO320.out).2.1)
        (case side3 => repeat (first | exact (Kd.R_reads' HO323.out).2.2 | (with_reducible refine Kd.C_alloc ?_ _) | (with_reducible refine Kd.C_drewN ?_ _) | (with_reducible refine Kd.C_drew ?_)))
        (case side4 => exact (Kd.R_reads' HO323.out).2.1)
        (case side5 => repeat (first | exact (Kd.R_reads' HO326.out).2.2 | (with_reducible refine Kd.C_alloc ?_ _) | (with_reducible refine Kd.C_drewN ?_ _) | (with_reducible refine Kd.C_drew ?_)))
        (case side6 => exact (Kd.R_reads' HO326.out).2.1)
        (case side7 => repeat (first | exact (Kd.R_reads' HO334.out).2.2 | (with_reducible refine Kd.C_alloc ?_ _) | (with_reducible refine Kd.C_drewN ?_ _) | (with_reducible refine Kd.C_drew ?_)))
        (case side8 => exact (Kd.R_reads' HO334.out).2.1)
        (case side9 => repeat (first | exact (Kd.R_reads' HO337.out).2.2 | (with_reducible refine Kd.C_alloc ?_ _) | (with_reducible refine Kd.C_drewN ?_ _) | (with_reducible refine Kd.C_drew ?_)))
        (case side10 => exact (Kd.R_reads' HO337.out).2.1)
        (case side11 => repeat (first | exact (Kd.R_reads' HO340.out).2.2 | (with_reducible refine Kd.C_alloc ?_ _) | (with_reducible refine Kd.C_drewN ?_ _) | (with_reducible refine Kd.C_drew ?_)))
        (case side12 => exact (Kd.R_reads' HO340.out).2.1)
        rintro e w43 ⟨rfl, hb⟩
        refine ⟨_, rfl, ?_⟩
        have n0_ := am (Kd.R_below (rl HO308.out) hb)
        have n1_ := am (Kd.R_below (rl HO311.out) hb)
        have n2_ := am (Kd.R_below (rl HO314.out) hb)
        have n3_ := am (Kd.R_below (rl HO317.out) hb)
        have n4_ := am (Kd.R_below (rl HO320.out) hb)
        have n5_ := am (Kd.R_below (rl HO323.out) hb)
        have n6_ := am (Kd.R_below (rl HO326.out) hb)
        have n7_ := am (Kd.R_below (rl HO330.out) hb)
        have n8_ := am (Kd.R_below (rl HO334.out) hb)
        have n9_ := am (Kd.R_below (rl HO337.out) hb)
        have n10_ := am (Kd.R_below (rl HO340.out) hb)
        have n11_ := am (blk_below (g := gb304) (o := .cells #[.slice A0_0 l0_0.length c0_0, .slice A0_1 l0_1.length c0_1, .slice A0_2 l0_2.length c0_2] 24 (0, 0)) (kl BK304.out) hb)
        have n12_ := am (blk_below (g := gb327) (o := .cells #[.slice Ao30 t318.length co30, .slice Ao33 t321.length co33, .slice Ao34 t324.length co34] 28 (0, 0)) (kl BK327.out) hb)
        have n13_ := am (below_step (by repeat (first | (with_reducible first | exact HB.out | apply below_alloc | apply pw_below_drewN | apply below_drew1 | refine below_set ?_ GE304.out | refine below_set ?_ GE327.out) | exact HB.out)) hb)
        clear HO308
        clear HO311
        clear HO314
        clear HO317
        clear HO320
        clear HO323
        clear HO326
        clear HO330
        clear HO334
        clear HO337
        clear HO340
        clear BK304
        clear BK327
        clear HB
        have HO308 := n0_
        have HO311 := n1_
        have HO314 := n2_
        have HO317 := n3_
        have HO320 := n4_
        have HO323 := n5_
        have HO326 := n6_
        have HO330 := n7_
        have HO334 := n8_
        have HO337 := n9_
        have HO340 := n10_
        have BK304 := n11_
        have BK327 := n12_
        have HB := n13_
        clear n0_ n1_ n2_ n3_ n4_ n5_ n6_ n7_ n8_ n9_ n10_ n11_ n12_ n13_
        (try clear hb)
        (try clear hb2)
        (try clear hk)
        (try clear hi)
        refine hK.out _ _ ⟨(blk_cell BK327.out 0).trans rfl, (blk_cell BK327.out 1).trans rfl, (blk_cell BK327.out 2).trans rfl, (blk_cell BK304.out 0).trans rfl, (blk_cell BK304.out 1).trans rfl, (blk_cell BK304.out 2).trans rfl⟩ (fun hHeld => ?_)
        clear hK K
        refine norm_ (a' := ?_) ?_ ?_
        rotate_left
        · show Act.put _ (some 30) _ = _
          simp only [Act.put, List.setIfInBounds_toArray, List.set_cons_zero, List.set_cons_succ, i64_w, i32_w]
          rfl
        refine pure_ (i := 4) (N := some 31) (v := ?_) (a' := ?_) #[true, true, true, true, true] rfl rfl (by kernel_rfl) (fun _ _ _ h => h) (Or.inl ⟨by rfl, ?_⟩) ?_ ?_
        rotate_left
        · intro w'
          go_simp
          with_reducible rfl
        rotate_left
        · simp only [Act.put, List.setIfInBounds_toArray, List.set_cons_zero, List.set_cons_succ, i64_w, i32_w]
          rfl
        refine done_ (by kernel_rfl) ?_
        have hcz44_0 : w43.cell? ⟨gb327, 0, none⟩ = some (.slice Ao30 t318.length co30) := (blk_cell BK327.out 0).trans rfl
        have hcz44_1 : w43.cell? ⟨gb327, 1, none⟩ = some (.slice Ao33 t321.length co33) := (blk_cell BK327.out 1).trans rfl
        have hcz44_2 : w43.cell? ⟨gb327, 2, none⟩ = some (.slice Ao34 t324.length co34) := (blk_cell BK327.out 2).trans rfl
        have hfz44_0 := blk_frozen BK327.out 0
        have hfz44_1 := blk_frozen BK327.out 1
        have hfz44_2 := blk_frozen BK327.out 2
        go_upto_region 14 with (first | ((with_reducible refine gate_callee (f := 21) rfl ?_); refine goesL_ (some 34) rfl rfl Try.func21 (by kernel_rfl) rfl #[.agg #[.slice Ao30 t318.length co30, .slice Ao33 t321.length co33, .slice Ao34 t324.length co34], .int .i64 1] rfl (by (try simp only [List.map_toArray, List.map_cons, List.map_nil]); first | done | rfl | (simp only [List.length_drop, List.length_take]; rfl)) ?_; (with_reducible refine (laws_markHeap.calls k (fun k_ => some k_ = (.slice Ao30 t318.length co30 : Value).ownBlock) (.slice Ao30 t318.length co30) t318 (fun k_ => some k_ = (.slice Ao33 t321.length co33 : Value).ownBlock) (.slice Ao33 t321.length co33) t321 (fun k_ => some k_ = (.slice Ao34 t324.length co34 : Value).ownBlock) (.slice Ao34 t324.length co34) t324 1 t342 t343 t344 t345 w _ ?side1 ?side2 ?side3 ?side4 ?side5 ?side6 ?side7 ?side8 ?side9 ?side10 A16.out).mono ?_); (case side1 => repeat (first | (with_reducible first | exact HB.out | apply below_alloc | apply pw_below_drewN | apply below_drew1 | refine below_set ?_ GE304.out | refine below_set ?_ GE327.out) | exact HB.out)); (case side2 => exact Kd.R_tight rfl HO320.out); (case side3 => exact fun k_ e_ => by have z_ := HO320.out.1 k_ e_.symm; simp only [ne_eq] at z_; simp only [z_, not_false_eq_true]); (case side4 => exact fun k_ e_ => by have z_ := HO320.out.1 k_ e_.symm; simp only [ne_eq] at z_; simp only [z_, not_false_eq_true]); (case side5 => exact Kd.R_tight rfl HO323.out); (case side6 => exact fun k_ e_ => by have z_ := HO323.out.1 k_ e_.symm; simp only [ne_eq] at z_; simp only [z_, not_false_eq_true]); (case side7 => exact fun k_ e_ => by have z_ := HO323.out.1 k_ e_.symm; simp only [ne_eq] at z_; simp only [z_, not_false_eq_true]); (case side8 => exact Kd.R_tight rfl HO326.out); (case side9 => exact fun k_ e_ => by have z_ := HO326.out.1 k_ e_.symm; simp only [ne_eq] at z_; simp only [z_, not_false_eq_true]); (case side10 => exact fun k_ e_ => by have z_ := HO326.out.1 k_ e_.symm; simp only [ne_eq] at z_; simp only [z_, not_false_eq_true]); rintro e w45 ⟨rfl, hy0, hy1, hy2, hb, hkp⟩; refine ⟨_, rfl, ?_⟩; have n0_ := am (blk_kept (kl BK304.out) hkp (fun hs_ => Or.elim hs_ (fun e_ => (fun e_ => (Kd.R_ne HO320.out BK304.out (by decide)) e_) e_) (fun e_ => Or.elim e_ (fun e_ => (fun e_ => (Kd.R_ne HO323.out BK304.out (by decide)) e_) e_) (fun e_ => (fun e_ => (Kd.R_ne HO326.out BK304.out (by decide)) e_) e_)))); have n1_ := am (Kd.R_kept (HO308.out) hkp (fun k_ hk_ hs_ => by simp only [ne_eq] at hk_; simp only [hk_, or_self] at hs_)); have n2_ := am (Kd.R_kept (HO311.out) hkp (fun k_ hk_ hs_ => by simp only [ne_eq] at hk_; simp only [hk_, or_self] at hs_)); have n3_ := am (Kd.R_kept (HO314.out) hkp (fun k_ hk_ hs_ => by simp only [ne_eq] at hk_; simp only [hk_, or_self] at hs_)); have n4_ := am (Kd.R_kept (HO317.out) hkp (fun k_ hk_ hs_ => by simp only [ne_eq] at hk_; simp only [hk_, or_self] at hs_)); have n5_ := am (Kd.R_reok rfl hy0 (fun k_ e_ => HO320.out.1 k_ e_)); have n6_ := am (Kd.R_reok rfl hy1 (fun k_ e_ => HO323.out.1 k_ e_)); have n7_ := am (Kd.R_reok rfl hy2 (fun k_ e_ => HO326.out.1 k_ e_)); have n8_ := am (blk_kept (kl BK327.out) hkp (fun hs_ => Or.elim hs_ (fun e_ => (fun e_ => (Kd.R_ne HO320.out BK327.out (by decide)) e_) e_) (fun e_ => Or.elim e_ (fun e_ => (fun e_ => (Kd.R_ne HO323.out BK327.out (by decide)) e_) e_) (fun e_ => (fun e_ => (Kd.R_ne HO326.out BK327.out (by decide)) e_) e_)))); have n9_ := am (Kd.R_kept (HO330.out) hkp (fun k_ hk_ hs_ => by simp only [ne_eq] at hk_; simp only [hk_, or_self] at hs_)); have n10_ := am (Kd.R_kept (HO334.out) hkp (fun k_ hk_ hs_ => by simp only [ne_eq] at hk_; simp only [hk_, or_self] at hs_)); have n11_ := am (Kd.R_kept (HO337.out) hkp (fun k_ hk_ hs_ => by simp only [ne_eq] at hk_; simp only [hk_, or_self] at hs_)); have n12_ := am (Kd.R_kept (HO340.out) hkp (fun k_ hk_ hs_ => by simp only [ne_eq] at hk_; simp only [hk_, or_self] at hs_)); have n13_ := am (hb); clear BK304; clear HO308; clear HO311; clear HO314; clear HO317; clear HO320; clear HO323; clear HO326; clear BK327; clear HO330; clear HO334; clear HO337; clear HO340; clear HB; have BK304 := n0_; have HO308 := n1_; have HO311 := n2_; have HO314 := n3_; have HO317 := n4_; have HO320 := n5_; have HO323 := n6_; have HO326 := n7_; have BK327 := n8_; have HO330 := n9_; have HO334 := n10_; have HO337 := n11_; have HO340 := n12_; have HB := n13_; clear n0_ n1_ n2_ n3_ n4_ n5_ n6_ n7_ n8_ n9_ n10_ n11_ n12_ n13_; (try clear hb); (try clear hkp); (try clear hy0); (try clear hy1); (try clear hy2)))
        (try simp only [Act.put, List.setIfInBounds_toArray, List.set_cons_zero, List.set_cons_succ])
        go_cut [42] (fun v42 wc => ∃ (kq : Nat) (x42_16 : Bool), v42 = .bool x42_16 ∧ Aside0 (laws_FnExactGarbageOf.j0 kq t315 t328 x42_16 l0_0 l0_1 l0_2 = some r) ∧ Aside0 (kq ≤ k) ∧ Aside0 (Kd.R (Kd.int .i64) 3 wc w.heap.size (fun k_ => some k_ ≠ ((.slice Ao36 t328.length co36) : Value).ownBlock) (.slice Ao37 t315.length co37) t315) ∧ Aside0 (Kd.R (Kd.int .i64) 3 wc w.heap.size (fun k_ => some k_ ≠ ((.slice Ao37 t315.length co37) : Value).ownBlock) (.slice Ao36 t328.length co36) t328) ∧ Aside0 (wc.heap[gb304]? = some (.cells #[(.slice A0_0 l0_0.length c0_0), (.slice A0_1 l0_1.length c0_1), (.slice A0_2 l0_2.length c0_2)] 24 (0, 0))) ∧ Aside0 (Below w.heap.size w wc))
        case first =>
          have H := HC17.out
          clear HC17
          by_cases c46 : t342 < 0
          · rw [if_pos c46] at H
            have c46b0 : decide (t342 < 0) = true := decide_eq_true c46
            clear c46
            (first | rw [c46b0] | (simp only [i64_w, i32_w]; rw [c46b0]) | skip)
            have H' := am H
            clear H
            go_wp2
            go_meet
            case rel => exact ⟨_, (true), (by first | rfl | (simp; done) | (simp [*]; done)), H', ⟨by first | omega | exact Nat.le_refl _⟩, ⟨rl (Kd.R_mono HO317.out (fun _ hk => by first | exact hk.2.2.2.2.2.2.1 | (simp only [ne_eq] at hk ⊢; simp only [hk, not_false_eq_true, and_self])))⟩, ⟨rl (Kd.R_mono HO330.out (fun _ hk => by first | exact hk.2.2.2.1 | (simp only [ne_eq] at hk ⊢; simp only [hk, not_false_eq_true, and_self])))⟩, ⟨kl BK304.out⟩, ⟨by repeat (first | (with_reducible first | exact HB.out | apply below_alloc | apply pw_below_drewN | apply below_drew1 | refine below_set ?_ GE304.out | refine below_set ?_ GE327.out) | exact HB.out)⟩⟩
          · rw [if_neg c46] at H
            have c46b0 : decide (t342 < 0) = false := decide_eq_false c46
            clear c46
            (first | rw [c46b0] | (simp only [i64_w, i32_w]; rw [c46b0]) | skip)
            replace H := Option.bind_eq_some_iff.mp H
            obtain ⟨t346, A470, H⟩ := H
            replace H : (laws_FnExactGarbageOf.j0 k t315 t328 (!t346) l0_0 l0_1 l0_2) = some r := H
            have A47 := am A470
            clear A470
            have H' := am H
            clear H
            go_wp2_with (first | (go_at_call 26; (with_reducible refine (laws_eqIntS.calls k _ _ t328 _ _ t315 t346 _ ?side1 ?side2 ?side3 ?side4 A47.out).mono ?_); (case side1 => repeat (first | exact (Kd.R_reads' HO330.out).2.2 | (with_reducible refine Kd.C_alloc ?_ _) | (with_reducible refine Kd.C_drewN ?_ _) | (with_reducible refine Kd.C_drew ?_))); (case side2 => exact (Kd.R_reads' HO330.out).2.1); (case side3 => repeat (first | exact (Kd.R_reads' HO317.out).2.2 | (with_reducible refine Kd.C_alloc ?_ _) | (with_reducible refine Kd.C_drewN ?_ _) | (with_reducible refine Kd.C_drew ?_))); (case side4 => exact (Kd.R_reads' HO317.out).2.1); rintro e w' ⟨rfl, ⟨nd, rfl⟩⟩))
            go_meet
            case rel => exact ⟨_, (!t346), (by first | rfl | (simp; done) | (simp [*]; done)), H', ⟨by first | omega | exact Nat.le_refl _⟩, ⟨rl (Kd.R_mono HO317.out (fun _ hk => by first | exact hk.2.2.2.2.2.2.1 | (simp only [ne_eq] at hk ⊢; simp only [hk, not_false_eq_true, and_self])))⟩, ⟨rl (Kd.R_mono HO330.out (fun _ hk => by first | exact hk.2.2.2.1 | (simp only [ne_eq] at hk ⊢; simp only [hk, not_false_eq_true, and_self])))⟩, ⟨kl BK304.out⟩, ⟨by repeat (first | (with_reducible first | exact HB.out | apply below_alloc | apply pw_below_drewN | apply below_drew1 | refine below_set ?_ GE304.out | refine below_set ?_ GE327.out) | exact HB.out)⟩⟩
        case rest =>
          clear HC17
          try clear c1
          try clear c2
          try clear p2
          try clear c3
          try clear c3b0
          try clear c4
          try clear c12
          try clear c15
          try clear c17
          try clear c20
          try clear c21
          try clear c24
          try clear c25
          try clear c26
          try clear c31
          try clear c46
          try clear c46b0
          try clear hcz19_0
          try clear hcz19_1
          try clear hcz19_2
          try clear hcz21_0
          try clear hcz21_1
          try clear hcz21_2
          try clear hcz27_0
          try clear hcz27_1
          try clear hcz27_2
          try clear hcz32_0
          try clear hcz32_1
          try clear hcz32_2
          try clear hcz44_0
          try clear hcz44_1
          try clear hcz44_2
          try clear hcz5_0
          try clear hcz5_1
          try clear hcz5_2
          try clear hfz19_0
          try clear hfz19_1
          try clear hfz19_2
          try clear hfz21_0
          try clear hfz21_1
          try clear hfz21_2
          try clear hfz27_0
          try clear hfz27_1
          try clear hfz27_2
          try clear hfz32_0
          try clear hfz32_1
          try clear hfz32_2
          try clear hfz44_0
          try clear hfz44_1
          try clear hfz44_2
          try clear hfz5_0
          try clear hfz5_1
          try clear hfz5_2
          obtain ⟨kq, x42_16, rfl, HA, HJ16, HO_4, HO_6, BK304, HB⟩ := hcut
          cases kq with
          | zero => exact absurd HA.out (by simp [laws_FnExactGarbageOf.j0])
          | succ kj16 =>
            have H := HA.out
            clear HA
            simp only [laws_FnExactGarbageOf.j0] at H
            by_cases c48 : x42_16 = true
            · subst c48
              have H1 : (none) = some r := by rw [if_pos rfl] at H; exact H
              clear H
              have H := H1
              clear H1
              exact absurd H (by simp)
            · replace c48 := Bool.eq_false_iff.mpr c48
              subst c48
              have H1 : ((laws_markIntS.f kj16 t328 1).bind fun bt347 => ((laws_heldIntS.f kj16 bt347.2 1).bind fun t349 => (if t349 < 0 then (none) else (if t349 = bt347.1 then ((laws_toHeap.f kj16 l0_0 l0_1 l0_2).bind fun bt350 => ((impl_GarbageOf.f kj16 bt350.1 bt350.2.1 bt350.2.2).bind fun t359 => ((laws_eqIntS.f kj16 t359 t315).bind fun t362 => (if t362 = true then ((laws_heldIntS.f kj16 bt347.2 1).bind fun t363 => (if t363 < 0 then (none) else (if t363 = bt347.1 then (some true) else (none)))) else (none))))) else (none))))) = some r := by rw [if_neg (show ¬ (false = true) by decide)] at H; exact H
              clear H
              have H := H1
              clear H1
              replace H := Option.bind_eq_some_iff.mp H
              obtain ⟨⟨t347, t348⟩, A490, H⟩ := H
              replace H : ((laws_heldIntS.f kj16 t348 1).bind fun t349 => (if t349 < 0 then (none) else (if t349 = t347 then ((laws_toHeap.f kj16 l0_0 l0_1 l0_2).bind fun bt350 => ((impl_GarbageOf.f kj16 bt350.1 bt350.2.1 bt350.2.2).bind fun t359 => ((laws_eqIntS.f kj16 t359 t315).bind fun t362 => (if t362 = true then ((laws_heldIntS.f kj16 t348 1).bind fun t363 => (if t363 < 0 then (none) else (if t363 = t347 then (some true) else (none)))) else (none))))) else (none)))) = some r := H
              have A49 := am A490
              clear A490
              replace H := Option.bind_eq_some_iff.mp H
              obtain ⟨t349, A500, H⟩ := H
              replace H : (if t349 < 0 then (none) else (if t349 = t347 then ((laws_toHeap.f kj16 l0_0 l0_1 l0_2).bind fun bt350 => ((impl_GarbageOf.f kj16 bt350.1 bt350.2.1 bt350.2.2).bind fun t359 => ((laws_eqIntS.f kj16 t359 t315).bind fun t362 => (if t362 = true then ((laws_heldIntS.f kj16 t348 1).bind fun t363 => (if t363 < 0 then (none) else (if t363 = t347 then (some true) else (none)))) else (none))))) else (none))) = some r := H
              have A50 := am A500
              clear A500
              by_cases c51 : t349 < 0
              · rw [if_pos c51] at H
                exact absurd H (by simp)
              · rw [if_neg c51] at H
                have c51b0 : decide (t349 < 0) = false := decide_eq_false c51
                clear c51
                by_cases c52 : t349 = t347
                · rw [if_pos c52] at H
                  have c52b0 : (t349 == t347) = true := beq_iff_eq.mpr c52
                  have c52b1 : (t349 != t347) = false := bne_eq_false_iff_eq.mpr c52
                  clear c52
                  replace H := Option.bind_eq_some_iff.mp H
                  obtain ⟨⟨t350, t353, t356⟩, A530, H⟩ := H
                  replace H : ((impl_GarbageOf.f kj16 t350 t353 t356).bind fun t359 => ((laws_eqIntS.f kj16 t359 t315).bind fun t362 => (if t362 = true then ((laws_heldIntS.f kj16 t348 1).bind fun t363 => (if t363 < 0 then (none) else (if t363 = t347 then (some true) else (none)))) else (none)))) = some r := H
                  have A53 := am A530
                  clear A530
                  replace H := Option.bind_eq_some_iff.mp H
                  obtain ⟨t359, A540, H⟩ := H
                  replace H : ((laws_eqIntS.f kj16 t359 t315).bind fun t362 => (if t362 = true then ((laws_heldIntS.f kj16 t348 1).bind fun t363 => (if t363 < 0 then (none) else (if t363 = t347 then (some true) else (none)))) else (none))) = some r := H
                  have A54 := am A540
                  clear A540
                  replace H := Option.bind_eq_some_iff.mp H
                  obtain ⟨t362, A550, H⟩ := H
                  replace H : (if t362 = true then ((laws_heldIntS.f kj16 t348 1).bind fun t363 => (if t363 < 0 then (none) else (if t363 = t347 then (some true) else (none)))) else (none)) = some r := H
                  have A55 := am A550
                  clear A550
                  by_cases c56 : t362 = true
                  · subst c56
                    have H1 : ((laws_heldIntS.f kj16 t348 1).bind fun t363 => (if t363 < 0 then (none) else (if t363 = t347 then (some true) else (none)))) = some r := by rw [if_pos rfl] at H; exact H
                    clear H
                    have H := H1
                    clear H1
                    replace H := Option.bind_eq_some_iff.mp H
                    obtain ⟨t363, A570, H⟩ := H
                    replace H : (if t363 < 0 then (none) else (if t363 = t347 then (some true) else (none))) = some r := H
                    have A57 := am A570
                    clear A570
                    by_cases c58 : t363 < 0
                    · rw [if_pos c58] at H
                      exact absurd H (by simp)
                    · rw [if_neg c58] at H
                      have c58b0 : decide (t363 < 0) = false := decide_eq_false c58
                      clear c58
                      by_cases c59 : t363 = t347
                      · rw [if_pos c59] at H
                        have c59b0 : (t363 == t347) = true := beq_iff_eq.mpr c59
                        have c59b1 : (t363 != t347) = false := bne_eq_false_iff_eq.mpr c59
                        clear c59
                        obtain rfl := Option.some.inj H
                        go_wp2_with (first | ((with_reducible refine gate_callee (f := 27) rfl ?_); refine goesL_ (some 45) rfl rfl Try.func27 (by kernel_rfl) rfl #[.slice Ao36 t328.length co36, .int .i64 1] rfl (by (try simp only [List.map_toArray, List.map_cons, List.map_nil]); first | done | rfl | (simp only [List.length_drop, List.length_take]; rfl)) ?_; (with_reducible refine (laws_markIntS.calls kj16 (fun k_ => some k_ = (.slice Ao36 t328.length co36 : Value).ownBlock) (.slice Ao36 t328.length co36) t328 1 t347 t348 w _ ?side1 ?side2 A49.out).mono ?_); (case side1 => repeat (first | (with_reducible first | exact HB.out | apply below_alloc | apply pw_below_drewN | apply below_drew1 | refine below_set ?_ GE304.out) | exact HB.out)); (case side2 => exact Kd.R_tight rfl HO_6.out); rintro e w60 ⟨rfl, hy0, hb, hkp⟩; refine ⟨_, rfl, ?_⟩; have n0_ := am (Kd.R_kept (HO_4.out) hkp (fun k_ hk_ hs_ => (hk_) hs_)); have n1_ := am (Kd.R_reok rfl hy0 (fun k_ e_ => HO_6.out.1 k_ e_)); have n2_ := am (blk_kept (kl BK304.out) hkp (fun hs_ => (fun e_ => (Kd.R_ne HO_6.out BK304.out (by decide)) e_) hs_)); have n3_ := am (hb); clear HO_4; clear HO_6; clear BK304; clear HB; have HO_4 := n0_; have HO_6 := n1_; have BK304 := n2_; have HB := n3_; clear n0_ n1_ n2_ n3_; (try clear hb); (try clear hkp); (try clear hy0)) | ((with_reducible refine gate_callee (f := 28) rfl ?_); refine goesL_ (some 48) rfl rfl Try.func28 (by kernel_rfl) rfl #[.slice Ao36 t348.length co36, .int .i64 1] rfl (by (try simp only [List.map_toArray, List.map_cons, List.map_nil]); first | done | (rw [show t348.length = t328.length from (Kd.R_reads' HO_6.out).1.symm] <;> rfl) | rfl | (simp only [List.length_drop, List.length_take]; rfl)) ?_; (with_reducible refine (laws_heldIntS.calls kj16 _ _ t348 1 t349 _ ?side1 ?side2 A50.out).mono ?_); (case side1 => repeat (first | exact (Kd.R_reads' HO_6.out).2.2 | (with_reducible refine Kd.C_alloc ?_ _) | (with_reducible refine Kd.C_drewN ?_ _) | (with_reducible refine Kd.C_drew ?_))); (case side2 => rw [show t348.length = t328.length from (Kd.R_reads' HO_6.out).1.symm]; exact (Kd.R_reads' HO_6.out).2.1); rintro e w' ⟨rfl, ⟨nd, rfl⟩⟩; refine ⟨_, rfl, ?_⟩; have hcz61_0 : w60.cell? ⟨gb304, 0, none⟩ = some (.slice A0_0 l0_0.length c0_0) := (blk_cell BK304.out 0).trans rfl; have hcz61_1 : w60.cell? ⟨gb304, 1, none⟩ = some (.slice A0_1 l0_1.length c0_1) := (blk_cell BK304.out 1).trans rfl; have hcz61_2 : w60.cell? ⟨gb304, 2, none⟩ = some (.slice A0_2 l0_2.length c0_2) := (blk_cell BK304.out 2).trans rfl; have hfz61_0 := blk_frozen BK304.out 0; have hfz61_1 := blk_frozen BK304.out 1; have hfz61_2 := blk_frozen BK304.out 2) | ((with_reducible refine gate_callee (f := 17) rfl ?_); refine goesL_ (some 55) rfl rfl Try.func17 (by kernel_rfl) rfl #[.agg #[.slice A0_0 l0_0.length c0_0, .slice A0_1 l0_1.length c0_1, .slice A0_2 l0_2.length c0_2]] rfl (by (try simp only [List.map_toArray, List.map_cons, List.map_nil]); first | done | rfl | (simp only [List.length_drop, List.length_take]; rfl)) ?_; (with_reducible refine (laws_toHeap.calls kj16 _ _ l0_0 _ _ l0_1 _ _ l0_2 t350 t353 t356 _ ?side1 ?side2 ?side3 ?side4 ?side5 ?side6 A53.out).mono ?_); (case side1 => repeat (first | exact (Kd.C_below HR0_0.out (by repeat (first | (with_reducible first | exact HB.out | apply below_alloc | apply pw_below_drewN | apply below_drew1 | refine below_set ?_ GE304.out) | exact HB.out))) | (with_reducible refine Kd.C_alloc ?_ _) | (with_reducible refine Kd.C_drewN ?_ _) | (with_reducible refine Kd.C_drew ?_))); (case side2 => exact HC0_0.out); (case side3 => repeat (first | exact (Kd.C_below HR0_1.out (by repeat (first | (with_reducible first | exact HB.out | apply below_alloc | apply pw_below_drewN | apply below_drew1 | refine below_set ?_ GE304.out) | exact HB.out))) | (with_reducible refine Kd.C_alloc ?_ _) | (with_reducible refine Kd.C_drewN ?_ _) | (with_reducible refine Kd.C_drew ?_))); (case side4 => exact HC0_1.out); (case side5 => repeat (first | exact (Kd.C_below HR0_2.out (by repeat (first | (with_reducible first | exact HB.out | apply below_alloc | apply pw_below_drewN | apply below_drew1 | refine below_set ?_ GE304.out) | exact HB.out))) | (with_reducible refine Kd.C_alloc ?_ _) | (with_reducible refine Kd.C_drewN ?_ _) | (with_reducible refine Kd.C_drew ?_))); (case side6 => exact HC0_2.out); rintro e w62 ⟨v351, v354, v357, rfl, ho0, ho1, ho2, hb⟩; refine ⟨_, rfl, ?_⟩; have n0_ := am (Kd.R_mono (Kd.R_told (Kd.R_told (Kd.R_told (Kd.R_old (rl HO_4.out) hb) (Kd.R_base ho0)) (Kd.R_base ho1)) (Kd.R_base ho2)) (fun _ h_ => h_.1)); have n1_ := am (Kd.R_mono (Kd.R_told (Kd.R_told (Kd.R_told (Kd.R_old (rl HO_6.out) hb) (Kd.R_base ho0)) (Kd.R_base ho1)) (Kd.R_base ho2)) (fun _ h_ => h_.1)); have n2_ := am (Kd.R_lower (Kd.R_new' (Kd.R_new' ho0 (Kd.R_lt (rl HO_4.out))) (Kd.R_lt (rl HO_6.out))) (below_size (by repeat (first | (with_reducible first | exact HB.out | apply below_alloc | apply pw_below_drewN | apply below_drew1 | refine below_set ?_ GE304.out) | exact HB.out)))); have n3_ := am (Kd.R_lower (Kd.R_new' (Kd.R_new' ho1 (Kd.R_lt (rl HO_4.out))) (Kd.R_lt (rl HO_6.out))) (below_size (by repeat (first | (with_reducible first | exact HB.out | apply below_alloc | apply pw_below_drewN | apply below_drew1 | refine below_set ?_ GE304.out) | exact HB.out)))); have n4_ := am (Kd.R_lower (Kd.R_new' (Kd.R_new' ho2 (Kd.R_lt (rl HO_4.out))) (Kd.R_lt (rl HO_6.out))) (below_size (by repeat (first | (with_reducible first | exact HB.out | apply below_alloc | apply pw_below_drewN | apply below_drew1 | refine below_set ?_ GE304.out) | exact HB.out)))); have n5_ := am (blk_below (g := gb304) (o := .cells #[.slice A0_0 l0_0.length c0_0, .slice A0_1 l0_1.length c0_1, .slice A0_2 l0_2.length c0_2] 24 (0, 0)) (kl BK304.out) hb); have n6_ := am (below_step (by repeat (first | (with_reducible first | exact HB.out | apply below_alloc | apply pw_below_drewN | apply below_drew1 | refine below_set ?_ GE304.out) | exact HB.out)) hb); clear HO_4; clear HO_6; clear BK304; clear HB; have HO_4 := n0_; have HO_6 := n1_; have HO352 := n2_; have HO355 := n3_; have HO358 := n4_; have BK304 := n5_; have HB := n6_; clear n0_ n1_ n2_ n3_ n4_ n5_ n6_; (try clear hb); (try clear hb2); (try clear hk); (try clear hi); (try clear ho0); (try clear ho1); (try clear ho2); obtain ⟨Ao63, co63, eo63⟩ := Kd.R_slice HO352.out; subst eo63; obtain ⟨Ao64, co64, eo64⟩ := Kd.R_slice HO355.out; subst eo64; obtain ⟨Ao65, co65, eo65⟩ := Kd.R_slice HO358.out; subst eo65) | ((with_reducible refine gate_callee (f := 25) rfl ?_); refine goesL_ (some 56) rfl rfl Try.func25 (by kernel_rfl) rfl #[.agg #[.slice Ao63 t350.length co63, .slice Ao64 t353.length co64, .slice Ao65 t356.length co65]] rfl (by (try simp only [List.map_toArray, List.map_cons, List.map_nil]); first | done | rfl | (simp only [List.length_drop, List.length_take]; rfl)) ?_; (with_reducible refine (impl_GarbageOf.calls kj16 _ _ t350 _ _ t353 _ _ t356 t359 _ ?side1 ?side2 ?side3 ?side4 ?side5 ?side6 A54.out).mono ?_); (case side1 => repeat (first | exact (Kd.R_reads' HO352.out).2.2 | (with_reducible refine Kd.C_alloc ?_ _) | (with_reducible refine Kd.C_drewN ?_ _) | (with_reducible refine Kd.C_drew ?_))); (case side2 => exact (Kd.R_reads' HO352.out).2.1); (case side3 => repeat (first | exact (Kd.R_reads' HO355.out).2.2 | (with_reducible refine Kd.C_alloc ?_ _) | (with_reducible refine Kd.C_drewN ?_ _) | (with_reducible refine Kd.C_drew ?_))); (case side4 => exact (Kd.R_reads' HO355.out).2.1); (case side5 => repeat (first | exact (Kd.R_reads' HO358.out).2.2 | (with_reducible refine Kd.C_alloc ?_ _) | (with_reducible refine Kd.C_drewN ?_ _) | (with_reducible refine Kd.C_drew ?_))); (case side6 => exact (Kd.R_reads' HO358.out).2.1); rintro e w66 ⟨v360, rfl, ho0, hb⟩; refine ⟨_, rfl, ?_⟩; have n0_ := am (Kd.R_elder' (rl HO_4.out) (Kd.R_base ho0) hb); have n1_ := am (Kd.R_elder' (rl HO_6.out) (Kd.R_base ho0) hb); have n2_ := am (Kd.R_elder' (rl HO352.out) (Kd.R_base ho0) hb); have n3_ := am (Kd.R_elder' (rl HO355.out) (Kd.R_base ho0) hb); have n4_ := am (Kd.R_elder' (rl HO358.out) (Kd.R_base ho0) hb); have n5_ := am (Kd.R_lower (Kd.R_new' (Kd.R_new' (Kd.R_new' (Kd.R_new' (Kd.R_new' ho0 (Kd.R_lt (rl HO_4.out))) (Kd.R_lt (rl HO_6.out))) (Kd.R_lt (rl HO352.out))) (Kd.R_lt (rl HO355.out))) (Kd.R_lt (rl HO358.out))) (below_size (by repeat (first | (with_reducible first | exact HB.out | apply below_alloc | apply pw_below_drewN | apply below_drew1 | refine below_set ?_ GE304.out) | exact HB.out)))); have n6_ := am (blk_below (g := gb304) (o := .cells #[.slice A0_0 l0_0.length c0_0, .slice A0_1 l0_1.length c0_1, .slice A0_2 l0_2.length c0_2] 24 (0, 0)) (kl BK304.out) hb); have n7_ := am (below_step (by repeat (first | (with_reducible first | exact HB.out | apply below_alloc | apply pw_below_drewN | apply below_drew1 | refine below_set ?_ GE304.out) | exact HB.out)) hb); clear HO_4; clear HO_6; clear HO352; clear HO355; clear HO358; clear BK304; clear HB; have HO_4 := n0_; have HO_6 := n1_; have HO352 := n2_; have HO355 := n3_; have HO358 := n4_; have HO361 := n5_; have BK304 := n6_; have HB := n7_; clear n0_ n1_ n2_ n3_ n4_ n5_ n6_ n7_; (try clear hb); (try clear hb2); (try clear hk); (try clear hi); (try clear ho0); obtain ⟨Ao67, co67, eo67⟩ := Kd.R_slice HO361.out; subst eo67) | ((with_reducible refine gate_callee (f := 26) rfl ?_); refine goesL_ (some 59) rfl rfl Try.func26 (by kernel_rfl) rfl #[.slice Ao67 t359.length co67, .slice Ao37 t315.length co37] rfl (by (try simp only [List.map_toArray, List.map_cons, List.map_nil]); first | done | rfl | (simp only [List.length_drop, List.length_take]; rfl)) ?_; (with_reducible refine (laws_eqIntS.calls kj16 _ _ t359 _ _ t315 true _ ?side1 ?side2 ?side3 ?side4 A55.out).mono ?_); (case side1 => repeat (first | exact (Kd.R_reads' HO361.out).2.2 | (with_reducible refine Kd.C_alloc ?_ _) | (with_reducible refine Kd.C_drewN ?_ _) | (with_reducible refine Kd.C_drew ?_))); (case side2 => exact (Kd.R_reads' HO361.out).2.1); (case side3 => repeat (first | exact (Kd.R_reads' HO_4.out).2.2 | (with_reducible refine Kd.C_alloc ?_ _) | (with_reducible refine Kd.C_drewN ?_ _) | (with_reducible refine Kd.C_drew ?_))); (case side4 => exact (Kd.R_reads' HO_4.out).2.1); rintro e w' ⟨rfl, ⟨nd, rfl⟩⟩; refine ⟨_, rfl, ?_⟩) | ((with_reducible refine gate_callee (f := 28) rfl ?_); refine goesL_ (some 63) rfl rfl Try.func28 (by kernel_rfl) rfl #[.slice Ao36 t348.length co36, .int .i64 1] rfl (by (try simp only [List.map_toArray, List.map_cons, List.map_nil]); first | done | (rw [show t348.length = t328.length from (Kd.R_reads' HO_6.out).1.symm] <;> rfl) | rfl | (simp only [List.length_drop, List.length_take]; rfl)) ?_; (with_reducible refine (laws_heldIntS.calls kj16 _ _ t348 1 t363 _ ?side1 ?side2 A57.out).mono ?_); (case side1 => repeat (first | exact (Kd.R_reads' HO_6.out).2.2 | (with_reducible refine Kd.C_alloc ?_ _) | (with_reducible refine Kd.C_drewN ?_ _) | (with_reducible refine Kd.C_drew ?_))); (case side2 => rw [show t348.length = t328.length from (Kd.R_reads' HO_6.out).1.symm]; exact (Kd.R_reads' HO_6.out).2.1); rintro e w' ⟨rfl, ⟨nd, rfl⟩⟩; refine ⟨_, rfl, ?_⟩))
                        go_ret
                        exact ⟨by first | rfl | (simp [errW_none, errW_some] <;> rfl) | (simp [*, errW_none, errW_some] <;> rfl), by repeat (first | (with_reducible first | exact HB.out | apply below_alloc | apply pw_below_drewN | apply below_drew1 | refine below_set ?_ GE304.out) | exact HB.out)⟩
                      · rw [if_neg c59] at H
                        exact absurd H (by simp)
                  · replace c56 := Bool.eq_false_iff.mpr c56
                    subst c56
                    have H1 : (none) = some r := by rw [if_neg (show ¬ (false = true) by decide)] at H; exact H
                    clear H
                    have H := H1
                    clear H1
                    exact absurd H (by simp)
                · rw [if_neg c52] at H
                  exact absurd H (by simp)
      · replace c15 := Bool.eq_false_iff.mpr c15
        subst c15
        have H1 : (none) = some r := by rw [if_neg (show ¬ (false = true) by decide)] at H; exact H
        clear H
        have H := H1
        clear H1
        exact absurd H (by simp)
    · replace c12 := Bool.eq_false_iff.mpr c12
      subst c12
      have H1 : (none) = some r := by rw [if_neg (show ¬ (false = true) by decide)] at H; exact H
      clear H
      have H := H1
      clear H1
      exact absurd H (by simp)

end Go.Proofs.Ytffnpclehhoeaaa.A
