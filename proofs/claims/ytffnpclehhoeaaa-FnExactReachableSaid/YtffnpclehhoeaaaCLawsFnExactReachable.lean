/- Contracts of functions of the given program (CLawsFnExactReachable). No conditions beyond those stated. -/
import Derived.Test.YtffnpclehhoeaaaA0
import Derived.Test.YtffnpclehhoeaaaAImplReachable
import Derived.Test.YtffnpclehhoeaaaALawsEqBoolS
import Derived.Test.YtffnpclehhoeaaaALawsEqHeap
import Derived.Test.YtffnpclehhoeaaaALawsHeldBoolS
import Derived.Test.YtffnpclehhoeaaaALawsMarkBoolS
import Derived.Test.YtffnpclehhoeaaaALawsMarkHeap
import Derived.Test.YtffnpclehhoeaaaALawsSzHeap
import Derived.Test.YtffnpclehhoeaaaALawsToHeap
import Derived.Test.YtffnpclehhoeaaaASpecReachable
import Derived.Test.YtffnpclehhoeaaaA0
namespace Go.Proofs.Ytffnpclehhoeaaa.A
open Go.RowKit Go.Proofs.YtffnpclehhoeaaaW.PrintWords Go.Proofs.YtffnpclehhoeaaaW.PrintLast Go.Proofs.YtffnpclehhoeaaaW.PrintMore
attribute [local go_sem] max2_int min2_int max_two min_two max_three min_three max_four min_four   -- for this text's walks alone
set_option linter.unusedVariables false
set_option linter.unusedSimpArgs false

/-! ### laws_FnExactReachable -/
def laws_FnExactReachable.j0 : Nat → List Bool → List Bool → Bool → List Int → List Int → List Int → Option (Bool)
  | 0, _, _, _, _, _, _ => none
  | k + 1, x4, x6, x42, x222000, x222001, x222002 => if x42 = true then (none) else ((laws_markBoolS.f k x6 1).bind fun bt264 => ((laws_heldBoolS.f k bt264.2 1).bind fun t266 => (if t266 < 0 then (none) else (if t266 = bt264.1 then ((laws_toHeap.f k x222000 x222001 x222002).bind fun bt267 => ((impl_Reachable.f k bt267.1 bt267.2.1 bt267.2.2).bind fun t276 => ((laws_eqBoolS.f k t276 x4).bind fun t279 => (if t279 = true then ((laws_heldBoolS.f k bt264.2 1).bind fun t280 => (if t280 < 0 then (none) else (if t280 = bt264.1 then (some true) else (none)))) else (none))))) else (none)))))
def laws_FnExactReachable.f (k : Nat) (l0_0 : List Int) (l0_1 : List Int) (l0_2 : List Int) : Option (Bool) := (laws_szHeap.f l0_0 l0_1 l0_2 1048576).bind fun t222 => (if t222 < 0 then (some true) else ((laws_toHeap.f k l0_0 l0_1 l0_2).bind fun bt223 => ((spec_Reachable.f k bt223.1 bt223.2.1 bt223.2.2).bind fun t232 => ((laws_toHeap.f k l0_0 l0_1 l0_2).bind fun bt235 => ((impl_Reachable.f k bt235.1 bt235.2.1 bt235.2.2).bind fun t245 => ((laws_eqBoolS.f k t245 t232).bind fun t248 => (if t248 = true then ((laws_toHeap.f k l0_0 l0_1 l0_2).bind fun bt249 => ((laws_eqHeap.f k bt235.1 bt235.2.1 bt235.2.2 bt249.1 bt249.2.1 bt249.2.2).bind fun t258 => (if t258 = true then ((laws_markHeap.f k bt235.1 bt235.2.1 bt235.2.2 1).bind fun bt259 => (if bt259.1 < 0 then (laws_FnExactReachable.j0 k t232 t245 true l0_0 l0_1 l0_2) else ((laws_eqBoolS.f k t245 t232).bind fun t263 => (laws_FnExactReachable.j0 k t232 t245 (!t263) l0_0 l0_1 l0_2)))) else (none)))) else (none))))))))
theorem laws_FnExactReachable.mono_l : ∀ k, (∀ y0 y1 y2 y3 y4 y5, LeO (laws_FnExactReachable.j0 k y0 y1 y2 y3 y4 y5) (laws_FnExactReachable.j0 (k + 1) y0 y1 y2 y3 y4 y5))
  | 0 => fun _ _ _ _ _ _ r h => by simp [laws_FnExactReachable.j0] at h
  | k + 1 => by
    have ih0 := laws_FnExactReachable.mono_l k
    · intro y0 y1 y2 y3 y4 y5
      unfold laws_FnExactReachable.j0
      repeat' first
      | (with_reducible exact ih0 _ _ _ _ _ _)
      | (with_reducible exact impl_Reachable.mono _ _ _ _)
      | (with_reducible exact laws_eqBoolS.mono _ _ _)
      | (with_reducible exact laws_eqHeap.mono _ _ _ _ _ _ _)
      | (with_reducible exact laws_heldBoolS.mono _ _ _)
      | (with_reducible exact laws_markBoolS.mono _ _ _)
      | (with_reducible exact laws_markHeap.mono _ _ _ _ _)
      | (with_reducible exact laws_toHeap.mono _ _ _ _)
      | (with_reducible exact spec_Reachable.mono _ _ _ _)
      | (with_reducible exact LeO.refl _)
      | (with_reducible exact LeO.none _)
      | (with_reducible refine LeO.ite ?_ ?_)
      | (with_reducible refine LeO.bind ?_ (fun _ => ?_))
      | exact ih0 _ _ _ _ _ _
      | exact impl_Reachable.mono _ _ _ _
      | exact laws_eqBoolS.mono _ _ _
      | exact laws_eqHeap.mono _ _ _ _ _ _ _
      | exact laws_heldBoolS.mono _ _ _
      | exact laws_markBoolS.mono _ _ _
      | exact laws_markHeap.mono _ _ _ _ _
      | exact laws_toHeap.mono _ _ _ _
      | exact spec_Reachable.mono _ _ _ _
      | exact LeO.none _
      | refine LeO.ite ?_ ?_
      | refine LeO.bind ?_ (fun _ => ?_)
theorem laws_FnExactReachable.mono : ∀ a0 a1 a2 k, LeO (laws_FnExactReachable.f k a0 a1 a2) (laws_FnExactReachable.f (k + 1) a0 a1 a2) := by
  intro a0 a1 a2 k
  have ih0 := laws_FnExactReachable.mono_l k
  unfold laws_FnExactReachable.f
  repeat' first
      | (with_reducible exact ih0 _ _ _ _ _ _)
      | (with_reducible exact impl_Reachable.mono _ _ _ _)
      | (with_reducible exact laws_eqBoolS.mono _ _ _)
      | (with_reducible exact laws_eqHeap.mono _ _ _ _ _ _ _)
      | (with_reducible exact laws_heldBoolS.mono _ _ _)
      | (with_reducible exact laws_markBoolS.mono _ _ _)
      | (with_reducible exact laws_markHeap.mono _ _ _ _ _)
      | (with_reducible exact laws_toHeap.mono _ _ _ _)
      | (with_reducible exact spec_Reachable.mono _ _ _ _)
      | (with_reducible exact LeO.refl _)
      | (with_reducible exact LeO.none _)
      | (with_reducible refine LeO.ite ?_ ?_)
      | (with_reducible refine LeO.bind ?_ (fun _ => ?_))
      | exact ih0 _ _ _ _ _ _
      | exact impl_Reachable.mono _ _ _ _
      | exact laws_eqBoolS.mono _ _ _
      | exact laws_eqHeap.mono _ _ _ _ _ _ _
      | exact laws_heldBoolS.mono _ _ _
      | exact laws_markBoolS.mono _ _ _
      | exact laws_markHeap.mono _ _ _ _ _
      | exact laws_toHeap.mono _ _ _ _
      | exact spec_Reachable.mono _ _ _ _
      | exact LeO.none _
      | refine LeO.ite ?_ ?_
      | refine LeO.bind ?_ (fun _ => ?_)
set_option maxHeartbeats 8000000 in
set_option maxRecDepth 100000 in
theorem laws_FnExactReachable.calls (k : Nat) (A0_0 : Option Addr) (c0_0 : Nat) (l0_0 : List Int) (A0_1 : Option Addr) (c0_1 : Nat) (l0_1 : List Int) (A0_2 : Option Addr) (c0_2 : Nat) (l0_2 : List Int) (r : Bool) (w : World) (hr0_0 : Kd.C (Kd.int .i64) w A0_0 l0_0.length l0_0) (hc0_0 : l0_0.length ≤ c0_0) (hr0_1 : Kd.C (Kd.int .i64) w A0_1 l0_1.length l0_1) (hc0_1 : l0_1.length ≤ c0_1) (hr0_2 : Kd.C (Kd.int .i64) w A0_2 l0_2.length l0_2) (hc0_2 : l0_2.length ≤ c0_2) (h : laws_FnExactReachable.f k l0_0 l0_1 l0_2 = some r) :
    Calls Try.prog 3 #[.agg #[.slice A0_0 l0_0.length c0_0, .slice A0_1 l0_1.length c0_1, .slice A0_2 l0_2.length c0_2]] w fun e w' => e = .returned (.bool r) ∧ Below w.heap.size w w' := by
  have hu24 := Try.underlying24
  have hu28 := Try.underlying28
  have HR0_0 := am hr0_0
  have HC0_0 := am hc0_0
  clear hr0_0 hc0_0
  have HR0_1 := am hr0_1
  have HC0_1 := am hc0_1
  clear hr0_1 hc0_1
  have HR0_2 := am hr0_2
  have HC0_2 := am hc0_2
  clear hr0_2 hc0_2
  have HB := am (Below.refl w.heap.size w)
  have H : ((laws_szHeap.f l0_0 l0_1 l0_2 1048576).bind fun t222 => (if t222 < 0 then (some true) else ((laws_toHeap.f k l0_0 l0_1 l0_2).bind fun bt223 => ((spec_Reachable.f k bt223.1 bt223.2.1 bt223.2.2).bind fun t232 => ((laws_toHeap.f k l0_0 l0_1 l0_2).bind fun bt235 => ((impl_Reachable.f k bt235.1 bt235.2.1 bt235.2.2).bind fun t245 => ((laws_eqBoolS.f k t245 t232).bind fun t248 => (if t248 = true then ((laws_toHeap.f k l0_0 l0_1 l0_2).bind fun bt249 => ((laws_eqHeap.f k bt235.1 bt235.2.1 bt235.2.2 bt249.1 bt249.2.1 bt249.2.2).bind fun t258 => (if t258 = true then ((laws_markHeap.f k bt235.1 bt235.2.1 bt235.2.2 1).bind fun bt259 => (if bt259.1 < 0 then (laws_FnExactReachable.j0 k t232 t245 true l0_0 l0_1 l0_2) else ((laws_eqBoolS.f k t245 t232).bind fun t263 => (laws_FnExactReachable.j0 k t232 t245 (!t263) l0_0 l0_1 l0_2)))) else (none)))) else (none))))))))) = some r := h
  clear h
  replace H := Option.bind_eq_some_iff.mp H
  obtain ⟨t222, A20, H⟩ := H
  replace H : (if t222 < 0 then (some true) else ((laws_toHeap.f k l0_0 l0_1 l0_2).bind fun bt223 => ((spec_Reachable.f k bt223.1 bt223.2.1 bt223.2.2).bind fun t232 => ((laws_toHeap.f k l0_0 l0_1 l0_2).bind fun bt235 => ((impl_Reachable.f k bt235.1 bt235.2.1 bt235.2.2).bind fun t245 => ((laws_eqBoolS.f k t245 t232).bind fun t248 => (if t248 = true then ((laws_toHeap.f k l0_0 l0_1 l0_2).bind fun bt249 => ((laws_eqHeap.f k bt235.1 bt235.2.1 bt235.2.2 bt249.1 bt249.2.1 bt249.2.2).bind fun t258 => (if t258 = true then ((laws_markHeap.f k bt235.1 bt235.2.1 bt235.2.2 1).bind fun bt259 => (if bt259.1 < 0 then (laws_FnExactReachable.j0 k t232 t245 true l0_0 l0_1 l0_2) else ((laws_eqBoolS.f k t245 t232).bind fun t263 => (laws_FnExactReachable.j0 k t232 t245 (!t263) l0_0 l0_1 l0_2)))) else (none)))) else (none)))))))) = some r := H
  have A2 := am A20
  clear A20
  by_cases c3 : t222 < 0
  · rw [if_pos c3] at H
    have c3b0 : decide (t222 < 0) = true := decide_eq_true c3
    clear c3
    obtain rfl := Option.some.inj H
    go_enter Try.func3, Try.ntmps3
    go_wp2_with (first | ((with_reducible refine gate_dst (N := 1) rfl ?_); refine box_event ?hg (N := 1) ?hd (cs := #[.slice A0_0 l0_0.length c0_0, .slice A0_1 l0_1.length c0_1, .slice A0_2 l0_2.length c0_2]) (t := 24) ?hr ?_; (case hd => rfl); (case hg => rfl); (case hr => first | (go_simp; done) | (go_simp; rfl)); intro gb221 hg w4 hbox hb; have n0_ := am (below_step (bl HB.out) hb); have n1_ := am (hbox); have n2_ := am ((by rw [hg]; exact (below_size (bl HB.out)) : w.heap.size ≤ gb221)); have n3_ := am ((by rw [hg]; exact (below_size (bl HB.out)) : w.heap.size ≤ gb221)); clear HB; have HB := n0_; have BK221 := n1_; have GW221 := n2_; have GE221 := n3_; clear n0_ n1_ n2_ n3_; clear hb hbox hg; have hcz5_0 : w4.cell? ⟨gb221, 0, none⟩ = some (.slice A0_0 l0_0.length c0_0) := (blk_cell BK221.out 0).trans rfl; have hcz5_1 : w4.cell? ⟨gb221, 1, none⟩ = some (.slice A0_1 l0_1.length c0_1) := (blk_cell BK221.out 1).trans rfl; have hcz5_2 : w4.cell? ⟨gb221, 2, none⟩ = some (.slice A0_2 l0_2.length c0_2) := (blk_cell BK221.out 2).trans rfl; have hfz5_0 := blk_frozen BK221.out 0; have hfz5_1 := blk_frozen BK221.out 1; have hfz5_2 := blk_frozen BK221.out 2) | ((with_reducible refine gate_callee (f := 15) rfl ?_); refine goesL_ (some 13) rfl rfl Try.func15 (by kernel_rfl) rfl #[.agg #[.slice A0_0 l0_0.length c0_0, .slice A0_1 l0_1.length c0_1, .slice A0_2 l0_2.length c0_2], .int .i64 1048576] rfl (by (try simp only [List.map_toArray, List.map_cons, List.map_nil]); first | done | rfl | (simp only [List.length_drop, List.length_take]; rfl)) ?_; (with_reducible refine (laws_szHeap.calls _ _ l0_0 _ _ l0_1 _ _ l0_2 1048576 t222 _ ?side1 ?side2 ?side3 ?side4 ?side5 ?side6 A2.out).mono ?_); (case side1 => exact cl (Kd.C_below HR0_0.out HB.out)); (case side2 => exact HC0_0.out); (case side3 => exact cl (Kd.C_below HR0_1.out HB.out)); (case side4 => exact HC0_1.out); (case side5 => exact cl (Kd.C_below HR0_2.out HB.out)); (case side6 => exact HC0_2.out); rintro e w6 ⟨rfl, hb⟩; refine ⟨_, rfl, ?_⟩; have n0_ := am (blk_below (g := gb221) (o := .cells #[.slice A0_0 l0_0.length c0_0, .slice A0_1 l0_1.length c0_1, .slice A0_2 l0_2.length c0_2] 24 (0, 0)) (kl BK221.out) hb); have n1_ := am (below_step (by repeat (first | (with_reducible first | exact HB.out | apply below_alloc | apply pw_below_drewN | apply below_drew1 | refine below_set ?_ GE221.out) | exact HB.out)) hb); clear BK221; clear HB; have BK221 := n0_; have HB := n1_; clear n0_ n1_; (try clear hb); (try clear hb2); (try clear hk); (try clear hi)))
    go_ret
    exact ⟨by first | rfl | (simp [errW_none, errW_some] <;> rfl) | (simp [*, errW_none, errW_some] <;> rfl), by repeat (first | (with_reducible first | exact HB.out | apply below_alloc | apply pw_below_drewN | apply below_drew1 | refine below_set ?_ GE221.out) | exact HB.out)⟩
  · rw [if_neg c3] at H
    have c3b0 : decide (t222 < 0) = false := decide_eq_false c3
    clear c3
    replace H := Option.bind_eq_some_iff.mp H
    obtain ⟨⟨t223, t226, t229⟩, A70, H⟩ := H
    replace H : ((spec_Reachable.f k t223 t226 t229).bind fun t232 => ((laws_toHeap.f k l0_0 l0_1 l0_2).bind fun bt235 => ((impl_Reachable.f k bt235.1 bt235.2.1 bt235.2.2).bind fun t245 => ((laws_eqBoolS.f k t245 t232).bind fun t248 => (if t248 = true then ((laws_toHeap.f k l0_0 l0_1 l0_2).bind fun bt249 => ((laws_eqHeap.f k bt235.1 bt235.2.1 bt235.2.2 bt249.1 bt249.2.1 bt249.2.2).bind fun t258 => (if t258 = true then ((laws_markHeap.f k bt235.1 bt235.2.1 bt235.2.2 1).bind fun bt259 => (if bt259.1 < 0 then (laws_FnExactReachable.j0 k t232 t245 true l0_0 l0_1 l0_2) else ((laws_eqBoolS.f k t245 t232).bind fun t263 => (laws_FnExactReachable.j0 k t232 t245 (!t263) l0_0 l0_1 l0_2)))) else (none)))) else (none)))))) = some r := H
    have A7 := am A70
    clear A70
    replace H := Option.bind_eq_some_iff.mp H
    obtain ⟨t232, A80, H⟩ := H
    replace H : ((laws_toHeap.f k l0_0 l0_1 l0_2).bind fun bt235 => ((impl_Reachable.f k bt235.1 bt235.2.1 bt235.2.2).bind fun t245 => ((laws_eqBoolS.f k t245 t232).bind fun t248 => (if t248 = true then ((laws_toHeap.f k l0_0 l0_1 l0_2).bind fun bt249 => ((laws_eqHeap.f k bt235.1 bt235.2.1 bt235.2.2 bt249.1 bt249.2.1 bt249.2.2).bind fun t258 => (if t258 = true then ((laws_markHeap.f k bt235.1 bt235.2.1 bt235.2.2 1).bind fun bt259 => (if bt259.1 < 0 then (laws_FnExactReachable.j0 k t232 t245 true l0_0 l0_1 l0_2) else ((laws_eqBoolS.f k t245 t232).bind fun t263 => (laws_FnExactReachable.j0 k t232 t245 (!t263) l0_0 l0_1 l0_2)))) else (none)))) else (none))))) = some r := H
    have A8 := am A80
    clear A80
    replace H := Option.bind_eq_some_iff.mp H
    obtain ⟨⟨t235, t238, t241⟩, A90, H⟩ := H
    replace H : ((impl_Reachable.f k t235 t238 t241).bind fun t245 => ((laws_eqBoolS.f k t245 t232).bind fun t248 => (if t248 = true then ((laws_toHeap.f k l0_0 l0_1 l0_2).bind fun bt249 => ((laws_eqHeap.f k t235 t238 t241 bt249.1 bt249.2.1 bt249.2.2).bind fun t258 => (if t258 = true then ((laws_markHeap.f k t235 t238 t241 1).bind fun bt259 => (if bt259.1 < 0 then (laws_FnExactReachable.j0 k t232 t245 true l0_0 l0_1 l0_2) else ((laws_eqBoolS.f k t245 t232).bind fun t263 => (laws_FnExactReachable.j0 k t232 t245 (!t263) l0_0 l0_1 l0_2)))) else (none)))) else (none)))) = some r := H
    have A9 := am A90
    clear A90
    replace H := Option.bind_eq_some_iff.mp H
    obtain ⟨t245, A100, H⟩ := H
    replace H : ((laws_eqBoolS.f k t245 t232).bind fun t248 => (if t248 = true then ((laws_toHeap.f k l0_0 l0_1 l0_2).bind fun bt249 => ((laws_eqHeap.f k t235 t238 t241 bt249.1 bt249.2.1 bt249.2.2).bind fun t258 => (if t258 = true then ((laws_markHeap.f k t235 t238 t241 1).bind fun bt259 => (if bt259.1 < 0 then (laws_FnExactReachable.j0 k t232 t245 true l0_0 l0_1 l0_2) else ((laws_eqBoolS.f k t245 t232).bind fun t263 => (laws_FnExactReachable.j0 k t232 t245 (!t263) l0_0 l0_1 l0_2)))) else (none)))) else (none))) = some r := H
    have A10 := am A100
    clear A100
    replace H := Option.bind_eq_some_iff.mp H
    obtain ⟨t248, A110, H⟩ := H
    replace H : (if t248 = true then ((laws_toHeap.f k l0_0 l0_1 l0_2).bind fun bt249 => ((laws_eqHeap.f k t235 t238 t241 bt249.1 bt249.2.1 bt249.2.2).bind fun t258 => (if t258 = true then ((laws_markHeap.f k t235 t238 t241 1).bind fun bt259 => (if bt259.1 < 0 then (laws_FnExactReachable.j0 k t232 t245 true l0_0 l0_1 l0_2) else ((laws_eqBoolS.f k t245 t232).bind fun t263 => (laws_FnExactReachable.j0 k t232 t245 (!t263) l0_0 l0_1 l0_2)))) else (none)))) else (none)) = some r := H
    have A11 := am A110
    clear A110
    by_cases c12 : t248 = true
    · subst c12
      have H1 : ((laws_toHeap.f k l0_0 l0_1 l0_2).bind fun bt249 => ((laws_eqHeap.f k t235 t238 t241 bt249.1 bt249.2.1 bt249.2.2).bind fun t258 => (if t258 = true then ((laws_markHeap.f k t235 t238 t241 1).bind fun bt259 => (if bt259.1 < 0 then (laws_FnExactReachable.j0 k t232 t245 true l0_0 l0_1 l0_2) else ((laws_eqBoolS.f k t245 t232).bind fun t263 => (laws_FnExactReachable.j0 k t232 t245 (!t263) l0_0 l0_1 l0_2)))) else (none)))) = some r := by rw [if_pos rfl] at H; exact H
      clear H
      have H := H1
      clear H1
      replace H := Option.bind_eq_some_iff.mp H
      obtain ⟨⟨t249, t252, t255⟩, A130, H⟩ := H
      replace H : ((laws_eqHeap.f k t235 t238 t241 t249 t252 t255).bind fun t258 => (if t258 = true then ((laws_markHeap.f k t235 t238 t241 1).bind fun bt259 => (if bt259.1 < 0 then (laws_FnExactReachable.j0 k t232 t245 true l0_0 l0_1 l0_2) else ((laws_eqBoolS.f k t245 t232).bind fun t263 => (laws_FnExactReachable.j0 k t232 t245 (!t263) l0_0 l0_1 l0_2)))) else (none))) = some r := H
      have A13 := am A130
      clear A130
      replace H := Option.bind_eq_some_iff.mp H
      obtain ⟨t258, A140, H⟩ := H
      replace H : (if t258 = true then ((laws_markHeap.f k t235 t238 t241 1).bind fun bt259 => (if bt259.1 < 0 then (laws_FnExactReachable.j0 k t232 t245 true l0_0 l0_1 l0_2) else ((laws_eqBoolS.f k t245 t232).bind fun t263 => (laws_FnExactReachable.j0 k t232 t245 (!t263) l0_0 l0_1 l0_2)))) else (none)) = some r := H
      have A14 := am A140
      clear A140
      by_cases c15 : t258 = true
      · subst c15
        have H1 : ((laws_markHeap.f k t235 t238 t241 1).bind fun bt259 => (if bt259.1 < 0 then (laws_FnExactReachable.j0 k t232 t245 true l0_0 l0_1 l0_2) else ((laws_eqBoolS.f k t245 t232).bind fun t263 => (laws_FnExactReachable.j0 k t232 t245 (!t263) l0_0 l0_1 l0_2)))) = some r := by rw [if_pos rfl] at H; exact H
        clear H
        have H := H1
        clear H1
        replace H := Option.bind_eq_some_iff.mp H
        obtain ⟨⟨t259, t260, t261, t262⟩, A160, H⟩ := H
        replace H : (if t259 < 0 then (laws_FnExactReachable.j0 k t232 t245 true l0_0 l0_1 l0_2) else ((laws_eqBoolS.f k t245 t232).bind fun t263 => (laws_FnExactReachable.j0 k t232 t245 (!t263) l0_0 l0_1 l0_2))) = some r := H
        have A16 := am A160
        clear A160
        have HC17 := am H
        clear H
        go_enter Try.func3, Try.ntmps3
        try go_wp2_with (first | ((with_reducible refine gate_dst (N := 1) rfl ?_); refine box_event ?hg (N := 1) ?hd (cs := #[.slice A0_0 l0_0.length c0_0, .slice A0_1 l0_1.length c0_1, .slice A0_2 l0_2.length c0_2]) (t := 24) ?hr ?_; (case hd => rfl); (case hg => rfl); (case hr => first | (go_simp; done) | (go_simp; rfl)); intro gb221 hg w18 hbox hb; have n0_ := am (below_step (bl HB.out) hb); have n1_ := am (hbox); have n2_ := am ((by rw [hg]; exact (below_size (bl HB.out)) : w.heap.size ≤ gb221)); have n3_ := am ((by rw [hg]; exact (below_size (bl HB.out)) : w.heap.size ≤ gb221)); clear HB; have HB := n0_; have BK221 := n1_; have GW221 := n2_; have GE221 := n3_; clear n0_ n1_ n2_ n3_; clear hb hbox hg; have hcz19_0 : w18.cell? ⟨gb221, 0, none⟩ = some (.slice A0_0 l0_0.length c0_0) := (blk_cell BK221.out 0).trans rfl; have hcz19_1 : w18.cell? ⟨gb221, 1, none⟩ = some (.slice A0_1 l0_1.length c0_1) := (blk_cell BK221.out 1).trans rfl; have hcz19_2 : w18.cell? ⟨gb221, 2, none⟩ = some (.slice A0_2 l0_2.length c0_2) := (blk_cell BK221.out 2).trans rfl; have hfz19_0 := blk_frozen BK221.out 0; have hfz19_1 := blk_frozen BK221.out 1; have hfz19_2 := blk_frozen BK221.out 2) | ((with_reducible refine gate_callee (f := 15) rfl ?_); refine goesL_ (some 13) rfl rfl Try.func15 (by kernel_rfl) rfl #[.agg #[.slice A0_0 l0_0.length c0_0, .slice A0_1 l0_1.length c0_1, .slice A0_2 l0_2.length c0_2], .int .i64 1048576] rfl (by (try simp only [List.map_toArray, List.map_cons, List.map_nil]); first | done | rfl | (simp only [List.length_drop, List.length_take]; rfl)) ?_; (with_reducible refine (laws_szHeap.calls _ _ l0_0 _ _ l0_1 _ _ l0_2 1048576 t222 _ ?side1 ?side2 ?side3 ?side4 ?side5 ?side6 A2.out).mono ?_); (case side1 => exact cl (Kd.C_below HR0_0.out HB.out)); (case side2 => exact HC0_0.out); (case side3 => exact cl (Kd.C_below HR0_1.out HB.out)); (case side4 => exact HC0_1.out); (case side5 => exact cl (Kd.C_below HR0_2.out HB.out)); (case side6 => exact HC0_2.out); rintro e w20 ⟨rfl, hb⟩; refine ⟨_, rfl, ?_⟩; have n0_ := am (blk_below (g := gb221) (o := .cells #[.slice A0_0 l0_0.length c0_0, .slice A0_1 l0_1.length c0_1, .slice A0_2 l0_2.length c0_2] 24 (0, 0)) (kl BK221.out) hb); have n1_ := am (below_step (by repeat (first | (with_reducible first | exact HB.out | apply below_alloc | apply pw_below_drewN | apply below_drew1 | refine below_set ?_ GE221.out) | exact HB.out)) hb); clear BK221; clear HB; have BK221 := n0_; have HB := n1_; clear n0_ n1_; (try clear hb); (try clear hb2); (try clear hk); (try clear hi); have hcz21_0 : w20.cell? ⟨gb221, 0, none⟩ = some (.slice A0_0 l0_0.length c0_0) := (blk_cell BK221.out 0).trans rfl; have hcz21_1 : w20.cell? ⟨gb221, 1, none⟩ = some (.slice A0_1 l0_1.length c0_1) := (blk_cell BK221.out 1).trans rfl; have hcz21_2 : w20.cell? ⟨gb221, 2, none⟩ = some (.slice A0_2 l0_2.length c0_2) := (blk_cell BK221.out 2).trans rfl; have hfz21_0 := blk_frozen BK221.out 0; have hfz21_1 := blk_frozen BK221.out 1; have hfz21_2 := blk_frozen BK221.out 2) | ((with_reducible refine gate_callee (f := 17) rfl ?_); refine goesL_ (some 17) rfl rfl Try.func17 (by kernel_rfl) rfl #[.agg #[.slice A0_0 l0_0.length c0_0, .slice A0_1 l0_1.length c0_1, .slice A0_2 l0_2.length c0_2]] rfl (by (try simp only [List.map_toArray, List.map_cons, List.map_nil]); first | done | rfl | (simp only [List.length_drop, List.length_take]; rfl)) ?_; (with_reducible refine (laws_toHeap.calls k _ _ l0_0 _ _ l0_1 _ _ l0_2 t223 t226 t229 _ ?side1 ?side2 ?side3 ?side4 ?side5 ?side6 A7.out).mono ?_); (case side1 => exact cl (Kd.C_below HR0_0.out HB.out)); (case side2 => exact HC0_0.out); (case side3 => exact cl (Kd.C_below HR0_1.out HB.out)); (case side4 => exact HC0_1.out); (case side5 => exact cl (Kd.C_below HR0_2.out HB.out)); (case side6 => exact HC0_2.out); rintro e w22 ⟨v224, v227, v230, rfl, ho0, ho1, ho2, hb⟩; refine ⟨_, rfl, ?_⟩; have n0_ := am (Kd.R_lower ho0 (below_size (by repeat (first | (with_reducible first | exact HB.out | apply below_alloc | apply pw_below_drewN | apply below_drew1 | refine below_set ?_ GE221.out) | exact HB.out)))); have n1_ := am (Kd.R_lower ho1 (below_size (by repeat (first | (with_reducible first | exact HB.out | apply below_alloc | apply pw_below_drewN | apply below_drew1 | refine below_set ?_ GE221.out) | exact HB.out)))); have n2_ := am (Kd.R_lower ho2 (below_size (by repeat (first | (with_reducible first | exact HB.out | apply below_alloc | apply pw_below_drewN | apply below_drew1 | refine below_set ?_ GE221.out) | exact HB.out)))); have n3_ := am (blk_below (g := gb221) (o := .cells #[.slice A0_0 l0_0.length c0_0, .slice A0_1 l0_1.length c0_1, .slice A0_2 l0_2.length c0_2] 24 (0, 0)) (kl BK221.out) hb); have n4_ := am (below_step (by repeat (first | (with_reducible first | exact HB.out | apply below_alloc | apply pw_below_drewN | apply below_drew1 | refine below_set ?_ GE221.out) | exact HB.out)) hb); clear BK221; clear HB; have HO225 := n0_; have HO228 := n1_; have HO231 := n2_; have BK221 := n3_; have HB := n4_; clear n0_ n1_ n2_ n3_ n4_; (try clear hb); (try clear hb2); (try clear hk); (try clear hi); (try clear ho0); (try clear ho1); (try clear ho2); obtain ⟨Ao23, co23, eo23⟩ := Kd.R_slice HO225.out; subst eo23; obtain ⟨Ao24, co24, eo24⟩ := Kd.R_slice HO228.out; subst eo24; obtain ⟨Ao25, co25, eo25⟩ := Kd.R_slice HO231.out; subst eo25) | ((with_reducible refine gate_callee (f := 16) rfl ?_); refine goesL_ (some 18) rfl rfl Try.func16 (by kernel_rfl) rfl #[.agg #[.slice Ao23 t223.length co23, .slice Ao24 t226.length co24, .slice Ao25 t229.length co25]] rfl (by (try simp only [List.map_toArray, List.map_cons, List.map_nil]); first | done | rfl | (simp only [List.length_drop, List.length_take]; rfl)) ?_; (with_reducible refine (spec_Reachable.calls k _ _ t223 _ _ t226 _ _ t229 t232 _ ?side1 ?side2 ?side3 ?side4 ?side5 ?side6 A8.out).mono ?_); (case side1 => repeat (first | exact (Kd.R_reads' HO225.out).2.2 | (with_reducible refine Kd.C_alloc ?_ _) | (with_reducible refine Kd.C_drewN ?_ _) | (with_reducible refine Kd.C_drew ?_))); (case side2 => exact (Kd.R_reads' HO225.out).2.1); (case side3 => repeat (first | exact (Kd.R_reads' HO228.out).2.2 | (with_reducible refine Kd.C_alloc ?_ _) | (with_reducible refine Kd.C_drewN ?_ _) | (with_reducible refine Kd.C_drew ?_))); (case side4 => exact (Kd.R_reads' HO228.out).2.1); (case side5 => repeat (first | exact (Kd.R_reads' HO231.out).2.2 | (with_reducible refine Kd.C_alloc ?_ _) | (with_reducible refine Kd.C_drewN ?_ _) | (with_reducible refine Kd.C_drew ?_))); (case side6 => exact (Kd.R_reads' HO231.out).2.1); rintro e w26 ⟨v233, rfl, ho0, hb⟩; refine ⟨_, rfl, ?_⟩; have n0_ := am (Kd.R_below (rl HO225.out) hb); have n1_ := am (Kd.R_below (rl HO228.out) hb); have n2_ := am (Kd.R_below (rl HO231.out) hb); have n3_ := am (Kd.R_lower ho0 (below_size (by repeat (first | (with_reducible first | exact HB.out | apply below_alloc | apply pw_below_drewN | apply below_drew1 | refine below_set ?_ GE221.out) | exact HB.out)))); have n4_ := am (blk_below (g := gb221) (o := .cells #[.slice A0_0 l0_0.length c0_0, .slice A0_1 l0_1.length c0_1, .slice A0_2 l0_2.length c0_2] 24 (0, 0)) (kl BK221.out) hb); have n5_ := am (below_step (by repeat (first | (with_reducible first | exact HB.out | apply below_alloc | apply pw_below_drewN | apply below_drew1 | refine below_set ?_ GE221.out) | exact HB.out)) hb); clear HO225; clear HO228; clear HO231; clear BK221; clear HB; have HO225 := n0_; have HO228 := n1_; have HO231 := n2_; have HO234 := n3_; have BK221 := n4_; have HB := n5_; clear n0_ n1_ n2_ n3_ n4_ n5_; (try clear hb); (try clear hb2); (try clear hk); (try clear hi); (try clear ho0); have hcz27_0 : w26.cell? ⟨gb221, 0, none⟩ = some (.slice A0_0 l0_0.length c0_0) := (blk_cell BK221.out 0).trans rfl; have hcz27_1 : w26.cell? ⟨gb221, 1, none⟩ = some (.slice A0_1 l0_1.length c0_1) := (blk_cell BK221.out 1).trans rfl; have hcz27_2 : w26.cell? ⟨gb221, 2, none⟩ = some (.slice A0_2 l0_2.length c0_2) := (blk_cell BK221.out 2).trans rfl; have hfz27_0 := blk_frozen BK221.out 0; have hfz27_1 := blk_frozen BK221.out 1; have hfz27_2 := blk_frozen BK221.out 2) | ((with_reducible refine gate_callee (f := 17) rfl ?_); refine goesL_ (some 20) rfl rfl Try.func17 (by kernel_rfl) rfl #[.agg #[.slice A0_0 l0_0.length c0_0, .slice A0_1 l0_1.length c0_1, .slice A0_2 l0_2.length c0_2]] rfl (by (try simp only [List.map_toArray, List.map_cons, List.map_nil]); first | done | rfl | (simp only [List.length_drop, List.length_take]; rfl)) ?_; (with_reducible refine (laws_toHeap.calls k _ _ l0_0 _ _ l0_1 _ _ l0_2 t235 t238 t241 _ ?side1 ?side2 ?side3 ?side4 ?side5 ?side6 A9.out).mono ?_); (case side1 => exact cl (Kd.C_below HR0_0.out HB.out)); (case side2 => exact HC0_0.out); (case side3 => exact cl (Kd.C_below HR0_1.out HB.out)); (case side4 => exact HC0_1.out); (case side5 => exact cl (Kd.C_below HR0_2.out HB.out)); (case side6 => exact HC0_2.out); rintro e w28 ⟨v236, v239, v242, rfl, ho0, ho1, ho2, hb⟩; refine ⟨_, rfl, ?_⟩; have n0_ := am (Kd.R_mono (Kd.R_told (Kd.R_told (Kd.R_told (Kd.R_old (rl HO225.out) hb) (Kd.R_base ho0)) (Kd.R_base ho1)) (Kd.R_base ho2)) (fun _ h_ => h_.1)); have n1_ := am (Kd.R_mono (Kd.R_told (Kd.R_told (Kd.R_told (Kd.R_old (rl HO228.out) hb) (Kd.R_base ho0)) (Kd.R_base ho1)) (Kd.R_base ho2)) (fun _ h_ => h_.1)); have n2_ := am (Kd.R_mono (Kd.R_told (Kd.R_told (Kd.R_told (Kd.R_old (rl HO231.out) hb) (Kd.R_base ho0)) (Kd.R_base ho1)) (Kd.R_base ho2)) (fun _ h_ => h_.1)); have n3_ := am (Kd.R_below (rl HO234.out) hb); have n4_ := am (Kd.R_lower (Kd.R_new' (Kd.R_new' (Kd.R_new' ho0 (Kd.R_lt (rl HO225.out))) (Kd.R_lt (rl HO228.out))) (Kd.R_lt (rl HO231.out))) (below_size (by repeat (first | (with_reducible first | exact HB.out | apply below_alloc | apply pw_below_drewN | apply below_drew1 | refine below_set ?_ GE221.out) | exact HB.out)))); have n5_ := am (Kd.R_lower (Kd.R_new' (Kd.R_new' (Kd.R_new' ho1 (Kd.R_lt (rl HO225.out))) (Kd.R_lt (rl HO228.out))) (Kd.R_lt (rl HO231.out))) (below_size (by repeat (first | (with_reducible first | exact HB.out | apply below_alloc | apply pw_below_drewN | apply below_drew1 | refine below_set ?_ GE221.out) | exact HB.out)))); have n6_ := am (Kd.R_lower (Kd.R_new' (Kd.R_new' (Kd.R_new' ho2 (Kd.R_lt (rl HO225.out))) (Kd.R_lt (rl HO228.out))) (Kd.R_lt (rl HO231.out))) (below_size (by repeat (first | (with_reducible first | exact HB.out | apply below_alloc | apply pw_below_drewN | apply below_drew1 | refine below_set ?_ GE221.out) | exact HB.out)))); have n7_ := am (blk_below (g := gb221) (o := .cells #[.slice A0_0 l0_0.length c0_0, .slice A0_1 l0_1.length c0_1, .slice A0_2 l0_2.length c0_2] 24 (0, 0)) (kl BK221.out) hb); have n8_ := am (below_step (by repeat (first | (with_reducible first | exact HB.out | apply below_alloc | apply pw_below_drewN | apply below_drew1 | refine below_set ?_ GE221.out) | exact HB.out)) hb); clear HO225; clear HO228; clear HO231; clear HO234; clear BK221; clear HB; have HO225 := n0_; have HO228 := n1_; have HO231 := n2_; have HO234 := n3_; have HO237 := n4_; have HO240 := n5_; have HO243 := n6_; have BK221 := n7_; have HB := n8_; clear n0_ n1_ n2_ n3_ n4_ n5_ n6_ n7_ n8_; (try clear hb); (try clear hb2); (try clear hk); (try clear hi); (try clear ho0); (try clear ho1); (try clear ho2)) | ((with_reducible refine gate_dst (N := 5) rfl ?_); refine box_event ?hg (N := 5) ?hd (cs := #[.slice none 0 0, .slice none 0 0, .slice none 0 0]) (t := 28) ?hr ?_; (case hd => rfl); (case hg => rfl); (case hr => first | (go_simp; done) | (go_simp; rfl)); intro gb244 hg w29 hbox hb; have n0_ := am (Kd.R_below (rl HO225.out) hb); have n1_ := am (Kd.R_below (rl HO228.out) hb); have n2_ := am (Kd.R_below (rl HO231.out) hb); have n3_ := am (Kd.R_below (rl HO234.out) hb); have n4_ := am (Kd.R_below (rl HO237.out) hb); have n5_ := am (Kd.R_below (rl HO240.out) hb); have n6_ := am (Kd.R_below (rl HO243.out) hb); have n7_ := am (blk_below (g := gb221) (o := .cells #[.slice A0_0 l0_0.length c0_0, .slice A0_1 l0_1.length c0_1, .slice A0_2 l0_2.length c0_2] 24 (0, 0)) (kl BK221.out) hb); have n8_ := am (below_step (by repeat (first | (with_reducible first | exact HB.out | apply below_alloc | apply pw_below_drewN | apply below_drew1 | refine below_set ?_ GE221.out) | exact HB.out)) hb); have n9_ := am (hbox); have n10_ := am ((by rw [hg]; exact (below_size (by repeat (first | (with_reducible first | exact HB.out | apply below_alloc | apply pw_below_drewN | apply below_drew1 | refine below_set ?_ GE221.out) | exact HB.out))) : w.heap.size ≤ gb244)); have n11_ := am ((by rw [hg]; exact (below_size (by repeat (first | (with_reducible first | exact HB.out | apply below_alloc | apply pw_below_drewN | apply below_drew1 | refine below_set ?_ GE221.out) | exact HB.out))) : w.heap.size ≤ gb244)); have n12_ := am ((by rw [hg]; exact Nat.ne_of_lt (blk_lt (g := gb221) (o := .cells #[.slice A0_0 l0_0.length c0_0, .slice A0_1 l0_1.length c0_1, .slice A0_2 l0_2.length c0_2] 24 (0, 0)) (kl BK221.out)) : gb221 ≠ gb244)); have n13_ := am ((by rw [hg]; exact Nat.ne_of_gt (blk_lt (g := gb221) (o := .cells #[.slice A0_0 l0_0.length c0_0, .slice A0_1 l0_1.length c0_1, .slice A0_2 l0_2.length c0_2] 24 (0, 0)) (kl BK221.out)) : gb244 ≠ gb221)); clear HO225; clear HO228; clear HO231; clear HO234; clear HO237; clear HO240; clear HO243; clear BK221; clear HB; have HO225 := n0_; have HO228 := n1_; have HO231 := n2_; have HO234 := n3_; have HO237 := n4_; have HO240 := n5_; have HO243 := n6_; have BK221 := n7_; have HB := n8_; have BK244 := n9_; have GW244 := n10_; have GE244 := n11_; have NB221_244 := n12_; have NB244_221 := n13_; clear n0_ n1_ n2_ n3_ n4_ n5_ n6_ n7_ n8_ n9_ n10_ n11_ n12_ n13_; clear hb hbox hg; obtain ⟨Ao30, co30, eo30⟩ := Kd.R_slice HO237.out; subst eo30; have hnb31 := NB244_221.out; have hnc31 := NB221_244.out; have hcz32_0 : w29.cell? ⟨gb244, 0, none⟩ = some (.slice none 0 0) := (blk_cell BK244.out 0).trans rfl; have hcz32_1 : w29.cell? ⟨gb244, 1, none⟩ = some (.slice none 0 0) := (blk_cell BK244.out 1).trans rfl; have hcz32_2 : w29.cell? ⟨gb244, 2, none⟩ = some (.slice none 0 0) := (blk_cell BK244.out 2).trans rfl; have hfz32_0 := blk_frozen BK244.out 0; have hfz32_1 := blk_frozen BK244.out 1; have hfz32_2 := blk_frozen BK244.out 2; obtain ⟨Ao33, co33, eo33⟩ := Kd.R_slice HO240.out; subst eo33; obtain ⟨Ao34, co34, eo34⟩ := Kd.R_slice HO243.out; subst eo34) | ((with_reducible refine gate_callee (f := 18) rfl ?_); refine goesL_ (some 22) rfl rfl Try.func18 (by kernel_rfl) rfl #[.agg #[.slice Ao30 t235.length co30, .slice Ao33 t238.length co33, .slice Ao34 t241.length co34]] rfl (by (try simp only [List.map_toArray, List.map_cons, List.map_nil]); first | done | rfl | (simp only [List.length_drop, List.length_take]; rfl)) ?_; (with_reducible refine (impl_Reachable.calls k _ _ t235 _ _ t238 _ _ t241 t245 _ ?side1 ?side2 ?side3 ?side4 ?side5 ?side6 A10.out).mono ?_); (case side1 => exact (Kd.R_reads' (rl ((far3 HO237.out BK244.out (by decide) (.slice Ao30 t235.length co30) (.slice Ao33 t238.length co33) (.slice Ao34 t241.length co34))))).2.2); (case side2 => exact (Kd.R_reads' HO237.out).2.1); (case side3 => exact (Kd.R_reads' (rl ((far3 HO240.out BK244.out (by decide) (.slice Ao30 t235.length co30) (.slice Ao33 t238.length co33) (.slice Ao34 t241.length co34))))).2.2); (case side4 => exact (Kd.R_reads' HO240.out).2.1); (case side5 => exact (Kd.R_reads' (rl ((far3 HO243.out BK244.out (by decide) (.slice Ao30 t235.length co30) (.slice Ao33 t238.length co33) (.slice Ao34 t241.length co34))))).2.2); (case side6 => exact (Kd.R_reads' HO243.out).2.1); rintro e w35 ⟨v246, rfl, ho0, hb⟩; refine ⟨_, rfl, ?_⟩; have n0_ := am (Kd.R_below (rl ((far3 HO225.out BK244.out (by decide) (.slice Ao30 t235.length co30) (.slice Ao33 t238.length co33) (.slice Ao34 t241.length co34)))) hb); have n1_ := am (Kd.R_below (rl ((far3 HO228.out BK244.out (by decide) (.slice Ao30 t235.length co30) (.slice Ao33 t238.length co33) (.slice Ao34 t241.length co34)))) hb); have n2_ := am (Kd.R_below (rl ((far3 HO231.out BK244.out (by decide) (.slice Ao30 t235.length co30) (.slice Ao33 t238.length co33) (.slice Ao34 t241.length co34)))) hb); have n3_ := am (Kd.R_elder' (rl ((far3 HO234.out BK244.out (by decide) (.slice Ao30 t235.length co30) (.slice Ao33 t238.length co33) (.slice Ao34 t241.length co34)))) (Kd.R_base ho0) hb); have n4_ := am (Kd.R_below (rl ((far3 HO237.out BK244.out (by decide) (.slice Ao30 t235.length co30) (.slice Ao33 t238.length co33) (.slice Ao34 t241.length co34)))) hb); have n5_ := am (Kd.R_below (rl ((far3 HO240.out BK244.out (by decide) (.slice Ao30 t235.length co30) (.slice Ao33 t238.length co33) (.slice Ao34 t241.length co34)))) hb); have n6_ := am (Kd.R_below (rl ((far3 HO243.out BK244.out (by decide) (.slice Ao30 t235.length co30) (.slice Ao33 t238.length co33) (.slice Ao34 t241.length co34)))) hb); have n7_ := am (Kd.R_lower (Kd.R_new' ho0 (Kd.R_lt (rl ((far3 HO234.out BK244.out (by decide) (.slice Ao30 t235.length co30) (.slice Ao33 t238.length co33) (.slice Ao34 t241.length co34)))))) (below_size (by repeat (first | (with_reducible first | exact HB.out | apply below_alloc | apply pw_below_drewN | apply below_drew1 | refine below_set ?_ GE221.out | refine below_set ?_ GE244.out) | exact HB.out)))); have n8_ := am (blk_below (g := gb221) (o := .cells #[.slice A0_0 l0_0.length c0_0, .slice A0_1 l0_1.length c0_1, .slice A0_2 l0_2.length c0_2] 24 (0, 0)) (by (with_reducible repeat (first | refine blk_drewN ?_ _ | refine blk_drew ?_ | refine blk_alloc ?_ _)); refine blk_far ?_ NB221_244.out _; (with_reducible repeat (first | refine blk_drewN ?_ _ | refine blk_drew ?_ | refine blk_alloc ?_ _)); refine blk_far ?_ NB221_244.out _; (with_reducible repeat (first | refine blk_drewN ?_ _ | refine blk_drew ?_ | refine blk_alloc ?_ _)); refine blk_far ?_ NB221_244.out _; (with_reducible repeat (first | refine blk_drewN ?_ _ | refine blk_drew ?_ | refine blk_alloc ?_ _)); exact BK221.out) hb); have n9_ := am (blk_below (g := gb244) (o := .cells #[.slice Ao30 t235.length co30, .slice Ao33 t238.length co33, .slice Ao34 t241.length co34] 28 (0, 0)) (by (with_reducible repeat (first | refine blk_drewN ?_ _ | refine blk_drew ?_ | refine blk_alloc ?_ _)); refine blk_put (cs := #[.slice Ao30 t235.length co30, .slice Ao33 t238.length co33, .slice none 0 0]) ?_ 2 _ rfl; (with_reducible repeat (first | refine blk_drewN ?_ _ | refine blk_drew ?_ | refine blk_alloc ?_ _)); refine blk_put (cs := #[.slice Ao30 t235.length co30, .slice none 0 0, .slice none 0 0]) ?_ 1 _ rfl; (with_reducible repeat (first | refine blk_drewN ?_ _ | refine blk_drew ?_ | refine blk_alloc ?_ _)); refine blk_put (cs := #[.slice none 0 0, .slice none 0 0, .slice none 0 0]) ?_ 0 _ rfl; (with_reducible repeat (first | refine blk_drewN ?_ _ | refine blk_drew ?_ | refine blk_alloc ?_ _)); exact BK244.out) hb); have n10_ := am (below_step (by repeat (first | (with_reducible first | exact HB.out | apply below_alloc | apply pw_below_drewN | apply below_drew1 | refine below_set ?_ GE221.out | refine below_set ?_ GE244.out) | exact HB.out)) hb); clear HO225; clear HO228; clear HO231; clear HO234; clear HO237; clear HO240; clear HO243; clear BK221; clear BK244; clear HB; have HO225 := n0_; have HO228 := n1_; have HO231 := n2_; have HO234 := n3_; have HO237 := n4_; have HO240 := n5_; have HO243 := n6_; have HO247 := n7_; have BK221 := n8_; have BK244 := n9_; have HB := n10_; clear n0_ n1_ n2_ n3_ n4_ n5_ n6_ n7_ n8_ n9_ n10_; (try clear hb); (try clear hb2); (try clear hk); (try clear hi); (try clear ho0); obtain ⟨Ao36, co36, eo36⟩ := Kd.R_slice HO247.out; subst eo36; obtain ⟨Ao37, co37, eo37⟩ := Kd.R_slice HO234.out; subst eo37) | ((with_reducible refine gate_callee (f := 19) rfl ?_); refine goesL_ (some 25) rfl rfl Try.func19 (by kernel_rfl) rfl #[.slice Ao36 t245.length co36, .slice Ao37 t232.length co37] rfl (by (try simp only [List.map_toArray, List.map_cons, List.map_nil]); first | done | rfl | (simp only [List.length_drop, List.length_take]; rfl)) ?_; (with_reducible refine (laws_eqBoolS.calls k _ _ t245 _ _ t232 true _ ?side1 ?side2 ?side3 ?side4 A11.out).mono ?_); (case side1 => repeat (first | exact (Kd.R_reads' HO247.out).2.2 | (with_reducible refine Kd.C_alloc ?_ _) | (with_reducible refine Kd.C_drewN ?_ _) | (with_reducible refine Kd.C_drew ?_))); (case side2 => exact (Kd.R_reads' HO247.out).2.1); (case side3 => repeat (first | exact (Kd.R_reads' HO234.out).2.2 | (with_reducible refine Kd.C_alloc ?_ _) | (with_reducible refine Kd.C_drewN ?_ _) | (with_reducible refine Kd.C_drew ?_))); (case side4 => exact (Kd.R_reads' HO234.out).2.1); rintro e w' ⟨rfl, ⟨nd, rfl⟩⟩; refine ⟨_, rfl, ?_⟩))
        (try (rw [drewN_self w35]; generalize hq_ : World.drewN w35 _ = w35; have n0_ : Aside0 (Kd.R (Kd.int .i64) 3 w35 w.heap.size (fun k_ => some k_ ≠ (.slice Ao24 t226.length co24 : Value).ownBlock ∧ some k_ ≠ (.slice Ao25 t229.length co25 : Value).ownBlock ∧ some k_ ≠ (.slice Ao30 t235.length co30 : Value).ownBlock ∧ some k_ ≠ (.slice Ao33 t238.length co33 : Value).ownBlock ∧ some k_ ≠ (.slice Ao34 t241.length co34 : Value).ownBlock) (.slice Ao23 t223.length co23) t223) := ⟨by rw [← hq_]; exact (rl (Kd.R_mono HO225.out (fun _ hk => by simp only [ne_eq] at hk ⊢; simp only [hk, not_false_eq_true, and_self])))⟩; have n1_ : Aside0 (Kd.R (Kd.int .i64) 3 w35 w.heap.size (fun k_ => some k_ ≠ (.slice Ao23 t223.length co23 : Value).ownBlock ∧ some k_ ≠ (.slice Ao25 t229.length co25 : Value).ownBlock ∧ some k_ ≠ (.slice Ao30 t235.length co30 : Value).ownBlock ∧ some k_ ≠ (.slice Ao33 t238.length co33 : Value).ownBlock ∧ some k_ ≠ (.slice Ao34 t241.length co34 : Value).ownBlock) (.slice Ao24 t226.length co24) t226) := ⟨by rw [← hq_]; exact (rl (Kd.R_mono HO228.out (fun _ hk => by simp only [ne_eq] at hk ⊢; simp only [hk, not_false_eq_true, and_self])))⟩; have n2_ : Aside0 (Kd.R (Kd.int .i64) 3 w35 w.heap.size (fun k_ => some k_ ≠ (.slice Ao23 t223.length co23 : Value).ownBlock ∧ some k_ ≠ (.slice Ao24 t226.length co24 : Value).ownBlock ∧ some k_ ≠ (.slice Ao30 t235.length co30 : Value).ownBlock ∧ some k_ ≠ (.slice Ao33 t238.length co33 : Value).ownBlock ∧ some k_ ≠ (.slice Ao34 t241.length co34 : Value).ownBlock) (.slice Ao25 t229.length co25) t229) := ⟨by rw [← hq_]; exact (rl (Kd.R_mono HO231.out (fun _ hk => by simp only [ne_eq] at hk ⊢; simp only [hk, not_false_eq_true, and_self])))⟩; have n3_ : Aside0 (Kd.R Kd.bool 4 w35 w.heap.size (fun k_ => some k_ ≠ (.slice Ao36 t245.length co36 : Value).ownBlock) (.slice Ao37 t232.length co37) t232) := ⟨by rw [← hq_]; exact (rl (Kd.R_mono HO234.out (fun _ hk => by first | exact hk.2 | (simp only [ne_eq] at hk ⊢; simp only [hk, not_false_eq_true, and_self]))))⟩; have n4_ : Aside0 (Kd.R (Kd.int .i64) 3 w35 w.heap.size (fun k_ => some k_ ≠ (.slice Ao23 t223.length co23 : Value).ownBlock ∧ some k_ ≠ (.slice Ao24 t226.length co24 : Value).ownBlock ∧ some k_ ≠ (.slice Ao25 t229.length co25 : Value).ownBlock ∧ some k_ ≠ (.slice Ao33 t238.length co33 : Value).ownBlock ∧ some k_ ≠ (.slice Ao34 t241.length co34 : Value).ownBlock) (.slice Ao30 t235.length co30) t235) := ⟨by rw [← hq_]; exact (rl (Kd.R_mono HO237.out (fun _ hk => by simp only [ne_eq] at hk ⊢; simp only [hk, not_false_eq_true, and_self])))⟩; have n5_ : Aside0 (Kd.R (Kd.int .i64) 3 w35 w.heap.size (fun k_ => some k_ ≠ (.slice Ao23 t223.length co23 : Value).ownBlock ∧ some k_ ≠ (.slice Ao24 t226.length co24 : Value).ownBlock ∧ some k_ ≠ (.slice Ao25 t229.length co25 : Value).ownBlock ∧ some k_ ≠ (.slice Ao30 t235.length co30 : Value).ownBlock ∧ some k_ ≠ (.slice Ao34 t241.length co34 : Value).ownBlock) (.slice Ao33 t238.length co33) t238) := ⟨by rw [← hq_]; exact (rl (Kd.R_mono HO240.out (fun _ hk => by simp only [ne_eq] at hk ⊢; simp only [hk, not_false_eq_true, and_self])))⟩; have n6_ : Aside0 (Kd.R (Kd.int .i64) 3 w35 w.heap.size (fun k_ => some k_ ≠ (.slice Ao23 t223.length co23 : Value).ownBlock ∧ some k_ ≠ (.slice Ao24 t226.length co24 : Value).ownBlock ∧ some k_ ≠ (.slice Ao25 t229.length co25 : Value).ownBlock ∧ some k_ ≠ (.slice Ao30 t235.length co30 : Value).ownBlock ∧ some k_ ≠ (.slice Ao33 t238.length co33 : Value).ownBlock) (.slice Ao34 t241.length co34) t241) := ⟨by rw [← hq_]; exact (rl (Kd.R_mono HO243.out (fun _ hk => by simp only [ne_eq] at hk ⊢; simp only [hk, not_false_eq_true, and_self])))⟩; have n7_ : Aside0 (Kd.R Kd.bool 4 w35 w.heap.size (fun k_ => some k_ ≠ (.slice Ao37 t232.length co37 : Value).ownBlock) (.slice Ao36 t245.length co36) t245) := ⟨by rw [← hq_]; exact (rl (Kd.R_mono HO247.out (fun _ hk => by first | exact hk.2 | (simp only [ne_eq] at hk ⊢; simp only [hk, not_false_eq_true, and_self]))))⟩; have n8_ : Aside0 (w35.heap[gb221]? = some (.cells #[.slice A0_0 l0_0.length c0_0, .slice A0_1 l0_1.length c0_1, .slice A0_2 l0_2.length c0_2] 24 (0, 0))) := ⟨by rw [← hq_]; exact (kl BK221.out)⟩; have n9_ : Aside0 (w35.heap[gb244]? = some (.cells #[.slice Ao30 t235.length co30, .slice Ao33 t238.length co33, .slice Ao34 t241.length co34] 28 (0, 0))) := ⟨by rw [← hq_]; exact (kl BK244.out)⟩; have n10_ : Aside0 (Below w.heap.size w w35) := ⟨by rw [← hq_]; exact (by repeat (first | (with_reducible first | exact HB.out | apply below_alloc | apply pw_below_drewN | apply below_drew1 | refine below_set ?_ GE221.out | refine below_set ?_ GE244.out) | exact HB.out))⟩; clear HO225 HO228 HO231 HO234 HO237 HO240 HO243 HO247 BK221 BK244 HB hq_; have HO225 := n0_; have HO228 := n1_; have HO231 := n2_; have HO234 := n3_; have HO237 := n4_; have HO240 := n5_; have HO243 := n6_; have HO247 := n7_; have BK221 := n8_; have BK244 := n9_; have HB := n10_; clear n0_ n1_ n2_ n3_ n4_ n5_ n6_ n7_ n8_ n9_ n10_))
        have n0_ := am (Kd.R_drew HO225.out)
        have n1_ := am (Kd.R_drew HO228.out)
        have n2_ := am (Kd.R_drew HO231.out)
        have n3_ := am (Kd.R_drew HO234.out)
        have n4_ := am (Kd.R_drew HO237.out)
        have n5_ := am (Kd.R_drew HO240.out)
        have n6_ := am (Kd.R_drew HO243.out)
        have n7_ := am (Kd.R_drew HO247.out)
        have n8_ := am (blk_drew BK221.out)
        have n9_ := am (blk_drew BK244.out)
        have n10_ := am (below_drew1 HB.out)
        clear HO225
        clear HO228
        clear HO231
        clear HO234
        clear HO237
        clear HO240
        clear HO243
        clear HO247
        clear BK221
        clear BK244
        clear HB
        have HO225 := n0_
        have HO228 := n1_
        have HO231 := n2_
        have HO234 := n3_
        have HO237 := n4_
        have HO240 := n5_
        have HO243 := n6_
        have HO247 := n7_
        have BK221 := n8_
        have BK244 := n9_
        have HB := n10_
        clear n0_ n1_ n2_ n3_ n4_ n5_ n6_ n7_ n8_ n9_ n10_
        refine start_ (n := 5) (S := fun w' => w'.cell? ⟨gb244, 0, none⟩ = some (.slice Ao30 t235.length co30) ∧ w'.cell? ⟨gb244, 1, none⟩ = some (.slice Ao33 t238.length co33) ∧ w'.cell? ⟨gb244, 2, none⟩ = some (.slice Ao34 t241.length co34) ∧ w'.cell? ⟨gb221, 0, none⟩ = some (.slice A0_0 l0_0.length c0_0) ∧ w'.cell? ⟨gb221, 1, none⟩ = some (.slice A0_1 l0_1.length c0_1) ∧ w'.cell? ⟨gb221, 2, none⟩ = some (.slice A0_2 l0_2.length c0_2)) (ds := []) #[false, false, false, false, false] (by kernel_rfl) rfl rfl ⟨(blk_cell BK244.out 0).trans rfl, (blk_cell BK244.out 1).trans rfl, (blk_cell BK244.out 2).trans rfl, (blk_cell BK221.out 0).trans rfl, (blk_cell BK221.out 1).trans rfl, (blk_cell BK221.out 2).trans rfl⟩ (fun hHeld => ?_)
        generalize w35.drew = w38 at HO225 HO228 HO231 HO234 HO237 HO240 HO243 HO247 BK221 BK244 HB hHeld ⊢
        refine take_ (i := 0) (N := some 27) (v := ?_) (a' := ?_) #[true, false, false, false, false] rfl rfl (by kernel_rfl) (fun _ _ _ h => h) (Or.inl ⟨by rfl, ?_⟩) hHeld ?_ ?_
        rotate_left
        · rintro w' ⟨s0, s1, s2, s3, s4, s5⟩
          go_simp
          with_reducible rfl
        rotate_left
        · simp only [Act.put, List.setIfInBounds_toArray, List.set_cons_zero, List.set_cons_succ, i64_w, i32_w]
          rfl
        refine take_ (i := 1) (N := some 28) (v := ?_) (a' := ?_) #[true, true, false, false, false] rfl rfl (by kernel_rfl) (fun _ _ _ h => h) (Or.inl ⟨by rfl, ?_⟩) hHeld ?_ ?_
        rotate_left
        · rintro w' ⟨s0, s1, s2, s3, s4, s5⟩
          go_simp
          with_reducible rfl
        rotate_left
        · simp only [Act.put, List.setIfInBounds_toArray, List.set_cons_zero, List.set_cons_succ, i64_w, i32_w]
          rfl
        refine one_ (i := 2) (N := some 29) #[true, true, true, false, false] rfl rfl (by kernel_rfl) (by decide) (fun K hK => ?_)
        refine goes_ Try.func17 (by kernel_rfl) rfl #[.agg #[.slice A0_0 l0_0.length c0_0, .slice A0_1 l0_1.length c0_1, .slice A0_2 l0_2.length c0_2]] (by rfl) rfl rfl (by (try simp only [List.map_toArray, List.map_cons, List.map_nil]); first | done | rfl | (simp only [List.length_drop, List.length_take]; rfl)) ?_
        with_reducible refine (laws_toHeap.calls k _ _ l0_0 _ _ l0_1 _ _ l0_2 t249 t252 t255 _ ?side1 ?side2 ?side3 ?side4 ?side5 ?side6 A13.out).mono ?_
        (case side1 => exact cl (Kd.C_below HR0_0.out HB.out))
        (case side2 => exact HC0_0.out)
        (case side3 => exact cl (Kd.C_below HR0_1.out HB.out))
        (case side4 => exact HC0_1.out)
        (case side5 => exact cl (Kd.C_below HR0_2.out HB.out))
        (case side6 => exact HC0_2.out)
        rintro e w39 ⟨v250, v253, v256, rfl, ho0, ho1, ho2, hb⟩
        refine ⟨_, rfl, ?_⟩
        have n0_ := am (Kd.R_mono (Kd.R_told (Kd.R_told (Kd.R_told (Kd.R_old (rl HO225.out) hb) (Kd.R_base ho0)) (Kd.R_base ho1)) (Kd.R_base ho2)) (fun _ h_ => h_.1))
        have n1_ := am (Kd.R_mono (Kd.R_told (Kd.R_told (Kd.R_told (Kd.R_old (rl HO228.out) hb) (Kd.R_base ho0)) (Kd.R_base ho1)) (Kd.R_base ho2)) (fun _ h_ => h_.1))
        have n2_ := am (Kd.R_mono (Kd.R_told (Kd.R_told (Kd.R_told (Kd.R_old (rl HO231.out) hb) (Kd.R_base ho0)) (Kd.R_base ho1)) (Kd.R_base ho2)) (fun _ h_ => h_.1))
        have n3_ := am (Kd.R_below (rl HO234.out) hb)
        have n4_ := am (Kd.R_mono (Kd.R_told (Kd.R_told (Kd.R_told (Kd.R_old (rl HO237.out) hb) (Kd.R_base ho0)) (Kd.R_base ho1)) (Kd.R_base ho2)) (fun _ h_ => h_.1))
        have n5_ := am (Kd.R_mono (Kd.R_told (Kd.R_told (Kd.R_told (Kd.R_old (rl HO240.out) hb) (Kd.R_base ho0)) (Kd.R_base ho1)) (Kd.R_base ho2)) (fun _ h_ => h_.1))
        have n6_ := am (Kd.R_mono (Kd.R_told (Kd.R_told (Kd.R_told (Kd.R_old (rl HO243.out) hb) (Kd.R_base ho0)) (Kd.R_base ho1)) (Kd.R_base ho2)) (fun _ h_ => h_.1))
        have n7_ := am (Kd.R_below (rl HO247.out) hb)
        have n8_ := am (Kd.R_lower (Kd.R_new' (Kd.R_new' (Kd.R_new' (Kd.R_new' (Kd.R_new' (Kd.R_new' ho0 (Kd.R_lt (rl HO225.out))) (Kd.R_lt (rl HO228.out))) (Kd.R_lt (rl HO231.out))) (Kd.R_lt (rl HO237.out))) (Kd.R_lt (rl HO240.out))) (Kd.R_lt (rl HO243.out))) (below_size (by repeat (first | (with_reducible first | exact HB.out | apply below_alloc | apply pw_below_drewN | apply below_drew1 | refine below_set ?_ GE221.out | refine below_set ?_ GE244.out) | exact HB.out))))
        have n9_ := am (Kd.R_lower (Kd.R_new' (Kd.R_new' (Kd.R_new' (Kd.R_new' (Kd.R_new' (Kd.R_new' ho1 (Kd.R_lt (rl HO225.out))) (Kd.R_lt (rl HO228.out))) (Kd.R_lt (rl HO231.out))) (Kd.R_lt (rl HO237.out))) (Kd.R_lt (rl HO240.out))) (Kd.R_lt (rl HO243.out))) (below_size (by repeat (first | (with_reducible first | exact HB.out | apply below_alloc | apply pw_below_drewN | apply below_drew1 | refine below_set ?_ GE221.out | refine below_set ?_ GE244.out) | exact HB.out))))
        have n10_ := am (Kd.R_lower (Kd.R_new' (Kd.R_new' (Kd.R_new' (Kd.R_new' (Kd.R_new' (Kd.R_new' ho2 (Kd.R_lt (rl HO225.out))) (Kd.R_lt (rl HO228.out))) (Kd.R_lt (rl HO231.out))) (Kd.R_lt (rl HO237.out))) (Kd.R_lt (rl HO240.out))) (Kd.R_lt (rl HO243.out))) (below_size (by repeat (first | (with_reducible first | exact HB.out | apply below_alloc | apply pw_below_drewN | apply below_drew1 | refine below_set ?_ GE221.out | refine below_set ?_ GE244.out) | exact HB.out))))
        have n11_ := am (blk_below (g := gb221) (o := .cells #[.slice A0_0 l0_0.length c0_0, .slice A0_1 l0_1.length c0_1, .slice A0_2 l0_2.length c0_2] 24 (0, 0)) (kl BK221.out) hb)
        have n12_ := am (blk_below (g := gb244) (o := .cells #[.slice Ao30 t235.length co30, .slice Ao33 t238.length co33, .slice Ao34 t241.length co34] 28 (0, 0)) (kl BK244.out) hb)
        have n13_ := am (below_step (by repeat (first | (with_reducible first | exact HB.out | apply below_alloc | apply pw_below_drewN | apply below_drew1 | refine below_set ?_ GE221.out | refine below_set ?_ GE244.out) | exact HB.out)) hb)
        clear HO225
        clear HO228
        clear HO231
        clear HO234
        clear HO237
        clear HO240
        clear HO243
        clear HO247
        clear BK221
        clear BK244
        clear HB
        have HO225 := n0_
        have HO228 := n1_
        have HO231 := n2_
        have HO234 := n3_
        have HO237 := n4_
        have HO240 := n5_
        have HO243 := n6_
        have HO247 := n7_
        have HO251 := n8_
        have HO254 := n9_
        have HO257 := n10_
        have BK221 := n11_
        have BK244 := n12_
        have HB := n13_
        clear n0_ n1_ n2_ n3_ n4_ n5_ n6_ n7_ n8_ n9_ n10_ n11_ n12_ n13_
        (try clear hb)
        (try clear hb2)
        (try clear hk)
        (try clear hi)
        (try clear ho0)
        (try clear ho1)
        (try clear ho2)
        obtain ⟨Ao40, co40, eo40⟩ := Kd.R_slice HO251.out
        (first | subst eo40 | (injection eo40 with f1_ f2_ f3_; have f4_ := f1_.symm; have f5_ := f3_.symm; clear f1_ f2_ f3_; subst f4_; subst f5_))
        obtain ⟨Ao41, co41, eo41⟩ := Kd.R_slice HO254.out
        (first | subst eo41 | (injection eo41 with f1_ f2_ f3_; have f4_ := f1_.symm; have f5_ := f3_.symm; clear f1_ f2_ f3_; subst f4_; subst f5_))
        obtain ⟨Ao42, co42, eo42⟩ := Kd.R_slice HO257.out
        (first | subst eo42 | (injection eo42 with f1_ f2_ f3_; have f4_ := f1_.symm; have f5_ := f3_.symm; clear f1_ f2_ f3_; subst f4_; subst f5_))
        refine hK.out _ _ ⟨(blk_cell BK244.out 0).trans rfl, (blk_cell BK244.out 1).trans rfl, (blk_cell BK244.out 2).trans rfl, (blk_cell BK221.out 0).trans rfl, (blk_cell BK221.out 1).trans rfl, (blk_cell BK221.out 2).trans rfl⟩ (fun hHeld => ?_)
        clear hK K
        refine norm_ (a' := ?_) ?_ ?_
        rotate_left
        · show Act.put _ (some 29) _ = _
          simp only [Act.put, List.setIfInBounds_toArray, List.set_cons_zero, List.set_cons_succ, i64_w, i32_w]
          rfl
        refine one_ (i := 3) (N := some 30) #[true, true, true, true, false] rfl rfl (by kernel_rfl) (by decide) (fun K hK => ?_)
        refine goes_ Try.func20 (by kernel_rfl) rfl #[.agg #[.slice Ao30 t235.length co30, .slice Ao33 t238.length co33, .slice Ao34 t241.length co34], .agg #[.slice Ao40 t249.length co40, .slice Ao41 t252.length co41, .slice Ao42 t255.length co42]] (by rfl) rfl rfl (by (try simp only [List.map_toArray, List.map_cons, List.map_nil]); first | done | rfl | (simp only [List.length_drop, List.length_take]; rfl)) ?_
        with_reducible refine (laws_eqHeap.calls k _ _ t235 _ _ t238 _ _ t241 _ _ t249 _ _ t252 _ _ t255 true _ ?side1 ?side2 ?side3 ?side4 ?side5 ?side6 ?side7 ?side8 ?side9 ?side10 ?side11 ?side12 A14.out).mono ?_
        (case side1 => repeat (first | exact (Kd.R_reads' HO237.out).2.2 | (with_reducible refine Kd.C_alloc ?_ _) | (with_reducible refine Kd.C_drewN ?_ _) | (with_reducible refine Kd.C_drew ?_)))
        (case side2 => exact (Kd.R_reads' HO237.out).2.1)
        (case side3 => repeat (first | exact (Kd.R_reads' HO240.out).2.2 | (with_reducible refine Kd.C_alloc ?_ _) | (with_reducible refine Kd.C_drewN ?_ _) | (with_reducible refine Kd.C_drew ?_)))
        (case side4 => exact (Kd.R_reads' HO240.out).2.1)
        (case side5 => repeat (first | exact (Kd.R_reads' HO243.out).2.2 | (with_reducible refine Kd.C_alloc ?_ _) | (with_reducible refine Kd.C_drewN ?_ _) | (with_reducible refine Kd.C_drew ?_)))
        (case side6 => exact (Kd.R_reads' HO243.out).2.1)
        (case side7 => repeat (first | exact (Kd.R_reads' HO251.out).2.2 | (with_reducible refine Kd.C_alloc ?_ _) | (with_reducible refine Kd.C_drewN ?_ _) | (with_reducible refine Kd.C_drew ?_)))
        (case side8 => exact (Kd.R_reads' HO251.out).2.1)
        (case side9 => repeat (first | exact (Kd.R_reads' HO254.out).2.2 | (with_reducible refine Kd.C_alloc ?_ _) | (with_reducible refine Kd.C_drewN ?_ _) | (with_reducible refine Kd.C_drew ?_)))
        (case side10 => exact (Kd.R_reads' HO254.out).2.1)
        (case side11 => repeat (first | exact (Kd.R_reads' HO257.out).2.2 | (with_reducible refine Kd.C_alloc ?_ _) | (with_reducible refine Kd.C_drewN ?_ _) | (with_reducible refine Kd.C_drew ?_)))
        (case side12 => exact (Kd.R_reads' HO257.out).2.1)
        rintro e w43 ⟨rfl, hb⟩
        refine ⟨_, rfl, ?_⟩
        have n0_ := am (Kd.R_below (rl HO225.out) hb)
        have n1_ := am (Kd.R_below (rl HO228.out) hb)
        have n2_ := am (Kd.R_below (rl HO231.out) hb)
        have n3_ := am (Kd.R_below (rl HO234.out) hb)
        have n4_ := am (Kd.R_below (rl HO237.out) hb)
        have n5_ := am (Kd.R_below (rl HO240.out) hb)
        have n6_ := am (Kd.R_below (rl HO243.out) hb)
        have n7_ := am (Kd.R_below (rl HO247.out) hb)
        have n8_ := am (Kd.R_below (rl HO251.out) hb)
        have n9_ := am (Kd.R_below (rl HO254.out) hb)
        have n10_ := am (Kd.R_below (rl HO257.out) hb)
        have n11_ := am (blk_below (g := gb221) (o := .cells #[.slice A0_0 l0_0.length c0_0, .slice A0_1 l0_1.length c0_1, .slice A0_2 l0_2.length c0_2] 24 (0, 0)) (kl BK221.out) hb)
        have n12_ := am (blk_below (g := gb244) (o := .cells #[.slice Ao30 t235.length co30, .slice Ao33 t238.length co33, .slice Ao34 t241.length co34] 28 (0, 0)) (kl BK244.out) hb)
        have n13_ := am (below_step (by repeat (first | (with_reducible first | exact HB.out | apply below_alloc | apply pw_below_drewN | apply below_drew1 | refine below_set ?_ GE221.out | refine below_set ?_ GE244.out) | exact HB.out)) hb)
        clear HO225
        clear HO228
        clear HO231
        clear HO234
        clear HO237
        clear HO240
        clear HO243
        clear HO247
        clear HO251
        clear HO254
        clear HO257
        clear BK221
        clear BK244
        clear HB
        have HO225 := n0_
        have HO228 := n1_
        have HO231 := n2_
        have HO234 := n3_
        have HO237 := n4_
        have HO240 := n5_
        have HO243 := n6_
        have HO247 := n7_
        have HO251 := n8_
        have HO254 := n9_
        have HO257 := n10_
        have BK221 := n11_
        have BK244 := n12_
        have HB := n13_
        clear n0_ n1_ n2_ n3_ n4_ n5_ n6_ n7_ n8_ n9_ n10_ n11_ n12_ n13_
        (try clear hb)
        (try clear hb2)
        (try clear hk)
        (try clear hi)
        refine hK.out _ _ ⟨(blk_cell BK244.out 0).trans rfl, (blk_cell BK244.out 1).trans rfl, (blk_cell BK244.out 2).trans rfl, (blk_cell BK221.out 0).trans rfl, (blk_cell BK221.out 1).trans rfl, (blk_cell BK221.out 2).trans rfl⟩ (fun hHeld => ?_)
        clear hK K
        refine norm_ (a' := ?_) ?_ ?_
        rotate_left
        · show Act.put _ (some 30) _ = _
          simp only [Act.put, List.setIfInBounds_toArray, List.set_cons_zero, List.set_cons_succ, i64_w, i32_w]
          rfl
        refine pure_ (i := 4) (N := some 31) (v := ?_) (a' := ?_) #[true, true, true, true, true] rfl rfl (by kernel_rfl) (fun _ _ _ h => h) (Or.inl ⟨by rfl, ?_⟩) ?_ ?_
        rotate_left
        · intro w'
          go_simp
          with_reducible rfl
        rotate_left
        · simp only [Act.put, List.setIfInBounds_toArray, List.set_cons_zero, List.set_cons_succ, i64_w, i32_w]
          rfl
        refine done_ (by kernel_rfl) ?_
        have hcz44_0 : w43.cell? ⟨gb244, 0, none⟩ = some (.slice Ao30 t235.length co30) := (blk_cell BK244.out 0).trans rfl
        have hcz44_1 : w43.cell? ⟨gb244, 1, none⟩ = some (.slice Ao33 t238.length co33) := (blk_cell BK244.out 1).trans rfl
        have hcz44_2 : w43.cell? ⟨gb244, 2, none⟩ = some (.slice Ao34 t241.length co34) := (blk_cell BK244.out 2).trans rfl
        have hfz44_0 := blk_frozen BK244.out 0
        have hfz44_1 := blk_frozen BK244.out 1
        have hfz44_2 := blk_frozen BK244.out 2
        go_upto_region 14 with (first | ((with_reducible refine gate_callee (f := 21) rfl ?_); refine goesL_ (some 34) rfl rfl Try.func21 (by kernel_rfl) rfl #[.agg #[.slice Ao30 t235.length co30, .slice Ao33 t238.length co33, .slice Ao34 t241.length co34], .int .i64 1] rfl (by (try simp only [List.map_toArray, List.map_cons, List.map_nil]); first | done | rfl | (simp only [List.length_drop, List.length_take]; rfl)) ?_; (with_reducible refine (laws_markHeap.calls k (fun k_ => some k_ = (.slice Ao30 t235.length co30 : Value).ownBlock) (.slice Ao30 t235.length co30) t235 (fun k_ => some k_ = (.slice Ao33 t238.length co33 : Value).ownBlock) (.slice Ao33 t238.length co33) t238 (fun k_ => some k_ = (.slice Ao34 t241.length co34 : Value).ownBlock) (.slice Ao34 t241.length co34) t241 1 t259 t260 t261 t262 w _ ?side1 ?side2 ?side3 ?side4 ?side5 ?side6 ?side7 ?side8 ?side9 ?side10 A16.out).mono ?_); (case side1 => repeat (first | (with_reducible first | exact HB.out | apply below_alloc | apply pw_below_drewN | apply below_drew1 | refine below_set ?_ GE221.out | refine below_set ?_ GE244.out) | exact HB.out)); (case side2 => exact Kd.R_tight rfl HO237.out); (case side3 => exact fun k_ e_ => by have z_ := HO237.out.1 k_ e_.symm; simp only [ne_eq] at z_; simp only [z_, not_false_eq_true]); (case side4 => exact fun k_ e_ => by have z_ := HO237.out.1 k_ e_.symm; simp only [ne_eq] at z_; simp only [z_, not_false_eq_true]); (case side5 => exact Kd.R_tight rfl HO240.out); (case side6 => exact fun k_ e_ => by have z_ := HO240.out.1 k_ e_.symm; simp only [ne_eq] at z_; simp only [z_, not_false_eq_true]); (case side7 => exact fun k_ e_ => by have z_ := HO240.out.1 k_ e_.symm; simp only [ne_eq] at z_; simp only [z_, not_false_eq_true]); (case side8 => exact Kd.R_tight rfl HO243.out); (case side9 => exact fun k_ e_ => by have z_ := HO243.out.1 k_ e_.symm; simp only [ne_eq] at z_; simp only [z_, not_false_eq_true]); (case side10 => exact fun k_ e_ => by have z_ := HO243.out.1 k_ e_.symm; simp only [ne_eq] at z_; simp only [z_, not_false_eq_true]); rintro e w45 ⟨rfl, hy0, hy1, hy2, hb, hkp⟩; refine ⟨_, rfl, ?_⟩; have n0_ := am (blk_kept (kl BK221.out) hkp (fun hs_ => Or.elim hs_ (fun e_ => (fun e_ => (Kd.R_ne HO237.out BK221.out (by decide)) e_) e_) (fun e_ => Or.elim e_ (fun e_ => (fun e_ => (Kd.R_ne HO240.out BK221.out (by decide)) e_) e_) (fun e_ => (fun e_ => (Kd.R_ne HO243.out BK221.out (by decide)) e_) e_)))); have n1_ := am (Kd.R_kept (HO225.out) hkp (fun k_ hk_ hs_ => by simp only [ne_eq] at hk_; simp only [hk_, or_self] at hs_)); have n2_ := am (Kd.R_kept (HO228.out) hkp (fun k_ hk_ hs_ => by simp only [ne_eq] at hk_; simp only [hk_, or_self] at hs_)); have n3_ := am (Kd.R_kept (HO231.out) hkp (fun k_ hk_ hs_ => by simp only [ne_eq] at hk_; simp only [hk_, or_self] at hs_)); have n4_ := am (Kd.R_kept ((Kd.R_apart' (Kd.R_apart' (Kd.R_apart' HO234.out (Kd.R_typed HO237.out) (by decide)) (Kd.R_typed HO240.out) (by decide)) (Kd.R_typed HO243.out) (by decide))) hkp (fun k_ hk_ hs_ => by simp only [ne_eq] at hk_; simp only [hk_, or_self] at hs_)); have n5_ := am (Kd.R_reok rfl hy0 (fun k_ e_ => HO237.out.1 k_ e_)); have n6_ := am (Kd.R_reok rfl hy1 (fun k_ e_ => HO240.out.1 k_ e_)); have n7_ := am (Kd.R_reok rfl hy2 (fun k_ e_ => HO243.out.1 k_ e_)); have n8_ := am (blk_kept (kl BK244.out) hkp (fun hs_ => Or.elim hs_ (fun e_ => (fun e_ => (Kd.R_ne HO237.out BK244.out (by decide)) e_) e_) (fun e_ => Or.elim e_ (fun e_ => (fun e_ => (Kd.R_ne HO240.out BK244.out (by decide)) e_) e_) (fun e_ => (fun e_ => (Kd.R_ne HO243.out BK244.out (by decide)) e_) e_)))); have n9_ := am (Kd.R_kept ((Kd.R_apart' (Kd.R_apart' (Kd.R_apart' HO247.out (Kd.R_typed HO237.out) (by decide)) (Kd.R_typed HO240.out) (by decide)) (Kd.R_typed HO243.out) (by decide))) hkp (fun k_ hk_ hs_ => by simp only [ne_eq] at hk_; simp only [hk_, or_self] at hs_)); have n10_ := am (Kd.R_kept (HO251.out) hkp (fun k_ hk_ hs_ => by simp only [ne_eq] at hk_; simp only [hk_, or_self] at hs_)); have n11_ := am (Kd.R_kept (HO254.out) hkp (fun k_ hk_ hs_ => by simp only [ne_eq] at hk_; simp only [hk_, or_self] at hs_)); have n12_ := am (Kd.R_kept (HO257.out) hkp (fun k_ hk_ hs_ => by simp only [ne_eq] at hk_; simp only [hk_, or_self] at hs_)); have n13_ := am (hb); clear BK221; clear HO225; clear HO228; clear HO231; clear HO234; clear HO237; clear HO240; clear HO243; clear BK244; clear HO247; clear HO251; clear HO254; clear HO257; clear HB; have BK221 := n0_; have HO225 := n1_; have HO228 := n2_; have HO231 := n3_; have HO234 := n4_; have HO237 := n5_; have HO240 := n6_; have HO243 := n7_; have BK244 := n8_; have HO247 := n9_; have HO251 := n10_; have HO254 := n11_; have HO257 := n12_; have HB := n13_; clear n0_ n1_ n2_ n3_ n4_ n5_ n6_ n7_ n8_ n9_ n10_ n11_ n12_ n13_; (try clear hb); (try clear hkp); (try clear hy0); (try clear hy1); (try clear hy2)))
        (try simp only [Act.put, List.setIfInBounds_toArray, List.set_cons_zero, List.set_cons_succ])
        go_cut [42] (fun v42 wc => ∃ (kq : Nat) (x42_16 : Bool), v42 = .bool x42_16 ∧ Aside0 (laws_FnExactReachable.j0 kq t232 t245 x42_16 l0_0 l0_1 l0_2 = some r) ∧ Aside0 (kq ≤ k) ∧ Aside0 (Kd.R Kd.bool 4 wc w.heap.size (fun k_ => some k_ ≠ ((.slice Ao36 t245.length co36) : Value).ownBlock) (.slice Ao37 t232.length co37) t232) ∧ Aside0 (Kd.R Kd.bool 4 wc w.heap.size (fun k_ => some k_ ≠ ((.slice Ao37 t232.length co37) : Value).ownBlock) (.slice Ao36 t245.length co36) t245) ∧ Aside0 (wc.heap[gb221]? = some (.cells #[(.slice A0_0 l0_0.length c0_0), (.slice A0_1 l0_1.length c0_1), (.slice A0_2 l0_2.length c0_2)] 24 (0, 0))) ∧ Aside0 (Below w.heap.size w wc))
        case first =>
          have H := HC17.out
          clear HC17
          by_cases c46 : t259 < 0
          · rw [if_pos c46] at H
            have c46b0 : decide (t259 < 0) = true := decide_eq_true c46
            clear c46
            (first | rw [c46b0] | (simp only [i64_w, i32_w]; rw [c46b0]) | skip)
            have H' := am H
            clear H
            go_wp2
            go_meet
            case rel => exact ⟨_, (true), (by first | rfl | (simp; done) | (simp [*]; done)), H', ⟨by first | omega | exact Nat.le_refl _⟩, ⟨rl (Kd.R_mono HO234.out (fun _ hk => by first | exact hk | (simp only [ne_eq] at hk ⊢; simp only [hk, not_false_eq_true, and_self])))⟩, ⟨rl (Kd.R_mono HO247.out (fun _ hk => by first | exact hk | (simp only [ne_eq] at hk ⊢; simp only [hk, not_false_eq_true, and_self])))⟩, ⟨kl BK221.out⟩, ⟨by repeat (first | (with_reducible first | exact HB.out | apply below_alloc | apply pw_below_drewN | apply below_drew1 | refine below_set ?_ GE221.out | refine below_set ?_ GE244.out) | exact HB.out)⟩⟩
          · rw [if_neg c46] at H
            have c46b0 : decide (t259 < 0) = false := decide_eq_false c46
            clear c46
            (first | rw [c46b0] | (simp only [i64_w, i32_w]; rw [c46b0]) | skip)
            replace H := Option.bind_eq_some_iff.mp H
            obtain ⟨t263, A470, H⟩ := H
            replace H : (laws_FnExactReachable.j0 k t232 t245 (!t263) l0_0 l0_1 l0_2) = some r := H
            have A47 := am A470
            clear A470
            have H' := am H
            clear H
            go_wp2_with (first | (go_at_call 19; (with_reducible refine (laws_eqBoolS.calls k _ _ t245 _ _ t232 t263 _ ?side1 ?side2 ?side3 ?side4 A47.out).mono ?_); (case side1 => repeat (first | exact (Kd.R_reads' HO247.out).2.2 | (with_reducible refine Kd.C_alloc ?_ _) | (with_reducible refine Kd.C_drewN ?_ _) | (with_reducible refine Kd.C_drew ?_))); (case side2 => exact (Kd.R_reads' HO247.out).2.1); (case side3 => repeat (first | exact (Kd.R_reads' HO234.out).2.2 | (with_reducible refine Kd.C_alloc ?_ _) | (with_reducible refine Kd.C_drewN ?_ _) | (with_reducible refine Kd.C_drew ?_))); (case side4 => exact (Kd.R_reads' HO234.out).2.1); rintro e w' ⟨rfl, ⟨nd, rfl⟩⟩))
            go_meet
            case rel => exact ⟨_, (!t263), (by first | rfl | (simp; done) | (simp [*]; done)), H', ⟨by first | omega | exact Nat.le_refl _⟩, ⟨rl (Kd.R_mono HO234.out (fun _ hk => by first | exact hk | (simp only [ne_eq] at hk ⊢; simp only [hk, not_false_eq_true, and_self])))⟩, ⟨rl (Kd.R_mono HO247.out (fun _ hk => by first | exact hk | (simp only [ne_eq] at hk ⊢; simp only [hk, not_false_eq_true, and_self])))⟩, ⟨kl BK221.out⟩, ⟨by repeat (first | (with_reducible first | exact HB.out | apply below_alloc | apply pw_below_drewN | apply below_drew1 | refine below_set ?_ GE221.out | refine below_set ?_ GE244.out) | exact HB.out)⟩⟩
        case rest =>
          clear HC17
          try clear c1
          try clear c2
          try clear p2
          try clear c3
          try clear c3b0
          try clear c4
          try clear c12
          try clear c15
          try clear c16
          try clear c17
          try clear c18
          try clear c19
          try clear c20
          try clear c21
          try clear c31
          try clear c46
          try clear c46b0
          try clear hcz19_0
          try clear hcz19_1
          try clear hcz19_2
          try clear hcz21_0
          try clear hcz21_1
          try clear hcz21_2
          try clear hcz27_0
          try clear hcz27_1
          try clear hcz27_2
          try clear hcz32_0
          try clear hcz32_1
          try clear hcz32_2
          try clear hcz44_0
          try clear hcz44_1
          try clear hcz44_2
          try clear hcz5_0
          try clear hcz5_1
          try clear hcz5_2
          try clear hfz19_0
          try clear hfz19_1
          try clear hfz19_2
          try clear hfz21_0
          try clear hfz21_1
          try clear hfz21_2
          try clear hfz27_0
          try clear hfz27_1
          try clear hfz27_2
          try clear hfz32_0
          try clear hfz32_1
          try clear hfz32_2
          try clear hfz44_0
          try clear hfz44_1
          try clear hfz44_2
          try clear hfz5_0
          try clear hfz5_1
          try clear hfz5_2
          obtain ⟨kq, x42_16, rfl, HA, HJ16, HO_4, HO_6, BK221, HB⟩ := hcut
          cases kq with
          | zero => exact absurd HA.out (by simp [laws_FnExactReachable.j0])
          | succ kj16 =>
            have H := HA.out
            clear HA
            simp only [laws_FnExactReachable.j0] at H
            by_cases c48 : x42_16 = true
            · subst c48
              have H1 : (none) = some r := by rw [if_pos rfl] at H; exact H
              clear H
              have H := H1
              clear H1
              exact absurd H (by simp)
            · replace c48 := Bool.eq_false_iff.mpr c48
              subst c48
              have H1 : ((laws_markBoolS.f kj16 t245 1).bind fun bt264 => ((laws_heldBoolS.f kj16 bt264.2 1).bind fun t266 => (if t266 < 0 then (none) else (if t266 = bt264.1 then ((laws_toHeap.f kj16 l0_0 l0_1 l0_2).bind fun bt267 => ((impl_Reachable.f kj16 bt267.1 bt267.2.1 bt267.2.2).bind fun t276 => ((laws_eqBoolS.f kj16 t276 t232).bind fun t279 => (if t279 = true then ((laws_heldBoolS.f kj16 bt264.2 1).bind fun t280 => (if t280 < 0 then (none) else (if t280 = bt264.1 then (some true) else (none)))) else (none))))) else (none))))) = some r := by rw [if_neg (show ¬ (false = true) by decide)] at H; exact H
              clear H
              have H := H1
              clear H1
              replace H := Option.bind_eq_some_iff.mp H
              obtain ⟨⟨t264, t265⟩, A490, H⟩ := H
              replace H : ((laws_heldBoolS.f kj16 t265 1).bind fun t266 => (if t266 < 0 then (none) else (if t266 = t264 then ((laws_toHeap.f kj16 l0_0 l0_1 l0_2).bind fun bt267 => ((impl_Reachable.f kj16 bt267.1 bt267.2.1 bt267.2.2).bind fun t276 => ((laws_eqBoolS.f kj16 t276 t232).bind fun t279 => (if t279 = true then ((laws_heldBoolS.f kj16 t265 1).bind fun t280 => (if t280 < 0 then (none) else (if t280 = t264 then (some true) else (none)))) else (none))))) else (none)))) = some r := H
              have A49 := am A490
              clear A490
              replace H := Option.bind_eq_some_iff.mp H
              obtain ⟨t266, A500, H⟩ := H
              replace H : (if t266 < 0 then (none) else (if t266 = t264 then ((laws_toHeap.f kj16 l0_0 l0_1 l0_2).bind fun bt267 => ((impl_Reachable.f kj16 bt267.1 bt267.2.1 bt267.2.2).bind fun t276 => ((laws_eqBoolS.f kj16 t276 t232).bind fun t279 => (if t279 = true then ((laws_heldBoolS.f kj16 t265 1).bind fun t280 => (if t280 < 0 then (none) else (if t280 = t264 then (some true) else (none)))) else (none))))) else (none))) = some r := H
              have A50 := am A500
              clear A500
              by_cases c51 : t266 < 0
              · rw [if_pos c51] at H
                exact absurd H (by simp)
              · rw [if_neg c51] at H
                have c51b0 : decide (t266 < 0) = false := decide_eq_false c51
                clear c51
                by_cases c52 : t266 = t264
                · rw [if_pos c52] at H
                  have c52b0 : (t266 == t264) = true := beq_iff_eq.mpr c52
                  have c52b1 : (t266 != t264) = false := bne_eq_false_iff_eq.mpr c52
                  clear c52
                  replace H := Option.bind_eq_some_iff.mp H
                  obtain ⟨⟨t267, t270, t273⟩, A530, H⟩ := H
                  replace H : ((impl_Reachable.f kj16 t267 t270 t273).bind fun t276 => ((laws_eqBoolS.f kj16 t276 t232).bind fun t279 => (if t279 = true then ((laws_heldBoolS.f kj16 t265 1).bind fun t280 => (if t280 < 0 then (none) else (if t280 = t264 then (some true) else (none)))) else (none)))) = some r := H
                  have A53 := am A530
                  clear A530
                  replace H := Option.bind_eq_some_iff.mp H
                  obtain ⟨t276, A540, H⟩ := H
                  replace H : ((laws_eqBoolS.f kj16 t276 t232).bind fun t279 => (if t279 = true then ((laws_heldBoolS.f kj16 t265 1).bind fun t280 => (if t280 < 0 then (none) else (if t280 = t264 then (some true) else (none)))) else (none))) = some r := H
                  have A54 := am A540
                  clear A540
                  replace H := Option.bind_eq_some_iff.mp H
                  obtain ⟨t279, A550, H⟩ := H
                  replace H : (if t279 = true then ((laws_heldBoolS.f kj16 t265 1).bind fun t280 => (if t280 < 0 then (none) else (if t280 = t264 then (some true) else (none)))) else (none)) = some r := H
                  have A55 := am A550
                  clear A550
                  by_cases c56 : t279 = true
                  · subst c56
                    have H1 : ((laws_heldBoolS.f kj16 t265 1).bind fun t280 => (if t280 < 0 then (none) else (if t280 = t264 then (some true) else (none)))) = some r := by rw [if_pos rfl] at H; exact H
                    clear H
                    have H := H1
                    clear H1
                    replace H := Option.bind_eq_some_iff.mp H
                    obtain ⟨t280, A570, H⟩ := H
                    replace H : (if t280 < 0 then (none) else (if t280 = t264 then (some true) else (none))) = some r := H
                    have A57 := am A570
                    clear A570
                    by_cases c58 : t280 < 0
                    · rw [if_pos c58] at H
                      exact absurd H (by simp)
                    · rw [if_neg c58] at H
                      have c58b0 : decide (t280 < 0) = false := decide_eq_false c58
                      clear c58
                      by_cases c59 : t280 = t264
                      · rw [if_pos c59] at H
                        have c59b0 : (t280 == t264) = true := beq_iff_eq.mpr c59
                        have c59b1 : (t280 != t264) = false := bne_eq_false_iff_eq.mpr c59
                        clear c59
                        obtain rfl := Option.some.inj H
                        go_wp2_with (first | ((with_reducible refine gate_callee (f := 22) rfl ?_); refine goesL_ (some 45) rfl rfl Try.func22 (by kernel_rfl) rfl #[.slice Ao36 t245.length co36, .int .i64 1] rfl (by (try simp only [List.map_toArray, List.map_cons, List.map_nil]); first | done | rfl | (simp only [List.length_drop, List.length_take]; rfl)) ?_; (with_reducible refine (laws_markBoolS.calls kj16 (fun k_ => some k_ = (.slice Ao36 t245.length co36 : Value).ownBlock) (.slice Ao36 t245.length co36) t245 1 t264 t265 w _ ?side1 ?side2 A49.out).mono ?_); (case side1 => repeat (first | (with_reducible first | exact HB.out | apply below_alloc | apply pw_below_drewN | apply below_drew1 | refine below_set ?_ GE221.out) | exact HB.out)); (case side2 => exact Kd.R_tight rfl HO_6.out); rintro e w60 ⟨rfl, hy0, hb, hkp⟩; refine ⟨_, rfl, ?_⟩; have n0_ := am (Kd.R_kept (HO_4.out) hkp (fun k_ hk_ hs_ => (hk_) hs_)); have n1_ := am (Kd.R_reok rfl hy0 (fun k_ e_ => HO_6.out.1 k_ e_)); have n2_ := am (blk_kept (kl BK221.out) hkp (fun hs_ => (fun e_ => (Kd.R_ne HO_6.out BK221.out (by decide)) e_) hs_)); have n3_ := am (hb); clear HO_4; clear HO_6; clear BK221; clear HB; have HO_4 := n0_; have HO_6 := n1_; have BK221 := n2_; have HB := n3_; clear n0_ n1_ n2_ n3_; (try clear hb); (try clear hkp); (try clear hy0)) | ((with_reducible refine gate_callee (f := 23) rfl ?_); refine goesL_ (some 48) rfl rfl Try.func23 (by kernel_rfl) rfl #[.slice Ao36 t265.length co36, .int .i64 1] rfl (by (try simp only [List.map_toArray, List.map_cons, List.map_nil]); first | done | (rw [show t265.length = t245.length from (Kd.R_reads' HO_6.out).1.symm] <;> rfl) | rfl | (simp only [List.length_drop, List.length_take]; rfl)) ?_; (with_reducible refine (laws_heldBoolS.calls kj16 _ _ t265 1 t266 _ ?side1 ?side2 A50.out).mono ?_); (case side1 => repeat (first | exact (Kd.R_reads' HO_6.out).2.2 | (with_reducible refine Kd.C_alloc ?_ _) | (with_reducible refine Kd.C_drewN ?_ _) | (with_reducible refine Kd.C_drew ?_))); (case side2 => rw [show t265.length = t245.length from (Kd.R_reads' HO_6.out).1.symm]; exact (Kd.R_reads' HO_6.out).2.1); rintro e w' ⟨rfl, ⟨nd, rfl⟩⟩; refine ⟨_, rfl, ?_⟩; have hcz61_0 : w60.cell? ⟨gb221, 0, none⟩ = some (.slice A0_0 l0_0.length c0_0) := (blk_cell BK221.out 0).trans rfl; have hcz61_1 : w60.cell? ⟨gb221, 1, none⟩ = some (.slice A0_1 l0_1.length c0_1) := (blk_cell BK221.out 1).trans rfl; have hcz61_2 : w60.cell? ⟨gb221, 2, none⟩ = some (.slice A0_2 l0_2.length c0_2) := (blk_cell BK221.out 2).trans rfl; have hfz61_0 := blk_frozen BK221.out 0; have hfz61_1 := blk_frozen BK221.out 1; have hfz61_2 := blk_frozen BK221.out 2) | ((with_reducible refine gate_callee (f := 17) rfl ?_); refine goesL_ (some 55) rfl rfl Try.func17 (by kernel_rfl) rfl #[.agg #[.slice A0_0 l0_0.length c0_0, .slice A0_1 l0_1.length c0_1, .slice A0_2 l0_2.length c0_2]] rfl (by (try simp only [List.map_toArray, List.map_cons, List.map_nil]); first | done | rfl | (simp only [List.length_drop, List.length_take]; rfl)) ?_; (with_reducible refine (laws_toHeap.calls kj16 _ _ l0_0 _ _ l0_1 _ _ l0_2 t267 t270 t273 _ ?side1 ?side2 ?side3 ?side4 ?side5 ?side6 A53.out).mono ?_); (case side1 => repeat (first | exact (Kd.C_below HR0_0.out (by repeat (first | (with_reducible first | exact HB.out | apply below_alloc | apply pw_below_drewN | apply below_drew1 | refine below_set ?_ GE221.out) | exact HB.out))) | (with_reducible refine Kd.C_alloc ?_ _) | (with_reducible refine Kd.C_drewN ?_ _) | (with_reducible refine Kd.C_drew ?_))); (case side2 => exact HC0_0.out); (case side3 => repeat (first | exact (Kd.C_below HR0_1.out (by repeat (first | (with_reducible first | exact HB.out | apply below_alloc | apply pw_below_drewN | apply below_drew1 | refine below_set ?_ GE221.out) | exact HB.out))) | (with_reducible refine Kd.C_alloc ?_ _) | (with_reducible refine Kd.C_drewN ?_ _) | (with_reducible refine Kd.C_drew ?_))); (case side4 => exact HC0_1.out); (case side5 => repeat (first | exact (Kd.C_below HR0_2.out (by repeat (first | (with_reducible first | exact HB.out | apply below_alloc | apply pw_below_drewN | apply below_drew1 | refine below_set ?_ GE221.out) | exact HB.out))) | (with_reducible refine Kd.C_alloc ?_ _) | (with_reducible refine Kd.C_drewN ?_ _) | (with_reducible refine Kd.C_drew ?_))); (case side6 => exact HC0_2.out); rintro e w62 ⟨v268, v271, v274, rfl, ho0, ho1, ho2, hb⟩; refine ⟨_, rfl, ?_⟩; have n0_ := am (Kd.R_below (rl HO_4.out) hb); have n1_ := am (Kd.R_below (rl HO_6.out) hb); have n2_ := am (Kd.R_lower ho0 (below_size (by repeat (first | (with_reducible first | exact HB.out | apply below_alloc | apply pw_below_drewN | apply below_drew1 | refine below_set ?_ GE221.out) | exact HB.out)))); have n3_ := am (Kd.R_lower ho1 (below_size (by repeat (first | (with_reducible first | exact HB.out | apply below_alloc | apply pw_below_drewN | apply below_drew1 | refine below_set ?_ GE221.out) | exact HB.out)))); have n4_ := am (Kd.R_lower ho2 (below_size (by repeat (first | (with_reducible first | exact HB.out | apply below_alloc | apply pw_below_drewN | apply below_drew1 | refine below_set ?_ GE221.out) | exact HB.out)))); have n5_ := am (blk_below (g := gb221) (o := .cells #[.slice A0_0 l0_0.length c0_0, .slice A0_1 l0_1.length c0_1, .slice A0_2 l0_2.length c0_2] 24 (0, 0)) (kl BK221.out) hb); have n6_ := am (below_step (by repeat (first | (with_reducible first | exact HB.out | apply below_alloc | apply pw_below_drewN | apply below_drew1 | refine below_set ?_ GE221.out) | exact HB.out)) hb); clear HO_4; clear HO_6; clear BK221; clear HB; have HO_4 := n0_; have HO_6 := n1_; have HO269 := n2_; have HO272 := n3_; have HO275 := n4_; have BK221 := n5_; have HB := n6_; clear n0_ n1_ n2_ n3_ n4_ n5_ n6_; (try clear hb); (try clear hb2); (try clear hk); (try clear hi); (try clear ho0); (try clear ho1); (try clear ho2); obtain ⟨Ao63, co63, eo63⟩ := Kd.R_slice HO269.out; subst eo63; obtain ⟨Ao64, co64, eo64⟩ := Kd.R_slice HO272.out; subst eo64; obtain ⟨Ao65, co65, eo65⟩ := Kd.R_slice HO275.out; subst eo65) | ((with_reducible refine gate_callee (f := 18) rfl ?_); refine goesL_ (some 56) rfl rfl Try.func18 (by kernel_rfl) rfl #[.agg #[.slice Ao63 t267.length co63, .slice Ao64 t270.length co64, .slice Ao65 t273.length co65]] rfl (by (try simp only [List.map_toArray, List.map_cons, List.map_nil]); first | done | rfl | (simp only [List.length_drop, List.length_take]; rfl)) ?_; (with_reducible refine (impl_Reachable.calls kj16 _ _ t267 _ _ t270 _ _ t273 t276 _ ?side1 ?side2 ?side3 ?side4 ?side5 ?side6 A54.out).mono ?_); (case side1 => repeat (first | exact (Kd.R_reads' HO269.out).2.2 | (with_reducible refine Kd.C_alloc ?_ _) | (with_reducible refine Kd.C_drewN ?_ _) | (with_reducible refine Kd.C_drew ?_))); (case side2 => exact (Kd.R_reads' HO269.out).2.1); (case side3 => repeat (first | exact (Kd.R_reads' HO272.out).2.2 | (with_reducible refine Kd.C_alloc ?_ _) | (with_reducible refine Kd.C_drewN ?_ _) | (with_reducible refine Kd.C_drew ?_))); (case side4 => exact (Kd.R_reads' HO272.out).2.1); (case side5 => repeat (first | exact (Kd.R_reads' HO275.out).2.2 | (with_reducible refine Kd.C_alloc ?_ _) | (with_reducible refine Kd.C_drewN ?_ _) | (with_reducible refine Kd.C_drew ?_))); (case side6 => exact (Kd.R_reads' HO275.out).2.1); rintro e w66 ⟨v277, rfl, ho0, hb⟩; refine ⟨_, rfl, ?_⟩; have n0_ := am (Kd.R_elder' (rl HO_4.out) (Kd.R_base ho0) hb); have n1_ := am (Kd.R_elder' (rl HO_6.out) (Kd.R_base ho0) hb); have n2_ := am (Kd.R_below (rl HO269.out) hb); have n3_ := am (Kd.R_below (rl HO272.out) hb); have n4_ := am (Kd.R_below (rl HO275.out) hb); have n5_ := am (Kd.R_lower (Kd.R_new' (Kd.R_new' ho0 (Kd.R_lt (rl HO_4.out))) (Kd.R_lt (rl HO_6.out))) (below_size (by repeat (first | (with_reducible first | exact HB.out | apply below_alloc | apply pw_below_drewN | apply below_drew1 | refine below_set ?_ GE221.out) | exact HB.out)))); have n6_ := am (blk_below (g := gb221) (o := .cells #[.slice A0_0 l0_0.length c0_0, .slice A0_1 l0_1.length c0_1, .slice A0_2 l0_2.length c0_2] 24 (0, 0)) (kl BK221.out) hb); have n7_ := am (below_step (by repeat (first | (with_reducible first | exact HB.out | apply below_alloc | apply pw_below_drewN | apply below_drew1 | refine below_set ?_ GE221.out) | exact HB.out)) hb); clear HO_4; clear HO_6; clear HO269; clear HO272; clear HO275; clear BK221; clear HB; have HO_4 := n0_; have HO_6 := n1_; have HO269 := n2_; have HO272 := n3_; have HO275 := n4_; have HO278 := n5_; have BK221 := n6_; have HB := n7_; clear n0_ n1_ n2_ n3_ n4_ n5_ n6_ n7_; (try clear hb); (try clear hb2); (try clear hk); (try clear hi); (try clear ho0); obtain ⟨Ao67, co67, eo67⟩ := Kd.R_slice HO278.out; subst eo67) | ((with_reducible refine gate_callee (f := 19) rfl ?_); refine goesL_ (some 59) rfl rfl Try.func19 (by kernel_rfl) rfl #[.slice Ao67 t276.length co67, .slice Ao37 t232.length co37] rfl (by (try simp only [List.map_toArray, List.map_cons, List.map_nil]); first | done | rfl | (simp only [List.length_drop, List.length_take]; rfl)) ?_; (with_reducible refine (laws_eqBoolS.calls kj16 _ _ t276 _ _ t232 true _ ?side1 ?side2 ?side3 ?side4 A55.out).mono ?_); (case side1 => repeat (first | exact (Kd.R_reads' HO278.out).2.2 | (with_reducible refine Kd.C_alloc ?_ _) | (with_reducible refine Kd.C_drewN ?_ _) | (with_reducible refine Kd.C_drew ?_))); (case side2 => exact (Kd.R_reads' HO278.out).2.1); (case side3 => repeat (first | exact (Kd.R_reads' HO_4.out).2.2 | (with_reducible refine Kd.C_alloc ?_ _) | (with_reducible refine Kd.C_drewN ?_ _) | (with_reducible refine Kd.C_drew ?_))); (case side4 => exact (Kd.R_reads' HO_4.out).2.1); rintro e w' ⟨rfl, ⟨nd, rfl⟩⟩; refine ⟨_, rfl, ?_⟩) | ((with_reducible refine gate_callee (f := 23) rfl ?_); refine goesL_ (some 63) rfl rfl Try.func23 (by kernel_rfl) rfl #[.slice Ao36 t265.length co36, .int .i64 1] rfl (by (try simp only [List.map_toArray, List.map_cons, List.map_nil]); first | done | (rw [show t265.length = t245.length from (Kd.R_reads' HO_6.out).1.symm] <;> rfl) | rfl | (simp only [List.length_drop, List.length_take]; rfl)) ?_; (with_reducible refine (laws_heldBoolS.calls kj16 _ _ t265 1 t280 _ ?side1 ?side2 A57.out).mono ?_); (case side1 => repeat (first | exact (Kd.R_reads' HO_6.out).2.2 | (with_reducible refine Kd.C_alloc ?_ _) | (with_reducible refine Kd.C_drewN ?_ _) | (with_reducible refine Kd.C_drew ?_))); (case side2 => rw [show t265.length = t245.length from (Kd.R_reads' HO_6.out).1.symm]; exact (Kd.R_reads' HO_6.out).2.1); rintro e w' ⟨rfl, ⟨nd, rfl⟩⟩; refine ⟨_, rfl, ?_⟩))
                        go_ret
                        exact ⟨by first | rfl | (simp [errW_none, errW_some] <;> rfl) | (simp [*, errW_none, errW_some] <;> rfl), by repeat (first | (with_reducible first | exact HB.out | apply below_alloc | apply pw_below_drewN | apply below_drew1 | refine below_set ?_ GE221.out) | exact HB.out)⟩
                      · rw [if_neg c59] at H
                        exact absurd H (by simp)
                  · replace c56 := Bool.eq_false_iff.mpr c56
                    subst c56
                    have H1 : (none) = some r := by rw [if_neg (show ¬ (false = true) by decide)] at H; exact H
                    clear H
                    have H := H1
                    clear H1
                    exact absurd H (by simp)
                · rw [if_neg c52] at H
                  exact absurd H (by simp)
      · replace c15 := Bool.eq_false_iff.mpr c15
        subst c15
        have H1 : (none) = some r := by rw [if_neg (show ¬ (false = true) by decide)] at H; exact H
        clear H
        have H := H1
        clear H1
        exact absurd H (by simp)
    · replace c12 := Bool.eq_false_iff.mpr c12
      subst c12
      have H1 : (none) = some r := by rw [if_neg (show ¬ (false = true) by decide)] at H; exact H
      clear H
      have H := H1
      clear H1
      exact absurd H (by simp)

end Go.Proofs.Ytffnpclehhoeaaa.A
