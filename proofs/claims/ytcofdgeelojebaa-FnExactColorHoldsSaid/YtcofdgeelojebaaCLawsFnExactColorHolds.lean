/- Contracts of functions of the given program (CLawsFnExactColorHolds). No conditions beyond those stated. -/
import Derived.Test.YtcofdgeelojebaaA0
import Derived.Test.YtcofdgeelojebaaAImplColorHolds
import Derived.Test.YtcofdgeelojebaaALawsEqColored
import Derived.Test.YtcofdgeelojebaaALawsSzColored
import Derived.Test.YtcofdgeelojebaaALawsToColored
import Derived.Test.YtcofdgeelojebaaASpecColorHolds
import Derived.Test.YtcofdgeelojebaaA0
namespace Go.Proofs.Ytcofdgeelojebaa.A
open Go.RowKit Go.Proofs.YtcofdgeelojebaaW.PrintWords Go.Proofs.YtcofdgeelojebaaW.PrintLast Go.Proofs.YtcofdgeelojebaaW.PrintMore
attribute [local go_sem] max2_int min2_int max_two min_two max_three min_three max_four min_four   -- for this text's walks alone
set_option linter.unusedVariables false
set_option linter.unusedSimpArgs false

/-! ### laws_FnExactColorHolds -/
def laws_FnExactColorHolds.f (k : Nat) (l0_0 : List Int) (l0_1 : List Int) (l0_2 : List Int) (l0_3 : List Int) : Option (Bool) := (laws_szColored.f l0_0 l0_1 l0_2 l0_3 1048576).bind fun t1094 => (if t1094 < 0 then (some true) else ((laws_toColored.f k l0_0 l0_1 l0_2 l0_3).bind fun bt1095 => ((spec_ColorHolds.f k bt1095.1 bt1095.2.1 bt1095.2.2.1 bt1095.2.2.2).bind fun t1107 => ((laws_toColored.f k l0_0 l0_1 l0_2 l0_3).bind fun bt1108 => ((impl_ColorHolds.f bt1108.1 bt1108.2.1 bt1108.2.2.1 bt1108.2.2.2).bind fun t1121 => (if (t1121 != t1107) = true then (none) else ((laws_toColored.f k l0_0 l0_1 l0_2 l0_3).bind fun bt1122 => ((laws_eqColored.f k bt1108.1 bt1108.2.1 bt1108.2.2.1 bt1108.2.2.2 bt1122.1 bt1122.2.1 bt1122.2.2.1 bt1122.2.2.2).bind fun t1134 => (if t1134 = true then (some true) else (none))))))))))
theorem laws_FnExactColorHolds.mono : ∀ a0 a1 a2 a3 k, LeO (laws_FnExactColorHolds.f k a0 a1 a2 a3) (laws_FnExactColorHolds.f (k + 1) a0 a1 a2 a3) := by
 intro a0 a1 a2 a3 k
 unfold laws_FnExactColorHolds.f
 repeat' first
   | (with_reducible exact laws_eqColored.mono _ _ _ _ _ _ _ _ _)
   | (with_reducible exact laws_toColored.mono _ _ _ _ _)
   | (with_reducible exact spec_ColorHolds.mono _ _ _ _ _)
   | (with_reducible exact LeO.refl _)
   | (with_reducible exact LeO.none _)
   | (with_reducible refine LeO.ite ?_ ?_)
   | (with_reducible refine LeO.bind ?_ (fun _ => ?_))
   | exact laws_eqColored.mono _ _ _ _ _ _ _ _ _
   | exact laws_toColored.mono _ _ _ _ _
   | exact spec_ColorHolds.mono _ _ _ _ _
   | exact LeO.none _
   | refine LeO.ite ?_ ?_
   | refine LeO.bind ?_ (fun _ => ?_)
set_option maxHeartbeats 8000000 in
set_option maxRecDepth 100000 in
theorem laws_FnExactColorHolds.calls (k : Nat) (A0_0 : Option Addr) (c0_0 : Nat) (l0_0 : List Int) (A0_1 : Option Addr) (c0_1 : Nat) (l0_1 : List Int) (A0_2 : Option Addr) (c0_2 : Nat) (l0_2 : List Int) (A0_3 : Option Addr) (c0_3 : Nat) (l0_3 : List Int) (r : Bool) (w : World) (hr0_0 : Kd.C (Kd.int .i64) w A0_0 l0_0.length l0_0) (hc0_0 : l0_0.length ≤ c0_0) (hr0_1 : Kd.C (Kd.int .i64) w A0_1 l0_1.length l0_1) (hc0_1 : l0_1.length ≤ c0_1) (hr0_2 : Kd.C (Kd.int .i64) w A0_2 l0_2.length l0_2) (hc0_2 : l0_2.length ≤ c0_2) (hr0_3 : Kd.C (Kd.int .i64) w A0_3 l0_3.length l0_3) (hc0_3 : l0_3.length ≤ c0_3) (h : laws_FnExactColorHolds.f k l0_0 l0_1 l0_2 l0_3 = some r) :
  Calls Try.prog 12 #[.agg #[.slice A0_0 l0_0.length c0_0, .slice A0_1 l0_1.length c0_1, .slice A0_2 l0_2.length c0_2, .slice A0_3 l0_3.length c0_3]] w fun e w' => e = .returned (.bool r) ∧ Below w.heap.size w w' := by
 have hu45 := Try.underlying45
 have hu49 := Try.underlying49
 have HR0_0 := am hr0_0
 have HC0_0 := am hc0_0
 clear hr0_0 hc0_0
 have HR0_1 := am hr0_1
 have HC0_1 := am hc0_1
 clear hr0_1 hc0_1
 have HR0_2 := am hr0_2
 have HC0_2 := am hc0_2
 clear hr0_2 hc0_2
 have HR0_3 := am hr0_3
 have HC0_3 := am hc0_3
 clear hr0_3 hc0_3
 have HB := am (Below.refl w.heap.size w)
 have H : ((laws_szColored.f l0_0 l0_1 l0_2 l0_3 1048576).bind fun t1094 => (if t1094 < 0 then (some true) else ((laws_toColored.f k l0_0 l0_1 l0_2 l0_3).bind fun bt1095 => ((spec_ColorHolds.f k bt1095.1 bt1095.2.1 bt1095.2.2.1 bt1095.2.2.2).bind fun t1107 => ((laws_toColored.f k l0_0 l0_1 l0_2 l0_3).bind fun bt1108 => ((impl_ColorHolds.f bt1108.1 bt1108.2.1 bt1108.2.2.1 bt1108.2.2.2).bind fun t1121 => (if (t1121 != t1107) = true then (none) else ((laws_toColored.f k l0_0 l0_1 l0_2 l0_3).bind fun bt1122 => ((laws_eqColored.f k bt1108.1 bt1108.2.1 bt1108.2.2.1 bt1108.2.2.2 bt1122.1 bt1122.2.1 bt1122.2.2.1 bt1122.2.2.2).bind fun t1134 => (if t1134 = true then (some true) else (none))))))))))) = some r := h
 clear h
 replace H := Option.bind_eq_some_iff.mp H
 obtain ⟨t1094, A20, H⟩ := H
 replace H : (if t1094 < 0 then (some true) else ((laws_toColored.f k l0_0 l0_1 l0_2 l0_3).bind fun bt1095 => ((spec_ColorHolds.f k bt1095.1 bt1095.2.1 bt1095.2.2.1 bt1095.2.2.2).bind fun t1107 => ((laws_toColored.f k l0_0 l0_1 l0_2 l0_3).bind fun bt1108 => ((impl_ColorHolds.f bt1108.1 bt1108.2.1 bt1108.2.2.1 bt1108.2.2.2).bind fun t1121 => (if (t1121 != t1107) = true then (none) else ((laws_toColored.f k l0_0 l0_1 l0_2 l0_3).bind fun bt1122 => ((laws_eqColored.f k bt1108.1 bt1108.2.1 bt1108.2.2.1 bt1108.2.2.2 bt1122.1 bt1122.2.1 bt1122.2.2.1 bt1122.2.2.2).bind fun t1134 => (if t1134 = true then (some true) else (none)))))))))) = some r := H
 have A2 := am A20
 clear A20
 by_cases c3 : t1094 < 0
 ·rw [if_pos c3] at H
  have c3b0 : decide (t1094 < 0) = true := decide_eq_true c3
  clear c3
  obtain rfl := Option.some.inj H
  go_enter Try.func12, Try.ntmps12
  go_wp2_with (first | ((with_reducible refine gate_dst (N := 1) rfl ?_); refine box_event ?hg (N := 1) ?hd (cs := #[.slice A0_0 l0_0.length c0_0, .slice A0_1 l0_1.length c0_1, .slice A0_2 l0_2.length c0_2, .slice A0_3 l0_3.length c0_3]) (t := 45) ?hr ?_; (case hd => rfl); (case hg => rfl); (case hr => first | (go_simp; done) | (go_simp; rfl)); intro gb1093 hg w4 hbox hb; have BK1093 := am (hbox); have GW1093 := am ((by rw [hg]; exact (below_size (bl HB.out)) : w.heap.size ≤ gb1093)); have GE1093 := am ((by rw [hg]; exact (below_size (bl HB.out)) : w.heap.size ≤ gb1093)); replace HB := am (below_step (bl HB.out) hb); clear hb hbox hg; have hcz5_0 : w4.cell? ⟨gb1093, 0, none⟩ = some (.slice A0_0 l0_0.length c0_0) := (blk_cell BK1093.out 0).trans rfl; have hcz5_1 : w4.cell? ⟨gb1093, 1, none⟩ = some (.slice A0_1 l0_1.length c0_1) := (blk_cell BK1093.out 1).trans rfl; have hcz5_2 : w4.cell? ⟨gb1093, 2, none⟩ = some (.slice A0_2 l0_2.length c0_2) := (blk_cell BK1093.out 2).trans rfl; have hcz5_3 : w4.cell? ⟨gb1093, 3, none⟩ = some (.slice A0_3 l0_3.length c0_3) := (blk_cell BK1093.out 3).trans rfl; have hfz5_0 := blk_frozen BK1093.out 0; have hfz5_1 := blk_frozen BK1093.out 1; have hfz5_2 := blk_frozen BK1093.out 2; have hfz5_3 := blk_frozen BK1093.out 3) | ((with_reducible refine gate_callee (f := 29) rfl ?_); refine goesL_ (some 9) rfl rfl Try.func29 (by kernel_rfl) rfl #[.agg #[.slice A0_0 l0_0.length c0_0, .slice A0_1 l0_1.length c0_1, .slice A0_2 l0_2.length c0_2, .slice A0_3 l0_3.length c0_3], .int .i64 1048576] rfl (by (try simp only [List.map_toArray, List.map_cons, List.map_nil]); first | done | rfl | (simp only [List.length_drop, List.length_take]; rfl)) ?_; (with_reducible refine (laws_szColored.calls _ _ l0_0 _ _ l0_1 _ _ l0_2 _ _ l0_3 1048576 t1094 _ ?side1 ?side2 ?side3 ?side4 ?side5 ?side6 ?side7 ?side8 A2.out).mono ?_); (case side1 => exact cl (Kd.C_below HR0_0.out HB.out)); (case side2 => exact HC0_0.out); (case side3 => exact cl (Kd.C_below HR0_1.out HB.out)); (case side4 => exact HC0_1.out); (case side5 => exact cl (Kd.C_below HR0_2.out HB.out)); (case side6 => exact HC0_2.out); (case side7 => exact cl (Kd.C_below HR0_3.out HB.out)); (case side8 => exact HC0_3.out); rintro e w6 ⟨rfl, hb⟩; refine ⟨_, rfl, ?_⟩; replace BK1093 := am (blk_below (g := gb1093) (o := .cells #[.slice A0_0 l0_0.length c0_0, .slice A0_1 l0_1.length c0_1, .slice A0_2 l0_2.length c0_2, .slice A0_3 l0_3.length c0_3] 45 (0, 0)) (kl BK1093.out) hb); replace HB := am (below_step (bs1 GE1093.out HB.out) hb); (try clear hb); (try clear hb2); (try clear hk); (try clear hi)))
  go_ret
  exact ⟨by first | rfl | (simp [errW_none, errW_some] <;> rfl) | (simp [*, errW_none, errW_some] <;> rfl), by exact bs1 GE1093.out HB.out⟩
 ·rw [if_neg c3] at H
  have c3b0 : decide (t1094 < 0) = false := decide_eq_false c3
  clear c3
  replace H := Option.bind_eq_some_iff.mp H
  obtain ⟨⟨t1095, t1098, t1101, t1104⟩, A70, H⟩ := H
  replace H : ((spec_ColorHolds.f k t1095 t1098 t1101 t1104).bind fun t1107 => ((laws_toColored.f k l0_0 l0_1 l0_2 l0_3).bind fun bt1108 => ((impl_ColorHolds.f bt1108.1 bt1108.2.1 bt1108.2.2.1 bt1108.2.2.2).bind fun t1121 => (if (t1121 != t1107) = true then (none) else ((laws_toColored.f k l0_0 l0_1 l0_2 l0_3).bind fun bt1122 => ((laws_eqColored.f k bt1108.1 bt1108.2.1 bt1108.2.2.1 bt1108.2.2.2 bt1122.1 bt1122.2.1 bt1122.2.2.1 bt1122.2.2.2).bind fun t1134 => (if t1134 = true then (some true) else (none)))))))) = some r := H
  have A7 := am A70
  clear A70
  replace H := Option.bind_eq_some_iff.mp H
  obtain ⟨t1107, A80, H⟩ := H
  replace H : ((laws_toColored.f k l0_0 l0_1 l0_2 l0_3).bind fun bt1108 => ((impl_ColorHolds.f bt1108.1 bt1108.2.1 bt1108.2.2.1 bt1108.2.2.2).bind fun t1121 => (if (t1121 != t1107) = true then (none) else ((laws_toColored.f k l0_0 l0_1 l0_2 l0_3).bind fun bt1122 => ((laws_eqColored.f k bt1108.1 bt1108.2.1 bt1108.2.2.1 bt1108.2.2.2 bt1122.1 bt1122.2.1 bt1122.2.2.1 bt1122.2.2.2).bind fun t1134 => (if t1134 = true then (some true) else (none))))))) = some r := H
  have A8 := am A80
  clear A80
  replace H := Option.bind_eq_some_iff.mp H
  obtain ⟨⟨t1108, t1111, t1114, t1117⟩, A90, H⟩ := H
  replace H : ((impl_ColorHolds.f t1108 t1111 t1114 t1117).bind fun t1121 => (if (t1121 != t1107) = true then (none) else ((laws_toColored.f k l0_0 l0_1 l0_2 l0_3).bind fun bt1122 => ((laws_eqColored.f k t1108 t1111 t1114 t1117 bt1122.1 bt1122.2.1 bt1122.2.2.1 bt1122.2.2.2).bind fun t1134 => (if t1134 = true then (some true) else (none)))))) = some r := H
  have A9 := am A90
  clear A90
  replace H := Option.bind_eq_some_iff.mp H
  obtain ⟨t1121, A100, H⟩ := H
  replace H : (if (t1121 != t1107) = true then (none) else ((laws_toColored.f k l0_0 l0_1 l0_2 l0_3).bind fun bt1122 => ((laws_eqColored.f k t1108 t1111 t1114 t1117 bt1122.1 bt1122.2.1 bt1122.2.2.1 bt1122.2.2.2).bind fun t1134 => (if t1134 = true then (some true) else (none))))) = some r := H
  have A10 := am A100
  clear A100
  by_cases c11 : (t1121 != t1107) = true
  ·rw [if_pos c11] at H
   exact absurd H (by simp)
  ·rw [if_neg c11] at H
   have c11b0 : (t1121 != t1107) = false := by simpa using c11
   (try (have c11b1 : decide (t1121 = t1107) = true := by simpa using c11))
   (try (have c11b2 : (t1121 == t1107) = true := by simpa using c11))
   clear c11
   replace H := Option.bind_eq_some_iff.mp H
   obtain ⟨⟨t1122, t1125, t1128, t1131⟩, A120, H⟩ := H
   replace H : ((laws_eqColored.f k t1108 t1111 t1114 t1117 t1122 t1125 t1128 t1131).bind fun t1134 => (if t1134 = true then (some true) else (none))) = some r := H
   have A12 := am A120
   clear A120
   replace H := Option.bind_eq_some_iff.mp H
   obtain ⟨t1134, A130, H⟩ := H
   replace H : (if t1134 = true then (some true) else (none)) = some r := H
   have A13 := am A130
   clear A130
   by_cases c14 : t1134 = true
   ·subst c14
    have H1 : (some true) = some r := by rw [if_pos rfl] at H; exact H
    clear H
    have H := H1
    clear H1
    obtain rfl := Option.some.inj H
    go_enter Try.func12, Try.ntmps12
    try go_wp2_with (first | ((with_reducible refine gate_dst (N := 1) rfl ?_); refine box_event ?hg (N := 1) ?hd (cs := #[.slice A0_0 l0_0.length c0_0, .slice A0_1 l0_1.length c0_1, .slice A0_2 l0_2.length c0_2, .slice A0_3 l0_3.length c0_3]) (t := 45) ?hr ?_; (case hd => rfl); (case hg => rfl); (case hr => first | (go_simp; done) | (go_simp; rfl)); intro gb1093 hg w15 hbox hb; have BK1093 := am (hbox); have GW1093 := am ((by rw [hg]; exact (below_size (bl HB.out)) : w.heap.size ≤ gb1093)); have GE1093 := am ((by rw [hg]; exact (below_size (bl HB.out)) : w.heap.size ≤ gb1093)); replace HB := am (below_step (bl HB.out) hb); clear hb hbox hg; have hcz16_0 : w15.cell? ⟨gb1093, 0, none⟩ = some (.slice A0_0 l0_0.length c0_0) := (blk_cell BK1093.out 0).trans rfl; have hcz16_1 : w15.cell? ⟨gb1093, 1, none⟩ = some (.slice A0_1 l0_1.length c0_1) := (blk_cell BK1093.out 1).trans rfl; have hcz16_2 : w15.cell? ⟨gb1093, 2, none⟩ = some (.slice A0_2 l0_2.length c0_2) := (blk_cell BK1093.out 2).trans rfl; have hcz16_3 : w15.cell? ⟨gb1093, 3, none⟩ = some (.slice A0_3 l0_3.length c0_3) := (blk_cell BK1093.out 3).trans rfl; have hfz16_0 := blk_frozen BK1093.out 0; have hfz16_1 := blk_frozen BK1093.out 1; have hfz16_2 := blk_frozen BK1093.out 2; have hfz16_3 := blk_frozen BK1093.out 3) | ((with_reducible refine gate_callee (f := 29) rfl ?_); refine goesL_ (some 9) rfl rfl Try.func29 (by kernel_rfl) rfl #[.agg #[.slice A0_0 l0_0.length c0_0, .slice A0_1 l0_1.length c0_1, .slice A0_2 l0_2.length c0_2, .slice A0_3 l0_3.length c0_3], .int .i64 1048576] rfl (by (try simp only [List.map_toArray, List.map_cons, List.map_nil]); first | done | rfl | (simp only [List.length_drop, List.length_take]; rfl)) ?_; (with_reducible refine (laws_szColored.calls _ _ l0_0 _ _ l0_1 _ _ l0_2 _ _ l0_3 1048576 t1094 _ ?side1 ?side2 ?side3 ?side4 ?side5 ?side6 ?side7 ?side8 A2.out).mono ?_); (case side1 => exact cl (Kd.C_below HR0_0.out HB.out)); (case side2 => exact HC0_0.out); (case side3 => exact cl (Kd.C_below HR0_1.out HB.out)); (case side4 => exact HC0_1.out); (case side5 => exact cl (Kd.C_below HR0_2.out HB.out)); (case side6 => exact HC0_2.out); (case side7 => exact cl (Kd.C_below HR0_3.out HB.out)); (case side8 => exact HC0_3.out); rintro e w17 ⟨rfl, hb⟩; refine ⟨_, rfl, ?_⟩; replace BK1093 := am (blk_below (g := gb1093) (o := .cells #[.slice A0_0 l0_0.length c0_0, .slice A0_1 l0_1.length c0_1, .slice A0_2 l0_2.length c0_2, .slice A0_3 l0_3.length c0_3] 45 (0, 0)) (kl BK1093.out) hb); replace HB := am (below_step (bs1 GE1093.out HB.out) hb); (try clear hb); (try clear hb2); (try clear hk); (try clear hi); have hcz18_0 : w17.cell? ⟨gb1093, 0, none⟩ = some (.slice A0_0 l0_0.length c0_0) := (blk_cell BK1093.out 0).trans rfl; have hcz18_1 : w17.cell? ⟨gb1093, 1, none⟩ = some (.slice A0_1 l0_1.length c0_1) := (blk_cell BK1093.out 1).trans rfl; have hcz18_2 : w17.cell? ⟨gb1093, 2, none⟩ = some (.slice A0_2 l0_2.length c0_2) := (blk_cell BK1093.out 2).trans rfl; have hcz18_3 : w17.cell? ⟨gb1093, 3, none⟩ = some (.slice A0_3 l0_3.length c0_3) := (blk_cell BK1093.out 3).trans rfl; have hfz18_0 := blk_frozen BK1093.out 0; have hfz18_1 := blk_frozen BK1093.out 1; have hfz18_2 := blk_frozen BK1093.out 2; have hfz18_3 := blk_frozen BK1093.out 3) | ((with_reducible refine gate_callee (f := 31) rfl ?_); refine goesL_ (some 13) rfl rfl Try.func31 (by kernel_rfl) rfl #[.agg #[.slice A0_0 l0_0.length c0_0, .slice A0_1 l0_1.length c0_1, .slice A0_2 l0_2.length c0_2, .slice A0_3 l0_3.length c0_3]] rfl (by (try simp only [List.map_toArray, List.map_cons, List.map_nil]); first | done | rfl | (simp only [List.length_drop, List.length_take]; rfl)) ?_; (with_reducible refine (laws_toColored.calls k _ _ l0_0 _ _ l0_1 _ _ l0_2 _ _ l0_3 t1095 t1098 t1101 t1104 _ ?side1 ?side2 ?side3 ?side4 ?side5 ?side6 ?side7 ?side8 A7.out).mono ?_); (case side1 => exact cl (Kd.C_below HR0_0.out HB.out)); (case side2 => exact HC0_0.out); (case side3 => exact cl (Kd.C_below HR0_1.out HB.out)); (case side4 => exact HC0_1.out); (case side5 => exact cl (Kd.C_below HR0_2.out HB.out)); (case side6 => exact HC0_2.out); (case side7 => exact cl (Kd.C_below HR0_3.out HB.out)); (case side8 => exact HC0_3.out); rintro e w19 ⟨v1096, v1099, v1102, v1105, rfl, ho0, ho1, ho2, ho3, hb⟩; refine ⟨_, rfl, ?_⟩; have HO1097 := am (Kd.R_lower ho0 (below_size (bs1 GE1093.out HB.out))); have HO1100 := am (Kd.R_lower ho1 (below_size (bs1 GE1093.out HB.out))); have HO1103 := am (Kd.R_lower ho2 (below_size (bs1 GE1093.out HB.out))); have HO1106 := am (Kd.R_lower ho3 (below_size (bs1 GE1093.out HB.out))); replace BK1093 := am (blk_below (g := gb1093) (o := .cells #[.slice A0_0 l0_0.length c0_0, .slice A0_1 l0_1.length c0_1, .slice A0_2 l0_2.length c0_2, .slice A0_3 l0_3.length c0_3] 45 (0, 0)) (kl BK1093.out) hb); replace HB := am (below_step (bs1 GE1093.out HB.out) hb); (try clear hb); (try clear hb2); (try clear hk); (try clear hi); (try clear ho0); (try clear ho1); (try clear ho2); (try clear ho3); obtain ⟨Ao20, co20, eo20⟩ := Kd.R_slice HO1097.out; subst eo20; obtain ⟨Ao21, co21, eo21⟩ := Kd.R_slice HO1100.out; subst eo21; obtain ⟨Ao22, co22, eo22⟩ := Kd.R_slice HO1103.out; subst eo22; obtain ⟨Ao23, co23, eo23⟩ := Kd.R_slice HO1106.out; subst eo23) | ((with_reducible refine gate_callee (f := 41) rfl ?_); refine goesL_ (some 14) rfl rfl Try.func41 (by kernel_rfl) rfl #[.agg #[.slice Ao20 t1095.length co20, .slice Ao21 t1098.length co21, .slice Ao22 t1101.length co22, .slice Ao23 t1104.length co23]] rfl (by (try simp only [List.map_toArray, List.map_cons, List.map_nil]); first | done | rfl | (simp only [List.length_drop, List.length_take]; rfl)) ?_; (with_reducible refine (spec_ColorHolds.calls k _ _ t1095 _ _ t1098 _ _ t1101 _ _ t1104 t1107 _ ?side1 ?side2 ?side3 ?side4 ?side5 ?side6 ?side7 ?side8 A8.out).mono ?_); (case side1 => exact cl ((Kd.R_reads' HO1097.out).2.2)); (case side2 => exact (Kd.R_reads' HO1097.out).2.1); (case side3 => exact cl ((Kd.R_reads' HO1100.out).2.2)); (case side4 => exact (Kd.R_reads' HO1100.out).2.1); (case side5 => exact cl ((Kd.R_reads' HO1103.out).2.2)); (case side6 => exact (Kd.R_reads' HO1103.out).2.1); (case side7 => exact cl ((Kd.R_reads' HO1106.out).2.2)); (case side8 => exact (Kd.R_reads' HO1106.out).2.1); rintro e w24 ⟨rfl, hb⟩; refine ⟨_, rfl, ?_⟩; replace HO1097 := am (Kd.R_below (rl HO1097.out) hb); replace HO1100 := am (Kd.R_below (rl HO1100.out) hb); replace HO1103 := am (Kd.R_below (rl HO1103.out) hb); replace HO1106 := am (Kd.R_below (rl HO1106.out) hb); replace BK1093 := am (blk_below (g := gb1093) (o := .cells #[.slice A0_0 l0_0.length c0_0, .slice A0_1 l0_1.length c0_1, .slice A0_2 l0_2.length c0_2, .slice A0_3 l0_3.length c0_3] 45 (0, 0)) (kl BK1093.out) hb); replace HB := am (below_step (bs1 GE1093.out HB.out) hb); (try clear hb); (try clear hb2); (try clear hk); (try clear hi); have hcz25_0 : w24.cell? ⟨gb1093, 0, none⟩ = some (.slice A0_0 l0_0.length c0_0) := (blk_cell BK1093.out 0).trans rfl; have hcz25_1 : w24.cell? ⟨gb1093, 1, none⟩ = some (.slice A0_1 l0_1.length c0_1) := (blk_cell BK1093.out 1).trans rfl; have hcz25_2 : w24.cell? ⟨gb1093, 2, none⟩ = some (.slice A0_2 l0_2.length c0_2) := (blk_cell BK1093.out 2).trans rfl; have hcz25_3 : w24.cell? ⟨gb1093, 3, none⟩ = some (.slice A0_3 l0_3.length c0_3) := (blk_cell BK1093.out 3).trans rfl; have hfz25_0 := blk_frozen BK1093.out 0; have hfz25_1 := blk_frozen BK1093.out 1; have hfz25_2 := blk_frozen BK1093.out 2; have hfz25_3 := blk_frozen BK1093.out 3) | ((with_reducible refine gate_callee (f := 31) rfl ?_); refine goesL_ (some 16) rfl rfl Try.func31 (by kernel_rfl) rfl #[.agg #[.slice A0_0 l0_0.length c0_0, .slice A0_1 l0_1.length c0_1, .slice A0_2 l0_2.length c0_2, .slice A0_3 l0_3.length c0_3]] rfl (by (try simp only [List.map_toArray, List.map_cons, List.map_nil]); first | done | rfl | (simp only [List.length_drop, List.length_take]; rfl)) ?_; (with_reducible refine (laws_toColored.calls k _ _ l0_0 _ _ l0_1 _ _ l0_2 _ _ l0_3 t1108 t1111 t1114 t1117 _ ?side1 ?side2 ?side3 ?side4 ?side5 ?side6 ?side7 ?side8 A9.out).mono ?_); (case side1 => exact cl (Kd.C_below HR0_0.out HB.out)); (case side2 => exact HC0_0.out); (case side3 => exact cl (Kd.C_below HR0_1.out HB.out)); (case side4 => exact HC0_1.out); (case side5 => exact cl (Kd.C_below HR0_2.out HB.out)); (case side6 => exact HC0_2.out); (case side7 => exact cl (Kd.C_below HR0_3.out HB.out)); (case side8 => exact HC0_3.out); rintro e w26 ⟨v1109, v1112, v1115, v1118, rfl, ho0, ho1, ho2, ho3, hb⟩; refine ⟨_, rfl, ?_⟩; have HO1110 := am (Kd.R_lower (Kd.R_new' (Kd.R_new' (Kd.R_new' (Kd.R_new' ho0 (Kd.R_lt (rl HO1097.out))) (Kd.R_lt (rl HO1100.out))) (Kd.R_lt (rl HO1103.out))) (Kd.R_lt (rl HO1106.out))) (below_size (bs1 GE1093.out HB.out))); have HO1113 := am (Kd.R_lower (Kd.R_new' (Kd.R_new' (Kd.R_new' (Kd.R_new' ho1 (Kd.R_lt (rl HO1097.out))) (Kd.R_lt (rl HO1100.out))) (Kd.R_lt (rl HO1103.out))) (Kd.R_lt (rl HO1106.out))) (below_size (bs1 GE1093.out HB.out))); have HO1116 := am (Kd.R_lower (Kd.R_new' (Kd.R_new' (Kd.R_new' (Kd.R_new' ho2 (Kd.R_lt (rl HO1097.out))) (Kd.R_lt (rl HO1100.out))) (Kd.R_lt (rl HO1103.out))) (Kd.R_lt (rl HO1106.out))) (below_size (bs1 GE1093.out HB.out))); have HO1119 := am (Kd.R_lower (Kd.R_new' (Kd.R_new' (Kd.R_new' (Kd.R_new' ho3 (Kd.R_lt (rl HO1097.out))) (Kd.R_lt (rl HO1100.out))) (Kd.R_lt (rl HO1103.out))) (Kd.R_lt (rl HO1106.out))) (below_size (bs1 GE1093.out HB.out))); replace HO1097 := am (Kd.R_mono (Kd.R_told (Kd.R_told (Kd.R_told (Kd.R_told (Kd.R_old (rl HO1097.out) hb) (Kd.R_base ho0)) (Kd.R_base ho1)) (Kd.R_base ho2)) (Kd.R_base ho3)) (fun _ h_ => h_.1)); replace HO1100 := am (Kd.R_mono (Kd.R_told (Kd.R_told (Kd.R_told (Kd.R_told (Kd.R_old (rl HO1100.out) hb) (Kd.R_base ho0)) (Kd.R_base ho1)) (Kd.R_base ho2)) (Kd.R_base ho3)) (fun _ h_ => h_.1)); replace HO1103 := am (Kd.R_mono (Kd.R_told (Kd.R_told (Kd.R_told (Kd.R_told (Kd.R_old (rl HO1103.out) hb) (Kd.R_base ho0)) (Kd.R_base ho1)) (Kd.R_base ho2)) (Kd.R_base ho3)) (fun _ h_ => h_.1)); replace HO1106 := am (Kd.R_mono (Kd.R_told (Kd.R_told (Kd.R_told (Kd.R_told (Kd.R_old (rl HO1106.out) hb) (Kd.R_base ho0)) (Kd.R_base ho1)) (Kd.R_base ho2)) (Kd.R_base ho3)) (fun _ h_ => h_.1)); replace BK1093 := am (blk_below (g := gb1093) (o := .cells #[.slice A0_0 l0_0.length c0_0, .slice A0_1 l0_1.length c0_1, .slice A0_2 l0_2.length c0_2, .slice A0_3 l0_3.length c0_3] 45 (0, 0)) (kl BK1093.out) hb); replace HB := am (below_step (bs1 GE1093.out HB.out) hb); (try clear hb); (try clear hb2); (try clear hk); (try clear hi); (try clear ho0); (try clear ho1); (try clear ho2); (try clear ho3)) | ((with_reducible refine gate_dst (N := 5) rfl ?_); refine box_event ?hg (N := 5) ?hd (cs := #[.slice none 0 0, .slice none 0 0, .slice none 0 0, .slice none 0 0]) (t := 49) ?hr ?_; (case hd => rfl); (case hg => rfl); (case hr => first | (go_simp; done) | (go_simp; rfl)); intro gb1120 hg w27 hbox hb; replace HO1097 := am (Kd.R_below (rl HO1097.out) hb); replace HO1100 := am (Kd.R_below (rl HO1100.out) hb); replace HO1103 := am (Kd.R_below (rl HO1103.out) hb); replace HO1106 := am (Kd.R_below (rl HO1106.out) hb); replace HO1110 := am (Kd.R_below (rl HO1110.out) hb); replace HO1113 := am (Kd.R_below (rl HO1113.out) hb); replace HO1116 := am (Kd.R_below (rl HO1116.out) hb); replace HO1119 := am (Kd.R_below (rl HO1119.out) hb); have BK1120 := am (hbox); have GW1120 := am ((by rw [hg]; exact (below_size (bs1 GE1093.out HB.out)) : w.heap.size ≤ gb1120)); have GE1120 := am ((by rw [hg]; exact (below_size (bs1 GE1093.out HB.out)) : w.heap.size ≤ gb1120)); replace HB := am (below_step (bs1 GE1093.out HB.out) hb); have NB1093_1120 := am ((by rw [hg]; exact Nat.ne_of_lt (blk_lt (g := gb1093) (o := .cells #[.slice A0_0 l0_0.length c0_0, .slice A0_1 l0_1.length c0_1, .slice A0_2 l0_2.length c0_2, .slice A0_3 l0_3.length c0_3] 45 (0, 0)) (kl BK1093.out)) : gb1093 ≠ gb1120)); have NB1120_1093 := am ((by rw [hg]; exact Nat.ne_of_gt (blk_lt (g := gb1093) (o := .cells #[.slice A0_0 l0_0.length c0_0, .slice A0_1 l0_1.length c0_1, .slice A0_2 l0_2.length c0_2, .slice A0_3 l0_3.length c0_3] 45 (0, 0)) (kl BK1093.out)) : gb1120 ≠ gb1093)); replace BK1093 := am (blk_below (g := gb1093) (o := .cells #[.slice A0_0 l0_0.length c0_0, .slice A0_1 l0_1.length c0_1, .slice A0_2 l0_2.length c0_2, .slice A0_3 l0_3.length c0_3] 45 (0, 0)) (kl BK1093.out) hb); clear hb hbox hg; obtain ⟨Ao28, co28, eo28⟩ := Kd.R_slice HO1110.out; subst eo28; have hnb29 := NB1120_1093.out; have hnc29 := NB1093_1120.out; have hcz30_0 : w27.cell? ⟨gb1120, 0, none⟩ = some (.slice none 0 0) := (blk_cell BK1120.out 0).trans rfl; have hcz30_1 : w27.cell? ⟨gb1120, 1, none⟩ = some (.slice none 0 0) := (blk_cell BK1120.out 1).trans rfl; have hcz30_2 : w27.cell? ⟨gb1120, 2, none⟩ = some (.slice none 0 0) := (blk_cell BK1120.out 2).trans rfl; have hcz30_3 : w27.cell? ⟨gb1120, 3, none⟩ = some (.slice none 0 0) := (blk_cell BK1120.out 3).trans rfl; have hfz30_0 := blk_frozen BK1120.out 0; have hfz30_1 := blk_frozen BK1120.out 1; have hfz30_2 := blk_frozen BK1120.out 2; have hfz30_3 := blk_frozen BK1120.out 3; obtain ⟨Ao31, co31, eo31⟩ := Kd.R_slice HO1113.out; subst eo31; obtain ⟨Ao32, co32, eo32⟩ := Kd.R_slice HO1116.out; subst eo32; obtain ⟨Ao33, co33, eo33⟩ := Kd.R_slice HO1119.out; subst eo33) | ((with_reducible refine gate_callee (f := 42) rfl ?_); refine goesL_ (some 18) rfl rfl Try.func42 (by kernel_rfl) rfl #[.agg #[.slice Ao28 t1108.length co28, .slice Ao31 t1111.length co31, .slice Ao32 t1114.length co32, .slice Ao33 t1117.length co33]] rfl (by (try simp only [List.map_toArray, List.map_cons, List.map_nil]); first | done | rfl | (simp only [List.length_drop, List.length_take]; rfl)) ?_; (with_reducible refine (impl_ColorHolds.calls _ _ t1108 _ _ t1111 _ _ t1114 _ _ t1117 t1121 _ ?side1 ?side2 ?side3 ?side4 ?side5 ?side6 ?side7 ?side8 A10.out).mono ?_); (case side1 => exact (Kd.R_reads' (rf1 BK1120.out HO1110.out)).2.2); (case side2 => exact (Kd.R_reads' HO1110.out).2.1); (case side3 => exact (Kd.R_reads' (rf1 BK1120.out HO1113.out)).2.2); (case side4 => exact (Kd.R_reads' HO1113.out).2.1); (case side5 => exact (Kd.R_reads' (rf1 BK1120.out HO1116.out)).2.2); (case side6 => exact (Kd.R_reads' HO1116.out).2.1); (case side7 => exact (Kd.R_reads' (rf1 BK1120.out HO1119.out)).2.2); (case side8 => exact (Kd.R_reads' HO1119.out).2.1); rintro e w34 ⟨rfl, hb⟩; refine ⟨_, rfl, ?_⟩; replace HO1097 := am (Kd.R_below (rf1 BK1120.out HO1097.out) hb); replace HO1100 := am (Kd.R_below (rf1 BK1120.out HO1100.out) hb); replace HO1103 := am (Kd.R_below (rf1 BK1120.out HO1103.out) hb); replace HO1106 := am (Kd.R_below (rf1 BK1120.out HO1106.out) hb); replace HO1110 := am (Kd.R_below (rf1 BK1120.out HO1110.out) hb); replace HO1113 := am (Kd.R_below (rf1 BK1120.out HO1113.out) hb); replace HO1116 := am (Kd.R_below (rf1 BK1120.out HO1116.out) hb); replace HO1119 := am (Kd.R_below (rf1 BK1120.out HO1119.out) hb); replace BK1093 := am (blk_below (g := gb1093) (o := .cells #[.slice A0_0 l0_0.length c0_0, .slice A0_1 l0_1.length c0_1, .slice A0_2 l0_2.length c0_2, .slice A0_3 l0_3.length c0_3] 45 (0, 0)) (kf1 NB1093_1120.out BK1093.out) hb); replace BK1120 := am (blk_below (g := gb1120) (o := .cells #[.slice Ao28 t1108.length co28, .slice Ao31 t1111.length co31, .slice Ao32 t1114.length co32, .slice Ao33 t1117.length co33] 49 (0, 0)) (kp4 (kf0 BK1120.out)) hb); replace HB := am (below_step (bs2 GE1093.out GE1120.out HB.out) hb); (try clear hb); (try clear hb2); (try clear hk); (try clear hi)))
    replace HO1097 := am (Kd.R_drew HO1097.out)
    replace HO1100 := am (Kd.R_drew HO1100.out)
    replace HO1103 := am (Kd.R_drew HO1103.out)
    replace HO1106 := am (Kd.R_drew HO1106.out)
    replace HO1110 := am (Kd.R_drew HO1110.out)
    replace HO1113 := am (Kd.R_drew HO1113.out)
    replace HO1116 := am (Kd.R_drew HO1116.out)
    replace HO1119 := am (Kd.R_drew HO1119.out)
    replace BK1093 := am (blk_drew BK1093.out)
    replace BK1120 := am (blk_drew BK1120.out)
    replace HB := am (below_drew1 HB.out)
    refine start_ (n := 5) (S := fun w' => w'.cell? ⟨gb1120, 0, none⟩ = some (.slice Ao28 t1108.length co28) ∧ w'.cell? ⟨gb1120, 1, none⟩ = some (.slice Ao31 t1111.length co31) ∧ w'.cell? ⟨gb1120, 2, none⟩ = some (.slice Ao32 t1114.length co32) ∧ w'.cell? ⟨gb1120, 3, none⟩ = some (.slice Ao33 t1117.length co33) ∧ w'.cell? ⟨gb1093, 0, none⟩ = some (.slice A0_0 l0_0.length c0_0) ∧ w'.cell? ⟨gb1093, 1, none⟩ = some (.slice A0_1 l0_1.length c0_1) ∧ w'.cell? ⟨gb1093, 2, none⟩ = some (.slice A0_2 l0_2.length c0_2) ∧ w'.cell? ⟨gb1093, 3, none⟩ = some (.slice A0_3 l0_3.length c0_3)) (ds := []) #[false, false, false, false, false] (by kernel_rfl) rfl rfl ⟨(blk_cell BK1120.out 0).trans rfl, (blk_cell BK1120.out 1).trans rfl, (blk_cell BK1120.out 2).trans rfl, (blk_cell BK1120.out 3).trans rfl, (blk_cell BK1093.out 0).trans rfl, (blk_cell BK1093.out 1).trans rfl, (blk_cell BK1093.out 2).trans rfl, (blk_cell BK1093.out 3).trans rfl⟩ (fun hHeld => ?_)
    generalize w34.drew = w35 at HO1097 HO1100 HO1103 HO1106 HO1110 HO1113 HO1116 HO1119 BK1093 BK1120 HB hHeld ⊢
    refine take_ (i := 0) (N := some 22) (v := ?_) (a' := ?_) #[true, false, false, false, false] rfl rfl (by kernel_rfl) (fun _ _ _ h => h) (Or.inl ⟨by rfl, ?_⟩) hHeld ?_ ?_
    rotate_left
    ·rintro w' ⟨s0, s1, s2, s3, s4, s5, s6, s7⟩
     go_simp
     with_reducible rfl
    rotate_left
    ·simp only [Act.put, List.setIfInBounds_toArray, List.set_cons_zero, List.set_cons_succ, i64_w, i32_w]
     rfl
    refine take_ (i := 1) (N := some 23) (v := ?_) (a' := ?_) #[true, true, false, false, false] rfl rfl (by kernel_rfl) (fun _ _ _ h => h) (Or.inl ⟨by rfl, ?_⟩) hHeld ?_ ?_
    rotate_left
    ·rintro w' ⟨s0, s1, s2, s3, s4, s5, s6, s7⟩
     go_simp
     with_reducible rfl
    rotate_left
    ·simp only [Act.put, List.setIfInBounds_toArray, List.set_cons_zero, List.set_cons_succ, i64_w, i32_w]
     rfl
    refine one_ (i := 2) (N := some 24) #[true, true, true, false, false] rfl rfl (by kernel_rfl) (by decide) (fun K hK => ?_)
    refine goes_ Try.func31 (by kernel_rfl) rfl #[.agg #[.slice A0_0 l0_0.length c0_0, .slice A0_1 l0_1.length c0_1, .slice A0_2 l0_2.length c0_2, .slice A0_3 l0_3.length c0_3]] (by rfl) rfl rfl (by (try simp only [List.map_toArray, List.map_cons, List.map_nil]); first | done | rfl | (simp only [List.length_drop, List.length_take]; rfl)) ?_
    with_reducible refine (laws_toColored.calls k _ _ l0_0 _ _ l0_1 _ _ l0_2 _ _ l0_3 t1122 t1125 t1128 t1131 _ ?side1 ?side2 ?side3 ?side4 ?side5 ?side6 ?side7 ?side8 A12.out).mono ?_
    (case side1 => exact cl (Kd.C_below HR0_0.out HB.out))
    (case side2 => exact HC0_0.out)
    (case side3 => exact cl (Kd.C_below HR0_1.out HB.out))
    (case side4 => exact HC0_1.out)
    (case side5 => exact cl (Kd.C_below HR0_2.out HB.out))
    (case side6 => exact HC0_2.out)
    (case side7 => exact cl (Kd.C_below HR0_3.out HB.out))
    (case side8 => exact HC0_3.out)
    rintro e w36 ⟨v1123, v1126, v1129, v1132, rfl, ho0, ho1, ho2, ho3, hb⟩
    refine ⟨_, rfl, ?_⟩
    have HO1124 := am (Kd.R_lower (Kd.R_new' (Kd.R_new' (Kd.R_new' (Kd.R_new' (Kd.R_new' (Kd.R_new' (Kd.R_new' (Kd.R_new' ho0 (Kd.R_lt (rl HO1097.out))) (Kd.R_lt (rl HO1100.out))) (Kd.R_lt (rl HO1103.out))) (Kd.R_lt (rl HO1106.out))) (Kd.R_lt (rl HO1110.out))) (Kd.R_lt (rl HO1113.out))) (Kd.R_lt (rl HO1116.out))) (Kd.R_lt (rl HO1119.out))) (below_size (bs2 GE1093.out GE1120.out HB.out)))
    have HO1127 := am (Kd.R_lower (Kd.R_new' (Kd.R_new' (Kd.R_new' (Kd.R_new' (Kd.R_new' (Kd.R_new' (Kd.R_new' (Kd.R_new' ho1 (Kd.R_lt (rl HO1097.out))) (Kd.R_lt (rl HO1100.out))) (Kd.R_lt (rl HO1103.out))) (Kd.R_lt (rl HO1106.out))) (Kd.R_lt (rl HO1110.out))) (Kd.R_lt (rl HO1113.out))) (Kd.R_lt (rl HO1116.out))) (Kd.R_lt (rl HO1119.out))) (below_size (bs2 GE1093.out GE1120.out HB.out)))
    have HO1130 := am (Kd.R_lower (Kd.R_new' (Kd.R_new' (Kd.R_new' (Kd.R_new' (Kd.R_new' (Kd.R_new' (Kd.R_new' (Kd.R_new' ho2 (Kd.R_lt (rl HO1097.out))) (Kd.R_lt (rl HO1100.out))) (Kd.R_lt (rl HO1103.out))) (Kd.R_lt (rl HO1106.out))) (Kd.R_lt (rl HO1110.out))) (Kd.R_lt (rl HO1113.out))) (Kd.R_lt (rl HO1116.out))) (Kd.R_lt (rl HO1119.out))) (below_size (bs2 GE1093.out GE1120.out HB.out)))
    have HO1133 := am (Kd.R_lower (Kd.R_new' (Kd.R_new' (Kd.R_new' (Kd.R_new' (Kd.R_new' (Kd.R_new' (Kd.R_new' (Kd.R_new' ho3 (Kd.R_lt (rl HO1097.out))) (Kd.R_lt (rl HO1100.out))) (Kd.R_lt (rl HO1103.out))) (Kd.R_lt (rl HO1106.out))) (Kd.R_lt (rl HO1110.out))) (Kd.R_lt (rl HO1113.out))) (Kd.R_lt (rl HO1116.out))) (Kd.R_lt (rl HO1119.out))) (below_size (bs2 GE1093.out GE1120.out HB.out)))
    replace HO1097 := am (Kd.R_mono (Kd.R_told (Kd.R_told (Kd.R_told (Kd.R_told (Kd.R_old (rl HO1097.out) hb) (Kd.R_base ho0)) (Kd.R_base ho1)) (Kd.R_base ho2)) (Kd.R_base ho3)) (fun _ h_ => h_.1))
    replace HO1100 := am (Kd.R_mono (Kd.R_told (Kd.R_told (Kd.R_told (Kd.R_told (Kd.R_old (rl HO1100.out) hb) (Kd.R_base ho0)) (Kd.R_base ho1)) (Kd.R_base ho2)) (Kd.R_base ho3)) (fun _ h_ => h_.1))
    replace HO1103 := am (Kd.R_mono (Kd.R_told (Kd.R_told (Kd.R_told (Kd.R_told (Kd.R_old (rl HO1103.out) hb) (Kd.R_base ho0)) (Kd.R_base ho1)) (Kd.R_base ho2)) (Kd.R_base ho3)) (fun _ h_ => h_.1))
    replace HO1106 := am (Kd.R_mono (Kd.R_told (Kd.R_told (Kd.R_told (Kd.R_told (Kd.R_old (rl HO1106.out) hb) (Kd.R_base ho0)) (Kd.R_base ho1)) (Kd.R_base ho2)) (Kd.R_base ho3)) (fun _ h_ => h_.1))
    replace HO1110 := am (Kd.R_mono (Kd.R_told (Kd.R_told (Kd.R_told (Kd.R_told (Kd.R_old (rl HO1110.out) hb) (Kd.R_base ho0)) (Kd.R_base ho1)) (Kd.R_base ho2)) (Kd.R_base ho3)) (fun _ h_ => h_.1))
    replace HO1113 := am (Kd.R_mono (Kd.R_told (Kd.R_told (Kd.R_told (Kd.R_told (Kd.R_old (rl HO1113.out) hb) (Kd.R_base ho0)) (Kd.R_base ho1)) (Kd.R_base ho2)) (Kd.R_base ho3)) (fun _ h_ => h_.1))
    replace HO1116 := am (Kd.R_mono (Kd.R_told (Kd.R_told (Kd.R_told (Kd.R_told (Kd.R_old (rl HO1116.out) hb) (Kd.R_base ho0)) (Kd.R_base ho1)) (Kd.R_base ho2)) (Kd.R_base ho3)) (fun _ h_ => h_.1))
    replace HO1119 := am (Kd.R_mono (Kd.R_told (Kd.R_told (Kd.R_told (Kd.R_told (Kd.R_old (rl HO1119.out) hb) (Kd.R_base ho0)) (Kd.R_base ho1)) (Kd.R_base ho2)) (Kd.R_base ho3)) (fun _ h_ => h_.1))
    replace BK1093 := am (blk_below (g := gb1093) (o := .cells #[.slice A0_0 l0_0.length c0_0, .slice A0_1 l0_1.length c0_1, .slice A0_2 l0_2.length c0_2, .slice A0_3 l0_3.length c0_3] 45 (0, 0)) (kl BK1093.out) hb)
    replace BK1120 := am (blk_below (g := gb1120) (o := .cells #[.slice Ao28 t1108.length co28, .slice Ao31 t1111.length co31, .slice Ao32 t1114.length co32, .slice Ao33 t1117.length co33] 49 (0, 0)) (kl BK1120.out) hb)
    replace HB := am (below_step (bs2 GE1093.out GE1120.out HB.out) hb)
    (try clear hb)
    (try clear hb2)
    (try clear hk)
    (try clear hi)
    (try clear ho0)
    (try clear ho1)
    (try clear ho2)
    (try clear ho3)
    obtain ⟨Ao37, co37, eo37⟩ := Kd.R_slice HO1124.out
    (first | subst eo37 | (injection eo37 with f1_ f2_ f3_; have f4_ := f1_.symm; have f5_ := f3_.symm; clear f1_ f2_ f3_; subst f4_; subst f5_))
    obtain ⟨Ao38, co38, eo38⟩ := Kd.R_slice HO1127.out
    (first | subst eo38 | (injection eo38 with f1_ f2_ f3_; have f4_ := f1_.symm; have f5_ := f3_.symm; clear f1_ f2_ f3_; subst f4_; subst f5_))
    obtain ⟨Ao39, co39, eo39⟩ := Kd.R_slice HO1130.out
    (first | subst eo39 | (injection eo39 with f1_ f2_ f3_; have f4_ := f1_.symm; have f5_ := f3_.symm; clear f1_ f2_ f3_; subst f4_; subst f5_))
    obtain ⟨Ao40, co40, eo40⟩ := Kd.R_slice HO1133.out
    (first | subst eo40 | (injection eo40 with f1_ f2_ f3_; have f4_ := f1_.symm; have f5_ := f3_.symm; clear f1_ f2_ f3_; subst f4_; subst f5_))
    refine hK.out _ _ ⟨(blk_cell BK1120.out 0).trans rfl, (blk_cell BK1120.out 1).trans rfl, (blk_cell BK1120.out 2).trans rfl, (blk_cell BK1120.out 3).trans rfl, (blk_cell BK1093.out 0).trans rfl, (blk_cell BK1093.out 1).trans rfl, (blk_cell BK1093.out 2).trans rfl, (blk_cell BK1093.out 3).trans rfl⟩ (fun hHeld => ?_)
    clear hK K
    refine norm_ (a' := ?_) ?_ ?_
    rotate_left
    ·show Act.put _ (some 24) _ = _
     simp only [Act.put, List.setIfInBounds_toArray, List.set_cons_zero, List.set_cons_succ, i64_w, i32_w]
     rfl
    refine one_ (i := 3) (N := some 25) #[true, true, true, true, false] rfl rfl (by kernel_rfl) (by decide) (fun K hK => ?_)
    refine goes_ Try.func33 (by kernel_rfl) rfl #[.agg #[.slice Ao28 t1108.length co28, .slice Ao31 t1111.length co31, .slice Ao32 t1114.length co32, .slice Ao33 t1117.length co33], .agg #[.slice Ao37 t1122.length co37, .slice Ao38 t1125.length co38, .slice Ao39 t1128.length co39, .slice Ao40 t1131.length co40]] (by rfl) rfl rfl (by (try simp only [List.map_toArray, List.map_cons, List.map_nil]); first | done | rfl | (simp only [List.length_drop, List.length_take]; rfl)) ?_
    with_reducible refine (laws_eqColored.calls k _ _ t1108 _ _ t1111 _ _ t1114 _ _ t1117 _ _ t1122 _ _ t1125 _ _ t1128 _ _ t1131 true _ ?side1 ?side2 ?side3 ?side4 ?side5 ?side6 ?side7 ?side8 ?side9 ?side10 ?side11 ?side12 ?side13 ?side14 ?side15 ?side16 A13.out).mono ?_
    (case side1 => exact cl ((Kd.R_reads' HO1110.out).2.2))
    (case side2 => exact (Kd.R_reads' HO1110.out).2.1)
    (case side3 => exact cl ((Kd.R_reads' HO1113.out).2.2))
    (case side4 => exact (Kd.R_reads' HO1113.out).2.1)
    (case side5 => exact cl ((Kd.R_reads' HO1116.out).2.2))
    (case side6 => exact (Kd.R_reads' HO1116.out).2.1)
    (case side7 => exact cl ((Kd.R_reads' HO1119.out).2.2))
    (case side8 => exact (Kd.R_reads' HO1119.out).2.1)
    (case side9 => exact cl ((Kd.R_reads' HO1124.out).2.2))
    (case side10 => exact (Kd.R_reads' HO1124.out).2.1)
    (case side11 => exact cl ((Kd.R_reads' HO1127.out).2.2))
    (case side12 => exact (Kd.R_reads' HO1127.out).2.1)
    (case side13 => exact cl ((Kd.R_reads' HO1130.out).2.2))
    (case side14 => exact (Kd.R_reads' HO1130.out).2.1)
    (case side15 => exact cl ((Kd.R_reads' HO1133.out).2.2))
    (case side16 => exact (Kd.R_reads' HO1133.out).2.1)
    rintro e w41 ⟨rfl, hb⟩
    refine ⟨_, rfl, ?_⟩
    replace HO1097 := am (Kd.R_below (rl HO1097.out) hb)
    replace HO1100 := am (Kd.R_below (rl HO1100.out) hb)
    replace HO1103 := am (Kd.R_below (rl HO1103.out) hb)
    replace HO1106 := am (Kd.R_below (rl HO1106.out) hb)
    replace HO1110 := am (Kd.R_below (rl HO1110.out) hb)
    replace HO1113 := am (Kd.R_below (rl HO1113.out) hb)
    replace HO1116 := am (Kd.R_below (rl HO1116.out) hb)
    replace HO1119 := am (Kd.R_below (rl HO1119.out) hb)
    replace HO1124 := am (Kd.R_below (rl HO1124.out) hb)
    replace HO1127 := am (Kd.R_below (rl HO1127.out) hb)
    replace HO1130 := am (Kd.R_below (rl HO1130.out) hb)
    replace HO1133 := am (Kd.R_below (rl HO1133.out) hb)
    replace BK1093 := am (blk_below (g := gb1093) (o := .cells #[.slice A0_0 l0_0.length c0_0, .slice A0_1 l0_1.length c0_1, .slice A0_2 l0_2.length c0_2, .slice A0_3 l0_3.length c0_3] 45 (0, 0)) (kl BK1093.out) hb)
    replace BK1120 := am (blk_below (g := gb1120) (o := .cells #[.slice Ao28 t1108.length co28, .slice Ao31 t1111.length co31, .slice Ao32 t1114.length co32, .slice Ao33 t1117.length co33] 49 (0, 0)) (kl BK1120.out) hb)
    replace HB := am (below_step (bs2 GE1093.out GE1120.out HB.out) hb)
    (try clear hb)
    (try clear hb2)
    (try clear hk)
    (try clear hi)
    refine hK.out _ _ ⟨(blk_cell BK1120.out 0).trans rfl, (blk_cell BK1120.out 1).trans rfl, (blk_cell BK1120.out 2).trans rfl, (blk_cell BK1120.out 3).trans rfl, (blk_cell BK1093.out 0).trans rfl, (blk_cell BK1093.out 1).trans rfl, (blk_cell BK1093.out 2).trans rfl, (blk_cell BK1093.out 3).trans rfl⟩ (fun hHeld => ?_)
    clear hK K
    refine norm_ (a' := ?_) ?_ ?_
    rotate_left
    ·show Act.put _ (some 25) _ = _
     simp only [Act.put, List.setIfInBounds_toArray, List.set_cons_zero, List.set_cons_succ, i64_w, i32_w]
     rfl
    refine pure_ (i := 4) (N := some 26) (v := ?_) (a' := ?_) #[true, true, true, true, true] rfl rfl (by kernel_rfl) (fun _ _ _ h => h) (Or.inl ⟨by rfl, ?_⟩) ?_ ?_
    rotate_left
    ·intro w'
     go_simp
     with_reducible rfl
    rotate_left
    ·simp only [Act.put, List.setIfInBounds_toArray, List.set_cons_zero, List.set_cons_succ, i64_w, i32_w]
     rfl
    refine done_ (by kernel_rfl) ?_
    try go_wp2
    go_ret
    exact ⟨by first | rfl | (simp [errW_none, errW_some] <;> rfl) | (simp [*, errW_none, errW_some] <;> rfl), by exact bs2 GE1093.out GE1120.out HB.out⟩
   ·replace c14 := Bool.eq_false_iff.mpr c14
    subst c14
    have H1 : (none) = some r := by rw [if_neg (show ¬ (false = true) by decide)] at H; exact H
    clear H
    have H := H1
    clear H1
    exact absurd H (by simp)

end Go.Proofs.Ytcofdgeelojebaa.A
