/- Contracts of functions of the given program (AImplLook). No conditions beyond those stated. -/
import Derived.Test.YtkbaggfkidalfaaA0
import Derived.Test.YtkbaggfkidalfaaAImplShade
import Derived.Test.YtkbaggfkidalfaaASlicesIndexIntInt
import Derived.Test.YtkbaggfkidalfaaA0
namespace Go.Proofs.Ytkbaggfkidalfaa.A
open Go.RowKit Go.Proofs.YtkbaggfkidalfaaW.PrintWords Go.Proofs.YtkbaggfkidalfaaW.PrintLast Go.Proofs.YtkbaggfkidalfaaW.PrintMore
attribute [local go_sem] max2_int min2_int max_two min_two max_three min_three max_four min_four   -- for this text's walks alone
set_option linter.unusedVariables false
set_option linter.unusedSimpArgs false

/-! ### impl_look -/
def impl_look.f (k : Nat) (l0_0 : List Int) (l0_1 : List Int) (l0_2 : List Int) (l1 : List Int) : Option (Bool × List Int) := (slices_Index_int_int.f k l1 1).bind fun t1241 => (if t1241 < 0 then (some (false, l1)) else (if 0 ≤ t1241 then (if t1241 < (l0_0.length : Int) then ((impl_shade.f l1 (rd l0_0 t1241)).bind fun t1243 => (if t1241 < (l0_1.length : Int) then ((impl_shade.f t1243 (rd l0_1 t1241)).bind fun t1245 => (if t1241 < (l1.length : Int) then (some (true, (t1245.set (t1241 : Int).toNat 2))) else (none))) else (none))) else (none)) else (none)))
theorem impl_look.mono : ∀ a0 a1 a2 a3 k, LeO (impl_look.f k a0 a1 a2 a3) (impl_look.f (k + 1) a0 a1 a2 a3) := by
 intro a0 a1 a2 a3 k
 unfold impl_look.f
 repeat' first
   | (with_reducible exact slices_Index_int_int.mono _ _ _)
   | (with_reducible exact LeO.refl _)
   | (with_reducible exact LeO.none _)
   | (with_reducible refine LeO.ite ?_ ?_)
   | (with_reducible refine LeO.bind ?_ (fun _ => ?_))
   | exact slices_Index_int_int.mono _ _ _
   | exact LeO.none _
   | refine LeO.ite ?_ ?_
   | refine LeO.bind ?_ (fun _ => ?_)
set_option maxHeartbeats 8000000 in
set_option maxRecDepth 100000 in
theorem impl_look.calls (k : Nat) (A0_0 : Option Addr) (c0_0 : Nat) (l0_0 : List Int) (A0_1 : Option Addr) (c0_1 : Nat) (l0_1 : List Int) (A0_2 : Option Addr) (c0_2 : Nat) (l0_2 : List Int) (P1_ : Nat → Prop) (u9000_ : Value) (l1 : List Int) (r1 : Bool) (r2 : List Int) (w0 w : World) (hB : Below w0.heap.size w0 w) (hr0_0 : ∀ W_, Kept w W_ (fun k_ => P1_ k_) → Kd.C (Kd.int .i64) W_ A0_0 l0_0.length l0_0) (hc0_0 : l0_0.length ≤ c0_0) (hr0_1 : ∀ W_, Kept w W_ (fun k_ => P1_ k_) → Kd.C (Kd.int .i64) W_ A0_1 l0_1.length l0_1) (hc0_1 : l0_1.length ≤ c0_1) (hr0_2 : ∀ W_, Kept w W_ (fun k_ => P1_ k_) → Kd.C (Kd.int .i64) W_ A0_2 l0_2.length l0_2) (hc0_2 : l0_2.length ≤ c0_2) (ho1 : Kd.R (Kd.int .i64) 3 w w0.heap.size P1_ u9000_ l1) (h : impl_look.f k l0_0 l0_1 l0_2 l1 = some (r1, r2)) :
  Calls Try.prog 79 #[.agg #[.slice A0_0 l0_0.length c0_0, .slice A0_1 l0_1.length c0_1, .slice A0_2 l0_2.length c0_2], u9000_] w fun e w' => e = .returned (.bool r1) ∧ Kd.R (Kd.int .i64) 3 w' w0.heap.size (fun k_ => (P1_ k_ ∨ w.heap.size ≤ k_)) u9000_ r2 ∧ Below w0.heap.size w0 w' ∧ Kept w w' (fun k_ => P1_ k_) := by
 have hu28 := Try.underlying28
 have HR0_0 := am hr0_0
 have HC0_0 := am hc0_0
 clear hr0_0 hc0_0
 have HR0_1 := am hr0_1
 have HC0_1 := am hc0_1
 clear hr0_1 hc0_1
 have HR0_2 := am hr0_2
 have HC0_2 := am hc0_2
 clear hr0_2 hc0_2
 have HO1 := am (show Kd.R (Kd.int .i64) 3 w w0.heap.size (fun k_ => (P1_ k_ ∨ w.heap.size ≤ k_)) u9000_ l1 from Kd.R_mono ho1 (fun k_ hk => (.inl hk)))
 have HK := am (Kept.refl w (fun k_ => P1_ k_))
 have HW0 := am hB.size
 have HB := am hB
 clear hB
 have H : ((slices_Index_int_int.f k l1 1).bind fun t1241 => (if t1241 < 0 then (some (false, l1)) else (if 0 ≤ t1241 then (if t1241 < (l0_0.length : Int) then ((impl_shade.f l1 (rd l0_0 t1241)).bind fun t1243 => (if t1241 < (l0_1.length : Int) then ((impl_shade.f t1243 (rd l0_1 t1241)).bind fun t1245 => (if t1241 < (l1.length : Int) then (some (true, (t1245.set (t1241 : Int).toNat 2))) else (none))) else (none))) else (none)) else (none)))) = some (r1, r2) := h
 clear h
 replace H := Option.bind_eq_some_iff.mp H
 obtain ⟨t1241, A30, H⟩ := H
 replace H : (if t1241 < 0 then (some (false, l1)) else (if 0 ≤ t1241 then (if t1241 < (l0_0.length : Int) then ((impl_shade.f l1 (rd l0_0 t1241)).bind fun t1243 => (if t1241 < (l0_1.length : Int) then ((impl_shade.f t1243 (rd l0_1 t1241)).bind fun t1245 => (if t1241 < (l1.length : Int) then (some (true, (t1245.set (t1241 : Int).toNat 2))) else (none))) else (none))) else (none)) else (none))) = some (r1, r2) := H
 have A3 := am A30
 clear A30
 by_cases c4 : t1241 < 0
 ·rw [if_pos c4] at H
  have c4b0 : decide (t1241 < 0) = true := decide_eq_true c4
  clear c4
  simp only [Option.some.injEq, Prod.mk.injEq] at H
  obtain ⟨rfl, rfl⟩ := H
  go_enter Try.func79, Try.ntmps79
  go_wp2_with (first | ((with_reducible refine gate_dst (N := 2) rfl ?_); refine box_event ?hg (N := 2) ?hd (cs := #[.slice A0_0 l0_0.length c0_0, .slice A0_1 l0_1.length c0_1, .slice A0_2 l0_2.length c0_2]) (t := 28) ?hr ?_; (case hd => rfl); (case hg => rfl); (case hr => first | (go_simp; done) | (go_simp; rfl)); intro gb1240 hg w5 hbox hb; replace HO1 := rb HO1 hb; have BK1240 := am (hbox); have GW1240 := am ((by rw [hg]; exact (by first | exact HK.out.1 | exact (show Kept w _ (fun k_ => P1_ k_) from by repeat (first | (with_reducible first | exact HK.out | apply Kept.alloc | apply Kept.drewN | apply Kept.drew) | exact HK.out)).1) : w.heap.size ≤ gb1240)); replace HK := am (Kept.below (S := (fun k_ => P1_ k_)) (by repeat (first | (with_reducible first | exact HK.out | apply Kept.alloc | apply Kept.drewN | apply Kept.drew) | exact HK.out)) hb); have GE1240 := am ((by rw [hg]; exact (below_size (bl HB.out)) : w0.heap.size ≤ gb1240)); replace HB := am (below_step (bl HB.out) hb); clear hb hbox hg; obtain ⟨Ao6, co6, eo6⟩ := Kd.R_slice HO1.out; subst eo6) | ((with_reducible refine gate_callee (f := 89) rfl ?_); refine gL (some 7) rfl rfl Try.func89 (by kernel_rfl) rfl #[.slice Ao6 l1.length co6, .int .i64 1] rfl ?_; (with_reducible refine (slices_Index_int_int.calls k _ _ l1 1 t1241 _ ?side1 ?side2 A3.out).mono ?_); (case side1 => exact cl ((Kd.R_reads' HO1.out).2.2)); (case side2 => exact sc HO1); rintro e w' ⟨rfl, ⟨nd, rfl⟩⟩; refine ⟨_, rfl, ?_⟩))
  go_ret
  exact ⟨by first | rfl | (simp [errW_none, errW_some] <;> rfl) | (simp [*, errW_none, errW_some] <;> rfl), by exact rl HO1.out, by exact bs1 GE1240.out HB.out, by repeat (first | (with_reducible first | exact HK.out | apply Kept.alloc | apply Kept.drewN | apply Kept.drew | refine Kept.setCell ?_ (.inr GW1240.out) _) | exact HK.out)⟩
 ·rw [if_neg c4] at H
  have c4b0 : decide (t1241 < 0) = false := decide_eq_false c4
  clear c4
  by_cases c7 : 0 ≤ t1241
  ·rw [if_pos c7] at H
   have c7b0 : decide (0 ≤ t1241) = true := decide_eq_true c7
   clear c7
   by_cases c8 : t1241 < (l0_0.length : Int)
   ·rw [if_pos c8] at H
    have c8b0 : decide (t1241 < (l0_0.length : Int)) = true := decide_eq_true c8
    clear c8
    replace H := Option.bind_eq_some_iff.mp H
    obtain ⟨t1243, A90, H⟩ := H
    replace H : (if t1241 < (l0_1.length : Int) then ((impl_shade.f t1243 (rd l0_1 t1241)).bind fun t1245 => (if t1241 < (l1.length : Int) then (some (true, (t1245.set (t1241 : Int).toNat 2))) else (none))) else (none)) = some (r1, r2) := H
    have A9 := am A90
    clear A90
    by_cases c10 : t1241 < (l0_1.length : Int)
    ·rw [if_pos c10] at H
     have c10b0 : decide (t1241 < (l0_1.length : Int)) = true := decide_eq_true c10
     clear c10
     replace H := Option.bind_eq_some_iff.mp H
     obtain ⟨t1245, A110, H⟩ := H
     replace H : (if t1241 < (l1.length : Int) then (some (true, (t1245.set (t1241 : Int).toNat 2))) else (none)) = some (r1, r2) := H
     have A11 := am A110
     clear A110
     by_cases c12 : t1241 < (l1.length : Int)
     ·rw [if_pos c12] at H
      have c12b0 : decide (t1241 < (l1.length : Int)) = true := decide_eq_true c12
      clear c12
      obtain ⟨y1246, hy1246⟩ : ∃ y_ : List Int, y_ = (t1245.set (t1241 : Int).toNat 2) := ⟨_, rfl⟩
      replace H : (some (true, y1246)) = some (r1, r2) := by first | (rw [hy1246]; with_reducible exact H) | (have H2_ := (Option.bind_some _ _).symm.trans H; rw [hy1246]; with_reducible exact H2_) | (have H2_ := (Option.bind_some _ _).symm.trans H; with_reducible exact H2_) | with_reducible exact H | (rw [hy1246]; exact H) | exact H
      have Ny1246 := am hy1246
      clear hy1246
      simp only [Option.some.injEq, Prod.mk.injEq] at H
      obtain ⟨rfl, rfl⟩ := H
      go_enter Try.func79, Try.ntmps79
      go_wp2_with (first | ((with_reducible refine gate_dst (N := 2) rfl ?_); refine box_event ?hg (N := 2) ?hd (cs := #[.slice A0_0 l0_0.length c0_0, .slice A0_1 l0_1.length c0_1, .slice A0_2 l0_2.length c0_2]) (t := 28) ?hr ?_; (case hd => rfl); (case hg => rfl); (case hr => first | (go_simp; done) | (go_simp; rfl)); intro gb1240 hg w14 hbox hb; replace HO1 := rb HO1 hb; have BK1240 := am (hbox); have GW1240 := am ((by rw [hg]; exact (by first | exact HK.out.1 | exact (show Kept w _ (fun k_ => P1_ k_) from by repeat (first | (with_reducible first | exact HK.out | apply Kept.alloc | apply Kept.drewN | apply Kept.drew) | exact HK.out)).1) : w.heap.size ≤ gb1240)); replace HK := am (Kept.below (S := (fun k_ => P1_ k_)) (by repeat (first | (with_reducible first | exact HK.out | apply Kept.alloc | apply Kept.drewN | apply Kept.drew) | exact HK.out)) hb); have GE1240 := am ((by rw [hg]; exact (below_size (bl HB.out)) : w0.heap.size ≤ gb1240)); replace HB := am (below_step (bl HB.out) hb); clear hb hbox hg; obtain ⟨Ao15, co15, eo15⟩ := Kd.R_slice HO1.out; subst eo15) | ((with_reducible refine gate_callee (f := 89) rfl ?_); refine gL (some 7) rfl rfl Try.func89 (by kernel_rfl) rfl #[.slice Ao15 l1.length co15, .int .i64 1] rfl ?_; (with_reducible refine (slices_Index_int_int.calls k _ _ l1 1 t1241 _ ?side1 ?side2 A3.out).mono ?_); (case side1 => exact cl ((Kd.R_reads' HO1.out).2.2)); (case side2 => exact sc HO1); rintro e w' ⟨rfl, ⟨nd, rfl⟩⟩; refine ⟨_, rfl, ?_⟩; (try (rw [drewN_self w14]; generalize hq_ : World.drewN w14 _ = w14; replace HO1 : Aside0 (Kd.R (Kd.int .i64) 3 w14 w0.heap.size (fun k_ => (P1_ k_ ∨ w.heap.size ≤ k_)) (.slice Ao15 l1.length co15) l1) := ⟨by rw [← hq_]; exact (rl HO1.out)⟩; replace BK1240 : Aside0 (w14.heap[gb1240]? = some (.cells #[.slice A0_0 l0_0.length c0_0, .slice A0_1 l0_1.length c0_1, .slice A0_2 l0_2.length c0_2] 28 (0, 0))) := ⟨by rw [← hq_]; exact (kl BK1240.out)⟩; replace HK : Aside0 (Kept w w14 (fun k_ => P1_ k_)) := ⟨by rw [← hq_]; exact (by repeat (first | (with_reducible first | exact HK.out | apply Kept.alloc | apply Kept.drewN | apply Kept.drew | refine Kept.setCell ?_ (.inr GW1240.out) _) | exact HK.out))⟩; replace HB : Aside0 (Below w0.heap.size w0 w14) := ⟨by rw [← hq_]; exact (bs1 GE1240.out HB.out)⟩; clear hq_)); obtain ⟨hcz16_0, hcz16_1, hcz16_2, hfz16_0, hfz16_1, hfz16_2⟩ := cf3 BK1240; have p1242 : 0 ≤ (t1241 : Int) := of_decide_eq_true (by first | (with_reducible assumption) | assumption); have q1242 : t1241 < (l0_0.length : Int) := of_decide_eq_true (by first | (with_reducible assumption) | assumption); obtain ⟨ad1242, e1242, hx1242_0⟩ := Kd.at_int (Kd.C_kept_now HR0_0.out HK.out) t1241 p1242 q1242; cases e1242; replace p1242 := eq_true p1242; replace q1242 := eq_true q1242) | ((with_reducible refine gate_callee (f := 61) rfl ?_); refine gL (some 16) rfl rfl Try.func61 (by kernel_rfl) rfl #[.slice Ao15 l1.length co15, .int .i64 (rd l0_0 t1241)] rfl ?_; (with_reducible refine (impl_shade.calls (fun k_ => some k_ = (.slice Ao15 l1.length co15 : Value).ownBlock) (.slice Ao15 l1.length co15) l1 (rd l0_0 t1241) t1243 w0 _ ?side1 ?side2 A9.out).mono ?_); (case side1 => exact bs1 GE1240.out HB.out); (case side2 => exact Kd.R_tight rfl HO1.out); rintro e w17 ⟨rfl, hy0, hb, hkp⟩; refine ⟨_, rfl, ?_⟩; replace BK1240 := am (blk_kept (kl BK1240.out) hkp (fun hs_ => (fun e_ => (Kd.R_ne HO1.out BK1240.out (by decide)) e_) hs_)); replace HK := am (Kept.then_ (S := (fun k_ => P1_ k_)) (by repeat (first | (with_reducible first | exact HK.out | apply Kept.alloc | apply Kept.drewN | apply Kept.drew | refine Kept.setCell ?_ (.inr GW1240.out) _) | exact HK.out)) hkp (fun k_ hs_ => (fun e_ => (HO1.out.1 k_ e_.symm)) hs_)); replace HO1 := am (Kd.R_reok rfl hy0 (fun k_ e_ => HO1.out.1 k_ e_)); replace HB := am (hb); (try clear hb hkp hy0); obtain ⟨hcz18_0, hcz18_1, hcz18_2, hfz18_0, hfz18_1, hfz18_2⟩ := cf3 BK1240; have p1244 : 0 ≤ (t1241 : Int) := of_decide_eq_true (by first | (with_reducible assumption) | assumption); have q1244 : t1241 < (l0_1.length : Int) := of_decide_eq_true (by first | (with_reducible assumption) | assumption); obtain ⟨ad1244, e1244, hx1244_0⟩ := Kd.at_int (Kd.C_kept_now HR0_1.out HK.out) t1241 p1244 q1244; cases e1244; replace p1244 := eq_true p1244; replace q1244 := eq_true q1244) | ((with_reducible refine gate_callee (f := 61) rfl ?_); refine gL (some 23) rfl rfl Try.func61 (by kernel_rfl) rfl #[.slice Ao15 l1.length co15, .int .i64 (rd l0_1 t1241)] rfl ?_; (with_reducible refine (impl_shade.calls (fun k_ => some k_ = (.slice Ao15 l1.length co15 : Value).ownBlock) (.slice Ao15 l1.length co15) t1243 (rd l0_1 t1241) t1245 w0 _ ?side1 ?side2 A11.out).mono ?_); (case side1 => exact bs1 GE1240.out HB.out); (case side2 => exact Kd.R_tight rfl HO1.out); rintro e w19 ⟨rfl, hy0, hb, hkp⟩; refine ⟨_, rfl, ?_⟩; replace BK1240 := am (blk_kept (kl BK1240.out) hkp (fun hs_ => (fun e_ => (Kd.R_ne HO1.out BK1240.out (by decide)) e_) hs_)); replace HK := am (Kept.then_ (S := (fun k_ => P1_ k_)) (by repeat (first | (with_reducible first | exact HK.out | apply Kept.alloc | apply Kept.drewN | apply Kept.drew | refine Kept.setCell ?_ (.inr GW1240.out) _) | exact HK.out)) hkp (fun k_ hs_ => (fun e_ => (HO1.out.1 k_ e_.symm)) hs_)); replace HO1 := am (Kd.R_reok rfl hy0 (fun k_ e_ => HO1.out.1 k_ e_)); replace HB := am (hb); (try clear hb hkp hy0); have p13 : 0 ≤ (t1241 : Int) := of_decide_eq_true (by first | (with_reducible assumption) | assumption); have q13 : (t1241 : Int) < ((l1.length : Int) : Int) := of_decide_eq_true (by first | (with_reducible assumption) | assumption); obtain ⟨go13, co13, eo13, gb13, gl13, cl13, HG13⟩ := Kd.R_form HO1.out (by first | omega | (have hz_ := (Kd.R_reads' HO1.out).1; omega)); (first | cases eo13 | (injection eo13 with ea_ en_ ec_; (first | subst ea_ | (injection ea_ with ea_; subst ea_)); subst ec_; clear en_)); have GB13 := am gb13; have GG13 := am HG13; clear gb13 gl13 HG13; have HMgo13 := am (show (P1_ go13 ∨ w.heap.size ≤ go13) from (HO1.out.1 _ rfl)); obtain ⟨hx13_0, hf13_0⟩ := Kd.R_celln 0 HO1.out (t1241 : Int) p13 q13; replace p13 := eq_true p13; replace q13 := eq_true q13; obtain ⟨hy20_, hz20_⟩ := Kd.R_celln 0 HO1.out (t1241 : Int) (of_decide_eq_true (by first | (with_reducible assumption) | assumption)) (of_decide_eq_true (by first | (with_reducible assumption) | assumption)); have HP20 := Kd.R_putg HO1.out (t1241 : Int) 2) | ((with_reducible refine gate_store (t := 3) (p := 26) rfl ?_); refine store_event (t := 3) (p := 26) (v := ?vo_w21) (w1 := (w19.setCell ⟨go13, (t1241 : Int).toNat, none⟩ (.int .i64 2))) ?hg ?ho ?hn ?hr ?_; (case ho => rfl); (case hg => rfl); (case hn => rfl); (case hr => first | (go_simp; done) | (go_simp; rfl)); intro w21 hw; have hg : w19.grownBy w21 (some go13) := (by rw [hw]; exact HP20.2); have hp_ : Kd.R (Kd.int .i64) 3 w21 w0.heap.size (fun k_ => (P1_ k_ ∨ w.heap.size ≤ k_)) (.slice (some ⟨go13, 0, none⟩) l1.length co15) y1246 := (by rw [hw, Ny1246.out]; exact HP20.1); clear HP20; replace BK1240 := am (blk_grown (g := gb1240) (o := .cells #[.slice (some ad1242) l0_0.length c0_0, .slice (some ad1244) l0_1.length c0_1, .slice A0_2 l0_2.length c0_2] 28 (0, 0)) (kl BK1240.out) hg (Kd.R_ne HO1.out BK1240.out (by decide))); replace HB := am ((by rw [hw]; exact below_set (HB.out) GB13.out : Below w0.heap.size w0 w21)); replace HK := am (Kept.of_grown (S := (fun k_ => P1_ k_)) hg (by repeat (first | (with_reducible first | exact HK.out | apply Kept.alloc | apply Kept.drewN | apply Kept.drew | refine Kept.setCell ?_ (.inr GW1240.out) _) | exact HK.out)) (fun k_ e_ => (HO1.out.1 k_ e_))); replace HO1 := am (hp_); clear hg hw hp_))
      go_ret
      exact ⟨by first | rfl | (simp [errW_none, errW_some] <;> rfl) | (simp [*, errW_none, errW_some] <;> rfl), by exact rl HO1.out, by exact bs1 GE1240.out HB.out, by repeat (first | (with_reducible first | exact HK.out | apply Kept.alloc | apply Kept.drewN | apply Kept.drew | refine Kept.setCell ?_ (.inr GW1240.out) _) | exact HK.out)⟩
     ·rw [if_neg c12] at H
      exact absurd H (by simp)
    ·rw [if_neg c10] at H
     exact absurd H (by simp)
   ·rw [if_neg c8] at H
    exact absurd H (by simp)
  ·rw [if_neg c7] at H
   exact absurd H (by simp)

end Go.Proofs.Ytkbaggfkidalfaa.A
