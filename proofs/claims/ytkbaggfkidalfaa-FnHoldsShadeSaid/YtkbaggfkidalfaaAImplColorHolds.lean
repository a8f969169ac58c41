/- Contracts of functions of the given program (AImplColorHolds). No conditions beyond those stated. -/
import Derived.Test.YtkbaggfkidalfaaA0
import Derived.Test.YtkbaggfkidalfaaAImplColoredValid
import Derived.Test.YtkbaggfkidalfaaA0
namespace Go.Proofs.Ytkbaggfkidalfaa.A
open Go.RowKit Go.Proofs.YtkbaggfkidalfaaW.PrintWords Go.Proofs.YtkbaggfkidalfaaW.PrintLast Go.Proofs.YtkbaggfkidalfaaW.PrintMore
attribute [local go_sem] max2_int min2_int max_two min_two max_three min_three max_four min_four   -- for this text's walks alone
set_option linter.unusedVariables false
set_option linter.unusedSimpArgs false

/-! ### impl_ColorHolds -/
/-- What the closure says of p: it is a cell whose color is white. -/
def whiteM (e : List Int) (p : Int) : Bool := decide (p ≠ -1 ∧ rd e p = 0)
set_option maxHeartbeats 4000000 in
set_option maxRecDepth 100000 in
theorem white_calls (W : World) (gb : Nat) (x y z : Value) (A : Option Addr) (c : Nat) (e : List Int) (p : Int) (hg : W.heap[gb]? = some (.cells #[x, y, z, .slice A e.length c] 30 (0, 0))) (hC : Kd.C (Kd.int .i64) W A e.length e) (hp : p = -1 ∨ (0 ≤ p ∧ p < (e.length : Int))) :
    Calls Try.prog 72 #[.int .i64 p, .pointer (some ⟨gb, 0, none⟩)] W fun r W' => r = .returned (.bool (whiteM e p)) ∧ Below W.heap.size W W' := by
  have hu23 := Try.underlying22
  have hu49 := Try.underlying30
  have hu25 := Try.underlying28
  have HB := am (Below.refl W.heap.size W)
  have c3 : W.cell? ⟨gb, 3, none⟩ = some (.slice A e.length c) := (blk_cell hg 3).trans rfl
  by_cases h1 : p = -1
  · subst h1
    have e1 : whiteM e (-1) = false := by unfold whiteM; rw [decide_eq_false (by simp)]
    rw [e1]
    clear hg hC
    go_enter Try.func72, Try.ntmps72
    go_wp2
    go_ret
    exact ⟨rfl, HB.out⟩
  · obtain ⟨h0, h2⟩ := hp.resolve_left h1
    obtain ⟨ad, ea, hx⟩ := Kd.at_int hC p h0 h2
    cases ea
    have hpb : (p != -1) = true := by simp [h1]
    have e1 : whiteM e p = (rd e p == 0) := by unfold whiteM; rw [Bool.eq_iff_iff]; simp [h1]
    rw [e1]
    clear hg hC
    go_enter Try.func72, Try.ntmps72
    go_wp2
    go_ret
    exact ⟨rfl, HB.out⟩
/-- Whether p is none or a cell of n. -/
def whiteOk (n : Nat) (p : Int) : Bool := decide (p = -1 ∨ (0 ≤ p ∧ p < (n : Int)))
/-- The walk over the colors. -/
def impl_ColorHolds.l0 : Nat → Int → List Int → List Int → List Int → Option Bool
  | 0, _, _, _, _ => none
  | k + 1, i, a, b, e => if i < (e.length : Int) then (if 0 ≤ i then (if rd e i = 2 then (if i < (a.length : Int) then (if whiteOk e.length (rd a i) = true then (if whiteM e (rd a i) = true then some false else (if i < (b.length : Int) then (if whiteOk e.length (rd b i) = true then (if whiteM e (rd b i) = true then some false else impl_ColorHolds.l0 k (wrap64 (i + 1)) a b e) else none) else none)) else none) else none) else impl_ColorHolds.l0 k (wrap64 (i + 1)) a b e) else none) else some true
def impl_ColorHolds.f (a b c e : List Int) : Option Bool := (impl_ColoredValid.f 2097152 a b c e).bind fun v => if v = true then impl_ColorHolds.l0 2000 0 a b e else some false
set_option maxHeartbeats 8000000 in
set_option maxRecDepth 100000 in
theorem impl_ColorHolds.calls (A0_0 : Option Addr) (c0_0 : Nat) (l0_0 : List Int) (A0_1 : Option Addr) (c0_1 : Nat) (l0_1 : List Int) (A0_2 : Option Addr) (c0_2 : Nat) (l0_2 : List Int) (A0_3 : Option Addr) (c0_3 : Nat) (l0_3 : List Int) (r : Bool) (w : World) (hr0_0 : Kd.C (Kd.int .i64) w A0_0 l0_0.length l0_0) (hc0_0 : l0_0.length ≤ c0_0) (hr0_1 : Kd.C (Kd.int .i64) w A0_1 l0_1.length l0_1) (hc0_1 : l0_1.length ≤ c0_1) (hr0_2 : Kd.C (Kd.int .i64) w A0_2 l0_2.length l0_2) (hc0_2 : l0_2.length ≤ c0_2) (hr0_3 : Kd.C (Kd.int .i64) w A0_3 l0_3.length l0_3) (hc0_3 : l0_3.length ≤ c0_3) (h : impl_ColorHolds.f l0_0 l0_1 l0_2 l0_3 = some r) :
    Calls Try.prog 31 #[.agg #[.slice A0_0 l0_0.length c0_0, .slice A0_1 l0_1.length c0_1, .slice A0_2 l0_2.length c0_2, .slice A0_3 l0_3.length c0_3]] w fun e w' => e = .returned (.bool r) ∧ Below w.heap.size w w' := by
  have hu23 := Try.underlying22
  have hu49 := Try.underlying30
  have hu25 := Try.underlying28
  unfold impl_ColorHolds.f at h
  obtain ⟨v, hv, h'⟩ := Option.bind_eq_some_iff.1 h
  have HR0_0 := am hr0_0
  have HR0_1 := am hr0_1
  have HR0_2 := am hr0_2
  have HR0_3 := am hr0_3
  have HC0_0 := am hc0_0
  have HC0_1 := am hc0_1
  have HC0_2 := am hc0_2
  have HC0_3 := am hc0_3
  have HB := am (Below.refl w.heap.size w)
  have HV := am hv
  have H' := am h'
  clear hr0_0 hr0_1 hr0_2 hr0_3 hc0_0 hc0_1 hc0_2 hc0_3 h hv h'
  have hmf : ∀ (fn : Fn) (first cap : Array Value) (w : World), (Instr.makeFunc fn first cap).run Try.prog w = .ok (.func fn first cap) w := fun _ _ _ _ => rfl
  cases v with
  | false =>
    have hr : r = false := by have := H'.out; simpa using this.symm
    subst hr
    go_enter Try.func31, Try.ntmps31
    go_wp2_with (first | ((with_reducible refine gate_dst (N := 1) rfl ?_); refine box_event ?hg (N := 1) ?hd (cs := #[.slice A0_0 l0_0.length c0_0, .slice A0_1 l0_1.length c0_1, .slice A0_2 l0_2.length c0_2, .slice A0_3 l0_3.length c0_3]) (t := 30) ?hr ?_; (case hd => rfl); (case hg => rfl); (case hr => first | (go_simp; done) | (go_simp; rfl)); intro gb hg w4 hbox hb; replace HB := am (below_step HB.out hb); have BG := am (hbox); clear hb hbox hg; have hcz0 : w4.cell? ⟨gb, 0, none⟩ = some (.slice A0_0 l0_0.length c0_0) := (blk_cell BG.out 0).trans rfl; have hcz1 : w4.cell? ⟨gb, 1, none⟩ = some (.slice A0_1 l0_1.length c0_1) := (blk_cell BG.out 1).trans rfl; have hcz2 : w4.cell? ⟨gb, 2, none⟩ = some (.slice A0_2 l0_2.length c0_2) := (blk_cell BG.out 2).trans rfl; have hcz3 : w4.cell? ⟨gb, 3, none⟩ = some (.slice A0_3 l0_3.length c0_3) := (blk_cell BG.out 3).trans rfl) | ((with_reducible refine gate_callee (f := 29) rfl ?_); refine goesL_ (some 7) rfl rfl Try.func29 (by kernel_rfl) rfl #[.agg #[.slice A0_0 l0_0.length c0_0, .slice A0_1 l0_1.length c0_1, .slice A0_2 l0_2.length c0_2, .slice A0_3 l0_3.length c0_3]] rfl (by (try simp only [List.map_toArray, List.map_cons, List.map_nil]); first | done | rfl) ?_; (with_reducible refine (impl_ColoredValid.calls 2097152 _ _ l0_0 _ _ l0_1 _ _ l0_2 _ _ l0_3 _ _ ?side1 ?side2 ?side3 ?side4 ?side5 ?side6 ?side7 ?side8 HV.out).mono ?_); (case side1 => exact cl (Kd.C_below HR0_0.out HB.out)); (case side2 => exact HC0_0.out); (case side3 => exact cl (Kd.C_below HR0_1.out HB.out)); (case side4 => exact HC0_1.out); (case side5 => exact cl (Kd.C_below HR0_2.out HB.out)); (case side6 => exact HC0_2.out); (case side7 => exact cl (Kd.C_below HR0_3.out HB.out)); (case side8 => exact HC0_3.out); rintro e w7 ⟨rfl, hb⟩; refine ⟨_, rfl, ?_⟩; replace BG := am (blk_below (kl BG.out) hb); replace HB := am (below_step (bl HB.out) hb); clear hb))
    go_ret
    exact ⟨rfl, HB.out⟩
  | true =>
    have H := H'.out
    rw [if_pos rfl] at H
    clear H'
    have H' := am H
    clear H
    go_enter Try.func31, Try.ntmps31
    go_wp2_with (first | ((with_reducible refine gate_dst (N := 1) rfl ?_); refine box_event ?hg (N := 1) ?hd (cs := #[.slice A0_0 l0_0.length c0_0, .slice A0_1 l0_1.length c0_1, .slice A0_2 l0_2.length c0_2, .slice A0_3 l0_3.length c0_3]) (t := 30) ?hr ?_; (case hd => rfl); (case hg => rfl); (case hr => first | (go_simp; done) | (go_simp; rfl)); intro gb hg w4 hbox hb; replace HB := am (below_step HB.out hb); have BG := am (hbox); clear hb hbox hg; have hcz0 : w4.cell? ⟨gb, 0, none⟩ = some (.slice A0_0 l0_0.length c0_0) := (blk_cell BG.out 0).trans rfl; have hcz1 : w4.cell? ⟨gb, 1, none⟩ = some (.slice A0_1 l0_1.length c0_1) := (blk_cell BG.out 1).trans rfl; have hcz2 : w4.cell? ⟨gb, 2, none⟩ = some (.slice A0_2 l0_2.length c0_2) := (blk_cell BG.out 2).trans rfl; have hcz3 : w4.cell? ⟨gb, 3, none⟩ = some (.slice A0_3 l0_3.length c0_3) := (blk_cell BG.out 3).trans rfl) | ((with_reducible refine gate_callee (f := 29) rfl ?_); refine goesL_ (some 7) rfl rfl Try.func29 (by kernel_rfl) rfl #[.agg #[.slice A0_0 l0_0.length c0_0, .slice A0_1 l0_1.length c0_1, .slice A0_2 l0_2.length c0_2, .slice A0_3 l0_3.length c0_3]] rfl (by (try simp only [List.map_toArray, List.map_cons, List.map_nil]); first | done | rfl) ?_; (with_reducible refine (impl_ColoredValid.calls 2097152 _ _ l0_0 _ _ l0_1 _ _ l0_2 _ _ l0_3 _ _ ?side1 ?side2 ?side3 ?side4 ?side5 ?side6 ?side7 ?side8 HV.out).mono ?_); (case side1 => exact cl (Kd.C_below HR0_0.out HB.out)); (case side2 => exact HC0_0.out); (case side3 => exact cl (Kd.C_below HR0_1.out HB.out)); (case side4 => exact HC0_1.out); (case side5 => exact cl (Kd.C_below HR0_2.out HB.out)); (case side6 => exact HC0_2.out); (case side7 => exact cl (Kd.C_below HR0_3.out HB.out)); (case side8 => exact HC0_3.out); rintro e w7 ⟨rfl, hb⟩; refine ⟨_, rfl, ?_⟩; replace BG := am (blk_below (kl BG.out) hb); replace HB := am (below_step (bl HB.out) hb); clear hb; clear hcz0 hcz1 hcz2 hcz3; have hcz3 : w7.cell? ⟨gb, 3, none⟩ = some (.slice A0_3 l0_3.length c0_3) := (blk_cell BG.out 3).trans rfl))
    go_loopg [13] 2000 (fun kq v13 w' => ∃ (i : Int), v13 = .int .i64 i ∧ Aside0 (impl_ColorHolds.l0 kq i l0_0 l0_1 l0_3 = some r) ∧ Aside0 (kq ≤ 2000) ∧ Aside0 (w'.heap[gb]? = some (.cells #[.slice A0_0 l0_0.length c0_0, .slice A0_1 l0_1.length c0_1, .slice A0_2 l0_2.length c0_2, .slice A0_3 l0_3.length c0_3] 30 (0, 0))) ∧ Aside0 (Below w.heap.size w w'))
    case atStart => exact ⟨0, rfl, H', ⟨Nat.le_refl _⟩, BG, HB⟩
    case round =>
      clear H' BG HB hcz3 HV
      obtain ⟨i, rfl, HA, HK1, BG, HB⟩ := hrel
      cases gk with
      | zero => exact absurd HA.out (by simp [impl_ColorHolds.l0])
      | succ k1 =>
        have H := HA.out
        clear HA
        rw [impl_ColorHolds.l0] at H
        by_cases c1 : i < (l0_3.length : Int)
        · rw [if_pos c1] at H
          by_cases c2 : 0 ≤ i
          · rw [if_pos c2] at H
            obtain ⟨ad, ea, hx⟩ := Kd.at_int HR0_3.out i c2 c1
            cases ea
            have cx := hx
            replace hx := (HB.out.cell (World.block_lt_of_cell? w _ hx)).trans hx
            by_cases c3 : rd l0_3 i = 2
            · rw [if_pos c3] at H
              have k3 : (rd l0_3 i == 2) = true := by rw [c3]; rfl
              by_cases c4 : i < (l0_0.length : Int)
              · rw [if_pos c4] at H
                by_cases c5 : whiteOk l0_3.length (rd l0_0 i) = true
                · rw [if_pos c5] at H
                  have HP : Aside0 (rd l0_0 i = -1 ∨ (0 ≤ rd l0_0 i ∧ rd l0_0 i < (l0_3.length : Int))) := am (of_decide_eq_true c5)
                  obtain ⟨al, ea, hl⟩ := Kd.at_int HR0_0.out i c2 c4
                  cases ea
                  replace hl := (HB.out.cell (World.block_lt_of_cell? w _ hl)).trans hl
                  have cG0 : wr.cell? ⟨gb, 0, none⟩ = some (.slice (some al) l0_0.length c0_0) := (blk_cell BG.out 0).trans rfl
                  by_cases c6 : whiteM l0_3 (rd l0_0 i) = true
                  · rw [if_pos c6] at H
                    have hr : r = false := by simpa using H.symm
                    subst hr
                    clear H c5
                    go_wp2_with (go_at_call 72; go_must (refine (white_calls wr gb _ _ _ _ c0_3 l0_3 (rd l0_0 i) BG.out (cl (Kd.C_below HR0_3.out HB.out)) HP.out).mono ?_; rintro e9 w9 ⟨rfl, hb⟩; replace BG := am (blk_below (kl BG.out) hb); replace HB := am (below_step (bl HB.out) hb); clear hb))
                    go_ret
                    exact ⟨rfl, HB.out⟩
                  · rw [if_neg c6] at H
                    have c6' : whiteM l0_3 (rd l0_0 i) = false := Bool.eq_false_iff.2 c6
                    by_cases c7 : i < (l0_1.length : Int)
                    · rw [if_pos c7] at H
                      by_cases c8 : whiteOk l0_3.length (rd l0_1 i) = true
                      · rw [if_pos c8] at H
                        have HQ : Aside0 (rd l0_1 i = -1 ∨ (0 ≤ rd l0_1 i ∧ rd l0_1 i < (l0_3.length : Int))) := am (of_decide_eq_true c8)
                        obtain ⟨ar, ea, hr1⟩ := Kd.at_int HR0_1.out i c2 c7
                        cases ea
                        have HR1 := am hr1
                        clear hr1 c5 c8 c6
                        by_cases c9 : whiteM l0_3 (rd l0_1 i) = true
                        · rw [if_pos c9] at H
                          have hr : r = false := by simpa using H.symm
                          subst hr
                          clear H
                          go_wp2_with (first | (go_at_call 72; refine (white_calls wr gb _ _ _ _ c0_3 l0_3 (rd l0_0 i) BG.out (cl (Kd.C_below HR0_3.out HB.out)) HP.out).mono ?_; rintro e9 w9 ⟨rfl, hb⟩; replace BG := am (blk_below (kl BG.out) hb); replace HB := am (below_step (bl HB.out) hb); clear hb; have hr1 := (HB.out.cell (World.block_lt_of_cell? w _ HR1.out)).trans HR1.out; have cG1 : w9.cell? ⟨gb, 1, none⟩ = some (.slice (some ar) l0_1.length c0_1) := (blk_cell BG.out 1).trans rfl; clear hl cG0 hx) | (go_at_call 72; go_must (refine (white_calls w9 gb _ _ _ _ c0_3 l0_3 (rd l0_1 i) BG.out (cl (Kd.C_below HR0_3.out HB.out)) HQ.out).mono ?_; rintro e9 w10 ⟨rfl, hb⟩; replace BG := am (blk_below (kl BG.out) hb); replace HB := am (below_step (bl HB.out) hb); clear hb)))
                          go_ret
                          exact ⟨rfl, HB.out⟩
                        · rw [if_neg c9] at H
                          have c9' : whiteM l0_3 (rd l0_1 i) = false := Bool.eq_false_iff.2 c9
                          have H' := am H
                          clear H c9
                          go_wp2_with (first | (go_at_call 72; refine (white_calls wr gb _ _ _ _ c0_3 l0_3 (rd l0_0 i) BG.out (cl (Kd.C_below HR0_3.out HB.out)) HP.out).mono ?_; rintro e9 w9 ⟨rfl, hb⟩; replace BG := am (blk_below (kl BG.out) hb); replace HB := am (below_step (bl HB.out) hb); clear hb; have hr1 := (HB.out.cell (World.block_lt_of_cell? w _ HR1.out)).trans HR1.out; have cG1 : w9.cell? ⟨gb, 1, none⟩ = some (.slice (some ar) l0_1.length c0_1) := (blk_cell BG.out 1).trans rfl; clear hl cG0 hx) | (go_at_call 72; go_must (refine (white_calls w9 gb _ _ _ _ c0_3 l0_3 (rd l0_1 i) BG.out (cl (Kd.C_below HR0_3.out HB.out)) HQ.out).mono ?_; rintro e9 w10 ⟨rfl, hb⟩; replace BG := am (blk_below (kl BG.out) hb); replace HB := am (below_step (bl HB.out) hb); clear hb)))
                          go_roundg k1
                          case measure => have := HK1.out; omega
                          case rel => exact ⟨wrap64 (i + 1), (by first | rfl | (congr 1; unfold wrap64; omega)), H', ⟨by have := HK1.out; omega⟩, BG, HB⟩
                      · rw [if_neg c8] at H; exact absurd H (by simp)
                    · rw [if_neg c7] at H; exact absurd H (by simp)
                · rw [if_neg c5] at H; exact absurd H (by simp)
              · rw [if_neg c4] at H; exact absurd H (by simp)
            · rw [if_neg c3] at H
              have k3 : (rd l0_3 i == 2) = false := by simpa using c3
              have H' := am H
              clear H
              go_wp2
              go_roundg k1
              case measure => have := HK1.out; omega
              case rel => exact ⟨wrap64 (i + 1), (by first | rfl | (congr 1; unfold wrap64; omega)), H', ⟨by have := HK1.out; omega⟩, BG, HB⟩
          · rw [if_neg c2] at H; exact absurd H (by simp)
        · rw [if_neg c1] at H
          obtain rfl := Option.some.inj H
          clear H
          go_wp2
          go_ret
          exact ⟨rfl, HB.out⟩

end Go.Proofs.Ytkbaggfkidalfaa.A
