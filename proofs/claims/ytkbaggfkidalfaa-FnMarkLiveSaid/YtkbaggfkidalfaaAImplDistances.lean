/- Contracts of functions of the given program (AImplDistances). No conditions beyond those stated. -/
import Derived.Test.YtkbaggfkidalfaaA0
import Derived.Test.YtkbaggfkidalfaaA0
namespace Go.Proofs.Ytkbaggfkidalfaa.A
open Go.RowKit Go.Proofs.YtkbaggfkidalfaaW.PrintWords Go.Proofs.YtkbaggfkidalfaaW.PrintLast Go.Proofs.YtkbaggfkidalfaaW.PrintMore
attribute [local go_sem] max2_int min2_int max_two min_two max_three min_three max_four min_four   -- for this text's walks alone
set_option linter.unusedVariables false
set_option linter.unusedSimpArgs false

/-! ### impl_distances -/
/-- What the closure does to the distances, and to the open cells. -/
def meetOut (out : List Int) (p far : Int) : List Int := if p ≠ -1 ∧ rd out p = 0 then out.set p.toNat far else out
def meetOpen (out op : List Int) (p : Int) : List Int := if p ≠ -1 ∧ rd out p = 0 then op ++ [p] else op
theorem meetOut_len (out : List Int) (p far : Int) : (meetOut out p far).length = out.length := by unfold meetOut; split <;> simp
/-- The two captured variables, what they hold, the box of the heap. -/
def Meets (w W : World) (bx bo gb : Nat) (cs : Array Value) (vo vp : Value) (out op : List Int) : Prop :=
  (W.heap[bx]? = some (.cells #[vo] 22 (0, 0)) ∧ W.heap[bo]? = some (.cells #[vp] 22 (0, 0)) ∧ W.heap[gb]? = some (.cells cs 28 (0, 0))) ∧
  (Kd.R (Kd.int .i64) 3 W w.heap.size (fun k => some k ≠ vp.ownBlock) vo out ∧ Kd.R (Kd.int .i64) 3 W w.heap.size (fun k => some k ≠ vo.ownBlock) vp op) ∧
  Below w.heap.size w W ∧ (w.heap.size ≤ bx ∧ w.heap.size ≤ bo ∧ bx ≠ bo)
set_option maxHeartbeats 8000000 in
set_option maxRecDepth 100000 in
theorem meet_calls (w W : World) (bx bo gb : Nat) (cs : Array Value) (vo vp : Value) (out op : List Int) (p far : Int) (hS : Meets w W bx bo gb cs vo vp out op) (hp : p = -1 ∨ (0 ≤ p ∧ p < (out.length : Int))) (hl : op.length < 1000) :
    Calls Try.prog 90 #[.int .i64 p, .int .i64 far, .pointer (some ⟨bx, 0, none⟩), .pointer (some ⟨bo, 0, none⟩)] W fun e W' => e = .returned (.tuple #[]) ∧ ∃ vp', Meets w W' bx bo gb cs vo vp' (meetOut out p far) (meetOpen out op p) := by
  have hu23 := Try.underlying22
  obtain ⟨⟨hx, hy, hg⟩, ⟨ho, hq⟩, hb, hbx, hbo, hne⟩ := hS
  have HX := Aside0.mk hx
  have HY := Aside0.mk hy
  have HG := Aside0.mk hg
  have HO := Aside0.mk ho
  have HQ := Aside0.mk hq
  have HB := Aside0.mk hb
  have cX : W.cell? ⟨bx, 0, none⟩ = some vo := blk_cell hx 0
  have cY : W.cell? ⟨bo, 0, none⟩ = some vp := blk_cell hy 0
  by_cases h1 : p = -1
  · subst h1
    have e1 : meetOut out (-1) far = out := by unfold meetOut; rw [if_neg (by simp)]
    have e2 : meetOpen out op (-1) = op := by unfold meetOpen; rw [if_neg (by simp)]
    rw [e1, e2]
    clear hx hy hg ho hq hb
    go_enter Try.func90, Try.ntmps90
    go_wp2
    go_end0
    exact ⟨rfl, vp, ⟨HX.out, HY.out, HG.out⟩, ⟨HO.out, HQ.out⟩, HB.out, hbx, hbo, hne⟩
  · have hp2 : 0 ≤ p ∧ p < (out.length : Int) := hp.resolve_left h1
    obtain ⟨hp0, hp1⟩ := hp2
    obtain ⟨Ao, co, eo⟩ := Kd.R_slice ho
    subst eo
    obtain ⟨ad, ea, hcell⟩ := Kd.at_int (Kd.R_reads' ho).2.2 p hp0 hp1
    cases ea
    obtain ⟨go, co', eo', gb', gl', cl', HG'⟩ := Kd.R_form ho (by omega)
    injection eo' with ea_ en_ ec_
    injection ea_ with ea_
    subst ea_ ec_
    clear en_
    simp only [add_plain] at hcell
    obtain ⟨hx15, hf15⟩ := Kd.R_celln 0 ho p hp0 hp1
    by_cases h2 : rd out p = 0
    · have e1 : meetOut out p far = out.set p.toNat far := by unfold meetOut; rw [if_pos ⟨h1, h2⟩]
      have e2 : meetOpen out op p = op ++ [p] := by unfold meetOpen; rw [if_pos ⟨h1, h2⟩]
      rw [e1, e2]
      have HP := Kd.R_putg ho p far
      rw [h2] at hcell
      have hpb : (p != -1) = true := by simp [h1]
      have nx : some bx ≠ (Value.slice (some ⟨go, 0, none⟩) out.length co).ownBlock := Kd.R_ne ho hx (by decide)
      have ny : some bo ≠ (Value.slice (some ⟨go, 0, none⟩) out.length co).ownBlock := Kd.R_ne ho hy (by decide)
      have ng : some gb ≠ (Value.slice (some ⟨go, 0, none⟩) out.length co).ownBlock := Kd.R_ne ho hg (by decide)
      have HX1 := Aside0.mk (blk_grown hx HP.2 nx)
      have HY1 := Aside0.mk (blk_grown hy HP.2 ny)
      have HG1 := Aside0.mk (blk_grown hg HP.2 ng)
      have HO1 := Aside0.mk HP.1
      have HQ1 := Aside0.mk (Kd.R_after (v := (.slice (some ⟨go, 0, none⟩) out.length co)) (v1 := (.slice (some ⟨go, 0, none⟩) out.length co)) (ok := (fun _ => True)) (Kd.R_mono hq (fun _ hk => ⟨trivial, hk⟩)) HP.2 (.inl rfl))
      have HB1 : Aside0 (Below w.heap.size w (W.setCell ⟨go, p.toNat, none⟩ (.int .i64 far))) := ⟨below_set hb gb'⟩
      have cY1 : (W.setCell ⟨go, p.toNat, none⟩ (.int .i64 far)).cell? ⟨bo, 0, none⟩ = some vp := blk_cell HY1.out 0
      clear HP hx hy hg ho hq hb HX HY HG HO HQ HB cY
      go_enter Try.func90, Try.ntmps90
      go_wp2_with ((with_reducible refine gate_builtin (b := .append) (xs := #[.tmp 19, .tmp 21]) rfl ?_); at_builtin; go_must (refine Kd.R_append (Kd.int .i64) (w0 := w) w.heap.size rfl (.tmp 19) (.tmp 21) 22 3 (.int .i64 0) 8 rfl Try.underlying22 info3 rfl (by decide) (by omega) vp op p [.int .i64 p] (fun k_ => some k_ ≠ (.slice (some ⟨go, 0, none⟩) out.length co : Value).ownBlock) (fun _ => False) rfl (by first | (go_simp; done) | (go_simp; rfl)) ?aP (fun _ hk => hk.elim) ?aF ?aO ?aB ?aS ?aL ?_; (case aP => exact rfl); (case aB => exact (by repeat (first | (with_reducible first | exact HB1.out | apply below_alloc | apply pw_below_drewN | apply below_drew1) | exact HB1.out))); (case aF => exact (fun k_ hk => Kd.fresh' (Kd.R_lt (by (with_reducible repeat (first | apply Kd.R_alloc | apply Kd.R_drewN | apply Kd.R_drew)); exact HO1.out)) k_ hk)); (case aO => exact (by (with_reducible repeat (first | apply Kd.R_alloc | apply Kd.R_drewN | apply Kd.R_drew)); exact Kd.R_mono HQ1.out (fun _ hk => hk.2))); (case aS => exact (below_size (by repeat (first | (with_reducible first | exact HB1.out | apply below_alloc | apply pw_below_drewN | apply below_drew1) | exact HB1.out)))); (case aL => omega); intro v2 w2 ho2 hb2 hg2 hat; obtain ⟨A2, c2, es2⟩ := Kd.R_slice ho2; subst es2; have HX2 := Aside0.mk (blk_grown (by (with_reducible repeat (first | refine blk_drewN ?_ _ | refine blk_drew ?_ | refine blk_alloc ?_ _)); exact HX1.out) hg2 (Kd.R_ne HQ1.out HX1.out (by decide))); have HY2 := Aside0.mk (blk_grown (by (with_reducible repeat (first | refine blk_drewN ?_ _ | refine blk_drew ?_ | refine blk_alloc ?_ _)); exact HY1.out) hg2 (Kd.R_ne HQ1.out HY1.out (by decide))); have HG2 := Aside0.mk (blk_grown (by (with_reducible repeat (first | refine blk_drewN ?_ _ | refine blk_drew ?_ | refine blk_alloc ?_ _)); exact HG1.out) hg2 (Kd.R_ne HQ1.out HG1.out (by decide))); have HO2 := Aside0.mk (Kd.R_after (ok := (fun _ => True)) (by (with_reducible repeat (first | apply Kd.R_alloc | apply Kd.R_drewN | apply Kd.R_drew)); exact Kd.R_mono HO1.out (fun _ hk => ⟨trivial, hk⟩)) hg2 hat); have HQ2 := Aside0.mk ho2; have HB2 := Aside0.mk hb2; have cY2 : w2.cell? ⟨bo, 0, none⟩ = some vp := blk_cell HY2.out 0; have fY2 : w2.frozen? ⟨bo, 0, none⟩ = false := free_of_one HY2.out; clear ho2 hb2 hg2 hat))
      go_end0
      refine ⟨rfl, .slice A2 (op ++ [p]).length c2, ⟨?_, ?_, ?_⟩, ⟨?_, ?_⟩, ?_, hbx, hbo, hne⟩
      · exact blk_far HX2.out hne _
      · have := one_setCell (u := .slice A2 (op ++ [p]).length c2) HY2.out
        rw [List.length_append] at this ⊢
        exact this
      · exact blk_far HG2.out (blk_ne HG2.out HY2.out (by decide)) _
      · have r := Kd.R_far (p := ⟨bo, 0, none⟩) (Kd.R_far1 HO2.out rfl (Kd.R_ne HO2.out HY2.out (by decide))) (fun _ hk => hk.2) (.slice A2 (op.length + 1) c2)
        exact Kd.R_mono r (fun _ hk => hk.1.2)
      · have r := Kd.R_far (p := ⟨bo, 0, none⟩) (Kd.R_far1 HQ2.out rfl (Kd.R_ne HQ2.out HY2.out (by decide))) (fun _ hk => hk.2) (.slice A2 (op.length + 1) c2)
        exact Kd.R_mono r (fun _ hk => hk.1)
      · exact below_set HB2.out hbo
    · have e1 : meetOut out p far = out := by unfold meetOut; rw [if_neg (fun h => h2 h.2)]
      have e2 : meetOpen out op p = op := by unfold meetOpen; rw [if_neg (fun h => h2 h.2)]
      rw [e1, e2]
      have hpb : (p != -1) = true := by simp [h1]
      have hb2 : (rd out p == 0) = false := by simp [h2]
      clear hx hy hg ho hq hb
      go_enter Try.func90, Try.ntmps90
      go_wp2
      go_end0
      exact ⟨rfl, vp, ⟨HX.out, HY.out, HG.out⟩, ⟨HO.out, HQ.out⟩, HB.out, hbx, hbo, hne⟩

/-- Whether p is none or a cell of n. -/
def meetOk (n : Nat) (p : Int) : Bool := decide (p = -1 ∨ (0 ≤ p ∧ p < (n : Int)))
mutual
/-- The walk over the roots, the walk over the open cells. -/
def impl_distances.l0 : Nat → Int → List Int → List Int → List Int → List Int → List Int → Option (List Int)
  | 0, _, _, _, _, _, _ => none
  | k + 1, i, out, op, a, b, c => if i < (c.length : Int) then (if 0 ≤ i then (if meetOk out.length (rd c i) = true then (if op.length < 1000 then impl_distances.l0 k (wrap64 (i + 1)) (meetOut out (rd c i) 1) (meetOpen out op (rd c i)) a b c else none) else none) else none) else impl_distances.l1 k 0 out op a b c
def impl_distances.l1 : Nat → Int → List Int → List Int → List Int → List Int → List Int → Option (List Int)
  | 0, _, _, _, _, _, _ => none
  | k + 1, i, out, op, a, b, c => if i < (op.length : Int) then (if 0 ≤ i then (if 0 ≤ rd op i then (if rd op i < (a.length : Int) then (if rd op i < (b.length : Int) then (if rd op i < (out.length : Int) then (if meetOk out.length (rd a (rd op i)) = true then (if meetOk out.length (rd b (rd op i)) = true then (if op.length < 900 then
      impl_distances.l1 k (wrap64 (i + 1)) (meetOut (meetOut out (rd a (rd op i)) (wrap64 (rd out (rd op i) + 1))) (rd b (rd op i)) (wrap64 (rd (meetOut out (rd a (rd op i)) (wrap64 (rd out (rd op i) + 1))) (rd op i) + 1)))
        (meetOpen (meetOut out (rd a (rd op i)) (wrap64 (rd out (rd op i) + 1))) (meetOpen out op (rd a (rd op i))) (rd b (rd op i))) a b c
      else none) else none) else none) else none) else none) else none) else none) else none) else some out
end
def impl_distances.f (a b c : List Int) : Option (List Int) := if a.length ≤ 8 ∧ c.length ≤ 1000 then impl_distances.l0 2000 0 (List.replicate a.length 0) [] a b c else none
theorem meetOpen_len (out op : List Int) (p : Int) : (meetOpen out op p).length ≤ op.length + 1 := by unfold meetOpen; split <;> simp
theorem meetOpen_rd (out op : List Int) (p i : Int) (h0 : 0 ≤ i) (h : i < (op.length : Int)) : rd (meetOpen out op p) i = rd op i := by
  unfold meetOpen
  split
  · unfold rd; rw [List.getD_eq_getElem?_getD, List.getD_eq_getElem?_getD, List.getElem?_append_left (by omega)]
  · rfl
theorem meetOpen_le (out op : List Int) (p : Int) : op.length ≤ (meetOpen out op p).length := by unfold meetOpen; split <;> simp
theorem Meets.drew {w W : World} {bx bo gb : Nat} {cs : Array Value} {vo vp : Value} {out op : List Int} (h : Meets w W bx bo gb cs vo vp out op) : Meets w W.drew bx bo gb cs vo vp out op :=
  ⟨⟨blk_drew h.1.1, blk_drew h.1.2.1, blk_drew h.1.2.2⟩, ⟨Kd.R_drew h.2.1.1, Kd.R_drew h.2.1.2⟩, below_drew h.2.2.1, h.2.2.2⟩
theorem new_var (W : World) (z v : Value) (t : TypeId) : Below W.heap.size W ((W.alloc (.cells #[z] t)).setCell ⟨W.heap.size, 0, none⟩ v) ∧ ((W.alloc (.cells #[z] t)).setCell ⟨W.heap.size, 0, none⟩ v).heap[W.heap.size]? = some (.cells #[v] t (0, 0)) :=
  ⟨below_set (below_alloc (Below.refl _ _) _) (Nat.le_refl _), one_setCell (blk_new W _)⟩
set_option maxHeartbeats 8000000 in
set_option maxRecDepth 100000 in
theorem impl_distances.calls (A0_0 : Option Addr) (c0_0 : Nat) (l0_0 : List Int) (A0_1 : Option Addr) (c0_1 : Nat) (l0_1 : List Int) (A0_2 : Option Addr) (c0_2 : Nat) (l0_2 : List Int) (r : List Int) (w : World) (hr0_0 : Kd.C (Kd.int .i64) w A0_0 l0_0.length l0_0) (hc0_0 : l0_0.length ≤ c0_0) (hr0_1 : Kd.C (Kd.int .i64) w A0_1 l0_1.length l0_1) (hc0_1 : l0_1.length ≤ c0_1) (hr0_2 : Kd.C (Kd.int .i64) w A0_2 l0_2.length l0_2) (hc0_2 : l0_2.length ≤ c0_2) (h : impl_distances.f l0_0 l0_1 l0_2 = some r) :
    Calls Try.prog 84 #[.agg #[.slice A0_0 l0_0.length c0_0, .slice A0_1 l0_1.length c0_1, .slice A0_2 l0_2.length c0_2]] w fun e w' => ∃ v0_ : Value, e = .returned (v0_) ∧ Kd.R (Kd.int .i64) 3 w' w.heap.size (fun _ => True) v0_ r ∧ Below w.heap.size w w' := by
  have hu23 := Try.underlying22
  unfold impl_distances.f at h
  by_cases hlen : l0_0.length ≤ 8 ∧ l0_2.length ≤ 1000
  · rw [if_pos hlen] at h
    obtain ⟨hl0, hl2⟩ := hlen
    have HR0_0 := Aside0.mk hr0_0
    have HR0_1 := Aside0.mk hr0_1
    have HR0_2 := Aside0.mk hr0_2
    have HB := Aside0.mk (Below.refl w.heap.size w)
    have H' := Aside0.mk h
    clear hr0_0 hr0_1 hr0_2 h hc0_0 hc0_1 hc0_2
    have hn0 : (0 : Int) ≤ (l0_0.length : Int) := by omega
    have hmf : ∀ (fn : Fn) (first cap : Array Value) (w : World), (Instr.makeFunc fn first cap).run Try.prog w = .ok (.func fn first cap) w := fun _ _ _ _ => rfl
    go_enter Try.func84, Try.ntmps84
    go_wp2_with (first | ((with_reducible refine gate_dst (N := 1) rfl ?_); refine box_event ?hg (N := 1) ?hd (cs := #[.slice A0_0 l0_0.length c0_0, .slice A0_1 l0_1.length c0_1, .slice A0_2 l0_2.length c0_2]) (t := 28) ?hr ?_; (case hd => rfl); (case hg => rfl); (case hr => first | (go_simp; done) | (go_simp; rfl)); intro gb hg w4 hbox hb; have n0_ := Aside0.mk (below_step HB.out hb); have BG := Aside0.mk (hbox); have GG := Aside0.mk ((by rw [hg]; exact below_size HB.out) : w.heap.size ≤ gb); clear HB; have HB := n0_; clear n0_; clear hb hbox hg; have hcz5_0 : w4.cell? ⟨gb, 0, none⟩ = some (.slice A0_0 l0_0.length c0_0) := (blk_cell BG.out 0).trans rfl) | ((with_reducible refine gate_dst (N := 12) rfl ?_); refine Kd.R_make (Kd.int .i64) _ 3 rfl (N := 12) rfl 22 _ _ rfl (l0_0.length : Int) rfl rfl Try.underlying22 (.int .i64 0) 8 info3 rfl (by decide) (by omega) 0 (ok := fun _ => True) (okp := fun _ => True) rfl (fun _ hk => hk) trivial hn0 (by omega) (Below.refl _ _) (Nat.le_refl _) ?_; intro vo w5 ho5 hb hg_ hnew_; clear hg_ hnew_; rw [Int.toNat_natCast] at ho5; obtain ⟨Ao, co, eo⟩ := Kd.R_slice ho5; rw [List.length_replicate] at eo; subst eo; have n0_ := Aside0.mk (Kd.R_lower ho5 (below_size HB.out)); have n1_ := Aside0.mk (blk_below BG.out hb); have n2_ := Aside0.mk (below_step HB.out hb); clear BG; clear HB; have HO := n0_; have BG := n1_; have HB := n2_; clear n0_ n1_ n2_; clear hb ho5) | ((with_reducible refine gate_store (t := 22) (p := 3) rfl ?_); go_must (refine store_event (t := 22) (p := 3) (v := ?vo_w6) (w1 := ((w5.alloc (.cells #[.slice none 0 0] 22)).setCell ⟨w5.heap.size, 0, none⟩ (.slice Ao l0_0.length co))) ?hg ?ho ?hn ?hr ?_; (case ho => rfl); (case hg => rfl); (case hn => rfl); (case hr => first | (go_simp; done) | (go_simp; rfl)); intro w6 hw; have hb : Below w5.heap.size w5 w6 := (by rw [hw]; exact (new_var _ _ _ _).1); have n0_ := Aside0.mk (Kd.R_mono (Kd.R_old HO.out hb) (fun _ hk => hk.1)); have n1_ := Aside0.mk (blk_below BG.out hb); have n2_ := Aside0.mk (below_step HB.out hb); have BX : Aside0 (w6.heap[w5.heap.size]? = some (.cells #[.slice Ao l0_0.length co] 22 (0, 0))) := ⟨by rw [hw]; exact (new_var _ _ _ _).2⟩; have GX := Aside0.mk (below_size HB.out); have LX : Aside0 (w5.heap.size < w6.heap.size) := ⟨blk_lt BX.out⟩; clear BG; clear HB; clear HO; have HO := n0_; have BG := n1_; have HB := n2_; clear n0_ n1_ n2_; clear hb hw)) | ((with_reducible refine gate_dst (N := 13) rfl ?_); go_must (refine Kd.R_lit (Kd.int .i64) _ 3 ?hg (N := 13) ?hd (xs := ([] : List Int)) (inner := []) (ok := fun _ => True) (okp := fun _ => True) ?hr ?hp (fun _ hk => hk) trivial (Below.refl _ _) (Nat.le_refl _) (by simp) ?_; (case hd => rfl); (case hg => rfl); (case hr => first | (go_simp; done) | (go_simp; rfl)); (case hp => exact (Reps.none _ _)); intro vp w7 ho8 hb hg_ hnew_; clear hg_ hnew_; obtain ⟨Ap, cp, ep⟩ := Kd.R_slice ho8; rw [List.length_nil] at ep; subst ep; have n0_ := Aside0.mk (Kd.R_elder' HO.out (Kd.R_base ho8) hb); have n1_ := Aside0.mk (Kd.R_lower (Kd.R_new' ho8 (Kd.R_lt HO.out)) (below_size HB.out)); have n2_ := Aside0.mk (blk_below BG.out hb); have n3_ := Aside0.mk (below_step HB.out hb); have n4_ := Aside0.mk (blk_below BX.out hb); clear HO; clear BG; clear HB; clear BX; have HO := n0_; have HQ := n1_; have BG := n2_; have HB := n3_; have BX := n4_; clear n0_ n1_ n2_ n3_ n4_; clear hb ho8)) | ((with_reducible refine gate_store (t := 22) (p := 4) rfl ?_); go_must (refine store_event (t := 22) (p := 4) (v := ?vo_w8) (w1 := ((w7.alloc (.cells #[.slice none 0 0] 22)).setCell ⟨w7.heap.size, 0, none⟩ (.slice Ap 0 cp))) ?hg ?ho ?hn ?hr ?_; (case ho => rfl); (case hg => rfl); (case hn => rfl); (case hr => first | (go_simp; done) | (go_simp; rfl)); intro w8 hw; have hb : Below w7.heap.size w7 w8 := (by rw [hw]; exact (new_var _ _ _ _).1); have n0_ := Aside0.mk (Kd.R_mono (Kd.R_old HO.out hb) (fun _ hk => hk.1)); have n1_ := Aside0.mk (blk_below BG.out hb); have n2_ := Aside0.mk (below_step HB.out hb); have n3_ := Aside0.mk (Kd.R_mono (Kd.R_old HQ.out hb) (fun _ hk => hk.1)); have NE : Aside0 (w5.heap.size ≠ w7.heap.size) := ⟨Nat.ne_of_lt (blk_lt BX.out)⟩; have n4_ := Aside0.mk (blk_below BX.out hb); have BO : Aside0 (w8.heap[w7.heap.size]? = some (.cells #[.slice Ap 0 cp] 22 (0, 0))) := ⟨by rw [hw]; exact (new_var _ _ _ _).2⟩; have GO := Aside0.mk (below_size HB.out); clear BG; clear HB; clear HO; clear HQ; clear BX; have HO := n0_; have BG := n1_; have HB := n2_; have HQ := n3_; have BX := n4_; clear n0_ n1_ n2_ n3_ n4_; have hcz8 : w8.cell? ⟨gb, 2, none⟩ = some (.slice A0_2 l0_2.length c0_2) := (blk_cell BG.out 2).trans rfl; clear hb hw)))
    have HM : Aside0 (Meets w w8 w5.heap.size w7.heap.size gb #[.slice A0_0 l0_0.length c0_0, .slice A0_1 l0_1.length c0_1, .slice A0_2 l0_2.length c0_2] (.slice Ao l0_0.length co) (.slice Ap 0 cp) (List.replicate l0_0.length 0) []) := ⟨⟨BX.out, BO.out, BG.out⟩, ⟨Kd.R_mono HO.out (fun _ hk => hk.2), Kd.R_mono HQ.out (fun _ hk => hk.2)⟩, HB.out, GX.out, GO.out, NE.out⟩
    clear HO HQ BG BX BO HB hcz5_0 hcz8 GG GX GO NE LX
    obtain ⟨bx, hbx⟩ : ∃ bx, bx = w5.heap.size := ⟨_, rfl⟩
    obtain ⟨bo, hbo⟩ : ∃ bo, bo = w7.heap.size := ⟨_, rfl⟩
    rw [← hbx, ← hbo] at HM ⊢
    clear hbx hbo
    go_loopg [18] 2000 (fun kq v18 w' => ∃ (i : Int) (out op : List Int) (vp : Value), v18 = .int .i64 i ∧ Aside0 (impl_distances.l0 kq i out op l0_0 l0_1 l0_2 = some r) ∧ Aside0 (kq ≤ 2000) ∧ out.length = l0_0.length ∧ Aside0 (Meets w w' bx bo gb #[.slice A0_0 l0_0.length c0_0, .slice A0_1 l0_1.length c0_1, .slice A0_2 l0_2.length c0_2] (.slice Ao l0_0.length co) vp out op))
    case atStart => exact ⟨0, _, _, _, rfl, H', ⟨Nat.le_refl _⟩, by simp, HM⟩
    case round =>
      clear H' HM hmf
      obtain ⟨i, out, op, vp, rfl, HA, HK1, hlo, HM⟩ := hrel
      cases gk with
      | zero => exact absurd HA.out (by simp [impl_distances.l0])
      | succ k1 =>
        have H := HA.out
        clear HA
        rw [impl_distances.l0] at H
        by_cases c1 : i < (l0_2.length : Int)
        · rw [if_pos c1] at H
          by_cases c2 : 0 ≤ i
          · rw [if_pos c2] at H
            by_cases c3 : meetOk out.length (rd l0_2 i) = true
            · rw [if_pos c3] at H
              by_cases c4 : op.length < 1000
              · rw [if_pos c4] at H
                have H' := Aside0.mk H
                clear H
                have hp3 : rd l0_2 i = -1 ∨ (0 ≤ rd l0_2 i ∧ rd l0_2 i < (out.length : Int)) := of_decide_eq_true c3
                have HP3 := Aside0.mk hp3
                clear c3 hp3
                obtain ⟨ad, ea, hx⟩ := Kd.at_int HR0_2.out i c2 c1
                cases ea
                replace hx := (HM.out.2.2.1.cell (World.block_lt_of_cell? w _ hx)).trans hx
                go_wp2_with (go_at_call 90; go_must (refine (meet_calls w wr bx bo gb _ _ vp out op (rd l0_2 i) 1 HM.out HP3.out c4).mono ?_; rintro e w9 ⟨rfl, vp2, hm2⟩; have HM2 := Aside0.mk hm2; clear hm2))
                go_roundg k1
                case measure => have := HK1.out; omega
                case rel => exact ⟨wrap64 (i + 1), _, _, vp2, (by first | rfl | (congr 1; unfold wrap64; omega)), H', ⟨by have := HK1.out; omega⟩, by rw [meetOut_len]; exact hlo, HM2⟩
              · rw [if_neg c4] at H; exact absurd H (by simp)
            · rw [if_neg c3] at H; exact absurd H (by simp)
          · rw [if_neg c2] at H; exact absurd H (by simp)
        · rw [if_neg c1] at H
          have H' := Aside0.mk H
          clear H
          go_wp2
          go_loopg [8] k1 (fun kq v8 w' => ∃ (i : Int) (out op : List Int) (vp : Value), v8 = .int .i64 i ∧ Aside0 (impl_distances.l1 kq i out op l0_0 l0_1 l0_2 = some r) ∧ Aside0 (kq ≤ k1) ∧ out.length = l0_0.length ∧ Aside0 (Meets w w' bx bo gb #[.slice A0_0 l0_0.length c0_0, .slice A0_1 l0_1.length c0_1, .slice A0_2 l0_2.length c0_2] (.slice Ao l0_0.length co) vp out op))
          case atStart => exact ⟨0, _, _, _, rfl, H', ⟨Nat.le_refl _⟩, hlo, HM⟩
          case round =>
            clear H' HM c1 HK1 hlo
            obtain ⟨i, out, op, vp, rfl, HA, HK2, hlo, HM⟩ := hrel
            obtain ⟨Aq, cq, eq_⟩ := Kd.R_slice HM.out.2.1.2
            subst eq_
            have cY : wr.cell? ⟨bo, 0, none⟩ = some (.slice Aq op.length cq) := blk_cell HM.out.1.2.1 0
            have cX : wr.cell? ⟨bx, 0, none⟩ = some (.slice Ao l0_0.length co) := blk_cell HM.out.1.1 0
            cases gk with
            | zero => exact absurd HA.out (by simp [impl_distances.l1])
            | succ k2 =>
              have H := HA.out
              clear HA
              rw [impl_distances.l1] at H
              by_cases c1 : i < (op.length : Int)
              · rw [if_pos c1] at H
                by_cases c2 : 0 ≤ i
                · rw [if_pos c2] at H
                  by_cases c3 : 0 ≤ rd op i
                  · rw [if_pos c3] at H
                    by_cases c4 : rd op i < (l0_0.length : Int)
                    · rw [if_pos c4] at H
                      by_cases c5 : rd op i < (l0_1.length : Int)
                      · rw [if_pos c5] at H
                        by_cases c6 : rd op i < (out.length : Int)
                        · rw [if_pos c6] at H
                          by_cases c7 : meetOk out.length (rd l0_0 (rd op i)) = true
                          · rw [if_pos c7] at H
                            by_cases c8 : meetOk out.length (rd l0_1 (rd op i)) = true
                            · rw [if_pos c8] at H
                              by_cases c9 : op.length < 900
                              · rw [if_pos c9] at H
                                have H' := Aside0.mk H
                                clear H
                                have hp1 : rd l0_0 (rd op i) = -1 ∨ (0 ≤ rd l0_0 (rd op i) ∧ rd l0_0 (rd op i) < (out.length : Int)) := of_decide_eq_true c7
                                have hp2 : rd l0_1 (rd op i) = -1 ∨ (0 ≤ rd l0_1 (rd op i) ∧ rd l0_1 (rd op i) < (out.length : Int)) := of_decide_eq_true c8
                                have HP1 := Aside0.mk hp1
                                have HP2 := Aside0.mk hp2
                                clear c7 hp1 c8 hp2
                                obtain ⟨aq, ea, hxq⟩ := Kd.at_int (Kd.R_reads' HM.out.2.1.2).2.2 i c2 c1
                                cases ea
                                obtain ⟨ao, ea, hxo⟩ := Kd.at_int (Kd.R_reads' HM.out.2.1.1).2.2 (rd op i) c3 c6
                                cases ea
                                obtain ⟨al, ea, hxl⟩ := Kd.at_int HR0_0.out (rd op i) c3 c4
                                cases ea
                                replace hxl := (HM.out.2.2.1.cell (World.block_lt_of_cell? w _ hxl)).trans hxl
                                obtain ⟨ar, ea, hxr⟩ := Kd.at_int HR0_1.out (rd op i) c3 c5
                                cases ea
                                have cG0 : wr.cell? ⟨gb, 0, none⟩ = some (.slice (some al) l0_0.length c0_0) := (blk_cell HM.out.1.2.2 0).trans rfl
                                have HMd := Aside0.mk HM.out.drew
                                go_wp2
                                go_still_tail 17, (by kernel_rfl)
                                change wpList _ _ _ _ _ wr.drew
                                generalize wr.drew = w10 at HMd ⊢
                                clear HM hxq hxo hxl cG0 cX cY
                                go_wp2_with (go_at_call 90; go_must (refine (meet_calls w w10 bx bo gb _ _ (.slice (some aq) op.length cq) out op (rd l0_0 (rd op i)) (wrap64 (rd out (rd op i) + 1)) HMd.out HP1.out (by omega)).mono ?_; rintro e w9 ⟨rfl, vp2, hm2⟩; have HM2 := Aside0.mk hm2; clear hm2))
                                have er := meetOpen_rd out op (rd l0_0 (rd op i)) i c2 c1
                                have le1 := meetOpen_le out op (rd l0_0 (rd op i))
                                have le2 := meetOpen_len out op (rd l0_0 (rd op i))
                                have lo1 := meetOut_len out (rd l0_0 (rd op i)) (wrap64 (rd out (rd op i) + 1))
                                generalize meetOut out (rd l0_0 (rd op i)) (wrap64 (rd out (rd op i) + 1)) = out1 at HM2 H' lo1 ⊢
                                generalize meetOpen out op (rd l0_0 (rd op i)) = op1 at HM2 H' er le1 le2 ⊢
                                obtain ⟨At, ct, et⟩ := Kd.R_slice HM2.out.2.1.2
                                subst et
                                have cY : w9.cell? ⟨bo, 0, none⟩ = some (.slice At op1.length ct) := blk_cell HM2.out.1.2.1 0
                                have cX : w9.cell? ⟨bx, 0, none⟩ = some (.slice (some ao) l0_0.length co) := blk_cell HM2.out.1.1 0
                                have i1 : i < (op1.length : Int) := by omega
                                have o1 : rd op i < (out1.length : Int) := by omega
                                obtain ⟨a2, ea, hxq⟩ := Kd.at_int (Kd.R_reads' HM2.out.2.1.2).2.2 i c2 i1
                                cases ea
                                rw [er] at hxq
                                obtain ⟨a3, ea, hxo⟩ := Kd.at_int (Kd.R_reads' HM2.out.2.1.1).2.2 (rd op i) c3 o1
                                obtain rfl : ao = a3 := by injection ea
                                clear ea
                                replace hxr := (HM2.out.2.2.1.cell (World.block_lt_of_cell? w _ hxr)).trans hxr
                                have cG1 : w9.cell? ⟨gb, 1, none⟩ = some (.slice (some ar) l0_1.length c0_1) := (blk_cell HM2.out.1.2.2 1).trans rfl
                                have HMe := Aside0.mk HM2.out.drew
                                go_still_tail 17, (by kernel_rfl)
                                change wpList _ _ _ _ _ w9.drew
                                generalize w9.drew = w11 at HMe ⊢
                                clear HM2 hxq hxo hxr cG1 cX cY HMd
                                have HP3 : Aside0 (rd l0_1 (rd op i) = -1 ∨ (0 ≤ rd l0_1 (rd op i) ∧ rd l0_1 (rd op i) < (out1.length : Int))) := ⟨by rw [lo1]; exact HP2.out⟩
                                go_wp2_with (go_at_call 90; go_must (refine (meet_calls w w11 bx bo gb _ _ (.slice (some a2) op1.length ct) out1 op1 (rd l0_1 (rd op i)) (wrap64 (rd out1 (rd op i) + 1)) HMe.out HP3.out (by omega)).mono ?_; rintro e w12 ⟨rfl, vp3, hm3⟩; have HM3 := Aside0.mk hm3; clear hm3))
                                go_roundg k2
                                case measure => have := HK2.out; omega
                                case rel => exact ⟨wrap64 (i + 1), _, _, vp3, (by first | rfl | (congr 1; unfold wrap64; omega)), H', ⟨by have := HK2.out; omega⟩, by rw [meetOut_len, lo1]; exact hlo, HM3⟩
                              · rw [if_neg c9] at H; exact absurd H (by simp)
                            · rw [if_neg c8] at H; exact absurd H (by simp)
                          · rw [if_neg c7] at H; exact absurd H (by simp)
                        · rw [if_neg c6] at H; exact absurd H (by simp)
                      · rw [if_neg c5] at H; exact absurd H (by simp)
                    · rw [if_neg c4] at H; exact absurd H (by simp)
                  · rw [if_neg c3] at H; exact absurd H (by simp)
                · rw [if_neg c2] at H; exact absurd H (by simp)
              · rw [if_neg c1] at H
                obtain rfl := Option.some.inj H
                clear H
                go_wp2
                go_ret
                exact ⟨_, rfl, Kd.R_mono HM.out.2.1.1 (fun _ _ => trivial), HM.out.2.2.1⟩
  · rw [if_neg hlen] at h; exact absurd h (by simp)

end Go.Proofs.Ytkbaggfkidalfaa.A
