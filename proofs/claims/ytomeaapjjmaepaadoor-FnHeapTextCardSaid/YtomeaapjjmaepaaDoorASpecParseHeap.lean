/- Contracts of functions of the given program (ASpecParseHeap). No conditions beyond those stated. -/
import Derived.Test.YtomeaapjjmaepaaDoorA0
import Derived.Test.YtomeaapjjmaepaaDoorASpecFormatHeap
import Derived.Test.YtomeaapjjmaepaaDoorASpecHeapValid
import Derived.Test.YtomeaapjjmaepaaDoorASpecL13Cut
import Derived.Test.YtomeaapjjmaepaaDoorASpecL1Read
import Derived.Test.YtomeaapjjmaepaaDoorA0
namespace Go.Proofs.YtomeaapjjmaepaaDoor.A
open Go.RowKit Go.Proofs.YtomeaapjjmaepaaDoorW.PrintWords Go.Proofs.YtomeaapjjmaepaaDoorW.PrintLast Go.Proofs.YtomeaapjjmaepaaDoorW.PrintMore
attribute [local go_sem] max2_int min2_int max_two min_two max_three min_three max_four min_four   -- for this text's walks alone
set_option linter.unusedVariables false
set_option linter.unusedSimpArgs false

/-! ### spec_ParseHeap -/
mutual
def spec_ParseHeap.l0 : Nat → ByteArray → List ByteArray → Bool → Int → List Int → List Int → List Int → Option (List Int × List Int × List Int × Bool)
 | 0, _, _, _, _, _, _, _ => none
 | k + 1, x0, x5, x6, x7, x136000, x136001, x136002 => if x7 < (x5.length : Int) then (spec_ParseHeap.j1 k x0 x5 x6 x7 (decide (x7 < 16)) x136000 x136001 x136002) else (spec_ParseHeap.j1 k x0 x5 x6 x7 false x136000 x136001 x136002)
def spec_ParseHeap.j1 : Nat → ByteArray → List ByteArray → Bool → Int → Bool → List Int → List Int → List Int → Option (List Int × List Int × List Int × Bool)
 | 0, _, _, _, _, _, _, _, _ => none
 | k + 1, x0, x5, x6, x7, x25, x136000, x136001, x136002 => if x25 = true then (if 0 ≤ x7 then (if x7 < (x5.length : Int) then (if (rdOf ByteArray.empty x5 x7).toList = ([47] : List UInt8) then (spec_ParseHeap.j2 k x0 x5 x6 x7 (rdOf ByteArray.empty x5 x7) (!x6) x136000 x136001 x136002) else (spec_ParseHeap.j2 k x0 x5 x6 x7 (rdOf ByteArray.empty x5 x7) false x136000 x136001 x136002)) else (none)) else (none)) else ((spec_HeapValid.f k x136000 x136001 x136002).bind fun t155 => (if t155 = true then ((spec_FormatHeap.f k x136000 x136001 x136002).bind fun t156 => (if t156.toList = x0.toList then (some (x136000, x136001, x136002, true)) else (some (([] : List Int), ([] : List Int), ([] : List Int), false)))) else (some (([] : List Int), ([] : List Int), ([] : List Int), false))))
def spec_ParseHeap.j2 : Nat → ByteArray → List ByteArray → Bool → Int → ByteArray → Bool → List Int → List Int → List Int → Option (List Int × List Int × List Int × Bool)
 | 0, _, _, _, _, _, _, _, _, _ => none
 | k + 1, x0, x5, x6, x7, x8, x33, x136000, x136001, x136002 => if x33 = true then (spec_ParseHeap.l0 k x0 x5 true (wrap64 (x7 + 1)) x136000 x136001 x136002) else (if x6 = true then (spec_ParseHeap.j3 k x0 x5 x6 x7 x8 ((x8.size : Int) == 1) x136000 x136001 x136002) else (spec_ParseHeap.j3 k x0 x5 x6 x7 x8 false x136000 x136001 x136002))
def spec_ParseHeap.j3 : Nat → ByteArray → List ByteArray → Bool → Int → ByteArray → Bool → List Int → List Int → List Int → Option (List Int × List Int × List Int × Bool)
 | 0, _, _, _, _, _, _, _, _, _ => none
 | k + 1, x0, x5, x6, x7, x8, x40, x136000, x136001, x136002 => if x40 = true then (if 0 < (x8.size : Int) then ((spec_l1Read.f (bt x8 0)).bind fun bt140 => (if bt140.2 = true then (if x136002.length < 17592186044416 then (spec_ParseHeap.l0 k x0 x5 x6 (wrap64 (x7 + 1)) x136000 x136001 (x136002 ++ [bt140.1])) else (none)) else (some (([] : List Int), ([] : List Int), ([] : List Int), false)))) else (none)) else (if x6 = true then (spec_ParseHeap.j4 k x0 x5 x6 x7 x8 false x136000 x136001 x136002) else (spec_ParseHeap.j4 k x0 x5 x6 x7 x8 ((x8.size : Int) == 2) x136000 x136001 x136002))
def spec_ParseHeap.j4 : Nat → ByteArray → List ByteArray → Bool → Int → ByteArray → Bool → List Int → List Int → List Int → Option (List Int × List Int × List Int × Bool)
 | 0, _, _, _, _, _, _, _, _, _ => none
 | k + 1, x0, x5, x6, x7, x8, x62, x136000, x136001, x136002 => if x62 = true then (if 0 < (x8.size : Int) then ((spec_l1Read.f (bt x8 0)).bind fun bt145 => (if 1 < (x8.size : Int) then ((spec_l1Read.f (bt x8 1)).bind fun bt147 => (if bt145.2 = true then (if bt147.2 = true then (if x136000.length < 17592186044416 then (if x136001.length < 17592186044416 then (spec_ParseHeap.l0 k x0 x5 x6 (wrap64 (x7 + 1)) (x136000 ++ [bt145.1]) (x136001 ++ [bt147.1]) x136002) else (none)) else (none)) else (some (([] : List Int), ([] : List Int), ([] : List Int), false))) else (some (([] : List Int), ([] : List Int), ([] : List Int), false)))) else (none))) else (none)) else (some (([] : List Int), ([] : List Int), ([] : List Int), false))
end
def spec_ParseHeap.f (k : Nat) (a0 : ByteArray) : Option (List Int × List Int × List Int × Bool) := (spec_l13Cut.f k a0 32).bind fun t136 => (spec_ParseHeap.l0 k a0 t136 false 0 ([] : List Int) ([] : List Int) ([] : List Int))
theorem spec_ParseHeap.mono_l : ∀ k, (∀ y0 y1 y2 y3 y4 y5 y6, LeO (spec_ParseHeap.l0 k y0 y1 y2 y3 y4 y5 y6) (spec_ParseHeap.l0 (k + 1) y0 y1 y2 y3 y4 y5 y6)) ∧ (∀ y0 y1 y2 y3 y4 y5 y6 y7, LeO (spec_ParseHeap.j1 k y0 y1 y2 y3 y4 y5 y6 y7) (spec_ParseHeap.j1 (k + 1) y0 y1 y2 y3 y4 y5 y6 y7)) ∧ (∀ y0 y1 y2 y3 y4 y5 y6 y7 y8, LeO (spec_ParseHeap.j2 k y0 y1 y2 y3 y4 y5 y6 y7 y8) (spec_ParseHeap.j2 (k + 1) y0 y1 y2 y3 y4 y5 y6 y7 y8)) ∧ (∀ y0 y1 y2 y3 y4 y5 y6 y7 y8, LeO (spec_ParseHeap.j3 k y0 y1 y2 y3 y4 y5 y6 y7 y8) (spec_ParseHeap.j3 (k + 1) y0 y1 y2 y3 y4 y5 y6 y7 y8)) ∧ (∀ y0 y1 y2 y3 y4 y5 y6 y7 y8, LeO (spec_ParseHeap.j4 k y0 y1 y2 y3 y4 y5 y6 y7 y8) (spec_ParseHeap.j4 (k + 1) y0 y1 y2 y3 y4 y5 y6 y7 y8))
 | 0 => ⟨fun _ _ _ _ _ _ _ r h => by simp [spec_ParseHeap.l0] at h, fun _ _ _ _ _ _ _ _ r h => by simp [spec_ParseHeap.j1] at h, fun _ _ _ _ _ _ _ _ _ r h => by simp [spec_ParseHeap.j2] at h, fun _ _ _ _ _ _ _ _ _ r h => by simp [spec_ParseHeap.j3] at h, fun _ _ _ _ _ _ _ _ _ r h => by simp [spec_ParseHeap.j4] at h⟩
 | k + 1 => by
  obtain ⟨ih0, ih1, ih2, ih3, ih4⟩ := spec_ParseHeap.mono_l k
  refine ⟨?_, ?_, ?_, ?_, ?_⟩
  ·intro y0 y1 y2 y3 y4 y5 y6
   unfold spec_ParseHeap.l0
   repeat' first
   | (with_reducible exact ih0 _ _ _ _ _ _ _)
   | (with_reducible exact ih1 _ _ _ _ _ _ _ _)
   | (with_reducible exact ih2 _ _ _ _ _ _ _ _ _)
   | (with_reducible exact ih3 _ _ _ _ _ _ _ _ _)
   | (with_reducible exact ih4 _ _ _ _ _ _ _ _ _)
   | (with_reducible exact spec_FormatHeap.mono _ _ _ _)
   | (with_reducible exact spec_HeapValid.mono _ _ _ _)
   | (with_reducible exact spec_l13Cut.mono _ _ _)
   | (with_reducible exact LeO.refl _)
   | (with_reducible exact LeO.none _)
   | (with_reducible refine LeO.ite ?_ ?_)
   | (with_reducible refine LeO.bind ?_ (fun _ => ?_))
   | exact ih0 _ _ _ _ _ _ _
   | exact ih1 _ _ _ _ _ _ _ _
   | exact ih2 _ _ _ _ _ _ _ _ _
   | exact ih3 _ _ _ _ _ _ _ _ _
   | exact ih4 _ _ _ _ _ _ _ _ _
   | exact spec_FormatHeap.mono _ _ _ _
   | exact spec_HeapValid.mono _ _ _ _
   | exact spec_l13Cut.mono _ _ _
   | exact LeO.none _
   | refine LeO.ite ?_ ?_
   | refine LeO.bind ?_ (fun _ => ?_)
  ·intro y0 y1 y2 y3 y4 y5 y6 y7
   unfold spec_ParseHeap.j1
   repeat' first
   | (with_reducible exact ih0 _ _ _ _ _ _ _)
   | (with_reducible exact ih1 _ _ _ _ _ _ _ _)
   | (with_reducible exact ih2 _ _ _ _ _ _ _ _ _)
   | (with_reducible exact ih3 _ _ _ _ _ _ _ _ _)
   | (with_reducible exact ih4 _ _ _ _ _ _ _ _ _)
   | (with_reducible exact spec_FormatHeap.mono _ _ _ _)
   | (with_reducible exact spec_HeapValid.mono _ _ _ _)
   | (with_reducible exact spec_l13Cut.mono _ _ _)
   | (with_reducible exact LeO.refl _)
   | (with_reducible exact LeO.none _)
   | (with_reducible refine LeO.ite ?_ ?_)
   | (with_reducible refine LeO.bind ?_ (fun _ => ?_))
   | exact ih0 _ _ _ _ _ _ _
   | exact ih1 _ _ _ _ _ _ _ _
   | exact ih2 _ _ _ _ _ _ _ _ _
   | exact ih3 _ _ _ _ _ _ _ _ _
   | exact ih4 _ _ _ _ _ _ _ _ _
   | exact spec_FormatHeap.mono _ _ _ _
   | exact spec_HeapValid.mono _ _ _ _
   | exact spec_l13Cut.mono _ _ _
   | exact LeO.none _
   | refine LeO.ite ?_ ?_
   | refine LeO.bind ?_ (fun _ => ?_)
  ·intro y0 y1 y2 y3 y4 y5 y6 y7 y8
   unfold spec_ParseHeap.j2
   repeat' first
   | (with_reducible exact ih0 _ _ _ _ _ _ _)
   | (with_reducible exact ih1 _ _ _ _ _ _ _ _)
   | (with_reducible exact ih2 _ _ _ _ _ _ _ _ _)
   | (with_reducible exact ih3 _ _ _ _ _ _ _ _ _)
   | (with_reducible exact ih4 _ _ _ _ _ _ _ _ _)
   | (with_reducible exact spec_FormatHeap.mono _ _ _ _)
   | (with_reducible exact spec_HeapValid.mono _ _ _ _)
   | (with_reducible exact spec_l13Cut.mono _ _ _)
   | (with_reducible exact LeO.refl _)
   | (with_reducible exact LeO.none _)
   | (with_reducible refine LeO.ite ?_ ?_)
   | (with_reducible refine LeO.bind ?_ (fun _ => ?_))
   | exact ih0 _ _ _ _ _ _ _
   | exact ih1 _ _ _ _ _ _ _ _
   | exact ih2 _ _ _ _ _ _ _ _ _
   | exact ih3 _ _ _ _ _ _ _ _ _
   | exact ih4 _ _ _ _ _ _ _ _ _
   | exact spec_FormatHeap.mono _ _ _ _
   | exact spec_HeapValid.mono _ _ _ _
   | exact spec_l13Cut.mono _ _ _
   | exact LeO.none _
   | refine LeO.ite ?_ ?_
   | refine LeO.bind ?_ (fun _ => ?_)
  ·intro y0 y1 y2 y3 y4 y5 y6 y7 y8
   unfold spec_ParseHeap.j3
   repeat' first
   | (with_reducible exact ih0 _ _ _ _ _ _ _)
   | (with_reducible exact ih1 _ _ _ _ _ _ _ _)
   | (with_reducible exact ih2 _ _ _ _ _ _ _ _ _)
   | (with_reducible exact ih3 _ _ _ _ _ _ _ _ _)
   | (with_reducible exact ih4 _ _ _ _ _ _ _ _ _)
   | (with_reducible exact spec_FormatHeap.mono _ _ _ _)
   | (with_reducible exact spec_HeapValid.mono _ _ _ _)
   | (with_reducible exact spec_l13Cut.mono _ _ _)
   | (with_reducible exact LeO.refl _)
   | (with_reducible exact LeO.none _)
   | (with_reducible refine LeO.ite ?_ ?_)
   | (with_reducible refine LeO.bind ?_ (fun _ => ?_))
   | exact ih0 _ _ _ _ _ _ _
   | exact ih1 _ _ _ _ _ _ _ _
   | exact ih2 _ _ _ _ _ _ _ _ _
   | exact ih3 _ _ _ _ _ _ _ _ _
   | exact ih4 _ _ _ _ _ _ _ _ _
   | exact spec_FormatHeap.mono _ _ _ _
   | exact spec_HeapValid.mono _ _ _ _
   | exact spec_l13Cut.mono _ _ _
   | exact LeO.none _
   | refine LeO.ite ?_ ?_
   | refine LeO.bind ?_ (fun _ => ?_)
  ·intro y0 y1 y2 y3 y4 y5 y6 y7 y8
   unfold spec_ParseHeap.j4
   repeat' first
   | (with_reducible exact ih0 _ _ _ _ _ _ _)
   | (with_reducible exact ih1 _ _ _ _ _ _ _ _)
   | (with_reducible exact ih2 _ _ _ _ _ _ _ _ _)
   | (with_reducible exact ih3 _ _ _ _ _ _ _ _ _)
   | (with_reducible exact ih4 _ _ _ _ _ _ _ _ _)
   | (with_reducible exact spec_FormatHeap.mono _ _ _ _)
   | (with_reducible exact spec_HeapValid.mono _ _ _ _)
   | (with_reducible exact spec_l13Cut.mono _ _ _)
   | (with_reducible exact LeO.refl _)
   | (with_reducible exact LeO.none _)
   | (with_reducible refine LeO.ite ?_ ?_)
   | (with_reducible refine LeO.bind ?_ (fun _ => ?_))
   | exact ih0 _ _ _ _ _ _ _
   | exact ih1 _ _ _ _ _ _ _ _
   | exact ih2 _ _ _ _ _ _ _ _ _
   | exact ih3 _ _ _ _ _ _ _ _ _
   | exact ih4 _ _ _ _ _ _ _ _ _
   | exact spec_FormatHeap.mono _ _ _ _
   | exact spec_HeapValid.mono _ _ _ _
   | exact spec_l13Cut.mono _ _ _
   | exact LeO.none _
   | refine LeO.ite ?_ ?_
   | refine LeO.bind ?_ (fun _ => ?_)
theorem spec_ParseHeap.mono : ∀ a0 k, LeO (spec_ParseHeap.f k a0) (spec_ParseHeap.f (k + 1) a0) := by
 intro a0 k
 obtain ⟨ih0, ih1, ih2, ih3, ih4⟩ := spec_ParseHeap.mono_l k
 unfold spec_ParseHeap.f
 repeat' first
   | (with_reducible exact ih0 _ _ _ _ _ _ _)
   | (with_reducible exact ih1 _ _ _ _ _ _ _ _)
   | (with_reducible exact ih2 _ _ _ _ _ _ _ _ _)
   | (with_reducible exact ih3 _ _ _ _ _ _ _ _ _)
   | (with_reducible exact ih4 _ _ _ _ _ _ _ _ _)
   | (with_reducible exact spec_FormatHeap.mono _ _ _ _)
   | (with_reducible exact spec_HeapValid.mono _ _ _ _)
   | (with_reducible exact spec_l13Cut.mono _ _ _)
   | (with_reducible exact LeO.refl _)
   | (with_reducible exact LeO.none _)
   | (with_reducible refine LeO.ite ?_ ?_)
   | (with_reducible refine LeO.bind ?_ (fun _ => ?_))
   | exact ih0 _ _ _ _ _ _ _
   | exact ih1 _ _ _ _ _ _ _ _
   | exact ih2 _ _ _ _ _ _ _ _ _
   | exact ih3 _ _ _ _ _ _ _ _ _
   | exact ih4 _ _ _ _ _ _ _ _ _
   | exact spec_FormatHeap.mono _ _ _ _
   | exact spec_HeapValid.mono _ _ _ _
   | exact spec_l13Cut.mono _ _ _
   | exact LeO.none _
   | refine LeO.ite ?_ ?_
   | refine LeO.bind ?_ (fun _ => ?_)
set_option maxHeartbeats 8000000 in
set_option maxRecDepth 100000 in
theorem spec_ParseHeap.calls (k : Nat) (a0 : ByteArray) (r1 : List Int) (r2 : List Int) (r3 : List Int) (r4 : Bool) (w : World) (h : spec_ParseHeap.f k a0 = some (r1, r2, r3, r4)) :
  Calls Tryd.prog 9 #[.string a0] w fun e w' => ∃ v0_ v1_ v2_ : Value, e = .returned (.tuple #[.agg #[v0_, v1_, v2_], .bool r4]) ∧ Kd.R (Kd.int .i64) 3 w' w.heap.size (fun k_ => some k_ ≠ (v1_ : Value).ownBlock ∧ some k_ ≠ (v2_ : Value).ownBlock) v0_ r1 ∧ Kd.R (Kd.int .i64) 3 w' w.heap.size (fun k_ => some k_ ≠ (v0_ : Value).ownBlock ∧ some k_ ≠ (v2_ : Value).ownBlock) v1_ r2 ∧ Kd.R (Kd.int .i64) 3 w' w.heap.size (fun k_ => some k_ ≠ (v0_ : Value).ownBlock ∧ some k_ ≠ (v1_ : Value).ownBlock) v2_ r3 ∧ Below w.heap.size w w' := by
 have hu24 := Tryd.underlying24
 have HB := am (Below.refl w.heap.size w)
 have H : ((spec_l13Cut.f k a0 32).bind fun t136 => (spec_ParseHeap.l0 k a0 t136 false 0 ([] : List Int) ([] : List Int) ([] : List Int))) = some (r1, r2, r3, r4) := h
 clear h
 replace H := Option.bind_eq_some_iff.mp H
 obtain ⟨t136, A20, H⟩ := H
 replace H : (spec_ParseHeap.l0 k a0 t136 false 0 ([] : List Int) ([] : List Int) ([] : List Int)) = some (r1, r2, r3, r4) := H
 have A2 := am A20
 clear A20
 have H' := am H
 clear H
 go_enter Tryd.func9, Tryd.ntmps9
 go_wp2_with (first | ((with_reducible refine gate_dst (N := 2) rfl ?_); (try (refine gate_guard (by rfl) ?_; dsimp only)); refine box_event ?hg (N := 2) ?hd (cs := #[.slice none 0 0, .slice none 0 0, .slice none 0 0]) (t := 24) ?hr ?_; (case hd => rfl); (case hg => rfl); (case hr => first | (go_simp; done) | (go_simp; rfl)); intro gb134 hg w3 hbox hb; have BK134 := am (hbox); have GW134 := am ((by rw [hg]; exact (below_size (bl HB.out)) : w.heap.size ≤ gb134)); have GE134 := am ((by rw [hg]; exact (below_size (bl HB.out)) : w.heap.size ≤ gb134)); replace HB := am (below_step (bl HB.out) hb); clear hb hbox hg) | ((with_reducible refine gate_dst (N := 4) rfl ?_); (try (refine gate_guard (by rfl) ?_; dsimp only)); refine box_event ?hg (N := 4) ?hd (cs := #[.slice none 0 0, .slice none 0 0, .slice none 0 0]) (t := 24) ?hr ?_; (case hd => rfl); (case hg => rfl); (case hr => first | (go_simp; done) | (go_simp; rfl)); intro gb135 hg w4 hbox hb; have BK135 := am (hbox); have GW135 := am ((by rw [hg]; exact (below_size (bs1 GE134.out HB.out)) : w.heap.size ≤ gb135)); have GE135 := am ((by rw [hg]; exact (below_size (bs1 GE134.out HB.out)) : w.heap.size ≤ gb135)); replace HB := am (below_step (bs1 GE134.out HB.out) hb); have NB134_135 := nb BK134 hg; have NB135_134 := nc BK134 hg; replace BK134 := bb BK134 hb; clear hb hbox hg; have hnb5 := NB135_134.out; have hnc5 := NB134_135.out; obtain ⟨hcz6_0, hcz6_1, hcz6_2, hfz6_0, hfz6_1, hfz6_2⟩ := cf3 BK135) | ((with_reducible refine gate_callee (f := 25) rfl ?_); refine gL (some 17) rfl rfl Tryd.func25 (by kernel_rfl) rfl #[.string a0, .int .u8 32] rfl ?_; (with_reducible refine (spec_l13Cut.calls k a0 32 t136 _ A2.out).mono ?_); rintro e w7 ⟨v137, rfl, ho0, hb⟩; refine ⟨_, rfl, ?_⟩; have HO138 := ln0 ho0 (bs2 GE134.out GE135.out HB.out); replace BK134 := am (blk_below (g := gb134) (o := .cells #[.slice none 0 0, .slice none 0 0, .slice none 0 0] 24 (0, 0)) (kf1 NB134_135.out BK134.out) hb); replace BK135 := bp3 (kf0 BK135.out) hb; replace HB := am (below_step (bs2 GE134.out GE135.out HB.out) hb); (try clear hb ho0)))
 go_loopg [6, 7] k (fun kq v6 v7 w' => ∃ (x6_1 : Bool) (x7_1 : Int) (x136000_1 : List Int) (x136001_1 : List Int) (x136002_1 : List Int) (u136000 : Value) (u136001 : Value) (u136002 : Value), v6 = .bool x6_1 ∧ v7 = .int .i64 x7_1 ∧ Aside0 (spec_ParseHeap.l0 kq a0 t136 x6_1 x7_1 x136000_1 x136001_1 x136002_1 = some (r1, r2, r3, r4)) ∧ Aside0 (kq ≤ k) ∧ Aside0 (Kd.R Kd.string 9 w' w.heap.size (fun _ => True) v137 t136) ∧ Aside0 (Kd.R (Kd.int .i64) 3 w' w.heap.size (fun k_ => some k_ ≠ (u136001 : Value).ownBlock ∧ some k_ ≠ (u136002 : Value).ownBlock) u136000 x136000_1) ∧ Aside0 (Kd.R (Kd.int .i64) 3 w' w.heap.size (fun k_ => some k_ ≠ (u136000 : Value).ownBlock ∧ some k_ ≠ (u136002 : Value).ownBlock) u136001 x136001_1) ∧ Aside0 (Kd.R (Kd.int .i64) 3 w' w.heap.size (fun k_ => some k_ ≠ (u136000 : Value).ownBlock ∧ some k_ ≠ (u136001 : Value).ownBlock) u136002 x136002_1) ∧ Aside0 (w'.heap[gb134]? = some (.cells #[(.slice none 0 0), (.slice none 0 0), (.slice none 0 0)] 24 (0, 0))) ∧ Aside0 (w'.heap[gb135]? = some (.cells #[u136000, u136001, u136002] 24 (0, 0))) ∧ Aside0 (Below w.heap.size w w'))
 case atStart => exact ⟨(false), (0), (([] : List Int)), (([] : List Int)), (([] : List Int)), (.slice none 0 0), (.slice none 0 0), (.slice none 0 0), (by first | rfl | (simp; done) | (simp [*]; done)), (by first | rfl | (simp; done) | (simp [*]; done)), H', ⟨Nat.le_refl _⟩, ⟨rl HO138.out⟩, ⟨by first | exact Kd.R_nil _ _ _ _ _ | exact Kd.N_nil _ _ _ _ _ | exact Kd.V_nil _ _ _ _ _ | exact Kd.Q_nil _ _ _ _ _ | exact Kd.S_nil _ _ _ _ _⟩, ⟨by first | exact Kd.R_nil _ _ _ _ _ | exact Kd.N_nil _ _ _ _ _ | exact Kd.V_nil _ _ _ _ _ | exact Kd.Q_nil _ _ _ _ _ | exact Kd.S_nil _ _ _ _ _⟩, ⟨by first | exact Kd.R_nil _ _ _ _ _ | exact Kd.N_nil _ _ _ _ _ | exact Kd.V_nil _ _ _ _ _ | exact Kd.Q_nil _ _ _ _ _ | exact Kd.S_nil _ _ _ _ _⟩, ⟨kl BK134.out⟩, ⟨kl BK135.out⟩, ⟨by exact bs2 GE134.out GE135.out HB.out⟩⟩
 case round =>
  clear H'
  try clear c2
  try clear p2
  try clear c5
  obtain ⟨x6_1, x7_1, x136000_1, x136001_1, x136002_1, u136000, u136001, u136002, rfl, rfl, HA, HK1, HO_5, HO_136000, HO_136001, HO_136002, BK134, BK135, HB⟩ := hrel
  cases gk with
  | zero => exact absurd HA.out (by simp [spec_ParseHeap.l0])
  | succ k1 =>
   have H := HA.out
   clear HA
   simp only [spec_ParseHeap.l0] at H
   have HC8 := am H
   clear H
   go_upto_region 5 with (fail)
   go_cut [25] (fun v25 wc => ∃ (kq : Nat) (x25_7 : Bool), v25 = .bool x25_7 ∧ Aside0 (spec_ParseHeap.j1 kq a0 t136 x6_1 x7_1 x25_7 x136000_1 x136001_1 x136002_1 = some (r1, r2, r3, r4)) ∧ Aside0 (kq ≤ k1) ∧ Aside0 (Kd.R Kd.string 9 wc w.heap.size (fun _ => True) v137 t136) ∧ Aside0 (Kd.R (Kd.int .i64) 3 wc w.heap.size (fun k_ => some k_ ≠ (u136001 : Value).ownBlock ∧ some k_ ≠ (u136002 : Value).ownBlock) u136000 x136000_1) ∧ Aside0 (Kd.R (Kd.int .i64) 3 wc w.heap.size (fun k_ => some k_ ≠ (u136000 : Value).ownBlock ∧ some k_ ≠ (u136002 : Value).ownBlock) u136001 x136001_1) ∧ Aside0 (Kd.R (Kd.int .i64) 3 wc w.heap.size (fun k_ => some k_ ≠ (u136000 : Value).ownBlock ∧ some k_ ≠ (u136001 : Value).ownBlock) u136002 x136002_1) ∧ Aside0 (wc.heap[gb134]? = some (.cells #[(.slice none 0 0), (.slice none 0 0), (.slice none 0 0)] 24 (0, 0))) ∧ Aside0 (wc.heap[gb135]? = some (.cells #[u136000, u136001, u136002] 24 (0, 0))) ∧ Aside0 (Below w.heap.size w wc))
   case first =>
    have H := HC8.out
    clear HC8
    by_cases c9 : x7_1 < (t136.length : Int)
    ·rw [if_pos c9] at H
     have c9b0 : decide (x7_1 < (t136.length : Int)) = true := decide_eq_true c9
     clear c9
     (first | rw [c9b0] | (simp only [i64_w, i32_w]; rw [c9b0]) | skip)
     have H' := am H
     clear H
     obtain ⟨Ao10, co10, eo10⟩ := Kd.R_slice HO_5.out
     subst eo10
     go_wp2
     go_meet
     case rel => exact ⟨_, (decide (x7_1 < 16)), (by first | rfl | (simp; done) | (simp [*]; done)), H', ⟨by have := HK1.out; first | omega | exact Nat.le_refl _⟩, ⟨rl HO_5.out⟩, ⟨rl HO_136000.out⟩, ⟨rl HO_136001.out⟩, ⟨rl HO_136002.out⟩, ⟨kl BK134.out⟩, ⟨kl BK135.out⟩, ⟨by exact bs2 GE134.out GE135.out HB.out⟩⟩
    ·rw [if_neg c9] at H
     have c9b0 : decide (x7_1 < (t136.length : Int)) = false := decide_eq_false c9
     clear c9
     (first | rw [c9b0] | (simp only [i64_w, i32_w]; rw [c9b0]) | skip)
     have H' := am H
     clear H
     obtain ⟨Ao11, co11, eo11⟩ := Kd.R_slice HO_5.out
     subst eo11
     go_wp2
     go_meet
     case rel => exact ⟨_, (false), (by first | rfl | (simp; done) | (simp [*]; done)), H', ⟨by have := HK1.out; first | omega | exact Nat.le_refl _⟩, ⟨rl HO_5.out⟩, ⟨rl HO_136000.out⟩, ⟨rl HO_136001.out⟩, ⟨rl HO_136002.out⟩, ⟨kl BK134.out⟩, ⟨kl BK135.out⟩, ⟨by exact bs2 GE134.out GE135.out HB.out⟩⟩
   case rest =>
    clear HC8
    try clear c2
    try clear p2
    try clear c5
    try clear c9
    try clear c9b0
    try clear p2
    obtain ⟨kq, x25_7, rfl, HA, HJ7, HO_5, HO_136000, HO_136001, HO_136002, BK134, BK135, HB⟩ := hcut
    cases kq with
    | zero => exact absurd HA.out (by simp [spec_ParseHeap.j1])
    | succ kj7 =>
     have H := HA.out
     clear HA
     simp only [spec_ParseHeap.j1] at H
     by_cases c12 : x25_7 = true
     ·subst c12
      have H1 : (if 0 ≤ x7_1 then (if x7_1 < (t136.length : Int) then (if (rdOf ByteArray.empty t136 x7_1).toList = ([47] : List UInt8) then (spec_ParseHeap.j2 kj7 a0 t136 x6_1 x7_1 (rdOf ByteArray.empty t136 x7_1) (!x6_1) x136000_1 x136001_1 x136002_1) else (spec_ParseHeap.j2 kj7 a0 t136 x6_1 x7_1 (rdOf ByteArray.empty t136 x7_1) false x136000_1 x136001_1 x136002_1)) else (none)) else (none)) = some (r1, r2, r3, r4) := by rw [if_pos rfl] at H; exact H
      clear H
      have H := H1
      clear H1
      by_cases c13 : 0 ≤ x7_1
      ·rw [if_pos c13] at H
       have c13b0 : decide (0 ≤ x7_1) = true := decide_eq_true c13
       clear c13
       by_cases c14 : x7_1 < (t136.length : Int)
       ·rw [if_pos c14] at H
        have c14b0 : decide (x7_1 < (t136.length : Int)) = true := decide_eq_true c14
        clear c14
        have HC15 := am H
        clear H
        obtain ⟨Ao16, co16, eo16⟩ := Kd.R_slice HO_5.out
        subst eo16
        have p139 : 0 ≤ (x7_1 : Int) := of_decide_eq_true (by first | (with_reducible assumption) | assumption)
        have q139 : x7_1 < (t136.length : Int) := of_decide_eq_true (by first | (with_reducible assumption) | assumption)
        obtain ⟨ad139, e139, hx139_0⟩ := Kd.at_string (Kd.R_reads' HO_5.out).2.2 x7_1 p139 q139
        cases e139
        replace p139 := eq_true p139
        replace q139 := eq_true q139
        go_upto_region 9 with (fail)
        go_cut [33] (fun v33 wc => ∃ (kq : Nat) (x33_14 : Bool), v33 = .bool x33_14 ∧ Aside0 (spec_ParseHeap.j2 kq a0 t136 x6_1 x7_1 (rdOf ByteArray.empty t136 x7_1) x33_14 x136000_1 x136001_1 x136002_1 = some (r1, r2, r3, r4)) ∧ Aside0 (kq ≤ kj7) ∧ Aside0 (Kd.R Kd.string 9 wc w.heap.size (fun _ => True) (.slice (some ad139) t136.length co16) t136) ∧ Aside0 (Kd.R (Kd.int .i64) 3 wc w.heap.size (fun k_ => some k_ ≠ (u136001 : Value).ownBlock ∧ some k_ ≠ (u136002 : Value).ownBlock) u136000 x136000_1) ∧ Aside0 (Kd.R (Kd.int .i64) 3 wc w.heap.size (fun k_ => some k_ ≠ (u136000 : Value).ownBlock ∧ some k_ ≠ (u136002 : Value).ownBlock) u136001 x136001_1) ∧ Aside0 (Kd.R (Kd.int .i64) 3 wc w.heap.size (fun k_ => some k_ ≠ (u136000 : Value).ownBlock ∧ some k_ ≠ (u136001 : Value).ownBlock) u136002 x136002_1) ∧ Aside0 (wc.heap[gb134]? = some (.cells #[(.slice none 0 0), (.slice none 0 0), (.slice none 0 0)] 24 (0, 0))) ∧ Aside0 (wc.heap[gb135]? = some (.cells #[u136000, u136001, u136002] 24 (0, 0))) ∧ Aside0 (Below w.heap.size w wc))
        case first =>
         have H := HC15.out
         clear HC15
         by_cases c17 : (rdOf ByteArray.empty t136 x7_1).toList = ([47] : List UInt8)
         ·rw [if_pos c17] at H
          have c17b0 : ((rdOf ByteArray.empty t136 x7_1).toList == ([47] : List UInt8)) = true := beq_iff_eq.mpr c17
          have c17b1 : ((rdOf ByteArray.empty t136 x7_1).toList != ([47] : List UInt8)) = false := bne_eq_false_iff_eq.mpr c17
          clear c17
          (first | rw [c17b0] | (simp only [i64_w, i32_w]; rw [c17b0]) | skip)
          have H' := am H
          clear H
          go_wp2
          go_meet
          case rel => exact ⟨_, (!x6_1), (by first | rfl | (simp; done) | (simp [*]; done)), H', ⟨by have := HK1.out; have := HJ7.out; first | omega | exact Nat.le_refl _⟩, ⟨rl HO_5.out⟩, ⟨rl HO_136000.out⟩, ⟨rl HO_136001.out⟩, ⟨rl HO_136002.out⟩, ⟨kl BK134.out⟩, ⟨kl BK135.out⟩, ⟨by exact bs2 GE134.out GE135.out HB.out⟩⟩
         ·rw [if_neg c17] at H
          have c17b0 : ((rdOf ByteArray.empty t136 x7_1).toList == ([47] : List UInt8)) = false := beq_eq_false_iff_ne.mpr c17
          have c17b1 : ((rdOf ByteArray.empty t136 x7_1).toList != ([47] : List UInt8)) = true := bne_iff_ne.mpr c17
          (first | rw [c17b0] | (simp only [i64_w, i32_w]; rw [c17b0]) | skip)
          have H' := am H
          clear H
          go_wp2
          go_meet
          case rel => exact ⟨_, (false), (by first | rfl | (simp; done) | (simp [*]; done)), H', ⟨by have := HK1.out; have := HJ7.out; first | omega | exact Nat.le_refl _⟩, ⟨rl HO_5.out⟩, ⟨rl HO_136000.out⟩, ⟨rl HO_136001.out⟩, ⟨rl HO_136002.out⟩, ⟨kl BK134.out⟩, ⟨kl BK135.out⟩, ⟨by exact bs2 GE134.out GE135.out HB.out⟩⟩
        case rest =>
         clear HC15
         try clear c1
         try clear p1
         try clear q1
         try clear hx1
         try clear c2
         try clear p2
         try clear c5
         try clear c9
         try clear c9b0
         try clear c12
         try clear c13
         try clear c13b0
         try clear p13
         try clear q13
         try clear hx13
         try clear c14
         try clear c14b0
         try clear c17
         try clear c17b0
         try clear c17b1
         try clear hx139_0
         try clear p139
         try clear p2
         try clear q139
         obtain ⟨kq, x33_14, rfl, HA, HJ14, HO_5, HO_136000, HO_136001, HO_136002, BK134, BK135, HB⟩ := hcut
         cases kq with
         | zero => exact absurd HA.out (by simp [spec_ParseHeap.j2])
         | succ kj14 =>
          have H := HA.out
          clear HA
          simp only [spec_ParseHeap.j2] at H
          by_cases c18 : x33_14 = true
          ·subst c18
           have H1 : (spec_ParseHeap.l0 kj14 a0 t136 true (wrap64 (x7_1 + 1)) x136000_1 x136001_1 x136002_1) = some (r1, r2, r3, r4) := by rw [if_pos rfl] at H; exact H
           clear H
           have H := H1
           clear H1
           have H' := am H
           clear H
           go_wp2
           go_roundg kj14
           case measure => have := HK1.out; have := HJ7.out; have := HJ14.out; omega
           case rel => exact ⟨(true), (wrap64 (x7_1 + 1)), (x136000_1), (x136001_1), (x136002_1), (u136000), (u136001), (u136002), (by first | rfl | (simp; done) | (simp [*]; done)), (by first | rfl | (simp; done) | (simp [*]; done)), H', ⟨by have := HK1.out; have := HJ7.out; have := HJ14.out; omega⟩, ⟨rl HO_5.out⟩, ⟨rl HO_136000.out⟩, ⟨rl HO_136001.out⟩, ⟨rl HO_136002.out⟩, ⟨kl BK134.out⟩, ⟨kl BK135.out⟩, ⟨by exact bs2 GE134.out GE135.out HB.out⟩⟩
          ·replace c18 := Bool.eq_false_iff.mpr c18
           subst c18
           have H1 : (if x6_1 = true then (spec_ParseHeap.j3 kj14 a0 t136 x6_1 x7_1 (rdOf ByteArray.empty t136 x7_1) (((rdOf ByteArray.empty t136 x7_1).size : Int) == 1) x136000_1 x136001_1 x136002_1) else (spec_ParseHeap.j3 kj14 a0 t136 x6_1 x7_1 (rdOf ByteArray.empty t136 x7_1) false x136000_1 x136001_1 x136002_1)) = some (r1, r2, r3, r4) := by rw [if_neg (show ¬ (false = true) by decide)] at H; exact H
           clear H
           have H := H1
           clear H1
           have HC19 := am H
           clear H
           go_upto_region 11 with (fail)
           go_cut [40] (fun v40 wc => ∃ (kq : Nat) (x40_18 : Bool), v40 = .bool x40_18 ∧ Aside0 (spec_ParseHeap.j3 kq a0 t136 x6_1 x7_1 (rdOf ByteArray.empty t136 x7_1) x40_18 x136000_1 x136001_1 x136002_1 = some (r1, r2, r3, r4)) ∧ Aside0 (kq ≤ kj14) ∧ Aside0 (Kd.R Kd.string 9 wc w.heap.size (fun _ => True) (.slice (some ad139) t136.length co16) t136) ∧ Aside0 (Kd.R (Kd.int .i64) 3 wc w.heap.size (fun k_ => some k_ ≠ (u136001 : Value).ownBlock ∧ some k_ ≠ (u136002 : Value).ownBlock) u136000 x136000_1) ∧ Aside0 (Kd.R (Kd.int .i64) 3 wc w.heap.size (fun k_ => some k_ ≠ (u136000 : Value).ownBlock ∧ some k_ ≠ (u136002 : Value).ownBlock) u136001 x136001_1) ∧ Aside0 (Kd.R (Kd.int .i64) 3 wc w.heap.size (fun k_ => some k_ ≠ (u136000 : Value).ownBlock ∧ some k_ ≠ (u136001 : Value).ownBlock) u136002 x136002_1) ∧ Aside0 (wc.heap[gb134]? = some (.cells #[(.slice none 0 0), (.slice none 0 0), (.slice none 0 0)] 24 (0, 0))) ∧ Aside0 (wc.heap[gb135]? = some (.cells #[u136000, u136001, u136002] 24 (0, 0))) ∧ Aside0 (Below w.heap.size w wc))
           case first =>
            have H := HC19.out
            clear HC19
            by_cases c20 : x6_1 = true
            ·subst c20
             have H1 : (spec_ParseHeap.j3 kj14 a0 t136 true x7_1 (rdOf ByteArray.empty t136 x7_1) (((rdOf ByteArray.empty t136 x7_1).size : Int) == 1) x136000_1 x136001_1 x136002_1) = some (r1, r2, r3, r4) := by rw [if_pos rfl] at H; exact H
             clear H
             have H := H1
             clear H1
             have H' := am H
             clear H
             go_wp2
             go_meet
             case rel => exact ⟨_, ((((rdOf ByteArray.empty t136 x7_1).size : Int) == 1)), (by first | rfl | (simp; done) | (simp [*]; done)), H', ⟨by have := HK1.out; have := HJ7.out; have := HJ14.out; first | omega | exact Nat.le_refl _⟩, ⟨rl HO_5.out⟩, ⟨rl HO_136000.out⟩, ⟨rl HO_136001.out⟩, ⟨rl HO_136002.out⟩, ⟨kl BK134.out⟩, ⟨kl BK135.out⟩, ⟨by exact bs2 GE134.out GE135.out HB.out⟩⟩
            ·replace c20 := Bool.eq_false_iff.mpr c20
             subst c20
             have H1 : (spec_ParseHeap.j3 kj14 a0 t136 false x7_1 (rdOf ByteArray.empty t136 x7_1) false x136000_1 x136001_1 x136002_1) = some (r1, r2, r3, r4) := by rw [if_neg (show ¬ (false = true) by decide)] at H; exact H
             clear H
             have H := H1
             clear H1
             have H' := am H
             clear H
             go_wp2
             go_meet
             case rel => exact ⟨_, (false), (by first | rfl | (simp; done) | (simp [*]; done)), H', ⟨by have := HK1.out; have := HJ7.out; have := HJ14.out; first | omega | exact Nat.le_refl _⟩, ⟨rl HO_5.out⟩, ⟨rl HO_136000.out⟩, ⟨rl HO_136001.out⟩, ⟨rl HO_136002.out⟩, ⟨kl BK134.out⟩, ⟨kl BK135.out⟩, ⟨by exact bs2 GE134.out GE135.out HB.out⟩⟩
           case rest =>
            clear HC19
            try clear c1
            try clear p1
            try clear q1
            try clear hx1
            try clear c2
            try clear p2
            try clear c5
            try clear p6
            try clear c9
            try clear c9b0
            try clear c12
            try clear c13
            try clear c13b0
            try clear p13
            try clear q13
            try clear hx13
            try clear c14
            try clear c14b0
            try clear c17
            try clear c17b0
            try clear c17b1
            try clear c18
            try clear c20
            try clear hx139_0
            try clear p1
            try clear p13
            try clear p139
            try clear p2
            try clear q1
            try clear q13
            try clear q139
            obtain ⟨kq, x40_18, rfl, HA, HJ18, HO_5, HO_136000, HO_136001, HO_136002, BK134, BK135, HB⟩ := hcut
            cases kq with
            | zero => exact absurd HA.out (by simp [spec_ParseHeap.j3])
            | succ kj18 =>
             have H := HA.out
             clear HA
             simp only [spec_ParseHeap.j3] at H
             by_cases c21 : x40_18 = true
             ·subst c21
              have H1 : (if 0 < ((rdOf ByteArray.empty t136 x7_1).size : Int) then ((spec_l1Read.f (bt (rdOf ByteArray.empty t136 x7_1) 0)).bind fun bt140 => (if bt140.2 = true then (if x136002_1.length < 17592186044416 then (spec_ParseHeap.l0 kj18 a0 t136 x6_1 (wrap64 (x7_1 + 1)) x136000_1 x136001_1 (x136002_1 ++ [bt140.1])) else (none)) else (some (([] : List Int), ([] : List Int), ([] : List Int), false)))) else (none)) = some (r1, r2, r3, r4) := by rw [if_pos rfl] at H; exact H
              clear H
              have H := H1
              clear H1
              by_cases c22 : 0 < ((rdOf ByteArray.empty t136 x7_1).size : Int)
              ·rw [if_pos c22] at H
               have c22b0 : decide (0 < ((rdOf ByteArray.empty t136 x7_1).size : Int)) = true := decide_eq_true c22
               have c22b1 : decide (0 < (rdOf ByteArray.empty t136 x7_1).size) = true := decide_eq_true (by omega)
               clear c22
               replace H := Option.bind_eq_some_iff.mp H
               obtain ⟨⟨t140, t141⟩, A240, H⟩ := H
               replace H : (if t141 = true then (if x136002_1.length < 17592186044416 then (spec_ParseHeap.l0 kj18 a0 t136 x6_1 (wrap64 (x7_1 + 1)) x136000_1 x136001_1 (x136002_1 ++ [t140])) else (none)) else (some (([] : List Int), ([] : List Int), ([] : List Int), false))) = some (r1, r2, r3, r4) := H
               have A24 := am A240
               clear A240
               by_cases c25 : t141 = true
               ·subst c25
                have H1 : (if x136002_1.length < 17592186044416 then (spec_ParseHeap.l0 kj18 a0 t136 x6_1 (wrap64 (x7_1 + 1)) x136000_1 x136001_1 (x136002_1 ++ [t140])) else (none)) = some (r1, r2, r3, r4) := by rw [if_pos rfl] at H; exact H
                clear H
                have H := H1
                clear H1
                by_cases c26 : x136002_1.length < 17592186044416
                ·rw [if_pos c26] at H
                 have LMc26 := am c26
                 clear c26
                 obtain ⟨y142, hy142⟩ : ∃ y_ : List Int, y_ = (x136002_1 ++ [t140]) := ⟨_, rfl⟩
                 replace H : (spec_ParseHeap.l0 kj18 a0 t136 x6_1 (wrap64 (x7_1 + 1)) x136000_1 x136001_1 y142) = some (r1, r2, r3, r4) := by first | (rw [hy142]; with_reducible exact H) | (have H2_ := (Option.bind_some _ _).symm.trans H; rw [hy142]; with_reducible exact H2_) | (have H2_ := (Option.bind_some _ _).symm.trans H; with_reducible exact H2_) | with_reducible exact H | (rw [hy142]; exact H) | exact H
                 have Ny142 := am hy142
                 clear hy142
                 have H' := am H
                 clear H
                 have p23 : 0 ≤ (0 : Int) := (by omega)
                 have q23 : 0 < (rdOf ByteArray.empty t136 x7_1).size := (by have : (0 : Int) < ((rdOf ByteArray.empty t136 x7_1).size : Int) := of_decide_eq_true (by first | (with_reducible assumption) | assumption); omega)
                 have hx23 : ∀ h : 0 < (rdOf ByteArray.empty t136 x7_1).size, (((rdOf ByteArray.empty t136 x7_1)[0]'h).toNat : Int) = bt (rdOf ByteArray.empty t136 x7_1) 0 := bt_at (rdOf ByteArray.empty t136 x7_1) 0
                 clear p23
                 have qi23 : (0 < ((rdOf ByteArray.empty t136 x7_1).size : Int)) = True := eq_true (of_decide_eq_true (by first | (with_reducible assumption) | assumption))
                 replace q23 := eq_true q23
                 go_wp2_with (first | ((with_reducible refine gate_callee (f := 26) rfl ?_); refine gL (some 50) rfl rfl Tryd.func26 (by kernel_rfl) rfl #[.int .u8 (bt (rdOf ByteArray.empty t136 x7_1) 0)] rfl ?_; (with_reducible refine (spec_l1Read.calls (bt (rdOf ByteArray.empty t136 x7_1) 0) t140 true _ A24.out).mono ?_); rintro e w' ⟨rfl, ⟨nd, rfl⟩⟩; refine ⟨_, rfl, ?_⟩; (try (rw [drewN_self wc]; generalize hq_ : World.drewN wc _ = wc; replace HO_136000 : Aside0 (Kd.R (Kd.int .i64) 3 wc w.heap.size (fun k_ => some k_ ≠ (u136001 : Value).ownBlock ∧ some k_ ≠ (u136002 : Value).ownBlock) u136000 x136000_1) := ⟨by rw [← hq_]; exact (rl HO_136000.out)⟩; replace HO_136001 : Aside0 (Kd.R (Kd.int .i64) 3 wc w.heap.size (fun k_ => some k_ ≠ (u136000 : Value).ownBlock ∧ some k_ ≠ (u136002 : Value).ownBlock) u136001 x136001_1) := ⟨by rw [← hq_]; exact (rl HO_136001.out)⟩; replace HO_136002 : Aside0 (Kd.R (Kd.int .i64) 3 wc w.heap.size (fun k_ => some k_ ≠ (u136000 : Value).ownBlock ∧ some k_ ≠ (u136001 : Value).ownBlock) u136002 x136002_1) := ⟨by rw [← hq_]; exact (rl HO_136002.out)⟩; replace HO_5 : Aside0 (Kd.R Kd.string 9 wc w.heap.size (fun _ => True) (.slice (some ad139) t136.length co16) t136) := ⟨by rw [← hq_]; exact (rl HO_5.out)⟩; replace BK134 : Aside0 (wc.heap[gb134]? = some (.cells #[.slice none 0 0, .slice none 0 0, .slice none 0 0] 24 (0, 0))) := ⟨by rw [← hq_]; exact (kl BK134.out)⟩; replace BK135 : Aside0 (wc.heap[gb135]? = some (.cells #[u136000, u136001, u136002] 24 (0, 0))) := ⟨by rw [← hq_]; exact (kl BK135.out)⟩; replace HB : Aside0 (Below w.heap.size w wc) := ⟨by rw [← hq_]; exact (bs2 GE134.out GE135.out HB.out)⟩; clear hq_)); have hnb27 := NB135_134.out; have hnc27 := NB134_135.out; obtain ⟨hcz28_0, hcz28_1, hcz28_2, hfz28_0, hfz28_1, hfz28_2⟩ := cf3 BK135) | ((with_reducible refine gate_builtin (b := .append) (xs := #[.tmp 57, .tmp 59]) rfl ?_); (try (refine gate_guard (by rfl) ?_; dsimp only)); at_builtin; refine Kd.R_append (Kd.int .i64) (w0 := w) w.heap.size rfl (.tmp 57) (.tmp 59) 22 3 (.int .i64 0) 8 rfl Tryd.underlying22 info3 rfl (by decide) (by omega) u136002 x136002_1 t140 [.int .i64 t140] (fun k_ => some k_ ≠ (u136000 : Value).ownBlock ∧ some k_ ≠ (u136001 : Value).ownBlock) (fun _ => False) rfl rfl ?aP (fun _ hk => hk.elim) ?aF ?aO ?aB ?aS ?aL ?_; (case aP => exact rfl); (case aB => exact (bs2 GE134.out GE135.out HB.out)); (case aF => exact (fun k_ hk => ⟨Kd.fresh' (Kd.R_lt (rl HO_136000.out)) k_ hk, Kd.fresh' (Kd.R_lt (rl HO_136001.out)) k_ hk⟩)); (case aO => exact (rl HO_136002.out)); (case aS => exact (below_size (bs2 GE134.out GE135.out HB.out))); (case aL => have := LMc26.out; omega); intro v143 w29 ho hb hg hat; rw [← Ny142.out] at ho; replace HO_5 := am (Kd.R_over' (rl HO_5.out) (Kd.R_typed (rl HO_136002.out)) (by decide) hg); replace HO_136000 := am (Kd.R_after (ok := (fun k_ => some k_ ≠ (u136001 : Value).ownBlock)) (rl HO_136000.out) hg hat); replace HO_136001 := am (Kd.R_after (ok := (fun k_ => some k_ ≠ (u136000 : Value).ownBlock)) (rl HO_136001.out) hg hat); replace BK134 := am (blk_grown (g := gb134) (o := .cells #[.slice none 0 0, .slice none 0 0, .slice none 0 0] 24 (0, 0)) (kl BK134.out) hg (Kd.R_ne HO_136002.out BK134.out (by decide))); replace BK135 := am (blk_grown (g := gb135) (o := .cells #[u136000, u136001, u136002] 24 (0, 0)) (kl BK135.out) hg (Kd.R_ne HO_136002.out BK135.out (by decide))); replace HB := am (hb); have HO144 := am (ho); clear HO_136002; clear ho hb hg hat; obtain ⟨Ao30, co30, eo30⟩ := Kd.R_slice HO144.out; subst eo30; obtain ⟨hcz31_0, hcz31_1, hcz31_2, hfz31_0, hfz31_1, hfz31_2⟩ := cf3 BK135))
                 go_roundg kj18
                 case measure => have := HK1.out; have := HJ7.out; have := HJ14.out; have := HJ18.out; omega
                 case rel => exact ⟨(x6_1), (wrap64 (x7_1 + 1)), (x136000_1), (x136001_1), (y142), (u136000), (u136001), (.slice Ao30 y142.length co30), (by first | rfl | (simp; done) | (simp [*]; done)), (by first | rfl | (simp; done) | (simp [*]; done)), H', ⟨by have := HK1.out; have := HJ7.out; have := HJ14.out; have := HJ18.out; omega⟩, ⟨rl (Kd.R_mono (Kd.R_far (p := ⟨gb135, 2, none⟩) (Kd.R_types HO_5.out BK135.out (by decide)) (fun _ hk => hk.2) (.slice Ao30 y142.length co30)) (fun _ hk => trivial))⟩, ⟨rl (Kd.R_mono (Kd.R_far (p := ⟨gb135, 2, none⟩) (Kd.R_types HO_136000.out BK135.out (by decide)) (fun _ hk => hk.2) (.slice Ao30 y142.length co30)) (fun _ hk => by first | exact ⟨hk.1.1, hk.1.2⟩ | (simp only [ne_eq] at hk ⊢; simp only [hk, not_false_eq_true, and_self])))⟩, ⟨rl (Kd.R_mono (Kd.R_far (p := ⟨gb135, 2, none⟩) (Kd.R_types HO_136001.out BK135.out (by decide)) (fun _ hk => hk.2) (.slice Ao30 y142.length co30)) (fun _ hk => by first | exact ⟨hk.1.1, hk.1.2⟩ | (simp only [ne_eq] at hk ⊢; simp only [hk, not_false_eq_true, and_self])))⟩, ⟨rl (Kd.R_mono (Kd.R_far (p := ⟨gb135, 2, none⟩) (Kd.R_types HO144.out BK135.out (by decide)) (fun _ hk => hk.2) (.slice Ao30 y142.length co30)) (fun _ hk => by first | exact ⟨hk.1.1, hk.1.2⟩ | (simp only [ne_eq] at hk ⊢; simp only [hk, not_false_eq_true, and_self])))⟩, ⟨kf1 NB134_135.out BK134.out⟩, ⟨by (with_reducible repeat (first | refine blk_drewN ?_ _ | refine blk_drew ?_ | refine blk_alloc ?_ _)); refine blk_put (cs := #[u136000, u136001, u136002]) ?_ 2 _ rfl; (with_reducible repeat (first | refine blk_drewN ?_ _ | refine blk_drew ?_ | refine blk_alloc ?_ _)); exact BK135.out⟩, ⟨by exact bs2 GE134.out GE135.out HB.out⟩⟩
                ·rw [if_neg c26] at H
                 exact absurd H (by simp)
               ·replace c25 := Bool.eq_false_iff.mpr c25
                subst c25
                have H1 : (some (([] : List Int), ([] : List Int), ([] : List Int), false)) = some (r1, r2, r3, r4) := by rw [if_neg (show ¬ (false = true) by decide)] at H; exact H
                clear H
                have H := H1
                clear H1
                simp only [Option.some.injEq, Prod.mk.injEq] at H
                obtain ⟨rfl, rfl, rfl, rfl⟩ := H
                have p23 : 0 ≤ (0 : Int) := (by omega)
                have q23 : 0 < (rdOf ByteArray.empty t136 x7_1).size := (by have : (0 : Int) < ((rdOf ByteArray.empty t136 x7_1).size : Int) := of_decide_eq_true (by first | (with_reducible assumption) | assumption); omega)
                have hx23 : ∀ h : 0 < (rdOf ByteArray.empty t136 x7_1).size, (((rdOf ByteArray.empty t136 x7_1)[0]'h).toNat : Int) = bt (rdOf ByteArray.empty t136 x7_1) 0 := bt_at (rdOf ByteArray.empty t136 x7_1) 0
                clear p23
                have qi23 : (0 < ((rdOf ByteArray.empty t136 x7_1).size : Int)) = True := eq_true (of_decide_eq_true (by first | (with_reducible assumption) | assumption))
                replace q23 := eq_true q23
                go_wp2_with (first | ((with_reducible refine gate_callee (f := 26) rfl ?_); refine gL (some 50) rfl rfl Tryd.func26 (by kernel_rfl) rfl #[.int .u8 (bt (rdOf ByteArray.empty t136 x7_1) 0)] rfl ?_; (with_reducible refine (spec_l1Read.calls (bt (rdOf ByteArray.empty t136 x7_1) 0) t140 false _ A24.out).mono ?_); rintro e w' ⟨rfl, ⟨nd, rfl⟩⟩; refine ⟨_, rfl, ?_⟩; (try (rw [drewN_self wc]; generalize hq_ : World.drewN wc _ = wc; replace HO_136000 : Aside0 (Kd.R (Kd.int .i64) 3 wc w.heap.size (fun k_ => some k_ ≠ (u136001 : Value).ownBlock ∧ some k_ ≠ (u136002 : Value).ownBlock) u136000 x136000_1) := ⟨by rw [← hq_]; exact (rl HO_136000.out)⟩; replace HO_136001 : Aside0 (Kd.R (Kd.int .i64) 3 wc w.heap.size (fun k_ => some k_ ≠ (u136000 : Value).ownBlock ∧ some k_ ≠ (u136002 : Value).ownBlock) u136001 x136001_1) := ⟨by rw [← hq_]; exact (rl HO_136001.out)⟩; replace HO_136002 : Aside0 (Kd.R (Kd.int .i64) 3 wc w.heap.size (fun k_ => some k_ ≠ (u136000 : Value).ownBlock ∧ some k_ ≠ (u136001 : Value).ownBlock) u136002 x136002_1) := ⟨by rw [← hq_]; exact (rl HO_136002.out)⟩; replace HO_5 : Aside0 (Kd.R Kd.string 9 wc w.heap.size (fun _ => True) (.slice (some ad139) t136.length co16) t136) := ⟨by rw [← hq_]; exact (rl HO_5.out)⟩; replace BK134 : Aside0 (wc.heap[gb134]? = some (.cells #[.slice none 0 0, .slice none 0 0, .slice none 0 0] 24 (0, 0))) := ⟨by rw [← hq_]; exact (kl BK134.out)⟩; replace BK135 : Aside0 (wc.heap[gb135]? = some (.cells #[u136000, u136001, u136002] 24 (0, 0))) := ⟨by rw [← hq_]; exact (kl BK135.out)⟩; replace HB : Aside0 (Below w.heap.size w wc) := ⟨by rw [← hq_]; exact (bs2 GE134.out GE135.out HB.out)⟩; clear hq_)); have hnb32 := NB134_135.out; have hnc32 := NB135_134.out; obtain ⟨hcz33_0, hcz33_1, hcz33_2, hfz33_0, hfz33_1, hfz33_2⟩ := cf3 BK134))
                refine bodyPost_ret (results_ct rfl _ _ gb134 24 #[.slice none 0 0, .slice none 0 0, .slice none 0 0] (0, 0) _ rfl (kp3 (kf0 BK134.out)) Tryd.underlying24 rfl (by kernel_rfl)) rfl ?_
                exact ⟨_, _, _, by first | rfl | (simp [errW_none, errW_some] <;> rfl) | (simp [*, errW_none, errW_some] <;> rfl), by first | exact Kd.R_nil _ _ _ _ _ | exact Kd.N_nil _ _ _ _ _ | exact Kd.V_nil _ _ _ _ _ | exact Kd.Q_nil _ _ _ _ _ | exact Kd.S_nil _ _ _ _ _, by first | exact Kd.R_nil _ _ _ _ _ | exact Kd.N_nil _ _ _ _ _ | exact Kd.V_nil _ _ _ _ _ | exact Kd.Q_nil _ _ _ _ _ | exact Kd.S_nil _ _ _ _ _, by first | exact Kd.R_nil _ _ _ _ _ | exact Kd.N_nil _ _ _ _ _ | exact Kd.V_nil _ _ _ _ _ | exact Kd.Q_nil _ _ _ _ _ | exact Kd.S_nil _ _ _ _ _, by exact bs2 GE134.out GE135.out HB.out⟩
              ·rw [if_neg c22] at H
               exact absurd H (by simp)
             ·replace c21 := Bool.eq_false_iff.mpr c21
              subst c21
              have H1 : (if x6_1 = true then (spec_ParseHeap.j4 kj18 a0 t136 x6_1 x7_1 (rdOf ByteArray.empty t136 x7_1) false x136000_1 x136001_1 x136002_1) else (spec_ParseHeap.j4 kj18 a0 t136 x6_1 x7_1 (rdOf ByteArray.empty t136 x7_1) (((rdOf ByteArray.empty t136 x7_1).size : Int) == 2) x136000_1 x136001_1 x136002_1)) = some (r1, r2, r3, r4) := by rw [if_neg (show ¬ (false = true) by decide)] at H; exact H
              clear H
              have H := H1
              clear H1
              have HC34 := am H
              clear H
              go_upto_region 16 with (fail)
              go_cut [62] (fun v62 wc => ∃ (kq : Nat) (x62_33 : Bool), v62 = .bool x62_33 ∧ Aside0 (spec_ParseHeap.j4 kq a0 t136 x6_1 x7_1 (rdOf ByteArray.empty t136 x7_1) x62_33 x136000_1 x136001_1 x136002_1 = some (r1, r2, r3, r4)) ∧ Aside0 (kq ≤ kj18) ∧ Aside0 (Kd.R Kd.string 9 wc w.heap.size (fun _ => True) (.slice (some ad139) t136.length co16) t136) ∧ Aside0 (Kd.R (Kd.int .i64) 3 wc w.heap.size (fun k_ => some k_ ≠ (u136001 : Value).ownBlock ∧ some k_ ≠ (u136002 : Value).ownBlock) u136000 x136000_1) ∧ Aside0 (Kd.R (Kd.int .i64) 3 wc w.heap.size (fun k_ => some k_ ≠ (u136000 : Value).ownBlock ∧ some k_ ≠ (u136002 : Value).ownBlock) u136001 x136001_1) ∧ Aside0 (Kd.R (Kd.int .i64) 3 wc w.heap.size (fun k_ => some k_ ≠ (u136000 : Value).ownBlock ∧ some k_ ≠ (u136001 : Value).ownBlock) u136002 x136002_1) ∧ Aside0 (wc.heap[gb134]? = some (.cells #[(.slice none 0 0), (.slice none 0 0), (.slice none 0 0)] 24 (0, 0))) ∧ Aside0 (wc.heap[gb135]? = some (.cells #[u136000, u136001, u136002] 24 (0, 0))) ∧ Aside0 (Below w.heap.size w wc))
              case first =>
               have H := HC34.out
               clear HC34
               by_cases c35 : x6_1 = true
               ·subst c35
                have H1 : (spec_ParseHeap.j4 kj18 a0 t136 true x7_1 (rdOf ByteArray.empty t136 x7_1) false x136000_1 x136001_1 x136002_1) = some (r1, r2, r3, r4) := by rw [if_pos rfl] at H; exact H
                clear H
                have H := H1
                clear H1
                have H' := am H
                clear H
                go_wp2
                go_meet
                case rel => exact ⟨_, (false), (by first | rfl | (simp; done) | (simp [*]; done)), H', ⟨by have := HK1.out; have := HJ7.out; have := HJ14.out; have := HJ18.out; first | omega | exact Nat.le_refl _⟩, ⟨rl HO_5.out⟩, ⟨rl HO_136000.out⟩, ⟨rl HO_136001.out⟩, ⟨rl HO_136002.out⟩, ⟨kl BK134.out⟩, ⟨kl BK135.out⟩, ⟨by exact bs2 GE134.out GE135.out HB.out⟩⟩
               ·replace c35 := Bool.eq_false_iff.mpr c35
                subst c35
                have H1 : (spec_ParseHeap.j4 kj18 a0 t136 false x7_1 (rdOf ByteArray.empty t136 x7_1) (((rdOf ByteArray.empty t136 x7_1).size : Int) == 2) x136000_1 x136001_1 x136002_1) = some (r1, r2, r3, r4) := by rw [if_neg (show ¬ (false = true) by decide)] at H; exact H
                clear H
                have H := H1
                clear H1
                have H' := am H
                clear H
                go_wp2
                go_meet
                case rel => exact ⟨_, ((((rdOf ByteArray.empty t136 x7_1).size : Int) == 2)), (by first | rfl | (simp; done) | (simp [*]; done)), H', ⟨by have := HK1.out; have := HJ7.out; have := HJ14.out; have := HJ18.out; first | omega | exact Nat.le_refl _⟩, ⟨rl HO_5.out⟩, ⟨rl HO_136000.out⟩, ⟨rl HO_136001.out⟩, ⟨rl HO_136002.out⟩, ⟨kl BK134.out⟩, ⟨kl BK135.out⟩, ⟨by exact bs2 GE134.out GE135.out HB.out⟩⟩
              case rest =>
               clear HC34
               try clear c1
               try clear p1
               try clear q1
               try clear hx1
               try clear c2
               try clear p2
               try clear q2
               try clear hx2
               try clear qi2
               try clear c3
               try clear c5
               try clear p6
               try clear c9
               try clear c9b0
               try clear c12
               try clear c13
               try clear c13b0
               try clear p13
               try clear q13
               try clear hx13
               try clear c14
               try clear c14b0
               try clear c17
               try clear c17b0
               try clear c17b1
               try clear c18
               try clear c20
               try clear c21
               try clear c22
               try clear c22b0
               try clear c22b1
               try clear p23
               try clear q23
               try clear hx23
               try clear qi23
               try clear c25
               try clear c26
               try clear c27
               try clear c32
               try clear c35
               try clear hx139_0
               try clear p1
               try clear p13
               try clear p139
               try clear p2
               try clear p23
               try clear p6
               try clear q1
               try clear q13
               try clear q139
               try clear q23
               obtain ⟨kq, x62_33, rfl, HA, HJ33, HO_5, HO_136000, HO_136001, HO_136002, BK134, BK135, HB⟩ := hcut
               cases kq with
               | zero => exact absurd HA.out (by simp [spec_ParseHeap.j4])
               | succ kj33 =>
                have H := HA.out
                clear HA
                simp only [spec_ParseHeap.j4] at H
                by_cases c36 : x62_33 = true
                ·subst c36
                 have H1 : (if 0 < ((rdOf ByteArray.empty t136 x7_1).size : Int) then ((spec_l1Read.f (bt (rdOf ByteArray.empty t136 x7_1) 0)).bind fun bt145 => (if 1 < ((rdOf ByteArray.empty t136 x7_1).size : Int) then ((spec_l1Read.f (bt (rdOf ByteArray.empty t136 x7_1) 1)).bind fun bt147 => (if bt145.2 = true then (if bt147.2 = true then (if x136000_1.length < 17592186044416 then (if x136001_1.length < 17592186044416 then (spec_ParseHeap.l0 kj33 a0 t136 x6_1 (wrap64 (x7_1 + 1)) (x136000_1 ++ [bt145.1]) (x136001_1 ++ [bt147.1]) x136002_1) else (none)) else (none)) else (some (([] : List Int), ([] : List Int), ([] : List Int), false))) else (some (([] : List Int), ([] : List Int), ([] : List Int), false)))) else (none))) else (none)) = some (r1, r2, r3, r4) := by rw [if_pos rfl] at H; exact H
                 clear H
                 have H := H1
                 clear H1
                 by_cases c37 : 0 < ((rdOf ByteArray.empty t136 x7_1).size : Int)
                 ·rw [if_pos c37] at H
                  have c37b0 : decide (0 < ((rdOf ByteArray.empty t136 x7_1).size : Int)) = true := decide_eq_true c37
                  have c37b1 : decide (0 < (rdOf ByteArray.empty t136 x7_1).size) = true := decide_eq_true (by omega)
                  clear c37
                  replace H := Option.bind_eq_some_iff.mp H
                  obtain ⟨⟨t145, t146⟩, A390, H⟩ := H
                  replace H : (if 1 < ((rdOf ByteArray.empty t136 x7_1).size : Int) then ((spec_l1Read.f (bt (rdOf ByteArray.empty t136 x7_1) 1)).bind fun bt147 => (if t146 = true then (if bt147.2 = true then (if x136000_1.length < 17592186044416 then (if x136001_1.length < 17592186044416 then (spec_ParseHeap.l0 kj33 a0 t136 x6_1 (wrap64 (x7_1 + 1)) (x136000_1 ++ [t145]) (x136001_1 ++ [bt147.1]) x136002_1) else (none)) else (none)) else (some (([] : List Int), ([] : List Int), ([] : List Int), false))) else (some (([] : List Int), ([] : List Int), ([] : List Int), false)))) else (none)) = some (r1, r2, r3, r4) := H
                  have A39 := am A390
                  clear A390
                  by_cases c40 : 1 < ((rdOf ByteArray.empty t136 x7_1).size : Int)
                  ·rw [if_pos c40] at H
                   have c40b0 : decide (1 < ((rdOf ByteArray.empty t136 x7_1).size : Int)) = true := decide_eq_true c40
                   have c40b1 : decide (1 < (rdOf ByteArray.empty t136 x7_1).size) = true := decide_eq_true (by omega)
                   clear c40
                   replace H := Option.bind_eq_some_iff.mp H
                   obtain ⟨⟨t147, t148⟩, A420, H⟩ := H
                   replace H : (if t146 = true then (if t148 = true then (if x136000_1.length < 17592186044416 then (if x136001_1.length < 17592186044416 then (spec_ParseHeap.l0 kj33 a0 t136 x6_1 (wrap64 (x7_1 + 1)) (x136000_1 ++ [t145]) (x136001_1 ++ [t147]) x136002_1) else (none)) else (none)) else (some (([] : List Int), ([] : List Int), ([] : List Int), false))) else (some (([] : List Int), ([] : List Int), ([] : List Int), false))) = some (r1, r2, r3, r4) := H
                   have A42 := am A420
                   clear A420
                   by_cases c43 : t146 = true
                   ·subst c43
                    have H1 : (if t148 = true then (if x136000_1.length < 17592186044416 then (if x136001_1.length < 17592186044416 then (spec_ParseHeap.l0 kj33 a0 t136 x6_1 (wrap64 (x7_1 + 1)) (x136000_1 ++ [t145]) (x136001_1 ++ [t147]) x136002_1) else (none)) else (none)) else (some (([] : List Int), ([] : List Int), ([] : List Int), false))) = some (r1, r2, r3, r4) := by rw [if_pos rfl] at H; exact H
                    clear H
                    have H := H1
                    clear H1
                    by_cases c44 : t148 = true
                    ·subst c44
                     have H1 : (if x136000_1.length < 17592186044416 then (if x136001_1.length < 17592186044416 then (spec_ParseHeap.l0 kj33 a0 t136 x6_1 (wrap64 (x7_1 + 1)) (x136000_1 ++ [t145]) (x136001_1 ++ [t147]) x136002_1) else (none)) else (none)) = some (r1, r2, r3, r4) := by rw [if_pos rfl] at H; exact H
                     clear H
                     have H := H1
                     clear H1
                     by_cases c45 : x136000_1.length < 17592186044416
                     ·rw [if_pos c45] at H
                      have LMc45 := am c45
                      clear c45
                      obtain ⟨y149, hy149⟩ : ∃ y_ : List Int, y_ = (x136000_1 ++ [t145]) := ⟨_, rfl⟩
                      replace H : (if x136001_1.length < 17592186044416 then (spec_ParseHeap.l0 kj33 a0 t136 x6_1 (wrap64 (x7_1 + 1)) y149 (x136001_1 ++ [t147]) x136002_1) else (none)) = some (r1, r2, r3, r4) := by first | (rw [hy149]; with_reducible exact H) | (have H2_ := (Option.bind_some _ _).symm.trans H; rw [hy149]; with_reducible exact H2_) | (have H2_ := (Option.bind_some _ _).symm.trans H; with_reducible exact H2_) | with_reducible exact H | (rw [hy149]; exact H) | exact H
                      have Ny149 := am hy149
                      clear hy149
                      by_cases c46 : x136001_1.length < 17592186044416
                      ·rw [if_pos c46] at H
                       have LMc46 := am c46
                       clear c46
                       obtain ⟨y152, hy152⟩ : ∃ y_ : List Int, y_ = (x136001_1 ++ [t147]) := ⟨_, rfl⟩
                       replace H : (spec_ParseHeap.l0 kj33 a0 t136 x6_1 (wrap64 (x7_1 + 1)) y149 y152 x136002_1) = some (r1, r2, r3, r4) := by first | (rw [hy152]; with_reducible exact H) | (have H2_ := (Option.bind_some _ _).symm.trans H; rw [hy152]; with_reducible exact H2_) | (have H2_ := (Option.bind_some _ _).symm.trans H; with_reducible exact H2_) | with_reducible exact H | (rw [hy152]; exact H) | exact H
                       have Ny152 := am hy152
                       clear hy152
                       have H' := am H
                       clear H
                       have p38 : 0 ≤ (0 : Int) := (by omega)
                       have q38 : 0 < (rdOf ByteArray.empty t136 x7_1).size := (by have : (0 : Int) < ((rdOf ByteArray.empty t136 x7_1).size : Int) := of_decide_eq_true (by first | (with_reducible assumption) | assumption); omega)
                       have hx38 : ∀ h : 0 < (rdOf ByteArray.empty t136 x7_1).size, (((rdOf ByteArray.empty t136 x7_1)[0]'h).toNat : Int) = bt (rdOf ByteArray.empty t136 x7_1) 0 := bt_at (rdOf ByteArray.empty t136 x7_1) 0
                       clear p38
                       have qi38 : (0 < ((rdOf ByteArray.empty t136 x7_1).size : Int)) = True := eq_true (of_decide_eq_true (by first | (with_reducible assumption) | assumption))
                       replace q38 := eq_true q38
                       go_wp2_with (first | ((with_reducible refine gate_callee (f := 26) rfl ?_); refine gL (some 73) rfl rfl Tryd.func26 (by kernel_rfl) rfl #[.int .u8 (bt (rdOf ByteArray.empty t136 x7_1) 0)] rfl ?_; (with_reducible refine (spec_l1Read.calls (bt (rdOf ByteArray.empty t136 x7_1) 0) t145 true _ A39.out).mono ?_); rintro e w' ⟨rfl, ⟨nd, rfl⟩⟩; refine ⟨_, rfl, ?_⟩; (try (rw [drewN_self wc]; generalize hq_ : World.drewN wc _ = wc; replace HO_136000 : Aside0 (Kd.R (Kd.int .i64) 3 wc w.heap.size (fun k_ => some k_ ≠ (u136001 : Value).ownBlock ∧ some k_ ≠ (u136002 : Value).ownBlock) u136000 x136000_1) := ⟨by rw [← hq_]; exact (rl HO_136000.out)⟩; replace HO_136001 : Aside0 (Kd.R (Kd.int .i64) 3 wc w.heap.size (fun k_ => some k_ ≠ (u136000 : Value).ownBlock ∧ some k_ ≠ (u136002 : Value).ownBlock) u136001 x136001_1) := ⟨by rw [← hq_]; exact (rl HO_136001.out)⟩; replace HO_136002 : Aside0 (Kd.R (Kd.int .i64) 3 wc w.heap.size (fun k_ => some k_ ≠ (u136000 : Value).ownBlock ∧ some k_ ≠ (u136001 : Value).ownBlock) u136002 x136002_1) := ⟨by rw [← hq_]; exact (rl HO_136002.out)⟩; replace HO_5 : Aside0 (Kd.R Kd.string 9 wc w.heap.size (fun _ => True) (.slice (some ad139) t136.length co16) t136) := ⟨by rw [← hq_]; exact (rl HO_5.out)⟩; replace BK134 : Aside0 (wc.heap[gb134]? = some (.cells #[.slice none 0 0, .slice none 0 0, .slice none 0 0] 24 (0, 0))) := ⟨by rw [← hq_]; exact (kl BK134.out)⟩; replace BK135 : Aside0 (wc.heap[gb135]? = some (.cells #[u136000, u136001, u136002] 24 (0, 0))) := ⟨by rw [← hq_]; exact (kl BK135.out)⟩; replace HB : Aside0 (Below w.heap.size w wc) := ⟨by rw [← hq_]; exact (bs2 GE134.out GE135.out HB.out)⟩; clear hq_)); have p41 : 0 ≤ (1 : Int) := (by omega); have q41 : 1 < (rdOf ByteArray.empty t136 x7_1).size := (by have : (1 : Int) < ((rdOf ByteArray.empty t136 x7_1).size : Int) := of_decide_eq_true (by first | (with_reducible assumption) | assumption); omega); have hx41 : ∀ h : 1 < (rdOf ByteArray.empty t136 x7_1).size, (((rdOf ByteArray.empty t136 x7_1)[1]'h).toNat : Int) = bt (rdOf ByteArray.empty t136 x7_1) 1 := bt_at (rdOf ByteArray.empty t136 x7_1) 1; clear p41; have qi41 : (1 < ((rdOf ByteArray.empty t136 x7_1).size : Int)) = True := eq_true (of_decide_eq_true (by first | (with_reducible assumption) | assumption)); replace q41 := eq_true q41) | ((with_reducible refine gate_callee (f := 26) rfl ?_); refine gL (some 79) rfl rfl Tryd.func26 (by kernel_rfl) rfl #[.int .u8 (bt (rdOf ByteArray.empty t136 x7_1) 1)] rfl ?_; (with_reducible refine (spec_l1Read.calls (bt (rdOf ByteArray.empty t136 x7_1) 1) t147 true _ A42.out).mono ?_); rintro e w' ⟨rfl, ⟨nd, rfl⟩⟩; refine ⟨_, rfl, ?_⟩; (try (rw [drewN_self wc]; generalize hq_ : World.drewN wc _ = wc; replace HO_136000 : Aside0 (Kd.R (Kd.int .i64) 3 wc w.heap.size (fun k_ => some k_ ≠ (u136001 : Value).ownBlock ∧ some k_ ≠ (u136002 : Value).ownBlock) u136000 x136000_1) := ⟨by rw [← hq_]; exact (rl HO_136000.out)⟩; replace HO_136001 : Aside0 (Kd.R (Kd.int .i64) 3 wc w.heap.size (fun k_ => some k_ ≠ (u136000 : Value).ownBlock ∧ some k_ ≠ (u136002 : Value).ownBlock) u136001 x136001_1) := ⟨by rw [← hq_]; exact (rl HO_136001.out)⟩; replace HO_136002 : Aside0 (Kd.R (Kd.int .i64) 3 wc w.heap.size (fun k_ => some k_ ≠ (u136000 : Value).ownBlock ∧ some k_ ≠ (u136001 : Value).ownBlock) u136002 x136002_1) := ⟨by rw [← hq_]; exact (rl HO_136002.out)⟩; replace HO_5 : Aside0 (Kd.R Kd.string 9 wc w.heap.size (fun _ => True) (.slice (some ad139) t136.length co16) t136) := ⟨by rw [← hq_]; exact (rl HO_5.out)⟩; replace BK134 : Aside0 (wc.heap[gb134]? = some (.cells #[.slice none 0 0, .slice none 0 0, .slice none 0 0] 24 (0, 0))) := ⟨by rw [← hq_]; exact (kl BK134.out)⟩; replace BK135 : Aside0 (wc.heap[gb135]? = some (.cells #[u136000, u136001, u136002] 24 (0, 0))) := ⟨by rw [← hq_]; exact (kl BK135.out)⟩; replace HB : Aside0 (Below w.heap.size w wc) := ⟨by rw [← hq_]; exact (bs2 GE134.out GE135.out HB.out)⟩; clear hq_)); have hnb47 := NB135_134.out; have hnc47 := NB134_135.out; obtain ⟨hcz48_0, hcz48_1, hcz48_2, hfz48_0, hfz48_1, hfz48_2⟩ := cf3 BK135) | ((with_reducible refine gate_builtin (b := .append) (xs := #[.tmp 90, .tmp 92]) rfl ?_); (try (refine gate_guard (by rfl) ?_; dsimp only)); at_builtin; refine Kd.R_append (Kd.int .i64) (w0 := w) w.heap.size rfl (.tmp 90) (.tmp 92) 22 3 (.int .i64 0) 8 rfl Tryd.underlying22 info3 rfl (by decide) (by omega) u136000 x136000_1 t145 [.int .i64 t145] (fun k_ => some k_ ≠ (u136001 : Value).ownBlock ∧ some k_ ≠ (u136002 : Value).ownBlock) (fun _ => False) rfl rfl ?aP (fun _ hk => hk.elim) ?aF ?aO ?aB ?aS ?aL ?_; (case aP => exact rfl); (case aB => exact (bs2 GE134.out GE135.out HB.out)); (case aF => exact (fun k_ hk => ⟨Kd.fresh' (Kd.R_lt (rl HO_136001.out)) k_ hk, Kd.fresh' (Kd.R_lt (rl HO_136002.out)) k_ hk⟩)); (case aO => exact (rl HO_136000.out)); (case aS => exact (below_size (bs2 GE134.out GE135.out HB.out))); (case aL => have := LMc45.out; omega); intro v150 w49 ho hb hg hat; rw [← Ny149.out] at ho; replace HO_5 := am (Kd.R_over' (rl HO_5.out) (Kd.R_typed (rl HO_136000.out)) (by decide) hg); replace HO_136001 := am (Kd.R_after (ok := (fun k_ => some k_ ≠ (u136002 : Value).ownBlock)) (rl (Kd.R_mono HO_136001.out (fun _ hk => by first | exact ⟨hk.2, hk.1⟩ | (simp only [ne_eq] at hk ⊢; simp only [hk, not_false_eq_true, and_self])))) hg hat); replace HO_136002 := am (Kd.R_after (ok := (fun k_ => some k_ ≠ (u136001 : Value).ownBlock)) (rl (Kd.R_mono HO_136002.out (fun _ hk => by first | exact ⟨hk.2, hk.1⟩ | (simp only [ne_eq] at hk ⊢; simp only [hk, not_false_eq_true, and_self])))) hg hat); replace BK134 := am (blk_grown (g := gb134) (o := .cells #[.slice none 0 0, .slice none 0 0, .slice none 0 0] 24 (0, 0)) (kl BK134.out) hg (Kd.R_ne HO_136000.out BK134.out (by decide))); replace BK135 := am (blk_grown (g := gb135) (o := .cells #[u136000, u136001, u136002] 24 (0, 0)) (kl BK135.out) hg (Kd.R_ne HO_136000.out BK135.out (by decide))); replace HB := am (hb); have HO151 := am (ho); clear HO_136000; clear ho hb hg hat; obtain ⟨Ao50, co50, eo50⟩ := Kd.R_slice HO151.out; subst eo50; obtain ⟨hcz51_0, hcz51_1, hcz51_2, hfz51_0, hfz51_1, hfz51_2⟩ := cf3 BK135) | ((with_reducible refine gate_builtin (b := .append) (xs := #[.tmp 96, .tmp 98]) rfl ?_); (try (refine gate_guard (by rfl) ?_; dsimp only)); at_builtin; refine Kd.R_append (Kd.int .i64) (w0 := w) w.heap.size rfl (.tmp 96) (.tmp 98) 22 3 (.int .i64 0) 8 rfl Tryd.underlying22 info3 rfl (by decide) (by omega) u136001 x136001_1 t147 [.int .i64 t147] (fun k_ => some k_ ≠ (u136002 : Value).ownBlock ∧ some k_ ≠ (.slice Ao50 y149.length co50 : Value).ownBlock) (fun _ => False) rfl (by first | (go_simp; done) | (go_simp; rfl)) ?aP (fun _ hk => hk.elim) ?aF ?aO ?aB ?aS ?aL ?_; (case aP => exact rfl); (case aB => exact (bs2 GE134.out GE135.out HB.out)); (case aF => exact (fun k_ hk => ⟨Kd.fresh' (Kd.R_lt (rg BK135 HO_136002)) k_ hk, Kd.fresh' (Kd.R_lt (rg BK135 HO151)) k_ hk⟩)); (case aO => exact (rl (Kd.R_mono (Kd.R_far (p := ⟨gb135, 0, none⟩) (Kd.R_types HO_136001.out BK135.out (by decide)) (fun _ hk => hk.2) (.slice Ao50 y149.length co50)) (fun _ hk => by first | exact ⟨hk.1.1, hk.1.2⟩ | (simp only [ne_eq] at hk ⊢; simp only [hk, not_false_eq_true, and_self]))))); (case aS => exact (below_size (bs2 GE134.out GE135.out HB.out))); (case aL => have := LMc46.out; omega); intro v153 w52 ho hb hg hat; rw [← Ny152.out] at ho; replace HO_5 := am (Kd.R_over' (rg BK135 HO_5) (Kd.R_typed (rg BK135 HO_136001)) (by decide) hg); replace HO_136002 := am (Kd.R_after (ok := (fun k_ => some k_ ≠ (.slice Ao50 y149.length co50 : Value).ownBlock)) (rl (Kd.R_mono (Kd.R_far (p := ⟨gb135, 0, none⟩) (Kd.R_types HO_136002.out BK135.out (by decide)) (fun _ hk => hk.2) (.slice Ao50 y149.length co50)) (fun _ hk => by first | exact ⟨hk.1.2, hk.1.1⟩ | (simp only [ne_eq] at hk ⊢; simp only [hk, not_false_eq_true, and_self])))) hg hat); replace BK134 := am (blk_grown (g := gb134) (o := .cells #[.slice none 0 0, .slice none 0 0, .slice none 0 0] 24 (0, 0)) (kf1 NB134_135.out BK134.out) hg (Kd.R_ne HO_136001.out BK134.out (by decide))); replace HO151 := am (Kd.R_after (ok := (fun k_ => some k_ ≠ (u136002 : Value).ownBlock)) (rl (Kd.R_mono (Kd.R_far (p := ⟨gb135, 0, none⟩) (Kd.R_types HO151.out BK135.out (by decide)) (fun _ hk => hk.2) (.slice Ao50 y149.length co50)) (fun _ hk => by first | exact ⟨hk.1.2, hk.1.1⟩ | (simp only [ne_eq] at hk ⊢; simp only [hk, not_false_eq_true, and_self])))) hg hat); replace BK135 := am (blk_grown (g := gb135) (o := .cells #[.slice Ao50 y149.length co50, u136001, u136002] 24 (0, 0)) (by (with_reducible repeat (first | refine blk_drewN ?_ _ | refine blk_drew ?_ | refine blk_alloc ?_ _)); refine blk_put (cs := #[u136000, u136001, u136002]) ?_ 0 _ rfl; (with_reducible repeat (first | refine blk_drewN ?_ _ | refine blk_drew ?_ | refine blk_alloc ?_ _)); exact BK135.out) hg (Kd.R_ne HO_136001.out BK135.out (by decide))); replace HB := am (hb); have HO154 := am (ho); clear HO_136001; clear ho hb hg hat; obtain ⟨Ao53, co53, eo53⟩ := Kd.R_slice HO154.out; subst eo53; obtain ⟨hcz54_0, hcz54_1, hcz54_2, hfz54_0, hfz54_1, hfz54_2⟩ := cf3 BK135))
                       go_roundg kj33
                       case measure => have := HK1.out; have := HJ7.out; have := HJ14.out; have := HJ18.out; have := HJ33.out; omega
                       case rel => exact ⟨(x6_1), (wrap64 (x7_1 + 1)), (y149), (y152), (x136002_1), (.slice Ao50 y149.length co50), (.slice Ao53 y152.length co53), (u136002), (by first | rfl | (simp; done) | (simp [*]; done)), (by first | rfl | (simp; done) | (simp [*]; done)), H', ⟨by have := HK1.out; have := HJ7.out; have := HJ14.out; have := HJ18.out; have := HJ33.out; omega⟩, ⟨rl (Kd.R_mono (Kd.R_far (p := ⟨gb135, 1, none⟩) (Kd.R_types HO_5.out BK135.out (by decide)) (fun _ hk => hk.2) (.slice Ao53 y152.length co53)) (fun _ hk => trivial))⟩, ⟨rl (Kd.R_mono (Kd.R_far (p := ⟨gb135, 1, none⟩) (Kd.R_types HO151.out BK135.out (by decide)) (fun _ hk => hk.2) (.slice Ao53 y152.length co53)) (fun _ hk => by first | exact ⟨hk.1.2, hk.1.1⟩ | (simp only [ne_eq] at hk ⊢; simp only [hk, not_false_eq_true, and_self])))⟩, ⟨rl (Kd.R_mono (Kd.R_far (p := ⟨gb135, 1, none⟩) (Kd.R_types HO154.out BK135.out (by decide)) (fun _ hk => hk.2) (.slice Ao53 y152.length co53)) (fun _ hk => by first | exact ⟨hk.1.2, hk.1.1⟩ | (simp only [ne_eq] at hk ⊢; simp only [hk, not_false_eq_true, and_self])))⟩, ⟨rl (Kd.R_mono (Kd.R_far (p := ⟨gb135, 1, none⟩) (Kd.R_types HO_136002.out BK135.out (by decide)) (fun _ hk => hk.2) (.slice Ao53 y152.length co53)) (fun _ hk => by first | exact ⟨hk.1.1, hk.1.2⟩ | (simp only [ne_eq] at hk ⊢; simp only [hk, not_false_eq_true, and_self])))⟩, ⟨kf1 NB134_135.out BK134.out⟩, ⟨by (with_reducible repeat (first | refine blk_drewN ?_ _ | refine blk_drew ?_ | refine blk_alloc ?_ _)); refine blk_put (cs := #[.slice Ao50 y149.length co50, u136001, u136002]) ?_ 1 _ rfl; (with_reducible repeat (first | refine blk_drewN ?_ _ | refine blk_drew ?_ | refine blk_alloc ?_ _)); exact BK135.out⟩, ⟨by exact bs2 GE134.out GE135.out HB.out⟩⟩
                      ·rw [if_neg c46] at H
                       exact absurd H (by simp)
                     ·rw [if_neg c45] at H
                      exact absurd H (by simp)
                    ·replace c44 := Bool.eq_false_iff.mpr c44
                     subst c44
                     have H1 : (some (([] : List Int), ([] : List Int), ([] : List Int), false)) = some (r1, r2, r3, r4) := by rw [if_neg (show ¬ (false = true) by decide)] at H; exact H
                     clear H
                     have H := H1
                     clear H1
                     simp only [Option.some.injEq, Prod.mk.injEq] at H
                     obtain ⟨rfl, rfl, rfl, rfl⟩ := H
                     have p38 : 0 ≤ (0 : Int) := (by omega)
                     have q38 : 0 < (rdOf ByteArray.empty t136 x7_1).size := (by have : (0 : Int) < ((rdOf ByteArray.empty t136 x7_1).size : Int) := of_decide_eq_true (by first | (with_reducible assumption) | assumption); omega)
                     have hx38 : ∀ h : 0 < (rdOf ByteArray.empty t136 x7_1).size, (((rdOf ByteArray.empty t136 x7_1)[0]'h).toNat : Int) = bt (rdOf ByteArray.empty t136 x7_1) 0 := bt_at (rdOf ByteArray.empty t136 x7_1) 0
                     clear p38
                     have qi38 : (0 < ((rdOf ByteArray.empty t136 x7_1).size : Int)) = True := eq_true (of_decide_eq_true (by first | (with_reducible assumption) | assumption))
                     replace q38 := eq_true q38
                     go_wp2_with (first | ((with_reducible refine gate_callee (f := 26) rfl ?_); refine gL (some 73) rfl rfl Tryd.func26 (by kernel_rfl) rfl #[.int .u8 (bt (rdOf ByteArray.empty t136 x7_1) 0)] rfl ?_; (with_reducible refine (spec_l1Read.calls (bt (rdOf ByteArray.empty t136 x7_1) 0) t145 true _ A39.out).mono ?_); rintro e w' ⟨rfl, ⟨nd, rfl⟩⟩; refine ⟨_, rfl, ?_⟩; (try (rw [drewN_self wc]; generalize hq_ : World.drewN wc _ = wc; replace HO_136000 : Aside0 (Kd.R (Kd.int .i64) 3 wc w.heap.size (fun k_ => some k_ ≠ (u136001 : Value).ownBlock ∧ some k_ ≠ (u136002 : Value).ownBlock) u136000 x136000_1) := ⟨by rw [← hq_]; exact (rl HO_136000.out)⟩; replace HO_136001 : Aside0 (Kd.R (Kd.int .i64) 3 wc w.heap.size (fun k_ => some k_ ≠ (u136000 : Value).ownBlock ∧ some k_ ≠ (u136002 : Value).ownBlock) u136001 x136001_1) := ⟨by rw [← hq_]; exact (rl HO_136001.out)⟩; replace HO_136002 : Aside0 (Kd.R (Kd.int .i64) 3 wc w.heap.size (fun k_ => some k_ ≠ (u136000 : Value).ownBlock ∧ some k_ ≠ (u136001 : Value).ownBlock) u136002 x136002_1) := ⟨by rw [← hq_]; exact (rl HO_136002.out)⟩; replace HO_5 : Aside0 (Kd.R Kd.string 9 wc w.heap.size (fun _ => True) (.slice (some ad139) t136.length co16) t136) := ⟨by rw [← hq_]; exact (rl HO_5.out)⟩; replace BK134 : Aside0 (wc.heap[gb134]? = some (.cells #[.slice none 0 0, .slice none 0 0, .slice none 0 0] 24 (0, 0))) := ⟨by rw [← hq_]; exact (kl BK134.out)⟩; replace BK135 : Aside0 (wc.heap[gb135]? = some (.cells #[u136000, u136001, u136002] 24 (0, 0))) := ⟨by rw [← hq_]; exact (kl BK135.out)⟩; replace HB : Aside0 (Below w.heap.size w wc) := ⟨by rw [← hq_]; exact (bs2 GE134.out GE135.out HB.out)⟩; clear hq_)); have p41 : 0 ≤ (1 : Int) := (by omega); have q41 : 1 < (rdOf ByteArray.empty t136 x7_1).size := (by have : (1 : Int) < ((rdOf ByteArray.empty t136 x7_1).size : Int) := of_decide_eq_true (by first | (with_reducible assumption) | assumption); omega); have hx41 : ∀ h : 1 < (rdOf ByteArray.empty t136 x7_1).size, (((rdOf ByteArray.empty t136 x7_1)[1]'h).toNat : Int) = bt (rdOf ByteArray.empty t136 x7_1) 1 := bt_at (rdOf ByteArray.empty t136 x7_1) 1; clear p41; have qi41 : (1 < ((rdOf ByteArray.empty t136 x7_1).size : Int)) = True := eq_true (of_decide_eq_true (by first | (with_reducible assumption) | assumption)); replace q41 := eq_true q41) | ((with_reducible refine gate_callee (f := 26) rfl ?_); refine gL (some 79) rfl rfl Tryd.func26 (by kernel_rfl) rfl #[.int .u8 (bt (rdOf ByteArray.empty t136 x7_1) 1)] rfl ?_; (with_reducible refine (spec_l1Read.calls (bt (rdOf ByteArray.empty t136 x7_1) 1) t147 false _ A42.out).mono ?_); rintro e w' ⟨rfl, ⟨nd, rfl⟩⟩; refine ⟨_, rfl, ?_⟩; (try (rw [drewN_self wc]; generalize hq_ : World.drewN wc _ = wc; replace HO_136000 : Aside0 (Kd.R (Kd.int .i64) 3 wc w.heap.size (fun k_ => some k_ ≠ (u136001 : Value).ownBlock ∧ some k_ ≠ (u136002 : Value).ownBlock) u136000 x136000_1) := ⟨by rw [← hq_]; exact (rl HO_136000.out)⟩; replace HO_136001 : Aside0 (Kd.R (Kd.int .i64) 3 wc w.heap.size (fun k_ => some k_ ≠ (u136000 : Value).ownBlock ∧ some k_ ≠ (u136002 : Value).ownBlock) u136001 x136001_1) := ⟨by rw [← hq_]; exact (rl HO_136001.out)⟩; replace HO_136002 : Aside0 (Kd.R (Kd.int .i64) 3 wc w.heap.size (fun k_ => some k_ ≠ (u136000 : Value).ownBlock ∧ some k_ ≠ (u136001 : Value).ownBlock) u136002 x136002_1) := ⟨by rw [← hq_]; exact (rl HO_136002.out)⟩; replace HO_5 : Aside0 (Kd.R Kd.string 9 wc w.heap.size (fun _ => True) (.slice (some ad139) t136.length co16) t136) := ⟨by rw [← hq_]; exact (rl HO_5.out)⟩; replace BK134 : Aside0 (wc.heap[gb134]? = some (.cells #[.slice none 0 0, .slice none 0 0, .slice none 0 0] 24 (0, 0))) := ⟨by rw [← hq_]; exact (kl BK134.out)⟩; replace BK135 : Aside0 (wc.heap[gb135]? = some (.cells #[u136000, u136001, u136002] 24 (0, 0))) := ⟨by rw [← hq_]; exact (kl BK135.out)⟩; replace HB : Aside0 (Below w.heap.size w wc) := ⟨by rw [← hq_]; exact (bs2 GE134.out GE135.out HB.out)⟩; clear hq_)); have hnb55 := NB134_135.out; have hnc55 := NB135_134.out; obtain ⟨hcz56_0, hcz56_1, hcz56_2, hfz56_0, hfz56_1, hfz56_2⟩ := cf3 BK134))
                     refine bodyPost_ret (results_ct rfl _ _ gb134 24 #[.slice none 0 0, .slice none 0 0, .slice none 0 0] (0, 0) _ rfl (kp3 (kf0 BK134.out)) Tryd.underlying24 rfl (by kernel_rfl)) rfl ?_
                     exact ⟨_, _, _, by first | rfl | (simp [errW_none, errW_some] <;> rfl) | (simp [*, errW_none, errW_some] <;> rfl), by first | exact Kd.R_nil _ _ _ _ _ | exact Kd.N_nil _ _ _ _ _ | exact Kd.V_nil _ _ _ _ _ | exact Kd.Q_nil _ _ _ _ _ | exact Kd.S_nil _ _ _ _ _, by first | exact Kd.R_nil _ _ _ _ _ | exact Kd.N_nil _ _ _ _ _ | exact Kd.V_nil _ _ _ _ _ | exact Kd.Q_nil _ _ _ _ _ | exact Kd.S_nil _ _ _ _ _, by first | exact Kd.R_nil _ _ _ _ _ | exact Kd.N_nil _ _ _ _ _ | exact Kd.V_nil _ _ _ _ _ | exact Kd.Q_nil _ _ _ _ _ | exact Kd.S_nil _ _ _ _ _, by exact bs2 GE134.out GE135.out HB.out⟩
                   ·replace c43 := Bool.eq_false_iff.mpr c43
                    subst c43
                    have H1 : (some (([] : List Int), ([] : List Int), ([] : List Int), false)) = some (r1, r2, r3, r4) := by rw [if_neg (show ¬ (false = true) by decide)] at H; exact H
                    clear H
                    have H := H1
                    clear H1
                    simp only [Option.some.injEq, Prod.mk.injEq] at H
                    obtain ⟨rfl, rfl, rfl, rfl⟩ := H
                    have p38 : 0 ≤ (0 : Int) := (by omega)
                    have q38 : 0 < (rdOf ByteArray.empty t136 x7_1).size := (by have : (0 : Int) < ((rdOf ByteArray.empty t136 x7_1).size : Int) := of_decide_eq_true (by first | (with_reducible assumption) | assumption); omega)
                    have hx38 : ∀ h : 0 < (rdOf ByteArray.empty t136 x7_1).size, (((rdOf ByteArray.empty t136 x7_1)[0]'h).toNat : Int) = bt (rdOf ByteArray.empty t136 x7_1) 0 := bt_at (rdOf ByteArray.empty t136 x7_1) 0
                    clear p38
                    have qi38 : (0 < ((rdOf ByteArray.empty t136 x7_1).size : Int)) = True := eq_true (of_decide_eq_true (by first | (with_reducible assumption) | assumption))
                    replace q38 := eq_true q38
                    go_wp2_with (first | ((with_reducible refine gate_callee (f := 26) rfl ?_); refine gL (some 73) rfl rfl Tryd.func26 (by kernel_rfl) rfl #[.int .u8 (bt (rdOf ByteArray.empty t136 x7_1) 0)] rfl ?_; (with_reducible refine (spec_l1Read.calls (bt (rdOf ByteArray.empty t136 x7_1) 0) t145 false _ A39.out).mono ?_); rintro e w' ⟨rfl, ⟨nd, rfl⟩⟩; refine ⟨_, rfl, ?_⟩; (try (rw [drewN_self wc]; generalize hq_ : World.drewN wc _ = wc; replace HO_136000 : Aside0 (Kd.R (Kd.int .i64) 3 wc w.heap.size (fun k_ => some k_ ≠ (u136001 : Value).ownBlock ∧ some k_ ≠ (u136002 : Value).ownBlock) u136000 x136000_1) := ⟨by rw [← hq_]; exact (rl HO_136000.out)⟩; replace HO_136001 : Aside0 (Kd.R (Kd.int .i64) 3 wc w.heap.size (fun k_ => some k_ ≠ (u136000 : Value).ownBlock ∧ some k_ ≠ (u136002 : Value).ownBlock) u136001 x136001_1) := ⟨by rw [← hq_]; exact (rl HO_136001.out)⟩; replace HO_136002 : Aside0 (Kd.R (Kd.int .i64) 3 wc w.heap.size (fun k_ => some k_ ≠ (u136000 : Value).ownBlock ∧ some k_ ≠ (u136001 : Value).ownBlock) u136002 x136002_1) := ⟨by rw [← hq_]; exact (rl HO_136002.out)⟩; replace HO_5 : Aside0 (Kd.R Kd.string 9 wc w.heap.size (fun _ => True) (.slice (some ad139) t136.length co16) t136) := ⟨by rw [← hq_]; exact (rl HO_5.out)⟩; replace BK134 : Aside0 (wc.heap[gb134]? = some (.cells #[.slice none 0 0, .slice none 0 0, .slice none 0 0] 24 (0, 0))) := ⟨by rw [← hq_]; exact (kl BK134.out)⟩; replace BK135 : Aside0 (wc.heap[gb135]? = some (.cells #[u136000, u136001, u136002] 24 (0, 0))) := ⟨by rw [← hq_]; exact (kl BK135.out)⟩; replace HB : Aside0 (Below w.heap.size w wc) := ⟨by rw [← hq_]; exact (bs2 GE134.out GE135.out HB.out)⟩; clear hq_)); have p41 : 0 ≤ (1 : Int) := (by omega); have q41 : 1 < (rdOf ByteArray.empty t136 x7_1).size := (by have : (1 : Int) < ((rdOf ByteArray.empty t136 x7_1).size : Int) := of_decide_eq_true (by first | (with_reducible assumption) | assumption); omega); have hx41 : ∀ h : 1 < (rdOf ByteArray.empty t136 x7_1).size, (((rdOf ByteArray.empty t136 x7_1)[1]'h).toNat : Int) = bt (rdOf ByteArray.empty t136 x7_1) 1 := bt_at (rdOf ByteArray.empty t136 x7_1) 1; clear p41; have qi41 : (1 < ((rdOf ByteArray.empty t136 x7_1).size : Int)) = True := eq_true (of_decide_eq_true (by first | (with_reducible assumption) | assumption)); replace q41 := eq_true q41) | ((with_reducible refine gate_callee (f := 26) rfl ?_); refine gL (some 79) rfl rfl Tryd.func26 (by kernel_rfl) rfl #[.int .u8 (bt (rdOf ByteArray.empty t136 x7_1) 1)] rfl ?_; (with_reducible refine (spec_l1Read.calls (bt (rdOf ByteArray.empty t136 x7_1) 1) t147 t148 _ A42.out).mono ?_); rintro e w' ⟨rfl, ⟨nd, rfl⟩⟩; refine ⟨_, rfl, ?_⟩; (try (rw [drewN_self wc]; generalize hq_ : World.drewN wc _ = wc; replace HO_136000 : Aside0 (Kd.R (Kd.int .i64) 3 wc w.heap.size (fun k_ => some k_ ≠ (u136001 : Value).ownBlock ∧ some k_ ≠ (u136002 : Value).ownBlock) u136000 x136000_1) := ⟨by rw [← hq_]; exact (rl HO_136000.out)⟩; replace HO_136001 : Aside0 (Kd.R (Kd.int .i64) 3 wc w.heap.size (fun k_ => some k_ ≠ (u136000 : Value).ownBlock ∧ some k_ ≠ (u136002 : Value).ownBlock) u136001 x136001_1) := ⟨by rw [← hq_]; exact (rl HO_136001.out)⟩; replace HO_136002 : Aside0 (Kd.R (Kd.int .i64) 3 wc w.heap.size (fun k_ => some k_ ≠ (u136000 : Value).ownBlock ∧ some k_ ≠ (u136001 : Value).ownBlock) u136002 x136002_1) := ⟨by rw [← hq_]; exact (rl HO_136002.out)⟩; replace HO_5 : Aside0 (Kd.R Kd.string 9 wc w.heap.size (fun _ => True) (.slice (some ad139) t136.length co16) t136) := ⟨by rw [← hq_]; exact (rl HO_5.out)⟩; replace BK134 : Aside0 (wc.heap[gb134]? = some (.cells #[.slice none 0 0, .slice none 0 0, .slice none 0 0] 24 (0, 0))) := ⟨by rw [← hq_]; exact (kl BK134.out)⟩; replace BK135 : Aside0 (wc.heap[gb135]? = some (.cells #[u136000, u136001, u136002] 24 (0, 0))) := ⟨by rw [← hq_]; exact (kl BK135.out)⟩; replace HB : Aside0 (Below w.heap.size w wc) := ⟨by rw [← hq_]; exact (bs2 GE134.out GE135.out HB.out)⟩; clear hq_)); have hnb57 := NB134_135.out; have hnc57 := NB135_134.out; obtain ⟨hcz58_0, hcz58_1, hcz58_2, hfz58_0, hfz58_1, hfz58_2⟩ := cf3 BK134))
                    refine bodyPost_ret (results_ct rfl _ _ gb134 24 #[.slice none 0 0, .slice none 0 0, .slice none 0 0] (0, 0) _ rfl (kp3 (kf0 BK134.out)) Tryd.underlying24 rfl (by kernel_rfl)) rfl ?_
                    exact ⟨_, _, _, by first | rfl | (simp [errW_none, errW_some] <;> rfl) | (simp [*, errW_none, errW_some] <;> rfl), by first | exact Kd.R_nil _ _ _ _ _ | exact Kd.N_nil _ _ _ _ _ | exact Kd.V_nil _ _ _ _ _ | exact Kd.Q_nil _ _ _ _ _ | exact Kd.S_nil _ _ _ _ _, by first | exact Kd.R_nil _ _ _ _ _ | exact Kd.N_nil _ _ _ _ _ | exact Kd.V_nil _ _ _ _ _ | exact Kd.Q_nil _ _ _ _ _ | exact Kd.S_nil _ _ _ _ _, by first | exact Kd.R_nil _ _ _ _ _ | exact Kd.N_nil _ _ _ _ _ | exact Kd.V_nil _ _ _ _ _ | exact Kd.Q_nil _ _ _ _ _ | exact Kd.S_nil _ _ _ _ _, by exact bs2 GE134.out GE135.out HB.out⟩
                  ·rw [if_neg c40] at H
                   exact absurd H (by simp)
                 ·rw [if_neg c37] at H
                  exact absurd H (by simp)
                ·replace c36 := Bool.eq_false_iff.mpr c36
                 subst c36
                 have H1 : (some (([] : List Int), ([] : List Int), ([] : List Int), false)) = some (r1, r2, r3, r4) := by rw [if_neg (show ¬ (false = true) by decide)] at H; exact H
                 clear H
                 have H := H1
                 clear H1
                 simp only [Option.some.injEq, Prod.mk.injEq] at H
                 obtain ⟨rfl, rfl, rfl, rfl⟩ := H
                 have hnb59 := NB134_135.out
                 have hnc59 := NB135_134.out
                 obtain ⟨hcz60_0, hcz60_1, hcz60_2, hfz60_0, hfz60_1, hfz60_2⟩ := cf3 BK134
                 go_wp2
                 refine bodyPost_ret (results_ct rfl _ _ gb134 24 #[.slice none 0 0, .slice none 0 0, .slice none 0 0] (0, 0) _ rfl (kp3 (kf0 BK134.out)) Tryd.underlying24 rfl (by kernel_rfl)) rfl ?_
                 exact ⟨_, _, _, by first | rfl | (simp [errW_none, errW_some] <;> rfl) | (simp [*, errW_none, errW_some] <;> rfl), by first | exact Kd.R_nil _ _ _ _ _ | exact Kd.N_nil _ _ _ _ _ | exact Kd.V_nil _ _ _ _ _ | exact Kd.Q_nil _ _ _ _ _ | exact Kd.S_nil _ _ _ _ _, by first | exact Kd.R_nil _ _ _ _ _ | exact Kd.N_nil _ _ _ _ _ | exact Kd.V_nil _ _ _ _ _ | exact Kd.Q_nil _ _ _ _ _ | exact Kd.S_nil _ _ _ _ _, by first | exact Kd.R_nil _ _ _ _ _ | exact Kd.N_nil _ _ _ _ _ | exact Kd.V_nil _ _ _ _ _ | exact Kd.Q_nil _ _ _ _ _ | exact Kd.S_nil _ _ _ _ _, by exact bs2 GE134.out GE135.out HB.out⟩
       ·rw [if_neg c14] at H
        exact absurd H (by simp)
      ·rw [if_neg c13] at H
       exact absurd H (by simp)
     ·replace c12 := Bool.eq_false_iff.mpr c12
      subst c12
      have H1 : ((spec_HeapValid.f kj7 x136000_1 x136001_1 x136002_1).bind fun t155 => (if t155 = true then ((spec_FormatHeap.f kj7 x136000_1 x136001_1 x136002_1).bind fun t156 => (if t156.toList = a0.toList then (some (x136000_1, x136001_1, x136002_1, true)) else (some (([] : List Int), ([] : List Int), ([] : List Int), false)))) else (some (([] : List Int), ([] : List Int), ([] : List Int), false)))) = some (r1, r2, r3, r4) := by rw [if_neg (show ¬ (false = true) by decide)] at H; exact H
      clear H
      have H := H1
      clear H1
      replace H := Option.bind_eq_some_iff.mp H
      obtain ⟨t155, A610, H⟩ := H
      replace H : (if t155 = true then ((spec_FormatHeap.f kj7 x136000_1 x136001_1 x136002_1).bind fun t156 => (if t156.toList = a0.toList then (some (x136000_1, x136001_1, x136002_1, true)) else (some (([] : List Int), ([] : List Int), ([] : List Int), false)))) else (some (([] : List Int), ([] : List Int), ([] : List Int), false))) = some (r1, r2, r3, r4) := H
      have A61 := am A610
      clear A610
      by_cases c62 : t155 = true
      ·subst c62
       have H1 : ((spec_FormatHeap.f kj7 x136000_1 x136001_1 x136002_1).bind fun t156 => (if t156.toList = a0.toList then (some (x136000_1, x136001_1, x136002_1, true)) else (some (([] : List Int), ([] : List Int), ([] : List Int), false)))) = some (r1, r2, r3, r4) := by rw [if_pos rfl] at H; exact H
       clear H
       have H := H1
       clear H1
       replace H := Option.bind_eq_some_iff.mp H
       obtain ⟨t156, A630, H⟩ := H
       replace H : (if t156.toList = a0.toList then (some (x136000_1, x136001_1, x136002_1, true)) else (some (([] : List Int), ([] : List Int), ([] : List Int), false))) = some (r1, r2, r3, r4) := H
       have A63 := am A630
       clear A630
       by_cases c64 : t156.toList = a0.toList
       ·rw [if_pos c64] at H
        have c64b0 : (t156.toList == a0.toList) = true := beq_iff_eq.mpr c64
        have c64b1 : (t156.toList != a0.toList) = false := bne_eq_false_iff_eq.mpr c64
        clear c64
        simp only [Option.some.injEq, Prod.mk.injEq] at H
        obtain ⟨rfl, rfl, rfl, rfl⟩ := H
        have hnb65 := NB135_134.out
        have hnc65 := NB134_135.out
        obtain ⟨hcz66_0, hcz66_1, hcz66_2, hfz66_0, hfz66_1, hfz66_2⟩ := cf3 BK135
        obtain ⟨Ao67, co67, eo67⟩ := Kd.R_slice HO_136000.out
        subst eo67
        obtain ⟨Ao68, co68, eo68⟩ := Kd.R_slice HO_136001.out
        subst eo68
        obtain ⟨Ao69, co69, eo69⟩ := Kd.R_slice HO_136002.out
        subst eo69
        go_wp2_with (first | ((with_reducible refine gate_callee (f := 20) rfl ?_); refine gL (some 102) rfl rfl Tryd.func20 (by kernel_rfl) rfl #[.agg #[.slice Ao67 x136000_1.length co67, .slice Ao68 x136001_1.length co68, .slice Ao69 x136002_1.length co69]] rfl ?_; (with_reducible refine (spec_HeapValid.calls kj7 _ _ x136000_1 _ _ x136001_1 _ _ x136002_1 true _ ?side1 ?side2 ?side3 ?side4 ?side5 ?side6 A61.out).mono ?_); (case side1 => exact cl ((Kd.R_reads' HO_136000.out).2.2)); (case side2 => exact sc HO_136000); (case side3 => exact cl ((Kd.R_reads' HO_136001.out).2.2)); (case side4 => exact sc HO_136001); (case side5 => exact cl ((Kd.R_reads' HO_136002.out).2.2)); (case side6 => exact sc HO_136002); rintro e w70 ⟨rfl, hb⟩; refine ⟨_, rfl, ?_⟩; replace HO_5 := rb HO_5 hb; replace HO_136000 := rb HO_136000 hb; replace HO_136001 := rb HO_136001 hb; replace HO_136002 := rb HO_136002 hb; replace BK134 := bb BK134 hb; replace BK135 := bb BK135 hb; replace HB := am (below_step (bs2 GE134.out GE135.out HB.out) hb); (try clear hb); obtain ⟨hcz71_0, hcz71_1, hcz71_2, hfz71_0, hfz71_1, hfz71_2⟩ := cf3 BK135) | (go_at_call 19; (with_reducible refine (spec_FormatHeap.calls kj7 _ _ x136000_1 _ _ x136001_1 _ _ x136002_1 t156 _ ?side1 ?side2 ?side3 ?side4 ?side5 ?side6 A63.out).mono ?_); (case side1 => exact cl ((Kd.R_reads' HO_136000.out).2.2)); (case side2 => exact sc HO_136000); (case side3 => exact cl ((Kd.R_reads' HO_136001.out).2.2)); (case side4 => exact sc HO_136001); (case side5 => exact cl ((Kd.R_reads' HO_136002.out).2.2)); (case side6 => exact sc HO_136002); rintro e w72 ⟨rfl, hb⟩; replace HO_5 := rb HO_5 hb; replace HO_136000 := rb HO_136000 hb; replace HO_136001 := rb HO_136001 hb; replace HO_136002 := rb HO_136002 hb; replace BK134 := bb BK134 hb; replace BK135 := bb BK135 hb; replace HB := am (below_step (bs2 GE134.out GE135.out HB.out) hb); (try clear hb); obtain ⟨hcz73_0, hcz73_1, hcz73_2, hfz73_0, hfz73_1, hfz73_2⟩ := cf3 BK135; obtain ⟨hcz74_0, hcz74_1, hcz74_2, hfz74_0, hfz74_1, hfz74_2⟩ := cf3 BK134))
        refine bodyPost_ret (results_ct rfl _ _ gb134 24 #[.slice Ao67 x136000_1.length co67, .slice Ao68 x136001_1.length co68, .slice Ao69 x136002_1.length co69] (0, 0) _ rfl (kp3 (kf0 BK134.out)) Tryd.underlying24 rfl (by kernel_rfl)) rfl ?_
        exact ⟨_, _, _, by first | rfl | (simp [errW_none, errW_some] <;> rfl) | (simp [*, errW_none, errW_some] <;> rfl), by exact ro (rg BK134 HO_136000), by exact ro (rg BK134 HO_136001), by exact ro (rg BK134 HO_136002), by exact bs2 GE134.out GE135.out HB.out⟩
       ·rw [if_neg c64] at H
        have c64b0 : (t156.toList == a0.toList) = false := beq_eq_false_iff_ne.mpr c64
        have c64b1 : (t156.toList != a0.toList) = true := bne_iff_ne.mpr c64
        simp only [Option.some.injEq, Prod.mk.injEq] at H
        obtain ⟨rfl, rfl, rfl, rfl⟩ := H
        have hnb75 := NB135_134.out
        have hnc75 := NB134_135.out
        obtain ⟨hcz76_0, hcz76_1, hcz76_2, hfz76_0, hfz76_1, hfz76_2⟩ := cf3 BK135
        obtain ⟨Ao77, co77, eo77⟩ := Kd.R_slice HO_136000.out
        subst eo77
        obtain ⟨Ao78, co78, eo78⟩ := Kd.R_slice HO_136001.out
        subst eo78
        obtain ⟨Ao79, co79, eo79⟩ := Kd.R_slice HO_136002.out
        subst eo79
        go_wp2_with (first | ((with_reducible refine gate_callee (f := 20) rfl ?_); refine gL (some 102) rfl rfl Tryd.func20 (by kernel_rfl) rfl #[.agg #[.slice Ao77 x136000_1.length co77, .slice Ao78 x136001_1.length co78, .slice Ao79 x136002_1.length co79]] rfl ?_; (with_reducible refine (spec_HeapValid.calls kj7 _ _ x136000_1 _ _ x136001_1 _ _ x136002_1 true _ ?side1 ?side2 ?side3 ?side4 ?side5 ?side6 A61.out).mono ?_); (case side1 => exact cl ((Kd.R_reads' HO_136000.out).2.2)); (case side2 => exact sc HO_136000); (case side3 => exact cl ((Kd.R_reads' HO_136001.out).2.2)); (case side4 => exact sc HO_136001); (case side5 => exact cl ((Kd.R_reads' HO_136002.out).2.2)); (case side6 => exact sc HO_136002); rintro e w80 ⟨rfl, hb⟩; refine ⟨_, rfl, ?_⟩; replace HO_5 := rb HO_5 hb; replace HO_136000 := rb HO_136000 hb; replace HO_136001 := rb HO_136001 hb; replace HO_136002 := rb HO_136002 hb; replace BK134 := bb BK134 hb; replace BK135 := bb BK135 hb; replace HB := am (below_step (bs2 GE134.out GE135.out HB.out) hb); (try clear hb); obtain ⟨hcz81_0, hcz81_1, hcz81_2, hfz81_0, hfz81_1, hfz81_2⟩ := cf3 BK135) | (go_at_call 19; (with_reducible refine (spec_FormatHeap.calls kj7 _ _ x136000_1 _ _ x136001_1 _ _ x136002_1 t156 _ ?side1 ?side2 ?side3 ?side4 ?side5 ?side6 A63.out).mono ?_); (case side1 => exact cl ((Kd.R_reads' HO_136000.out).2.2)); (case side2 => exact sc HO_136000); (case side3 => exact cl ((Kd.R_reads' HO_136001.out).2.2)); (case side4 => exact sc HO_136001); (case side5 => exact cl ((Kd.R_reads' HO_136002.out).2.2)); (case side6 => exact sc HO_136002); rintro e w82 ⟨rfl, hb⟩; replace HO_5 := rb HO_5 hb; replace HO_136000 := rb HO_136000 hb; replace HO_136001 := rb HO_136001 hb; replace HO_136002 := rb HO_136002 hb; replace BK134 := bb BK134 hb; replace BK135 := bb BK135 hb; replace HB := am (below_step (bs2 GE134.out GE135.out HB.out) hb); (try clear hb); obtain ⟨hcz83_0, hcz83_1, hcz83_2, hfz83_0, hfz83_1, hfz83_2⟩ := cf3 BK134))
        refine bodyPost_ret (results_ct rfl _ _ gb134 24 #[.slice none 0 0, .slice none 0 0, .slice none 0 0] (0, 0) _ rfl (kp3 (kf0 BK134.out)) Tryd.underlying24 rfl (by kernel_rfl)) rfl ?_
        exact ⟨_, _, _, by first | rfl | (simp [errW_none, errW_some] <;> rfl) | (simp [*, errW_none, errW_some] <;> rfl), by first | exact Kd.R_nil _ _ _ _ _ | exact Kd.N_nil _ _ _ _ _ | exact Kd.V_nil _ _ _ _ _ | exact Kd.Q_nil _ _ _ _ _ | exact Kd.S_nil _ _ _ _ _, by first | exact Kd.R_nil _ _ _ _ _ | exact Kd.N_nil _ _ _ _ _ | exact Kd.V_nil _ _ _ _ _ | exact Kd.Q_nil _ _ _ _ _ | exact Kd.S_nil _ _ _ _ _, by first | exact Kd.R_nil _ _ _ _ _ | exact Kd.N_nil _ _ _ _ _ | exact Kd.V_nil _ _ _ _ _ | exact Kd.Q_nil _ _ _ _ _ | exact Kd.S_nil _ _ _ _ _, by exact bs2 GE134.out GE135.out HB.out⟩
      ·replace c62 := Bool.eq_false_iff.mpr c62
       subst c62
       have H1 : (some (([] : List Int), ([] : List Int), ([] : List Int), false)) = some (r1, r2, r3, r4) := by rw [if_neg (show ¬ (false = true) by decide)] at H; exact H
       clear H
       have H := H1
       clear H1
       simp only [Option.some.injEq, Prod.mk.injEq] at H
       obtain ⟨rfl, rfl, rfl, rfl⟩ := H
       have hnb84 := NB135_134.out
       have hnc84 := NB134_135.out
       obtain ⟨hcz85_0, hcz85_1, hcz85_2, hfz85_0, hfz85_1, hfz85_2⟩ := cf3 BK135
       obtain ⟨Ao86, co86, eo86⟩ := Kd.R_slice HO_136000.out
       subst eo86
       obtain ⟨Ao87, co87, eo87⟩ := Kd.R_slice HO_136001.out
       subst eo87
       obtain ⟨Ao88, co88, eo88⟩ := Kd.R_slice HO_136002.out
       subst eo88
       go_wp2_with (first | ((with_reducible refine gate_callee (f := 20) rfl ?_); refine gL (some 102) rfl rfl Tryd.func20 (by kernel_rfl) rfl #[.agg #[.slice Ao86 x136000_1.length co86, .slice Ao87 x136001_1.length co87, .slice Ao88 x136002_1.length co88]] rfl ?_; (with_reducible refine (spec_HeapValid.calls kj7 _ _ x136000_1 _ _ x136001_1 _ _ x136002_1 false _ ?side1 ?side2 ?side3 ?side4 ?side5 ?side6 A61.out).mono ?_); (case side1 => exact cl ((Kd.R_reads' HO_136000.out).2.2)); (case side2 => exact sc HO_136000); (case side3 => exact cl ((Kd.R_reads' HO_136001.out).2.2)); (case side4 => exact sc HO_136001); (case side5 => exact cl ((Kd.R_reads' HO_136002.out).2.2)); (case side6 => exact sc HO_136002); rintro e w89 ⟨rfl, hb⟩; refine ⟨_, rfl, ?_⟩; replace HO_5 := rb HO_5 hb; replace HO_136000 := rb HO_136000 hb; replace HO_136001 := rb HO_136001 hb; replace HO_136002 := rb HO_136002 hb; replace BK134 := bb BK134 hb; replace BK135 := bb BK135 hb; replace HB := am (below_step (bs2 GE134.out GE135.out HB.out) hb); (try clear hb); obtain ⟨hcz90_0, hcz90_1, hcz90_2, hfz90_0, hfz90_1, hfz90_2⟩ := cf3 BK134))
       refine bodyPost_ret (results_ct rfl _ _ gb134 24 #[.slice none 0 0, .slice none 0 0, .slice none 0 0] (0, 0) _ rfl (kp3 (kf0 BK134.out)) Tryd.underlying24 rfl (by kernel_rfl)) rfl ?_
       exact ⟨_, _, _, by first | rfl | (simp [errW_none, errW_some] <;> rfl) | (simp [*, errW_none, errW_some] <;> rfl), by first | exact Kd.R_nil _ _ _ _ _ | exact Kd.N_nil _ _ _ _ _ | exact Kd.V_nil _ _ _ _ _ | exact Kd.Q_nil _ _ _ _ _ | exact Kd.S_nil _ _ _ _ _, by first | exact Kd.R_nil _ _ _ _ _ | exact Kd.N_nil _ _ _ _ _ | exact Kd.V_nil _ _ _ _ _ | exact Kd.Q_nil _ _ _ _ _ | exact Kd.S_nil _ _ _ _ _, by first | exact Kd.R_nil _ _ _ _ _ | exact Kd.N_nil _ _ _ _ _ | exact Kd.V_nil _ _ _ _ _ | exact Kd.Q_nil _ _ _ _ _ | exact Kd.S_nil _ _ _ _ _, by exact bs2 GE134.out GE135.out HB.out⟩

end Go.Proofs.YtomeaapjjmaepaaDoor.A
