/- Contracts of functions of the given program (ASpecL1Wrong). No conditions beyond those stated. -/
import Derived.Test.YtomeaapjjmaepaaDoorA0
import Derived.Test.YtomeaapjjmaepaaDoorASpecL13RdNum
import Derived.Test.YtomeaapjjmaepaaDoorASpecL13RdPick
import Derived.Test.YtomeaapjjmaepaaDoorASpecL1Copy
import Derived.Test.YtomeaapjjmaepaaDoorAState
import Derived.Test.YtomeaapjjmaepaaDoorA0
namespace Go.Proofs.YtomeaapjjmaepaaDoor.A
open Go.RowKit Go.Proofs.YtomeaapjjmaepaaDoorW.PrintWords Go.Proofs.YtomeaapjjmaepaaDoorW.PrintLast Go.Proofs.YtomeaapjjmaepaaDoorW.PrintMore
attribute [local go_sem] max2_int min2_int max_two min_two max_three min_three max_four min_four   -- for this text's walks alone
set_option linter.unusedVariables false
set_option linter.unusedSimpArgs false

/-! ### spec_l1Wrong -/
def spec_l1Wrong.j0 : Nat → List Int → Int → List Int → List Int → List Int → Option (List Int × List Int × List Int × Int)
 | 0, _, _, _, _, _ => none
 | k + 1, x1000, x1001, x416000, x416001, x416002 => some (x416000, x416001, x416002, x1001)
def spec_l1Wrong.f (k : Nat) (s0_0 : List Int) (s0_1 : Int) (l1_0 : List Int) (l1_1 : List Int) (l1_2 : List Int) : Option (List Int × List Int × List Int × Int) := (spec_l1Copy.f l1_0 l1_1 l1_2).bind fun bt406 => ((spec_l13Rd_pick.f k s0_0 s0_1 20).bind fun bt416 => (if bt416.1 = 0 then ((spec_l13Rd_pick.f k s0_0 bt416.2 (bt406.1.length : Int)).bind fun bt418 => ((spec_l13Rd_num.f k s0_0 bt418.2 (([(-2), 8, 0] : List Int))).bind fun bt423 => (if 0 ≤ bt418.1 then (if bt418.1 < (bt406.1.length : Int) then (spec_l1Wrong.j0 k s0_0 bt423.2 (bt406.1.set (bt418.1 : Int).toNat bt423.1) bt406.2.1 bt406.2.2) else (none)) else (none)))) else (if bt416.1 = 1 then (if bt406.2.1.length < 17592186044416 then (spec_l1Wrong.j0 k s0_0 bt416.2 bt406.1 (bt406.2.1 ++ [(-1)]) bt406.2.2) else (none)) else (if bt416.1 = 2 then ((spec_l13Rd_num.f k s0_0 bt416.2 (([0, (-1), 9] : List Int))).bind fun bt432 => (if bt406.2.2.length < 17592186044416 then (spec_l1Wrong.j0 k s0_0 bt432.2 bt406.1 bt406.2.1 (bt406.2.2 ++ [bt432.1])) else (none))) else (if bt416.1 = 3 then (spec_l1Wrong.j0 k s0_0 bt416.2 bt406.1 bt406.2.1 (([] : List Int))) else (spec_l1Wrong.j0 k s0_0 bt416.2 bt406.1 bt406.2.1 bt406.2.2))))))
theorem spec_l1Wrong.mono_l : ∀ k, (∀ y0 y1 y2 y3 y4, LeO (spec_l1Wrong.j0 k y0 y1 y2 y3 y4) (spec_l1Wrong.j0 (k + 1) y0 y1 y2 y3 y4))
 | 0 => fun _ _ _ _ _ r h => by simp [spec_l1Wrong.j0] at h
 | k + 1 => by
  have ih0 := spec_l1Wrong.mono_l k
  ·intro y0 y1 y2 y3 y4
   unfold spec_l1Wrong.j0
   repeat' first
   | (with_reducible exact ih0 _ _ _ _ _)
   | (with_reducible exact spec_l13Rd_num.mono _ _ _ _)
   | (with_reducible exact spec_l13Rd_pick.mono _ _ _ _)
   | (with_reducible exact LeO.refl _)
   | (with_reducible exact LeO.none _)
   | (with_reducible refine LeO.ite ?_ ?_)
   | (with_reducible refine LeO.bind ?_ (fun _ => ?_))
   | exact ih0 _ _ _ _ _
   | exact spec_l13Rd_num.mono _ _ _ _
   | exact spec_l13Rd_pick.mono _ _ _ _
   | exact LeO.none _
   | refine LeO.ite ?_ ?_
   | refine LeO.bind ?_ (fun _ => ?_)
theorem spec_l1Wrong.mono : ∀ a0 a1 a2 a3 a4 k, LeO (spec_l1Wrong.f k a0 a1 a2 a3 a4) (spec_l1Wrong.f (k + 1) a0 a1 a2 a3 a4) := by
 intro a0 a1 a2 a3 a4 k
 have ih0 := spec_l1Wrong.mono_l k
 unfold spec_l1Wrong.f
 repeat' first
   | (with_reducible exact ih0 _ _ _ _ _)
   | (with_reducible exact spec_l13Rd_num.mono _ _ _ _)
   | (with_reducible exact spec_l13Rd_pick.mono _ _ _ _)
   | (with_reducible exact LeO.refl _)
   | (with_reducible exact LeO.none _)
   | (with_reducible refine LeO.ite ?_ ?_)
   | (with_reducible refine LeO.bind ?_ (fun _ => ?_))
   | exact ih0 _ _ _ _ _
   | exact spec_l13Rd_num.mono _ _ _ _
   | exact spec_l13Rd_pick.mono _ _ _ _
   | exact LeO.none _
   | refine LeO.ite ?_ ?_
   | refine LeO.bind ?_ (fun _ => ?_)
def spec_l1Wrong.T4 : Bool × List (List Nat × List Nat) := (true, [([], []), ([0], [0]), ([], []), ([], []), ([3], [3]), ([4], [4]), ([2, 5], [2, 5]), ([], []), ([], []), ([7, 8, 6], [7, 8]), ([1, 6, 0, 1, 2, 3, 4, 5, 6, 7, 8, 9], [1, 6]), ([10, 9, 9, 0, 1, 2, 3, 4, 5, 6, 7, 8, 9], [9, 10])])
def spec_l1Wrong.B4 : List Nat := [0, 1, 0, 0, 8, 24, 60, 0, 0, 508, 1023, 2047]
theorem spec_l1Wrong.tab4 : rtab .any (opsOf Tryd.f41 4) = spec_l1Wrong.T4 := by kernel_rfl
theorem spec_l1Wrong.bits4 : waitsOk spec_l1Wrong.T4.2 spec_l1Wrong.B4 = true := by kernel_rfl
def spec_l1Wrong.T8 : Bool × List (List Nat × List Nat) := (true, [([], []), ([0], [0]), ([], []), ([], []), ([2, 3], [2, 3]), ([4], [4]), ([1, 5, 4], [1, 5]), ([0, 1, 2, 3, 4, 5, 6], []), ([7, 6, 6, 0, 1, 2, 3, 4, 5, 6], [6, 7])])
def spec_l1Wrong.B8 : List Nat := [0, 1, 0, 0, 12, 28, 63, 127, 255]
theorem spec_l1Wrong.tab8 : rtab .any (opsOf Tryd.f41 8) = spec_l1Wrong.T8 := by kernel_rfl
theorem spec_l1Wrong.bits8 : waitsOk spec_l1Wrong.T8.2 spec_l1Wrong.B8 = true := by kernel_rfl
set_option maxHeartbeats 8000000 in
set_option maxRecDepth 100000 in
theorem spec_l1Wrong.calls (k : Nat) (g : Nat) (s0_0 : List Int) (s0_1 : Int) (A1_0 : Option Addr) (c1_0 : Nat) (l1_0 : List Int) (A1_1 : Option Addr) (c1_1 : Nat) (l1_1 : List Int) (A1_2 : Option Addr) (c1_2 : Nat) (l1_2 : List Int) (r1 : List Int) (r2 : List Int) (r3 : List Int) (r4 : Int) (w0 w : World) (hI : IsS63 w0 w g s0_0 s0_1) (hB : Below w0.heap.size w0 w) (hr1_0 : Kd.C (Kd.int .i64) w A1_0 l1_0.length l1_0) (hc1_0 : l1_0.length ≤ c1_0) (hf1_0 : ∀ ad, A1_0 = some ad → 0 < l1_0.length → ad.block ≠ g) (hr1_1 : Kd.C (Kd.int .i64) w A1_1 l1_1.length l1_1) (hc1_1 : l1_1.length ≤ c1_1) (hf1_1 : ∀ ad, A1_1 = some ad → 0 < l1_1.length → ad.block ≠ g) (hr1_2 : Kd.C (Kd.int .i64) w A1_2 l1_2.length l1_2) (hc1_2 : l1_2.length ≤ c1_2) (hf1_2 : ∀ ad, A1_2 = some ad → 0 < l1_2.length → ad.block ≠ g) (h : spec_l1Wrong.f k s0_0 s0_1 l1_0 l1_1 l1_2 = some (r1, r2, r3, r4)) :
  Calls Tryd.prog 41 #[.pointer (some ⟨g, 0, none⟩), .agg #[.slice A1_0 l1_0.length c1_0, .slice A1_1 l1_1.length c1_1, .slice A1_2 l1_2.length c1_2]] w fun e w' => ∃ v0_ v1_ v2_ : Value, e = .returned (.agg #[v0_, v1_, v2_]) ∧ Kd.R (Kd.int .i64) 3 w' w.heap.size (fun k_ => some k_ ≠ (v1_ : Value).ownBlock ∧ some k_ ≠ (v2_ : Value).ownBlock) v0_ r1 ∧ Kd.R (Kd.int .i64) 3 w' w.heap.size (fun k_ => some k_ ≠ (v0_ : Value).ownBlock ∧ some k_ ≠ (v2_ : Value).ownBlock) v1_ r2 ∧ Kd.R (Kd.int .i64) 3 w' w.heap.size (fun k_ => some k_ ≠ (v0_ : Value).ownBlock ∧ some k_ ≠ (v1_ : Value).ownBlock) v2_ r3 ∧ IsS63 w0 w' g s0_0 r4 ∧ Below w0.heap.size w0 w' ∧ KeepBut w w' g none := by
 have hu24 := Tryd.underlying24
 have HR1_0 := am hr1_0
 have HC1_0 := am hc1_0
 clear hr1_0 hc1_0
 have HR1_1 := am hr1_1
 have HC1_1 := am hc1_1
 clear hr1_1 hc1_1
 have HR1_2 := am hr1_2
 have HC1_2 := am hc1_2
 clear hr1_2 hc1_2
 have HI0 := am hI
 have HK := am (KeepBut.refl w g none)
 have HL := am hB.size
 clear hI
 have HW0 := am hB.size
 have HB := am hB
 clear hB
 have H : ((spec_l1Copy.f l1_0 l1_1 l1_2).bind fun bt406 => ((spec_l13Rd_pick.f k s0_0 s0_1 20).bind fun bt416 => (if bt416.1 = 0 then ((spec_l13Rd_pick.f k s0_0 bt416.2 (bt406.1.length : Int)).bind fun bt418 => ((spec_l13Rd_num.f k s0_0 bt418.2 (([(-2), 8, 0] : List Int))).bind fun bt423 => (if 0 ≤ bt418.1 then (if bt418.1 < (bt406.1.length : Int) then (spec_l1Wrong.j0 k s0_0 bt423.2 (bt406.1.set (bt418.1 : Int).toNat bt423.1) bt406.2.1 bt406.2.2) else (none)) else (none)))) else (if bt416.1 = 1 then (if bt406.2.1.length < 17592186044416 then (spec_l1Wrong.j0 k s0_0 bt416.2 bt406.1 (bt406.2.1 ++ [(-1)]) bt406.2.2) else (none)) else (if bt416.1 = 2 then ((spec_l13Rd_num.f k s0_0 bt416.2 (([0, (-1), 9] : List Int))).bind fun bt432 => (if bt406.2.2.length < 17592186044416 then (spec_l1Wrong.j0 k s0_0 bt432.2 bt406.1 bt406.2.1 (bt406.2.2 ++ [bt432.1])) else (none))) else (if bt416.1 = 3 then (spec_l1Wrong.j0 k s0_0 bt416.2 bt406.1 bt406.2.1 (([] : List Int))) else (spec_l1Wrong.j0 k s0_0 bt416.2 bt406.1 bt406.2.1 bt406.2.2))))))) = some (r1, r2, r3, r4) := h
 clear h
 replace H := Option.bind_eq_some_iff.mp H
 obtain ⟨⟨t406, t409, t412⟩, A30, H⟩ := H
 replace H : ((spec_l13Rd_pick.f k s0_0 s0_1 20).bind fun bt416 => (if bt416.1 = 0 then ((spec_l13Rd_pick.f k s0_0 bt416.2 (t406.length : Int)).bind fun bt418 => ((spec_l13Rd_num.f k s0_0 bt418.2 (([(-2), 8, 0] : List Int))).bind fun bt423 => (if 0 ≤ bt418.1 then (if bt418.1 < (t406.length : Int) then (spec_l1Wrong.j0 k s0_0 bt423.2 (t406.set (bt418.1 : Int).toNat bt423.1) t409 t412) else (none)) else (none)))) else (if bt416.1 = 1 then (if t409.length < 17592186044416 then (spec_l1Wrong.j0 k s0_0 bt416.2 t406 (t409 ++ [(-1)]) t412) else (none)) else (if bt416.1 = 2 then ((spec_l13Rd_num.f k s0_0 bt416.2 (([0, (-1), 9] : List Int))).bind fun bt432 => (if t412.length < 17592186044416 then (spec_l1Wrong.j0 k s0_0 bt432.2 t406 t409 (t412 ++ [bt432.1])) else (none))) else (if bt416.1 = 3 then (spec_l1Wrong.j0 k s0_0 bt416.2 t406 t409 (([] : List Int))) else (spec_l1Wrong.j0 k s0_0 bt416.2 t406 t409 t412)))))) = some (r1, r2, r3, r4) := H
 have A3 := am A30
 clear A30
 replace H := Option.bind_eq_some_iff.mp H
 obtain ⟨⟨t416, t417⟩, A40, H⟩ := H
 replace H : (if t416 = 0 then ((spec_l13Rd_pick.f k s0_0 t417 (t406.length : Int)).bind fun bt418 => ((spec_l13Rd_num.f k s0_0 bt418.2 (([(-2), 8, 0] : List Int))).bind fun bt423 => (if 0 ≤ bt418.1 then (if bt418.1 < (t406.length : Int) then (spec_l1Wrong.j0 k s0_0 bt423.2 (t406.set (bt418.1 : Int).toNat bt423.1) t409 t412) else (none)) else (none)))) else (if t416 = 1 then (if t409.length < 17592186044416 then (spec_l1Wrong.j0 k s0_0 t417 t406 (t409 ++ [(-1)]) t412) else (none)) else (if t416 = 2 then ((spec_l13Rd_num.f k s0_0 t417 (([0, (-1), 9] : List Int))).bind fun bt432 => (if t412.length < 17592186044416 then (spec_l1Wrong.j0 k s0_0 bt432.2 t406 t409 (t412 ++ [bt432.1])) else (none))) else (if t416 = 3 then (spec_l1Wrong.j0 k s0_0 t417 t406 t409 (([] : List Int))) else (spec_l1Wrong.j0 k s0_0 t417 t406 t409 t412))))) = some (r1, r2, r3, r4) := H
 have A4 := am A40
 clear A40
 have HC5 := am H
 clear H
 go_enter Tryd.func41, Tryd.ntmps41
 go_upto_block 0 with (first | ((with_reducible refine gate_dst (N := 3) rfl ?_); refine box_event ?hg (N := 3) ?hd (cs := #[.slice A1_0 l1_0.length c1_0, .slice A1_1 l1_1.length c1_1, .slice A1_2 l1_2.length c1_2]) (t := 24) ?hr ?_; (case hd => rfl); (case hg => rfl); (case hr => first | (go_simp; done) | (go_simp; rfl)); intro gb404 hg w6 hbox hb; replace HB := am (below_step (bs1 (IsS63.ge HI0.out) HB.out) hb); have BK404 := am (hbox); have GW404 := am ((by rw [hg]; exact (keep_size (w := w) (g := g) (row := none) (ks0 HK.out)) : w.heap.size ≤ gb404)); have GE404 := am ((Nat.le_trans HW0.out (by rw [hg]; exact (keep_size (w := w) (g := g) (row := none) (ks0 HK.out)) : w.heap.size ≤ gb404) : w0.heap.size ≤ gb404)); replace HK := am (KeepBut.trans (ks0 HK.out) (KeepBut.of_below hb g none) (.inl rfl)); have NB0_404 := am ((by rw [hg]; exact Nat.ne_of_lt (IsS63.lt (show IsS63 w0 _ g s0_0 s0_1 from by exact is63_0 HI0.out)) : g ≠ gb404)); have NB404_0 := am ((by rw [hg]; exact Nat.ne_of_gt (IsS63.lt (show IsS63 w0 _ g s0_0 s0_1 from by exact is63_0 HI0.out)) : gb404 ≠ g)); replace HI0 := am (IsS63.below (is63_0 HI0.out) hb); clear hb hbox hg) | ((with_reducible refine gate_dst (N := 4) rfl ?_); refine box_event ?hg (N := 4) ?hd (cs := #[.slice none 0 0, .slice none 0 0, .slice none 0 0]) (t := 24) ?hr ?_; (case hd => rfl); (case hg => rfl); (case hr => first | (go_simp; done) | (go_simp; rfl)); intro gb405 hg w7 hbox hb; replace HB := am (below_step (bs2 (IsS63.ge HI0.out) GE404.out HB.out) hb); have BK405 := am (hbox); have GW405 := am ((by rw [hg]; exact (keep_size (w := w) (g := g) (row := none) (ks1 GW404.out HK.out)) : w.heap.size ≤ gb405)); have GE405 := am ((Nat.le_trans HW0.out (by rw [hg]; exact (keep_size (w := w) (g := g) (row := none) (ks1 GW404.out HK.out)) : w.heap.size ≤ gb405) : w0.heap.size ≤ gb405)); replace HK := am (KeepBut.trans (ks1 GW404.out HK.out) (KeepBut.of_below hb g none) (.inl rfl)); have NB404_405 := nb BK404 hg; have NB405_404 := nc BK404 hg; replace BK404 := bb BK404 hb; have NB0_405 := am ((by rw [hg]; exact Nat.ne_of_lt (IsS63.lt (show IsS63 w0 _ g s0_0 s0_1 from by exact is63_1 NB0_404.out HI0.out)) : g ≠ gb405)); have NB405_0 := am ((by rw [hg]; exact Nat.ne_of_gt (IsS63.lt (show IsS63 w0 _ g s0_0 s0_1 from by exact is63_1 NB0_404.out HI0.out)) : gb405 ≠ g)); replace HI0 := am (IsS63.below (is63_1 NB0_404.out HI0.out) hb); clear hb hbox hg; have hnb8 := NB404_405.out; have hnc8 := NB405_404.out; have hnb9 := NB404_0.out; have hnc9 := NB0_404.out; obtain ⟨hcz10_0, hcz10_1, hcz10_2, hfz10_0, hfz10_1, hfz10_2⟩ := cf3 BK404) | ((with_reducible refine gate_callee (f := 50) rfl ?_); refine gL (some 7) rfl rfl Tryd.func50 (by kernel_rfl) rfl #[.agg #[.slice A1_0 l1_0.length c1_0, .slice A1_1 l1_1.length c1_1, .slice A1_2 l1_2.length c1_2]] rfl ?_; (with_reducible refine (spec_l1Copy.calls _ _ l1_0 _ _ l1_1 _ _ l1_2 t406 t409 t412 _ ?side1 ?side2 ?side3 ?side4 ?side5 ?side6 A3.out).mono ?_); (case side1 => exact Kd.C_keep 0 HR1_0.out (ks2 GW404.out GW405.out HK.out) hf1_0); (case side2 => exact HC1_0.out); (case side3 => exact Kd.C_keep 0 HR1_1.out (ks2 GW404.out GW405.out HK.out) hf1_1); (case side4 => exact HC1_1.out); (case side5 => exact Kd.C_keep 0 HR1_2.out (ks2 GW404.out GW405.out HK.out) hf1_2); (case side6 => exact HC1_2.out); rintro e w11 ⟨v407, v410, v413, rfl, ho0, ho1, ho2, hb⟩; refine ⟨_, rfl, ?_⟩; have HO408 := am (Kd.R_lower ho0 (keep_size (w := w) (g := g) (row := none) (ks2 GW404.out GW405.out HK.out))); have HO411 := am (Kd.R_lower ho1 (keep_size (w := w) (g := g) (row := none) (ks2 GW404.out GW405.out HK.out))); have HO414 := am (Kd.R_lower ho2 (keep_size (w := w) (g := g) (row := none) (ks2 GW404.out GW405.out HK.out))); replace BK404 := bb BK404 hb; replace BK405 := bb BK405 hb; replace HK := am (KeepBut.trans (ks2 GW404.out GW405.out HK.out) (KeepBut.of_below hb g none) (.inl rfl)); replace HB := am (below_step (bs3 (IsS63.ge HI0.out) GE404.out GE405.out HB.out) hb); replace HI0 := am (IsS63.below (is63_2 NB0_404.out NB0_405.out HI0.out) hb); (try clear hb ho0 ho1 ho2)) | ((with_reducible refine gate_dst (N := 5) rfl ?_); refine box_event ?hg (N := 5) ?hd (cs := #[.slice none 0 0, .slice none 0 0, .slice none 0 0]) (t := 24) ?hr ?_; (case hd => rfl); (case hg => rfl); (case hr => first | (go_simp; done) | (go_simp; rfl)); intro gb415 hg w12 hbox hb; replace HO408 := rb HO408 hb; replace HO411 := rb HO411 hb; replace HO414 := rb HO414 hb; replace HB := am (below_step (bs3 (IsS63.ge HI0.out) GE404.out GE405.out HB.out) hb); have BK415 := am (hbox); have GW415 := am ((by rw [hg]; exact (keep_size (w := w) (g := g) (row := none) (ks2 GW404.out GW405.out HK.out)) : w.heap.size ≤ gb415)); have GE415 := am ((Nat.le_trans HW0.out (by rw [hg]; exact (keep_size (w := w) (g := g) (row := none) (ks2 GW404.out GW405.out HK.out)) : w.heap.size ≤ gb415) : w0.heap.size ≤ gb415)); replace HK := am (KeepBut.trans (ks2 GW404.out GW405.out HK.out) (KeepBut.of_below hb g none) (.inl rfl)); have NB404_415 := nb BK404 hg; have NB415_404 := nc BK404 hg; replace BK404 := bb BK404 hb; have NB405_415 := nb BK405 hg; have NB415_405 := nc BK405 hg; replace BK405 := bb BK405 hb; have NB0_415 := am ((by rw [hg]; exact Nat.ne_of_lt (IsS63.lt (show IsS63 w0 _ g s0_0 s0_1 from by exact is63_2 NB0_404.out NB0_405.out HI0.out)) : g ≠ gb415)); have NB415_0 := am ((by rw [hg]; exact Nat.ne_of_gt (IsS63.lt (show IsS63 w0 _ g s0_0 s0_1 from by exact is63_2 NB0_404.out NB0_405.out HI0.out)) : gb415 ≠ g)); replace HI0 := am (IsS63.below (is63_2 NB0_404.out NB0_405.out HI0.out) hb); clear hb hbox hg; obtain ⟨Ao13, co13, eo13⟩ := Kd.R_slice HO408.out; subst eo13; have hnb14 := NB415_404.out; have hnc14 := NB404_415.out; have hnb15 := NB415_405.out; have hnc15 := NB405_415.out; have hnb16 := NB415_0.out; have hnc16 := NB0_415.out; obtain ⟨hcz17_0, hcz17_1, hcz17_2, hfz17_0, hfz17_1, hfz17_2⟩ := cf3 BK415; obtain ⟨Ao18, co18, eo18⟩ := Kd.R_slice HO411.out; subst eo18; obtain ⟨Ao19, co19, eo19⟩ := Kd.R_slice HO414.out; subst eo19) | ((with_reducible refine gate_callee (f := 34) rfl ?_); refine gL (some 9) rfl rfl Tryd.func34 (by kernel_rfl) rfl #[.pointer (some ⟨g, 0, none⟩), .int .i64 20] rfl ?_; (with_reducible refine (spec_l13Rd_pick.calls k g s0_0 s0_1 20 t416 t417 w0 _ ?side1 ?side2 A4.out).mono ?_); (case side1 => exact is63_3 NB0_404.out NB0_405.out NB0_415.out HI0.out); (case side2 => exact bs4 (IsS63.ge HI0.out) GE404.out GE405.out GE415.out HB.out); rintro e w20 ⟨rfl, hi, hb, hk⟩; refine ⟨_, rfl, ?_⟩; replace BK404 := am (KeepBut.blk hk (g' := gb404) (o := .cells #[.slice A1_0 l1_0.length c1_0, .slice A1_1 l1_1.length c1_1, .slice A1_2 l1_2.length c1_2] 24 (0, 0)) (kf1 NB404_415.out BK404.out) NB404_0.out (by simp)); replace BK405 := am (KeepBut.blk hk (g' := gb405) (o := .cells #[.slice none 0 0, .slice none 0 0, .slice none 0 0] 24 (0, 0)) (kf1 NB405_415.out BK405.out) NB405_0.out (by simp)); replace HO408 := am (Kd.R_mono (Kd.R_keep (IsS63.apart (show IsS63 w0 _ g s0_0 s0_1 from by exact is63_3 NB0_404.out NB0_405.out NB0_415.out HI0.out) (rg BK415 HO408) (by decide)) hk (fun _ h => h.2)) (fun _ h => h.1)); replace HO411 := am (Kd.R_mono (Kd.R_keep (IsS63.apart (show IsS63 w0 _ g s0_0 s0_1 from by exact is63_3 NB0_404.out NB0_405.out NB0_415.out HI0.out) (rg BK415 HO411) (by decide)) hk (fun _ h => h.2)) (fun _ h => h.1)); replace HO414 := am (Kd.R_mono (Kd.R_keep (IsS63.apart (show IsS63 w0 _ g s0_0 s0_1 from by exact is63_3 NB0_404.out NB0_405.out NB0_415.out HI0.out) (rg BK415 HO414) (by decide)) hk (fun _ h => h.2)) (fun _ h => h.1)); replace BK415 := am (KeepBut.blk hk (g' := gb415) (o := .cells #[.slice Ao13 t406.length co13, .slice Ao18 t409.length co18, .slice Ao19 t412.length co19] 24 (0, 0)) (kp3 (kf0 BK415.out)) NB415_0.out (by simp)); replace HK := am (KeepBut.trans (ks3 GW404.out GW405.out GW415.out HK.out) hk (.inl rfl)); replace HB := am (hb); replace HI0 := am (hi); (try clear hb hk hi)))
 (try simp only [Act.put, List.setIfInBounds_toArray, List.set_cons_zero, List.set_cons_succ])
 go_cut [] (fun wc => ∃ (kq : Nat) (x1001_4 : Int) (x416000_4 : List Int) (x416001_4 : List Int) (x416002_4 : List Int) (u416000 : Value) (u416001 : Value) (u416002 : Value), Aside0 (spec_l1Wrong.j0 kq s0_0 x1001_4 x416000_4 x416001_4 x416002_4 = some (r1, r2, r3, r4)) ∧ Aside0 (kq ≤ k) ∧ Aside0 (Kd.R (Kd.int .i64) 3 wc w.heap.size (fun k_ => some k_ ≠ (u416001 : Value).ownBlock ∧ some k_ ≠ (u416002 : Value).ownBlock) u416000 x416000_4) ∧ Aside0 (Kd.R (Kd.int .i64) 3 wc w.heap.size (fun k_ => some k_ ≠ (u416000 : Value).ownBlock ∧ some k_ ≠ (u416002 : Value).ownBlock) u416001 x416001_4) ∧ Aside0 (Kd.R (Kd.int .i64) 3 wc w.heap.size (fun k_ => some k_ ≠ (u416000 : Value).ownBlock ∧ some k_ ≠ (u416001 : Value).ownBlock) u416002 x416002_4) ∧ Aside0 (wc.heap[gb404]? = some (.cells #[(.slice A1_0 l1_0.length c1_0), (.slice A1_1 l1_1.length c1_1), (.slice A1_2 l1_2.length c1_2)] 24 (0, 0))) ∧ Aside0 (wc.heap[gb405]? = some (.cells #[(.slice none 0 0), (.slice none 0 0), (.slice none 0 0)] 24 (0, 0))) ∧ Aside0 (wc.heap[gb415]? = some (.cells #[u416000, u416001, u416002] 24 (0, 0))) ∧ Aside0 (IsS63 w0 wc g s0_0 x1001_4) ∧ Aside0 (KeepBut w wc g none) ∧ Aside0 (Below w0.heap.size w0 wc))
 case first =>
  have H := HC5.out
  clear HC5
  by_cases c21 : t416 = 0
  ·rw [if_pos c21] at H
   have c21b0 : (t416 == 0) = true := beq_iff_eq.mpr c21
   have c21b1 : (t416 != 0) = false := bne_eq_false_iff_eq.mpr c21
   clear c21
   (first | rw [c21b0] | (simp only [i64_w, i32_w]; rw [c21b0]) | skip)
   replace H := Option.bind_eq_some_iff.mp H
   obtain ⟨⟨t418, t419⟩, A220, H⟩ := H
   replace H : ((spec_l13Rd_num.f k s0_0 t419 (([(-2), 8, 0] : List Int))).bind fun bt423 => (if 0 ≤ t418 then (if t418 < (t406.length : Int) then (spec_l1Wrong.j0 k s0_0 bt423.2 (t406.set (t418 : Int).toNat bt423.1) t409 t412) else (none)) else (none))) = some (r1, r2, r3, r4) := H
   have A22 := am A220
   clear A220
   obtain ⟨y420, hy420⟩ : ∃ y_ : List Int, y_ = (([(-2), 8, 0] : List Int)) := ⟨_, rfl⟩
   replace H : ((spec_l13Rd_num.f k s0_0 t419 y420).bind fun bt423 => (if 0 ≤ t418 then (if t418 < (t406.length : Int) then (spec_l1Wrong.j0 k s0_0 bt423.2 (t406.set (t418 : Int).toNat bt423.1) t409 t412) else (none)) else (none))) = some (r1, r2, r3, r4) := by first | (rw [hy420]; with_reducible exact H) | (have H2_ := (Option.bind_some _ _).symm.trans H; rw [hy420]; with_reducible exact H2_) | (have H2_ := (Option.bind_some _ _).symm.trans H; with_reducible exact H2_) | with_reducible exact H | (rw [hy420]; exact H) | exact H
   have Ny420 := am hy420
   clear hy420
   replace H := Option.bind_eq_some_iff.mp H
   obtain ⟨⟨t423, t424⟩, A230, H⟩ := H
   replace H : (if 0 ≤ t418 then (if t418 < (t406.length : Int) then (spec_l1Wrong.j0 k s0_0 t424 (t406.set (t418 : Int).toNat t423) t409 t412) else (none)) else (none)) = some (r1, r2, r3, r4) := H
   have A23 := am A230
   clear A230
   by_cases c24 : 0 ≤ t418
   ·rw [if_pos c24] at H
    have c24b0 : decide (0 ≤ t418) = true := decide_eq_true c24
    clear c24
    by_cases c25 : t418 < (t406.length : Int)
    ·rw [if_pos c25] at H
     have c25b0 : decide (t418 < (t406.length : Int)) = true := decide_eq_true c25
     clear c25
     obtain ⟨y425, hy425⟩ : ∃ y_ : List Int, y_ = (t406.set (t418 : Int).toNat t423) := ⟨_, rfl⟩
     replace H : (spec_l1Wrong.j0 k s0_0 t424 y425 t409 t412) = some (r1, r2, r3, r4) := by first | (rw [hy425]; with_reducible exact H) | (have H2_ := (Option.bind_some _ _).symm.trans H; rw [hy425]; with_reducible exact H2_) | (have H2_ := (Option.bind_some _ _).symm.trans H; with_reducible exact H2_) | with_reducible exact H | (rw [hy425]; exact H) | exact H
     have Ny425 := am hy425
     clear hy425
     have H' := am H
     clear H
     try go_wp2
     replace HO408 := am (Kd.R_drew HO408.out)
     replace HO411 := am (Kd.R_drew HO411.out)
     replace HO414 := am (Kd.R_drew HO414.out)
     replace BK404 := am (blk_drew BK404.out)
     replace BK405 := am (blk_drew BK405.out)
     replace BK415 := am (blk_drew BK415.out)
     replace HI0 := am (IsS63.drew HI0.out)
     replace HK := am (keep_drew HK.out)
     replace HB := am (below_drew1 HB.out)
     refine start_ (n := 12) (S := fun w' => w'.cell? ⟨gb415, 0, none⟩ = some (.slice Ao13 t406.length co13) ∧ w'.cell? ⟨gb415, 1, none⟩ = some (.slice Ao18 t409.length co18) ∧ w'.cell? ⟨gb415, 2, none⟩ = some (.slice Ao19 t412.length co19)) (ds := [11]) #[false, false, false, false, false, false, false, false, false, false, false, false] (by kernel_rfl) rfl rfl ⟨(blk_cell BK415.out 0).trans rfl, (blk_cell BK415.out 1).trans rfl, (blk_cell BK415.out 2).trans rfl⟩ (fun hHeld => ?_); refine with_tabW spec_l1Wrong.tab4 spec_l1Wrong.bits4 (fun HT_ HW_ => ?_)
     generalize w20.drew = w27 at HO408 HO411 HO414 BK404 BK405 BK415 HI0 HK HB hHeld ⊢
     refine pure_ (i := 0) (N := some 12) (v := ?_) (a' := ?_) #[true, false, false, false, false, false, false, false, false, false, false, false] rfl rfl (any_of HT_.out (by kernel_rfl)) (fun _ _ _ h => h) (Or.inl ⟨by rfl, ?_⟩) ?_ ?_
     rotate_left
     ·intro w'
      go_simp
      with_reducible rfl
     rotate_left
     ·simp only [Act.put, List.setIfInBounds_toArray, List.set_cons_zero, List.set_cons_succ, i64_w, i32_w]
      rfl
     refine pure_ (i := 2) (N := some 14) (v := ?_) (a' := ?_) #[true, false, true, false, false, false, false, false, false, false, false, false] rfl rfl (any_of HT_.out (by kernel_rfl)) (fun _ _ _ h => h) (Or.inl ⟨by rfl, ?_⟩) ?_ ?_
     rotate_left
     ·intro w'
      go_simp
      with_reducible rfl
     rotate_left
     ·simp only [Act.put, List.setIfInBounds_toArray, List.set_cons_zero, List.set_cons_succ, i64_w, i32_w]
      rfl
     refine pure_ (i := 3) (N := some 15) (v := ?_) (a' := ?_) #[true, false, true, true, false, false, false, false, false, false, false, false] rfl rfl (any_of HT_.out (by kernel_rfl)) (fun _ _ _ h => h) (Or.inl ⟨by rfl, ?_⟩) ?_ ?_
     rotate_left
     ·intro w'
      go_simp
      with_reducible rfl
     rotate_left
     ·simp only [Act.put, List.setIfInBounds_toArray, List.set_cons_zero, List.set_cons_succ, i64_w, i32_w]
      rfl
     refine pure_ (i := 7) (N := some 19) (v := ?_) (a' := ?_) #[true, false, true, true, false, false, false, true, false, false, false, false] rfl rfl (any_of HT_.out (by kernel_rfl)) (fun _ _ _ h => h) (Or.inl ⟨by rfl, ?_⟩) ?_ ?_
     rotate_left
     ·intro w'
      go_simp
      with_reducible rfl
     rotate_left
     ·simp only [Act.put, List.setIfInBounds_toArray, List.set_cons_zero, List.set_cons_succ, i64_w, i32_w]
      rfl
     refine take_ (i := 1) (N := some 13) (v := ?_) (a' := ?_) #[true, true, true, true, false, false, false, true, false, false, false, false] rfl rfl (take_ofW HT_.out HW_.out (by kernel_rfl)) (fun _ _ _ h => h) (Or.inl ⟨by rfl, ?_⟩) hHeld ?_ ?_
     rotate_left
     ·rintro w' ⟨s0, s1, s2⟩
      go_simp
      with_reducible rfl
     rotate_left
     ·simp only [Act.put, List.setIfInBounds_toArray, List.set_cons_zero, List.set_cons_succ, i64_w, i32_w]
      rfl
     refine take_ (i := 4) (N := some 16) (v := ?_) (a' := ?_) #[true, true, true, true, true, false, false, true, false, false, false, false] rfl rfl (take_ofW HT_.out HW_.out (by kernel_rfl)) (fun _ _ _ h => h) (Or.inl ⟨by rfl, ?_⟩) hHeld ?_ ?_
     rotate_left
     ·rintro w' ⟨s0, s1, s2⟩
      go_simp
      with_reducible rfl
     rotate_left
     ·simp only [Act.put, List.setIfInBounds_toArray, List.set_cons_zero, List.set_cons_succ, i64_w, i32_w]
      rfl
     refine pure_ (i := 5) (N := some 17) (v := ?_) (a' := ?_) #[true, true, true, true, true, true, false, true, false, false, false, false] rfl rfl (any_of HT_.out (by kernel_rfl)) (fun _ _ _ h => h) (Or.inl ⟨by rfl, ?_⟩) ?_ ?_
     rotate_left
     ·intro w'
      go_simp
      with_reducible rfl
     rotate_left
     ·simp only [Act.put, List.setIfInBounds_toArray, List.set_cons_zero, List.set_cons_succ, i64_w, i32_w]
      rfl
     refine join_ (σ := Value) 3 #[true, true, true, true, true, true, true, true, true, false, false, false] (fun s_ => [(18, .int .i64 t418), (20, s_)]) (fun s_ w' => (w'.cell? ⟨gb415, 0, none⟩ = some (.slice Ao13 t406.length co13) ∧ w'.cell? ⟨gb415, 1, none⟩ = some (.slice Ao18 t409.length co18) ∧ w'.cell? ⟨gb415, 2, none⟩ = some (.slice Ao19 t412.length co19)) ∧ (Kd.R (Kd.int .i64) 3 w' w.heap.size (fun k_ => some k_ ≠ (.slice Ao18 t409.length co18 : Value).ownBlock ∧ some k_ ≠ (.slice Ao19 t412.length co19 : Value).ownBlock ∧ some k_ ≠ (s_ : Value).ownBlock) (.slice Ao13 t406.length co13) t406) ∧ (Kd.R (Kd.int .i64) 3 w' w.heap.size (fun k_ => some k_ ≠ (.slice Ao13 t406.length co13 : Value).ownBlock ∧ some k_ ≠ (.slice Ao19 t412.length co19 : Value).ownBlock ∧ some k_ ≠ (s_ : Value).ownBlock) (.slice Ao18 t409.length co18) t409) ∧ (Kd.R (Kd.int .i64) 3 w' w.heap.size (fun k_ => some k_ ≠ (.slice Ao13 t406.length co13 : Value).ownBlock ∧ some k_ ≠ (.slice Ao18 t409.length co18 : Value).ownBlock ∧ some k_ ≠ (s_ : Value).ownBlock) (.slice Ao19 t412.length co19) t412) ∧ (Kd.R (Kd.int .i64) 3 w' w.heap.size (fun k_ => some k_ ≠ (.slice Ao13 t406.length co13 : Value).ownBlock ∧ some k_ ≠ (.slice Ao18 t409.length co18 : Value).ownBlock ∧ some k_ ≠ (.slice Ao19 t412.length co19 : Value).ownBlock) s_ y420) ∧ (w'.heap[gb404]? = some (.cells #[.slice A1_0 l1_0.length c1_0, .slice A1_1 l1_1.length c1_1, .slice A1_2 l1_2.length c1_2] 24 (0, 0))) ∧ (w'.heap[gb405]? = some (.cells #[.slice none 0 0, .slice none 0 0, .slice none 0 0] 24 (0, 0))) ∧ (w'.heap[gb415]? = some (.cells #[.slice Ao13 t406.length co13, .slice Ao18 t409.length co18, .slice Ao19 t412.length co19] 24 (0, 0))) ∧ (IsS63 w0 w' g s0_0 t419) ∧ (KeepBut w w' g none) ∧ (Below w0.heap.size w0 w')) ?_ ?_
     rotate_left
     ·intro hCont
      refine two_ (i := 6) (j := 8) (Ni := some 18) (Nj := some 20) #[true, true, true, true, true, true, true, true, false, false, false, false] #[true, true, true, true, true, true, false, true, true, false, false, false] rfl rfl rfl rfl (two_of HT_.out (by kernel_rfl)) (by decide) (by decide) (fun K hK => ?_) (fun K hK => ?_)
      ·skip
       refine goes_ Tryd.func34 (by kernel_rfl) rfl #[.pointer (some ⟨g, 0, none⟩), .int .i64 (t406.length : Int)] (by rfl) rfl rfl (by (try simp only [List.map_toArray, List.map_cons, List.map_nil]); first | done | rfl | (simp only [List.length_drop, List.length_take]; rfl)) ?_
       with_reducible refine (spec_l13Rd_pick.calls k g s0_0 t417 (t406.length : Int) t418 t419 w0 _ ?side1 ?side2 A22.out).mono ?_
       (case side1 => exact is63_3 NB0_404.out NB0_405.out NB0_415.out HI0.out)
       (case side2 => exact bs4 (IsS63.ge HI0.out) GE404.out GE405.out GE415.out HB.out)
       rintro e w28 ⟨rfl, hi, hb, hk⟩
       refine ⟨_, rfl, ?_⟩
       replace BK404 := kb hk BK404 NB404_0
       replace BK405 := kb hk BK405 NB405_0
       replace HO408 := am (Kd.R_mono (Kd.R_keep (IsS63.apart (show IsS63 w0 _ g s0_0 t417 from by exact is63_3 NB0_404.out NB0_405.out NB0_415.out HI0.out) (rl HO408.out) (by decide)) hk (fun _ h => h.2)) (fun _ h => h.1))
       replace HO411 := am (Kd.R_mono (Kd.R_keep (IsS63.apart (show IsS63 w0 _ g s0_0 t417 from by exact is63_3 NB0_404.out NB0_405.out NB0_415.out HI0.out) (rl HO411.out) (by decide)) hk (fun _ h => h.2)) (fun _ h => h.1))
       replace HO414 := am (Kd.R_mono (Kd.R_keep (IsS63.apart (show IsS63 w0 _ g s0_0 t417 from by exact is63_3 NB0_404.out NB0_405.out NB0_415.out HI0.out) (rl HO414.out) (by decide)) hk (fun _ h => h.2)) (fun _ h => h.1))
       replace BK415 := kb hk BK415 NB415_0
       replace HK := am (KeepBut.trans (ks3 GW404.out GW405.out GW415.out HK.out) hk (.inl rfl))
       replace HB := am (hb)
       replace HI0 := am (hi)
       (try clear hb hk hi)
       refine hK.out _ _ ⟨(blk_cell BK415.out 0).trans rfl, (blk_cell BK415.out 1).trans rfl, (blk_cell BK415.out 2).trans rfl⟩ (fun hHeld => ?_)
       clear hK K
       refine norm_ (a' := ?_) ?_ ?_
       rotate_left
       ·show Act.put _ (some 18) _ = _
        simp only [Act.put, List.setIfInBounds_toArray, List.set_cons_zero, List.set_cons_succ, i64_w, i32_w]
        rfl
       refine one_ (i := 8) (N := some 20) #[true, true, true, true, true, true, true, true, true, false, false, false] rfl rfl (one_of HT_.out (by kernel_rfl)) (by decide) (fun K hK => ?_)
       refine Kd.R_lit_step (Kd.int .i64) _ 3 ?hg (N := 20) ?hd (xs := ([(-2), 8, 0] : List Int)) (inner := [.int .i64 (-2), .int .i64 8, .int .i64 0]) (ok := fun _ => True) (okp := fun _ => True) ?hr ?hp (fun _ hk => hk) trivial (Below.refl _ _) (Nat.le_refl _) (by simp) ?_; (case hd => rfl); (case hg => rfl); (case hr => first | (go_simp; done) | (go_simp; rfl)); (case hp => exact (Reps.one (show Kd.M (Kd.int .i64) _ _ _ (-2) [.int .i64 (-2)] from rfl) (Reps.one (show Kd.M (Kd.int .i64) _ _ _ 8 [.int .i64 8] from rfl) (Reps.one (show Kd.M (Kd.int .i64) _ _ _ 0 [.int .i64 0] from rfl) (Reps.none _ _)))))
       intro v421 w29 ho30 hb hg_ hnew_
       clear hg_ hnew_
       (first | rw [← Ny420.out] at ho30 | (simp only [Int.reduceToNat] at ho30; rw [← Ny420.out] at ho30))
       have HO422 := am (Kd.R_lower (Kd.R_new' (Kd.R_new' (Kd.R_new' ho30 (Kd.R_lt (rl HO408.out))) (Kd.R_lt (rl HO411.out))) (Kd.R_lt (rl HO414.out))) (keep_size (w := w) (g := g) (row := none) (ks3 GW404.out GW405.out GW415.out HK.out)))
       replace HO408 := am (Kd.R_elder' (rl HO408.out) (Kd.R_base ho30) hb)
       replace HO411 := am (Kd.R_elder' (rl HO411.out) (Kd.R_base ho30) hb)
       replace HO414 := am (Kd.R_elder' (rl HO414.out) (Kd.R_base ho30) hb)
       replace BK404 := bb BK404 hb
       replace BK405 := bb BK405 hb
       replace BK415 := bb BK415 hb
       replace HK := am (KeepBut.trans (ks3 GW404.out GW405.out GW415.out HK.out) (KeepBut.of_below hb g none) (.inl rfl))
       replace HB := am (below_step (bs4 (IsS63.ge HI0.out) GE404.out GE405.out GE415.out HB.out) hb)
       replace HI0 := am (IsS63.below (is63_3 NB0_404.out NB0_405.out NB0_415.out HI0.out) hb)
       clear hb ho30
       refine hK.out _ _ ⟨(blk_cell BK415.out 0).trans rfl, (blk_cell BK415.out 1).trans rfl, (blk_cell BK415.out 2).trans rfl⟩ (fun hHeld => ?_)
       clear hK K
       refine norm_ (a' := ?_) ?_ ?_
       rotate_left
       ·show Act.put _ (some 20) _ = _
        simp only [Act.put, List.setIfInBounds_toArray, List.set_cons_zero, List.set_cons_succ, i64_w, i32_w]
        rfl
       exact norm_ (by simp only [putAll, Act.put, List.setIfInBounds_toArray, List.set_cons_zero, List.set_cons_succ]) (hCont (v421) _ ⟨hHeld, (rl (Kd.R_mono HO408.out (fun _ hk => by first | exact ⟨hk.1.1, ⟨hk.1.2, hk.2⟩⟩ | (simp only [ne_eq] at hk ⊢; simp only [hk, not_false_eq_true, and_self])))), (rl (Kd.R_mono HO411.out (fun _ hk => by first | exact ⟨hk.1.1, ⟨hk.1.2, hk.2⟩⟩ | (simp only [ne_eq] at hk ⊢; simp only [hk, not_false_eq_true, and_self])))), (rl (Kd.R_mono HO414.out (fun _ hk => by first | exact ⟨hk.1.1, ⟨hk.1.2, hk.2⟩⟩ | (simp only [ne_eq] at hk ⊢; simp only [hk, not_false_eq_true, and_self])))), (rl (Kd.R_mono HO422.out (fun _ hk => by first | exact ⟨hk.1.1.2, ⟨hk.1.2, hk.2⟩⟩ | (simp only [ne_eq] at hk ⊢; simp only [hk, not_false_eq_true, and_self])))), (kl BK404.out), (kl BK405.out), (kl BK415.out), (is63_3 NB0_404.out NB0_405.out NB0_415.out HI0.out), (ks3 GW404.out GW405.out GW415.out HK.out), (bs4 (IsS63.ge HI0.out) GE404.out GE405.out GE415.out HB.out)⟩)
      ·skip
       refine Kd.R_lit_step (Kd.int .i64) _ 3 ?hg (N := 20) ?hd (xs := ([(-2), 8, 0] : List Int)) (inner := [.int .i64 (-2), .int .i64 8, .int .i64 0]) (ok := fun _ => True) (okp := fun _ => True) ?hr ?hp (fun _ hk => hk) trivial (Below.refl _ _) (Nat.le_refl _) (by simp) ?_; (case hd => rfl); (case hg => rfl); (case hr => first | (go_simp; done) | (go_simp; rfl)); (case hp => exact (Reps.one (show Kd.M (Kd.int .i64) _ _ _ (-2) [.int .i64 (-2)] from rfl) (Reps.one (show Kd.M (Kd.int .i64) _ _ _ 8 [.int .i64 8] from rfl) (Reps.one (show Kd.M (Kd.int .i64) _ _ _ 0 [.int .i64 0] from rfl) (Reps.none _ _)))))
       intro v421 w28 ho29 hb hg_ hnew_
       clear hg_ hnew_
       (first | rw [← Ny420.out] at ho29 | (simp only [Int.reduceToNat] at ho29; rw [← Ny420.out] at ho29))
       have HO422 := am (Kd.R_lower (Kd.R_new' (Kd.R_new' (Kd.R_new' ho29 (Kd.R_lt (rl HO408.out))) (Kd.R_lt (rl HO411.out))) (Kd.R_lt (rl HO414.out))) (keep_size (w := w) (g := g) (row := none) (ks3 GW404.out GW405.out GW415.out HK.out)))
       replace HO408 := am (Kd.R_elder' (rl HO408.out) (Kd.R_base ho29) hb)
       replace HO411 := am (Kd.R_elder' (rl HO411.out) (Kd.R_base ho29) hb)
       replace HO414 := am (Kd.R_elder' (rl HO414.out) (Kd.R_base ho29) hb)
       replace BK404 := bb BK404 hb
       replace BK405 := bb BK405 hb
       replace BK415 := bb BK415 hb
       replace HK := am (KeepBut.trans (ks3 GW404.out GW405.out GW415.out HK.out) (KeepBut.of_below hb g none) (.inl rfl))
       replace HB := am (below_step (bs4 (IsS63.ge HI0.out) GE404.out GE405.out GE415.out HB.out) hb)
       replace HI0 := am (IsS63.below (is63_3 NB0_404.out NB0_405.out NB0_415.out HI0.out) hb)
       clear hb ho29
       refine hK.out _ _ ⟨(blk_cell BK415.out 0).trans rfl, (blk_cell BK415.out 1).trans rfl, (blk_cell BK415.out 2).trans rfl⟩ (fun hHeld => ?_)
       clear hK K
       refine norm_ (a' := ?_) ?_ ?_
       rotate_left
       ·show Act.put _ (some 20) _ = _
        simp only [Act.put, List.setIfInBounds_toArray, List.set_cons_zero, List.set_cons_succ, i64_w, i32_w]
        rfl
       refine one_ (i := 6) (N := some 18) #[true, true, true, true, true, true, true, true, true, false, false, false] rfl rfl (one_of HT_.out (by kernel_rfl)) (by decide) (fun K hK => ?_)
       refine goes_ Tryd.func34 (by kernel_rfl) rfl #[.pointer (some ⟨g, 0, none⟩), .int .i64 (t406.length : Int)] (by rfl) rfl rfl (by (try simp only [List.map_toArray, List.map_cons, List.map_nil]); first | done | rfl | (simp only [List.length_drop, List.length_take]; rfl)) ?_
       with_reducible refine (spec_l13Rd_pick.calls k g s0_0 t417 (t406.length : Int) t418 t419 w0 _ ?side1 ?side2 A22.out).mono ?_
       (case side1 => exact is63_3 NB0_404.out NB0_405.out NB0_415.out HI0.out)
       (case side2 => exact bs4 (IsS63.ge HI0.out) GE404.out GE405.out GE415.out HB.out)
       rintro e w30 ⟨rfl, hi, hb, hk⟩
       refine ⟨_, rfl, ?_⟩
       replace BK404 := kb hk BK404 NB404_0
       replace BK405 := kb hk BK405 NB405_0
       replace HO408 := am (Kd.R_mono (Kd.R_keep (IsS63.apart (show IsS63 w0 _ g s0_0 t417 from by exact is63_3 NB0_404.out NB0_405.out NB0_415.out HI0.out) (rl HO408.out) (by decide)) hk (fun _ h => h.2)) (fun _ h => h.1))
       replace HO411 := am (Kd.R_mono (Kd.R_keep (IsS63.apart (show IsS63 w0 _ g s0_0 t417 from by exact is63_3 NB0_404.out NB0_405.out NB0_415.out HI0.out) (rl HO411.out) (by decide)) hk (fun _ h => h.2)) (fun _ h => h.1))
       replace HO414 := am (Kd.R_mono (Kd.R_keep (IsS63.apart (show IsS63 w0 _ g s0_0 t417 from by exact is63_3 NB0_404.out NB0_405.out NB0_415.out HI0.out) (rl HO414.out) (by decide)) hk (fun _ h => h.2)) (fun _ h => h.1))
       replace BK415 := kb hk BK415 NB415_0
       replace HO422 := am (Kd.R_mono (Kd.R_keep (IsS63.apart (show IsS63 w0 _ g s0_0 t417 from by exact is63_3 NB0_404.out NB0_405.out NB0_415.out HI0.out) (rl HO422.out) (by decide)) hk (fun _ h => h.2)) (fun _ h => h.1))
       replace HK := am (KeepBut.trans (ks3 GW404.out GW405.out GW415.out HK.out) hk (.inl rfl))
       replace HB := am (hb)
       replace HI0 := am (hi)
       (try clear hb hk hi)
       refine hK.out _ _ ⟨(blk_cell BK415.out 0).trans rfl, (blk_cell BK415.out 1).trans rfl, (blk_cell BK415.out 2).trans rfl⟩ (fun hHeld => ?_)
       clear hK K
       refine norm_ (a' := ?_) ?_ ?_
       rotate_left
       ·show Act.put _ (some 18) _ = _
        simp only [Act.put, List.setIfInBounds_toArray, List.set_cons_zero, List.set_cons_succ, i64_w, i32_w]
        rfl
       exact norm_ (by simp only [putAll, Act.put, List.setIfInBounds_toArray, List.set_cons_zero, List.set_cons_succ]) (hCont (v421) _ ⟨hHeld, (rl (Kd.R_mono HO408.out (fun _ hk => by first | exact ⟨hk.1.1, ⟨hk.1.2, hk.2⟩⟩ | (simp only [ne_eq] at hk ⊢; simp only [hk, not_false_eq_true, and_self])))), (rl (Kd.R_mono HO411.out (fun _ hk => by first | exact ⟨hk.1.1, ⟨hk.1.2, hk.2⟩⟩ | (simp only [ne_eq] at hk ⊢; simp only [hk, not_false_eq_true, and_self])))), (rl (Kd.R_mono HO414.out (fun _ hk => by first | exact ⟨hk.1.1, ⟨hk.1.2, hk.2⟩⟩ | (simp only [ne_eq] at hk ⊢; simp only [hk, not_false_eq_true, and_self])))), (rl (Kd.R_mono HO422.out (fun _ hk => by first | exact ⟨hk.1.1.2, ⟨hk.1.2, hk.2⟩⟩ | (simp only [ne_eq] at hk ⊢; simp only [hk, not_false_eq_true, and_self])))), (kl BK404.out), (kl BK405.out), (kl BK415.out), (is63_3 NB0_404.out NB0_405.out NB0_415.out HI0.out), (ks3 GW404.out GW405.out GW415.out HK.out), (bs4 (IsS63.ge HI0.out) GE404.out GE405.out GE415.out HB.out)⟩)
     rintro v421 w31 ⟨hS_, h0_, h1_, h2_, h3_, h4_, h5_, h6_, h7_, h8_, h9_⟩
     replace HO408 : Aside0 (Kd.R (Kd.int .i64) 3 w31 w.heap.size (fun k_ => some k_ ≠ (.slice Ao18 t409.length co18 : Value).ownBlock ∧ some k_ ≠ (.slice Ao19 t412.length co19 : Value).ownBlock ∧ some k_ ≠ (v421 : Value).ownBlock) (.slice Ao13 t406.length co13) t406) := ⟨h0_⟩
     replace HO411 : Aside0 (Kd.R (Kd.int .i64) 3 w31 w.heap.size (fun k_ => some k_ ≠ (.slice Ao13 t406.length co13 : Value).ownBlock ∧ some k_ ≠ (.slice Ao19 t412.length co19 : Value).ownBlock ∧ some k_ ≠ (v421 : Value).ownBlock) (.slice Ao18 t409.length co18) t409) := ⟨h1_⟩
     replace HO414 : Aside0 (Kd.R (Kd.int .i64) 3 w31 w.heap.size (fun k_ => some k_ ≠ (.slice Ao13 t406.length co13 : Value).ownBlock ∧ some k_ ≠ (.slice Ao18 t409.length co18 : Value).ownBlock ∧ some k_ ≠ (v421 : Value).ownBlock) (.slice Ao19 t412.length co19) t412) := ⟨h2_⟩
     have HO422 : Aside0 (Kd.R (Kd.int .i64) 3 w31 w.heap.size (fun k_ => some k_ ≠ (.slice Ao13 t406.length co13 : Value).ownBlock ∧ some k_ ≠ (.slice Ao18 t409.length co18 : Value).ownBlock ∧ some k_ ≠ (.slice Ao19 t412.length co19 : Value).ownBlock) v421 y420) := ⟨h3_⟩
     replace BK404 : Aside0 (w31.heap[gb404]? = some (.cells #[.slice A1_0 l1_0.length c1_0, .slice A1_1 l1_1.length c1_1, .slice A1_2 l1_2.length c1_2] 24 (0, 0))) := ⟨h4_⟩
     replace BK405 : Aside0 (w31.heap[gb405]? = some (.cells #[.slice none 0 0, .slice none 0 0, .slice none 0 0] 24 (0, 0))) := ⟨h5_⟩
     replace BK415 : Aside0 (w31.heap[gb415]? = some (.cells #[.slice Ao13 t406.length co13, .slice Ao18 t409.length co18, .slice Ao19 t412.length co19] 24 (0, 0))) := ⟨h6_⟩
     replace HI0 : Aside0 (IsS63 w0 w31 g s0_0 t419) := ⟨h7_⟩
     replace HK : Aside0 (KeepBut w w31 g none) := ⟨h8_⟩
     replace HB : Aside0 (Below w0.heap.size w0 w31) := ⟨h9_⟩
     clear h0_ h1_ h2_ h3_ h4_ h5_ h6_ h7_ h8_ h9_
     have hHeld : w31.cell? ⟨gb415, 0, none⟩ = some (.slice Ao13 t406.length co13) ∧ w31.cell? ⟨gb415, 1, none⟩ = some (.slice Ao18 t409.length co18) ∧ w31.cell? ⟨gb415, 2, none⟩ = some (.slice Ao19 t412.length co19) := hS_
     obtain ⟨Ao32, co32, eo32⟩ := Kd.R_slice HO422.out
     (first | subst eo32 | (injection eo32 with f1_ f2_ f3_; have f4_ := f1_.symm; have f5_ := f3_.symm; clear f1_ f2_ f3_; subst f4_; subst f5_))
     refine norm_ (a' := ?_) ?_ ?_
     rotate_left
     ·simp only [putAll, Act.put, List.setIfInBounds_toArray, List.set_cons_zero, List.set_cons_succ]
      rfl
     refine one_ (i := 9) (N := some 21) #[true, true, true, true, true, true, true, true, true, true, false, false] rfl rfl (one_of HT_.out (by kernel_rfl)) (by decide) (fun K hK => ?_)
     refine goes_ Tryd.func46 (by kernel_rfl) rfl #[.pointer (some ⟨g, 0, none⟩), .slice Ao32 y420.length co32] (by rfl) rfl rfl (by (try simp only [List.map_toArray, List.map_cons, List.map_nil]); first | done | rfl | (simp only [List.length_drop, List.length_take]; rfl)) ?_
     with_reducible refine (spec_l13Rd_num.calls k g s0_0 t419 _ _ y420 t423 t424 w0 _ ?side1 ?side2 ?side3 ?side4 ?side5 A23.out).mono ?_
     (case side1 => exact is63_3 NB0_404.out NB0_405.out NB0_415.out HI0.out)
     (case side2 => exact bs4 (IsS63.ge HI0.out) GE404.out GE405.out GE415.out HB.out)
     (case side3 => exact cl ((Kd.R_reads' HO422.out).2.2))
     (case side4 => exact sc HO422)
     (case side5 => exact far_slice (IsS63.own_ne HI0.out HO422.out (by decide)))
     rintro e w33 ⟨rfl, hi, hb, hk⟩
     refine ⟨_, rfl, ?_⟩
     replace BK404 := kb hk BK404 NB404_0
     replace BK405 := kb hk BK405 NB405_0
     replace HO408 := am (Kd.R_mono (Kd.R_keep (IsS63.apart (show IsS63 w0 _ g s0_0 t419 from by exact is63_3 NB0_404.out NB0_405.out NB0_415.out HI0.out) (rl HO408.out) (by decide)) hk (fun _ h => h.2)) (fun _ h => h.1))
     replace HO411 := am (Kd.R_mono (Kd.R_keep (IsS63.apart (show IsS63 w0 _ g s0_0 t419 from by exact is63_3 NB0_404.out NB0_405.out NB0_415.out HI0.out) (rl HO411.out) (by decide)) hk (fun _ h => h.2)) (fun _ h => h.1))
     replace HO414 := am (Kd.R_mono (Kd.R_keep (IsS63.apart (show IsS63 w0 _ g s0_0 t419 from by exact is63_3 NB0_404.out NB0_405.out NB0_415.out HI0.out) (rl HO414.out) (by decide)) hk (fun _ h => h.2)) (fun _ h => h.1))
     replace BK415 := kb hk BK415 NB415_0
     replace HO422 := am (Kd.R_mono (Kd.R_keep (IsS63.apart (show IsS63 w0 _ g s0_0 t419 from by exact is63_3 NB0_404.out NB0_405.out NB0_415.out HI0.out) (rl HO422.out) (by decide)) hk (fun _ h => h.2)) (fun _ h => h.1))
     replace HK := am (KeepBut.trans (ks3 GW404.out GW405.out GW415.out HK.out) hk (.inl rfl))
     replace HB := am (hb)
     replace HI0 := am (hi)
     (try clear hb hk hi)
     have p26 : 0 ≤ (t418 : Int) := of_decide_eq_true (by first | (with_reducible assumption) | assumption)
     have q26 : (t418 : Int) < ((t406.length : Int) : Int) := of_decide_eq_true (by first | (with_reducible assumption) | assumption)
     obtain ⟨go26, co26, eo26, gb26, gl26, cl26, HG26⟩ := Kd.R_form HO408.out (by first | omega | (have hz_ := (Kd.R_reads' HO408.out).1; omega))
     (first | cases eo26 | (injection eo26 with ea_ en_ ec_; (first | subst ea_ | (injection ea_ with ea_; subst ea_)); subst ec_; clear en_))
     have GB26 := am gb26
     have GG26 := am HG26
     clear gb26 gl26 HG26
     obtain ⟨hx26_0, hf26_0⟩ := Kd.R_celln 0 HO408.out (t418 : Int) p26 q26
     replace p26 := eq_true p26
     replace q26 := eq_true q26
     have HN0_go26 := am (show g ≠ go26 from by have h_ := IsS63.own_ne HI0.out HO408.out (by decide); intro e_; exact h_ (by rw [e_]; rfl))
     have HP34 := Kd.R_putn HO408.out (t418 : Int) t423
     rw [← Ny425.out] at HP34
     have HQ34 := am HP34
     clear HP34
     refine hK.out _ _ ⟨(blk_cell BK415.out 0).trans rfl, (blk_cell BK415.out 1).trans rfl, (blk_cell BK415.out 2).trans rfl⟩ (fun hHeld => ?_)
     clear hK K
     refine norm_ (a' := ?_) ?_ ?_
     rotate_left
     ·show Act.put _ (some 21) _ = _
      simp only [Act.put, List.setIfInBounds_toArray, List.set_cons_zero, List.set_cons_succ, i64_w, i32_w]
      rfl
     refine pure_ (i := 10) (N := some 22) (v := ?_) (a' := ?_) #[true, true, true, true, true, true, true, true, true, true, true, false] rfl rfl (any_of HT_.out (by kernel_rfl)) (fun _ _ _ h => h) (Or.inl ⟨by rfl, ?_⟩) ?_ ?_
     rotate_left
     ·intro w'
      go_simp
      with_reducible rfl
     rotate_left
     ·simp only [Act.put, List.setIfInBounds_toArray, List.set_cons_zero, List.set_cons_succ, i64_w, i32_w]
      rfl
     refine last_ (i := 11) (N := none) #[true, true, true, true, true, true, true, true, true, true, true, true] rfl rfl (one_of HT_.out (by kernel_rfl)) (by decide) (fun K hK => ?_)
     refine skip_ (w1 := ?_) (by rfl) rfl ?_ ?_
     rotate_left
     ·go_simp
      rfl
     refine hK.out _ _ ?_
     clear hK K
     refine done_ (done_of HT_.out (by kernel_rfl)) ?_
     try go_wp2
     go_meet
     case rel => exact ⟨_, (t424), (y425), (t409), (t412), (.slice (some ⟨go26, 0, none⟩) t406.length co13), (.slice Ao18 t409.length co18), (.slice Ao19 t412.length co19), H', ⟨by first | omega | exact Nat.le_refl _⟩, ⟨rl (Kd.R_mono HQ34.out (fun _ hk => by first | exact ⟨hk.1, hk.2.1⟩ | (simp only [ne_eq] at hk ⊢; simp only [hk, not_false_eq_true, and_self])))⟩, ⟨rl (Kd.R_mono (Kd.R_far (p := ⟨go26, (t418 : Int).toNat, none⟩) (Kd.R_mono HO411.out (fun k_ hk => (⟨hk, fun e_ => hk.1 (by rw [e_]; rfl)⟩ : _ ∧ k_ ≠ go26))) (fun _ hk => hk.2) (.int .i64 t423)) (fun _ hk => by first | exact ⟨hk.1.1, hk.1.2.1⟩ | (simp only [ne_eq] at hk ⊢; simp only [hk, not_false_eq_true, and_self])))⟩, ⟨rl (Kd.R_mono (Kd.R_far (p := ⟨go26, (t418 : Int).toNat, none⟩) (Kd.R_mono HO414.out (fun k_ hk => (⟨hk, fun e_ => hk.1 (by rw [e_]; rfl)⟩ : _ ∧ k_ ≠ go26))) (fun _ hk => hk.2) (.int .i64 t423)) (fun _ hk => by first | exact ⟨hk.1.1, hk.1.2.1⟩ | (simp only [ne_eq] at hk ⊢; simp only [hk, not_false_eq_true, and_self])))⟩, ⟨by (with_reducible repeat (first | refine blk_drewN ?_ _ | refine blk_drew ?_ | refine blk_alloc ?_ _)); refine blk_far ?_ (by have h_ := Kd.R_ne HO408.out BK404.out (by decide); intro e_; exact h_ (by rw [e_]; rfl)) _; (with_reducible repeat (first | refine blk_drewN ?_ _ | refine blk_drew ?_ | refine blk_alloc ?_ _)); exact BK404.out⟩, ⟨by (with_reducible repeat (first | refine blk_drewN ?_ _ | refine blk_drew ?_ | refine blk_alloc ?_ _)); refine blk_far ?_ (by have h_ := Kd.R_ne HO408.out BK405.out (by decide); intro e_; exact h_ (by rw [e_]; rfl)) _; (with_reducible repeat (first | refine blk_drewN ?_ _ | refine blk_drew ?_ | refine blk_alloc ?_ _)); exact BK405.out⟩, ⟨by (with_reducible repeat (first | refine blk_drewN ?_ _ | refine blk_drew ?_ | refine blk_alloc ?_ _)); refine blk_far ?_ (by have h_ := Kd.R_ne HO408.out BK415.out (by decide); intro e_; exact h_ (by rw [e_]; rfl)) _; (with_reducible repeat (first | refine blk_drewN ?_ _ | refine blk_drew ?_ | refine blk_alloc ?_ _)); exact BK415.out⟩, ⟨by exact is63_4 HN0_go26.out NB0_404.out NB0_405.out NB0_415.out HI0.out⟩, ⟨by exact ks4 GB26.out GW404.out GW405.out GW415.out HK.out⟩, ⟨by repeat (first | (with_reducible first | exact HB.out | apply below_alloc | apply pw_below_drewN | apply below_drew1 | refine below_set ?_ (Nat.le_trans HL.out GB26.out) | refine below_set ?_ (IsS63.ge HI0.out) | refine below_set ?_ GE404.out | refine below_set ?_ GE405.out | refine below_set ?_ GE415.out) | exact HB.out)⟩⟩
    ·rw [if_neg c25] at H
     exact absurd H (by simp)
   ·rw [if_neg c24] at H
    exact absurd H (by simp)
  ·rw [if_neg c21] at H
   have c21b0 : (t416 == 0) = false := beq_eq_false_iff_ne.mpr c21
   have c21b1 : (t416 != 0) = true := bne_iff_ne.mpr c21
   (first | rw [c21b0] | (simp only [i64_w, i32_w]; rw [c21b0]) | skip)
   by_cases c35 : t416 = 1
   ·rw [if_pos c35] at H
    have c35b0 : (t416 == 1) = true := beq_iff_eq.mpr c35
    have c35b1 : (t416 != 1) = false := bne_eq_false_iff_eq.mpr c35
    clear c35
    by_cases c36 : t409.length < 17592186044416
    ·rw [if_pos c36] at H
     have LMc36 := am c36
     clear c36
     obtain ⟨y426, hy426⟩ : ∃ y_ : List Int, y_ = (t409 ++ [(-1)]) := ⟨_, rfl⟩
     replace H : (spec_l1Wrong.j0 k s0_0 t417 t406 y426 t412) = some (r1, r2, r3, r4) := by first | (rw [hy426]; with_reducible exact H) | (have H2_ := (Option.bind_some _ _).symm.trans H; rw [hy426]; with_reducible exact H2_) | (have H2_ := (Option.bind_some _ _).symm.trans H; with_reducible exact H2_) | with_reducible exact H | (rw [hy426]; exact H) | exact H
     have Ny426 := am hy426
     clear hy426
     have H' := am H
     clear H
     have hnb37 := NB415_404.out
     have hnc37 := NB404_415.out
     have hnb38 := NB415_405.out
     have hnc38 := NB405_415.out
     have hnb39 := NB415_0.out
     have hnc39 := NB0_415.out
     obtain ⟨hcz40_0, hcz40_1, hcz40_2, hfz40_0, hfz40_1, hfz40_2⟩ := cf3 BK415
     go_wp2_with (first | ((with_reducible refine gate_builtin (b := .append) (xs := #[.tmp 26, .tmp 27]) rfl ?_); at_builtin; refine Kd.R_append (Kd.int .i64) w.heap.size rfl (.tmp 26) (.tmp 27) 22 3 (.int .i64 0) 8 rfl Tryd.underlying22 info3 rfl (by decide) (by omega) (.slice Ao18 t409.length co18) t409 (-1) [.int .i64 (-1)] (fun k_ => some k_ ≠ (.slice Ao13 t406.length co13 : Value).ownBlock ∧ some k_ ≠ (.slice Ao19 t412.length co19 : Value).ownBlock) (fun _ => False) rfl rfl ?aP (fun _ hk => hk.elim) ?aF ?aO (Below.refl _ _) ?aS ?aL ?_; (case aP => exact rfl); (case aF => exact (fun k_ hk => ⟨Kd.fresh' (Kd.R_lt (rl HO408.out)) k_ hk, Kd.fresh' (Kd.R_lt (rl HO414.out)) k_ hk⟩)); (case aO => exact (rl HO411.out)); (case aS => exact (keep_size (w := w) (g := g) (row := none) (ks3 GW404.out GW405.out GW415.out HK.out))); (case aL => have := LMc36.out; omega); intro v427 w41 ho hb hg hat; rw [← Ny426.out] at ho; replace BK404 := am (blk_grown (g := gb404) (o := .cells #[.slice A1_0 l1_0.length c1_0, .slice A1_1 l1_1.length c1_1, .slice A1_2 l1_2.length c1_2] 24 (0, 0)) (kl BK404.out) hg (Kd.R_ne HO411.out BK404.out (by decide))); replace BK405 := am (blk_grown (g := gb405) (o := .cells #[.slice none 0 0, .slice none 0 0, .slice none 0 0] 24 (0, 0)) (kl BK405.out) hg (Kd.R_ne HO411.out BK405.out (by decide))); replace HO408 := am (Kd.R_after (ok := (fun k_ => some k_ ≠ (.slice Ao19 t412.length co19 : Value).ownBlock)) (rl (Kd.R_mono HO408.out (fun _ hk => by first | exact ⟨hk.2, hk.1⟩ | (simp only [ne_eq] at hk ⊢; simp only [hk, not_false_eq_true, and_self])))) hg hat); replace HO414 := am (Kd.R_after (ok := (fun k_ => some k_ ≠ (.slice Ao13 t406.length co13 : Value).ownBlock)) (rl HO414.out) hg hat); replace BK415 := am (blk_grown (g := gb415) (o := .cells #[.slice Ao13 t406.length co13, .slice Ao18 t409.length co18, .slice Ao19 t412.length co19] 24 (0, 0)) (kl BK415.out) hg (Kd.R_ne HO411.out BK415.out (by decide))); replace HB := am (below_weaken (bs4 (IsS63.ge HI0.out) GE404.out GE405.out GE415.out HB.out) HL.out hb); replace HI0 := am (IsS63.grown (is63_3 NB0_404.out NB0_405.out NB0_415.out HI0.out) hg (IsS63.own_ne HI0.out HO411.out (by decide))); replace HK := am (KeepBut.trans (ks3 GW404.out GW405.out GW415.out HK.out) (KeepBut.of_grown hg g) (Kd.R_base2 HO411.out)); have HO428 := am (ho); clear HO411; clear ho hb hg hat; obtain ⟨Ao42, co42, eo42⟩ := Kd.R_slice HO428.out; subst eo42; obtain ⟨hcz43_0, hcz43_1, hcz43_2, hfz43_0, hfz43_1, hfz43_2⟩ := cf3 BK415))
     go_meet
     case rel => exact ⟨_, (t417), (t406), (y426), (t412), (.slice Ao13 t406.length co13), (.slice Ao42 y426.length co42), (.slice Ao19 t412.length co19), H', ⟨by first | omega | exact Nat.le_refl _⟩, ⟨rl (Kd.R_mono (Kd.R_far (p := ⟨gb415, 1, none⟩) (Kd.R_types HO408.out BK415.out (by decide)) (fun _ hk => hk.2) (.slice Ao42 y426.length co42)) (fun _ hk => by first | exact ⟨hk.1.2, hk.1.1⟩ | (simp only [ne_eq] at hk ⊢; simp only [hk, not_false_eq_true, and_self])))⟩, ⟨rl (Kd.R_mono (Kd.R_far (p := ⟨gb415, 1, none⟩) (Kd.R_types HO428.out BK415.out (by decide)) (fun _ hk => hk.2) (.slice Ao42 y426.length co42)) (fun _ hk => by first | exact ⟨hk.1.1, hk.1.2⟩ | (simp only [ne_eq] at hk ⊢; simp only [hk, not_false_eq_true, and_self])))⟩, ⟨rl (Kd.R_mono (Kd.R_far (p := ⟨gb415, 1, none⟩) (Kd.R_types HO414.out BK415.out (by decide)) (fun _ hk => hk.2) (.slice Ao42 y426.length co42)) (fun _ hk => by first | exact ⟨hk.1.1, hk.1.2⟩ | (simp only [ne_eq] at hk ⊢; simp only [hk, not_false_eq_true, and_self])))⟩, ⟨kf1 NB404_415.out BK404.out⟩, ⟨kf1 NB405_415.out BK405.out⟩, ⟨by (with_reducible repeat (first | refine blk_drewN ?_ _ | refine blk_drew ?_ | refine blk_alloc ?_ _)); refine blk_put (cs := #[.slice Ao13 t406.length co13, .slice Ao18 t409.length co18, .slice Ao19 t412.length co19]) ?_ 1 _ rfl; (with_reducible repeat (first | refine blk_drewN ?_ _ | refine blk_drew ?_ | refine blk_alloc ?_ _)); exact BK415.out⟩, ⟨by exact is63_3 NB0_404.out NB0_405.out NB0_415.out HI0.out⟩, ⟨by exact ks3 GW404.out GW405.out GW415.out HK.out⟩, ⟨by exact bs4 (IsS63.ge HI0.out) GE404.out GE405.out GE415.out HB.out⟩⟩
    ·rw [if_neg c36] at H
     exact absurd H (by simp)
   ·rw [if_neg c35] at H
    have c35b0 : (t416 == 1) = false := beq_eq_false_iff_ne.mpr c35
    have c35b1 : (t416 != 1) = true := bne_iff_ne.mpr c35
    by_cases c44 : t416 = 2
    ·rw [if_pos c44] at H
     have c44b0 : (t416 == 2) = true := beq_iff_eq.mpr c44
     have c44b1 : (t416 != 2) = false := bne_eq_false_iff_eq.mpr c44
     clear c44
     obtain ⟨y429, hy429⟩ : ∃ y_ : List Int, y_ = (([0, (-1), 9] : List Int)) := ⟨_, rfl⟩
     replace H : ((spec_l13Rd_num.f k s0_0 t417 y429).bind fun bt432 => (if t412.length < 17592186044416 then (spec_l1Wrong.j0 k s0_0 bt432.2 t406 t409 (t412 ++ [bt432.1])) else (none))) = some (r1, r2, r3, r4) := by first | (rw [hy429]; with_reducible exact H) | (have H2_ := (Option.bind_some _ _).symm.trans H; rw [hy429]; with_reducible exact H2_) | (have H2_ := (Option.bind_some _ _).symm.trans H; with_reducible exact H2_) | with_reducible exact H | (rw [hy429]; exact H) | exact H
     have Ny429 := am hy429
     clear hy429
     replace H := Option.bind_eq_some_iff.mp H
     obtain ⟨⟨t432, t433⟩, A450, H⟩ := H
     replace H : (if t412.length < 17592186044416 then (spec_l1Wrong.j0 k s0_0 t433 t406 t409 (t412 ++ [t432])) else (none)) = some (r1, r2, r3, r4) := H
     have A45 := am A450
     clear A450
     by_cases c46 : t412.length < 17592186044416
     ·rw [if_pos c46] at H
      have LMc46 := am c46
      clear c46
      obtain ⟨y434, hy434⟩ : ∃ y_ : List Int, y_ = (t412 ++ [t432]) := ⟨_, rfl⟩
      replace H : (spec_l1Wrong.j0 k s0_0 t433 t406 t409 y434) = some (r1, r2, r3, r4) := by first | (rw [hy434]; with_reducible exact H) | (have H2_ := (Option.bind_some _ _).symm.trans H; rw [hy434]; with_reducible exact H2_) | (have H2_ := (Option.bind_some _ _).symm.trans H; with_reducible exact H2_) | with_reducible exact H | (rw [hy434]; exact H) | exact H
      have Ny434 := am hy434
      clear hy434
      have H' := am H
      clear H
      try go_wp2
      replace HO408 := am (Kd.R_drew HO408.out)
      replace HO411 := am (Kd.R_drew HO411.out)
      replace HO414 := am (Kd.R_drew HO414.out)
      replace BK404 := am (blk_drew BK404.out)
      replace BK405 := am (blk_drew BK405.out)
      replace BK415 := am (blk_drew BK415.out)
      replace HI0 := am (IsS63.drew HI0.out)
      replace HK := am (keep_drew HK.out)
      replace HB := am (below_drew1 HB.out)
      refine start_ (n := 9) (S := fun w' => w'.cell? ⟨gb415, 0, none⟩ = some (.slice Ao13 t406.length co13) ∧ w'.cell? ⟨gb415, 1, none⟩ = some (.slice Ao18 t409.length co18) ∧ w'.cell? ⟨gb415, 2, none⟩ = some (.slice Ao19 t412.length co19)) (ds := [8]) #[false, false, false, false, false, false, false, false, false] (by kernel_rfl) rfl rfl ⟨(blk_cell BK415.out 0).trans rfl, (blk_cell BK415.out 1).trans rfl, (blk_cell BK415.out 2).trans rfl⟩ (fun hHeld => ?_); refine with_tabW spec_l1Wrong.tab8 spec_l1Wrong.bits8 (fun HT_ HW_ => ?_)
      generalize w20.drew = w47 at HO408 HO411 HO414 BK404 BK405 BK415 HI0 HK HB hHeld ⊢
      refine pure_ (i := 0) (N := some 32) (v := ?_) (a' := ?_) #[true, false, false, false, false, false, false, false, false] rfl rfl (any_of HT_.out (by kernel_rfl)) (fun _ _ _ h => h) (Or.inl ⟨by rfl, ?_⟩) ?_ ?_
      rotate_left
      ·intro w'
       go_simp
       with_reducible rfl
      rotate_left
      ·simp only [Act.put, List.setIfInBounds_toArray, List.set_cons_zero, List.set_cons_succ, i64_w, i32_w]
       rfl
      refine pure_ (i := 2) (N := some 34) (v := ?_) (a' := ?_) #[true, false, true, false, false, false, false, false, false] rfl rfl (any_of HT_.out (by kernel_rfl)) (fun _ _ _ h => h) (Or.inl ⟨by rfl, ?_⟩) ?_ ?_
      rotate_left
      ·intro w'
       go_simp
       with_reducible rfl
      rotate_left
      ·simp only [Act.put, List.setIfInBounds_toArray, List.set_cons_zero, List.set_cons_succ, i64_w, i32_w]
       rfl
      refine take_ (i := 1) (N := some 33) (v := ?_) (a' := ?_) #[true, true, true, false, false, false, false, false, false] rfl rfl (take_ofW HT_.out HW_.out (by kernel_rfl)) (fun _ _ _ h => h) (Or.inl ⟨by rfl, ?_⟩) hHeld ?_ ?_
      rotate_left
      ·rintro w' ⟨s0, s1, s2⟩
       go_simp
       with_reducible rfl
      rotate_left
      ·simp only [Act.put, List.setIfInBounds_toArray, List.set_cons_zero, List.set_cons_succ, i64_w, i32_w]
       rfl
      refine one_ (i := 3) (N := some 35) #[true, true, true, true, false, false, false, false, false] rfl rfl (one_of HT_.out (by kernel_rfl)) (by decide) (fun K hK => ?_)
      refine Kd.R_lit_step (Kd.int .i64) _ 3 ?hg (N := 35) ?hd (xs := ([0, (-1), 9] : List Int)) (inner := [.int .i64 0, .int .i64 (-1), .int .i64 9]) (ok := fun _ => True) (okp := fun _ => True) ?hr ?hp (fun _ hk => hk) trivial (Below.refl _ _) (Nat.le_refl _) (by simp) ?_; (case hd => rfl); (case hg => rfl); (case hr => first | (go_simp; done) | (go_simp; rfl)); (case hp => exact (Reps.one (show Kd.M (Kd.int .i64) _ _ _ 0 [.int .i64 0] from rfl) (Reps.one (show Kd.M (Kd.int .i64) _ _ _ (-1) [.int .i64 (-1)] from rfl) (Reps.one (show Kd.M (Kd.int .i64) _ _ _ 9 [.int .i64 9] from rfl) (Reps.none _ _)))))
      intro v430 w48 ho49 hb hg_ hnew_
      clear hg_ hnew_
      (first | rw [← Ny429.out] at ho49 | (simp only [Int.reduceToNat] at ho49; rw [← Ny429.out] at ho49))
      have HO431 := am (Kd.R_lower (Kd.R_new' (Kd.R_new' (Kd.R_new' ho49 (Kd.R_lt (rl HO408.out))) (Kd.R_lt (rl HO411.out))) (Kd.R_lt (rl HO414.out))) (keep_size (w := w) (g := g) (row := none) (ks3 GW404.out GW405.out GW415.out HK.out)))
      replace HO408 := am (Kd.R_elder' (rl HO408.out) (Kd.R_base ho49) hb)
      replace HO411 := am (Kd.R_elder' (rl HO411.out) (Kd.R_base ho49) hb)
      replace HO414 := am (Kd.R_elder' (rl HO414.out) (Kd.R_base ho49) hb)
      replace BK404 := bb BK404 hb
      replace BK405 := bb BK405 hb
      replace BK415 := bb BK415 hb
      replace HK := am (KeepBut.trans (ks3 GW404.out GW405.out GW415.out HK.out) (KeepBut.of_below hb g none) (.inl rfl))
      replace HB := am (below_step (bs4 (IsS63.ge HI0.out) GE404.out GE405.out GE415.out HB.out) hb)
      replace HI0 := am (IsS63.below (is63_3 NB0_404.out NB0_405.out NB0_415.out HI0.out) hb)
      clear hb ho49
      obtain ⟨Ao50, co50, eo50⟩ := Kd.R_slice HO431.out
      (first | subst eo50 | (injection eo50 with f1_ f2_ f3_; have f4_ := f1_.symm; have f5_ := f3_.symm; clear f1_ f2_ f3_; subst f4_; subst f5_))
      refine hK.out _ _ ⟨(blk_cell BK415.out 0).trans rfl, (blk_cell BK415.out 1).trans rfl, (blk_cell BK415.out 2).trans rfl⟩ (fun hHeld => ?_)
      clear hK K
      refine norm_ (a' := ?_) ?_ ?_
      rotate_left
      ·show Act.put _ (some 35) _ = _
       simp only [Act.put, List.setIfInBounds_toArray, List.set_cons_zero, List.set_cons_succ, i64_w, i32_w]
       rfl
      refine one_ (i := 4) (N := some 36) #[true, true, true, true, true, false, false, false, false] rfl rfl (one_of HT_.out (by kernel_rfl)) (by decide) (fun K hK => ?_)
      refine goes_ Tryd.func46 (by kernel_rfl) rfl #[.pointer (some ⟨g, 0, none⟩), .slice Ao50 y429.length co50] (by rfl) rfl rfl (by (try simp only [List.map_toArray, List.map_cons, List.map_nil]); first | done | rfl | (simp only [List.length_drop, List.length_take]; rfl)) ?_
      with_reducible refine (spec_l13Rd_num.calls k g s0_0 t417 _ _ y429 t432 t433 w0 _ ?side1 ?side2 ?side3 ?side4 ?side5 A45.out).mono ?_
      (case side1 => exact is63_3 NB0_404.out NB0_405.out NB0_415.out HI0.out)
      (case side2 => exact bs4 (IsS63.ge HI0.out) GE404.out GE405.out GE415.out HB.out)
      (case side3 => exact cl ((Kd.R_reads' HO431.out).2.2))
      (case side4 => exact sc HO431)
      (case side5 => exact far_slice (IsS63.own_ne HI0.out HO431.out (by decide)))
      rintro e w51 ⟨rfl, hi, hb, hk⟩
      refine ⟨_, rfl, ?_⟩
      replace BK404 := kb hk BK404 NB404_0
      replace BK405 := kb hk BK405 NB405_0
      replace HO408 := am (Kd.R_mono (Kd.R_keep (IsS63.apart (show IsS63 w0 _ g s0_0 t417 from by exact is63_3 NB0_404.out NB0_405.out NB0_415.out HI0.out) (rl HO408.out) (by decide)) hk (fun _ h => h.2)) (fun _ h => h.1))
      replace HO411 := am (Kd.R_mono (Kd.R_keep (IsS63.apart (show IsS63 w0 _ g s0_0 t417 from by exact is63_3 NB0_404.out NB0_405.out NB0_415.out HI0.out) (rl HO411.out) (by decide)) hk (fun _ h => h.2)) (fun _ h => h.1))
      replace HO414 := am (Kd.R_mono (Kd.R_keep (IsS63.apart (show IsS63 w0 _ g s0_0 t417 from by exact is63_3 NB0_404.out NB0_405.out NB0_415.out HI0.out) (rl HO414.out) (by decide)) hk (fun _ h => h.2)) (fun _ h => h.1))
      replace BK415 := kb hk BK415 NB415_0
      replace HO431 := am (Kd.R_mono (Kd.R_keep (IsS63.apart (show IsS63 w0 _ g s0_0 t417 from by exact is63_3 NB0_404.out NB0_405.out NB0_415.out HI0.out) (rl HO431.out) (by decide)) hk (fun _ h => h.2)) (fun _ h => h.1))
      replace HK := am (KeepBut.trans (ks3 GW404.out GW405.out GW415.out HK.out) hk (.inl rfl))
      replace HB := am (hb)
      replace HI0 := am (hi)
      (try clear hb hk hi)
      refine hK.out _ _ ⟨(blk_cell BK415.out 0).trans rfl, (blk_cell BK415.out 1).trans rfl, (blk_cell BK415.out 2).trans rfl⟩ (fun hHeld => ?_)
      clear hK K
      refine norm_ (a' := ?_) ?_ ?_
      rotate_left
      ·show Act.put _ (some 36) _ = _
       simp only [Act.put, List.setIfInBounds_toArray, List.set_cons_zero, List.set_cons_succ, i64_w, i32_w]
       rfl
      refine one_ (i := 5) (N := some 37) #[true, true, true, true, true, true, false, false, false] rfl rfl (one_of HT_.out (by kernel_rfl)) (by decide) (fun K hK => ?_)
      refine value_ (w1 := ?_) (v := ?_) (by rfl) rfl ?_ ?_
      rotate_left 2
      ·go_simp
       constructor
       ·rfl
       ·rfl
      refine hK.out _ _ ⟨(blk_cell (blk_alloc BK415.out _) 0).trans rfl, (blk_cell (blk_alloc BK415.out _) 1).trans rfl, (blk_cell (blk_alloc BK415.out _) 2).trans rfl⟩ (fun hHeld => ?_)
      clear hK K
      refine norm_ (a' := ?_) ?_ ?_
      rotate_left
      ·show Act.put _ (some 37) _ = _
       simp only [Act.put, List.setIfInBounds_toArray, List.set_cons_zero, List.set_cons_succ, i64_w, i32_w]
       rfl
      refine one_ (i := 6) (N := some 38) #[true, true, true, true, true, true, true, false, false] rfl rfl (one_of HT_.out (by kernel_rfl)) (by decide) (fun K hK => ?_)
      refine Kd.R_append_step (Kd.int .i64) w.heap.size (by rfl) (.tmp 33) (.tmp 37) 22 3 (.int .i64 0) 8 rfl Tryd.underlying22 info3 rfl (by decide) (by omega) (.slice Ao19 t412.length co19) t412 t432 [.int .i64 t432] (fun k_ => some k_ ≠ (.slice Ao13 t406.length co13 : Value).ownBlock ∧ some k_ ≠ (.slice Ao18 t409.length co18 : Value).ownBlock ∧ some k_ ≠ (.slice Ao50 y429.length co50 : Value).ownBlock) (fun _ => False) rfl rfl ?aP (fun _ hk => hk.elim) ?aF ?aO (Below.refl _ _) ?aS ?aL ?_
      (case aP => exact rfl)
      (case aF => exact (fun k_ hk => ⟨Kd.fresh' (Kd.R_lt (rl HO408.out)) k_ hk, Kd.fresh' (Kd.R_lt (rl HO411.out)) k_ hk, Kd.fresh' (Kd.R_lt (rl HO431.out)) k_ hk⟩))
      (case aO => exact (rl (Kd.R_mono HO414.out (fun _ hk => by first | exact ⟨hk.1.1, ⟨hk.1.2, hk.2⟩⟩ | (simp only [ne_eq] at hk ⊢; simp only [hk, not_false_eq_true, and_self])))))
      (case aS => exact (keep_size (w := w) (g := g) (row := none) (ks3 GW404.out GW405.out GW415.out HK.out)))
      (case aL => have := LMc46.out; omega)
      intro v435 w52 ho hb hg hat
      rw [← Ny434.out] at ho
      replace BK404 := am (blk_grown (g := gb404) (o := .cells #[.slice A1_0 l1_0.length c1_0, .slice A1_1 l1_1.length c1_1, .slice A1_2 l1_2.length c1_2] 24 (0, 0)) (kl BK404.out) hg (Kd.R_ne HO414.out BK404.out (by decide)))
      replace BK405 := am (blk_grown (g := gb405) (o := .cells #[.slice none 0 0, .slice none 0 0, .slice none 0 0] 24 (0, 0)) (kl BK405.out) hg (Kd.R_ne HO414.out BK405.out (by decide)))
      replace HO408 := am (Kd.R_after (ok := (fun k_ => some k_ ≠ (.slice Ao18 t409.length co18 : Value).ownBlock ∧ some k_ ≠ (.slice Ao50 y429.length co50 : Value).ownBlock)) (rl (Kd.R_mono HO408.out (fun _ hk => by first | exact ⟨⟨hk.1.1, hk.2⟩, hk.1.2⟩ | (simp only [ne_eq] at hk ⊢; simp only [hk, not_false_eq_true, and_self])))) hg hat)
      replace HO411 := am (Kd.R_after (ok := (fun k_ => some k_ ≠ (.slice Ao13 t406.length co13 : Value).ownBlock ∧ some k_ ≠ (.slice Ao50 y429.length co50 : Value).ownBlock)) (rl (Kd.R_mono HO411.out (fun _ hk => by first | exact ⟨⟨hk.1.1, hk.2⟩, hk.1.2⟩ | (simp only [ne_eq] at hk ⊢; simp only [hk, not_false_eq_true, and_self])))) hg hat)
      replace BK415 := am (blk_grown (g := gb415) (o := .cells #[.slice Ao13 t406.length co13, .slice Ao18 t409.length co18, .slice Ao19 t412.length co19] 24 (0, 0)) (kl BK415.out) hg (Kd.R_ne HO414.out BK415.out (by decide)))
      replace HO431 := am (Kd.R_after (ok := (fun k_ => some k_ ≠ (.slice Ao13 t406.length co13 : Value).ownBlock ∧ some k_ ≠ (.slice Ao18 t409.length co18 : Value).ownBlock)) (rl (Kd.R_mono HO431.out (fun _ hk => by first | exact ⟨⟨hk.1.1.2, hk.1.2⟩, hk.2⟩ | (simp only [ne_eq] at hk ⊢; simp only [hk, not_false_eq_true, and_self])))) hg hat)
      replace HB := am (below_weaken (bs4 (IsS63.ge HI0.out) GE404.out GE405.out GE415.out HB.out) HL.out hb)
      replace HI0 := am (IsS63.grown (is63_3 NB0_404.out NB0_405.out NB0_415.out HI0.out) hg (IsS63.own_ne HI0.out HO414.out (by decide)))
      replace HK := am (KeepBut.trans (ks3 GW404.out GW405.out GW415.out HK.out) (KeepBut.of_grown hg g) (Kd.R_base2 HO414.out))
      have HO436 := am (ho)
      clear HO414
      clear ho hb hg hat
      obtain ⟨Ao53, co53, eo53⟩ := Kd.R_slice HO436.out
      (first | subst eo53 | (injection eo53 with f1_ f2_ f3_; have f4_ := f1_.symm; have f5_ := f3_.symm; clear f1_ f2_ f3_; subst f4_; subst f5_))
      refine hK.out _ _ ⟨(blk_cell BK415.out 0).trans rfl, (blk_cell BK415.out 1).trans rfl, (blk_cell BK415.out 2).trans rfl⟩ (fun hHeld => ?_)
      clear hK K
      refine norm_ (a' := ?_) ?_ ?_
      rotate_left
      ·show Act.put _ (some 38) _ = _
       simp only [Act.put, List.setIfInBounds_toArray, List.set_cons_zero, List.set_cons_succ, i64_w, i32_w]
       rfl
      refine pure_ (i := 7) (N := some 39) (v := ?_) (a' := ?_) #[true, true, true, true, true, true, true, true, false] rfl rfl (any_of HT_.out (by kernel_rfl)) (fun _ _ _ h => h) (Or.inl ⟨by rfl, ?_⟩) ?_ ?_
      rotate_left
      ·intro w'
       go_simp
       with_reducible rfl
      rotate_left
      ·simp only [Act.put, List.setIfInBounds_toArray, List.set_cons_zero, List.set_cons_succ, i64_w, i32_w]
       rfl
      refine last_ (i := 8) (N := none) #[true, true, true, true, true, true, true, true, true] rfl rfl (one_of HT_.out (by kernel_rfl)) (by decide) (fun K hK => ?_)
      have hs54 : w52.cell? ⟨gb415, 2, none⟩ = some (.slice Ao19 t412.length co19) := (blk_cell BK415.out 2).trans rfl
      have hfs54 := blk_frozen BK415.out 2
      have hns54_0 := NB404_415.out
      have hns54_1 := NB405_415.out
      have hms54_0 := NB415_404.out
      have hms54_1 := NB415_405.out
      refine skip_ (w1 := ?_) (by rfl) rfl ?_ ?_
      rotate_left
      ·go_simp
       rfl
      refine hK.out _ _ ?_
      clear hK K
      refine done_ (done_of HT_.out (by kernel_rfl)) ?_
      try go_wp2
      go_meet
      case rel => exact ⟨_, (t433), (t406), (t409), (y434), (.slice Ao13 t406.length co13), (.slice Ao18 t409.length co18), (.slice Ao53 y434.length co53), H', ⟨by first | omega | exact Nat.le_refl _⟩, ⟨rl (Kd.R_mono (Kd.R_far (p := ⟨gb415, 2, none⟩) (Kd.R_types HO408.out BK415.out (by decide)) (fun _ hk => hk.2) (.slice Ao53 y434.length co53)) (fun _ hk => by first | exact ⟨hk.1.1.1, hk.1.2⟩ | (simp only [ne_eq] at hk ⊢; simp only [hk, not_false_eq_true, and_self])))⟩, ⟨rl (Kd.R_mono (Kd.R_far (p := ⟨gb415, 2, none⟩) (Kd.R_types HO411.out BK415.out (by decide)) (fun _ hk => hk.2) (.slice Ao53 y434.length co53)) (fun _ hk => by first | exact ⟨hk.1.1.1, hk.1.2⟩ | (simp only [ne_eq] at hk ⊢; simp only [hk, not_false_eq_true, and_self])))⟩, ⟨rl (Kd.R_mono (Kd.R_far (p := ⟨gb415, 2, none⟩) (Kd.R_types HO436.out BK415.out (by decide)) (fun _ hk => hk.2) (.slice Ao53 y434.length co53)) (fun _ hk => by first | exact ⟨hk.1.1, hk.1.2.1⟩ | (simp only [ne_eq] at hk ⊢; simp only [hk, not_false_eq_true, and_self])))⟩, ⟨kf1 NB404_415.out BK404.out⟩, ⟨kf1 NB405_415.out BK405.out⟩, ⟨by (with_reducible repeat (first | refine blk_drewN ?_ _ | refine blk_drew ?_ | refine blk_alloc ?_ _)); refine blk_put (cs := #[.slice Ao13 t406.length co13, .slice Ao18 t409.length co18, .slice Ao19 t412.length co19]) ?_ 2 _ rfl; (with_reducible repeat (first | refine blk_drewN ?_ _ | refine blk_drew ?_ | refine blk_alloc ?_ _)); exact BK415.out⟩, ⟨by exact is63_3 NB0_404.out NB0_405.out NB0_415.out HI0.out⟩, ⟨by exact ks3 GW404.out GW405.out GW415.out HK.out⟩, ⟨by exact bs4 (IsS63.ge HI0.out) GE404.out GE405.out GE415.out HB.out⟩⟩
     ·rw [if_neg c46] at H
      exact absurd H (by simp)
    ·rw [if_neg c44] at H
     have c44b0 : (t416 == 2) = false := beq_eq_false_iff_ne.mpr c44
     have c44b1 : (t416 != 2) = true := bne_iff_ne.mpr c44
     by_cases c55 : t416 = 3
     ·rw [if_pos c55] at H
      have c55b0 : (t416 == 3) = true := beq_iff_eq.mpr c55
      have c55b1 : (t416 != 3) = false := bne_eq_false_iff_eq.mpr c55
      clear c55
      obtain ⟨y437, hy437⟩ : ∃ y_ : List Int, y_ = (([] : List Int)) := ⟨_, rfl⟩
      replace H : (spec_l1Wrong.j0 k s0_0 t417 t406 t409 y437) = some (r1, r2, r3, r4) := by first | (rw [hy437]; with_reducible exact H) | (have H2_ := (Option.bind_some _ _).symm.trans H; rw [hy437]; with_reducible exact H2_) | (have H2_ := (Option.bind_some _ _).symm.trans H; with_reducible exact H2_) | with_reducible exact H | (rw [hy437]; exact H) | exact H
      have Ny437 := am hy437
      clear hy437
      have H' := am H
      clear H
      go_wp2_with (first | ((with_reducible refine gate_dst (N := 42) rfl ?_); refine Kd.R_lit (Kd.int .i64) _ 3 ?hg (N := 42) ?hd (xs := ([] : List Int)) (inner := []) (ok := fun _ => True) (okp := fun _ => True) ?hr ?hp (fun _ hk => hk) trivial (Below.refl _ _) (Nat.le_refl _) (by simp) ?_; (case hd => rfl); (case hg => rfl); (case hr => first | (go_simp; done) | (go_simp; rfl)); (case hp => exact (Reps.none _ _)); intro v438 w56 ho57 hb hg_ hnew_; clear hg_ hnew_; (first | rw [← Ny437.out] at ho57 | (simp only [Int.reduceToNat] at ho57; rw [← Ny437.out] at ho57)); have HO439 := am (Kd.R_lower (Kd.R_new' (Kd.R_new' (Kd.R_new' ho57 (Kd.R_lt (rl HO408.out))) (Kd.R_lt (rl HO411.out))) (Kd.R_lt (rl HO414.out))) (keep_size (w := w) (g := g) (row := none) (ks3 GW404.out GW405.out GW415.out HK.out))); replace HO408 := am (Kd.R_elder' (rl HO408.out) (Kd.R_base ho57) hb); replace HO411 := am (Kd.R_elder' (rl HO411.out) (Kd.R_base ho57) hb); replace HO414 := am (Kd.R_elder' (rl HO414.out) (Kd.R_base ho57) hb); replace BK404 := bb BK404 hb; replace BK405 := bb BK405 hb; replace BK415 := bb BK415 hb; replace HK := am (KeepBut.trans (ks3 GW404.out GW405.out GW415.out HK.out) (KeepBut.of_below hb g none) (.inl rfl)); replace HB := am (below_step (bs4 (IsS63.ge HI0.out) GE404.out GE405.out GE415.out HB.out) hb); replace HI0 := am (IsS63.below (is63_3 NB0_404.out NB0_405.out NB0_415.out HI0.out) hb); clear hb ho57; obtain ⟨Ao58, co58, eo58⟩ := Kd.R_slice HO439.out; subst eo58; have hnb59 := NB415_404.out; have hnc59 := NB404_415.out; have hnb60 := NB415_405.out; have hnc60 := NB405_415.out; have hnb61 := NB415_0.out; have hnc61 := NB0_415.out; obtain ⟨hcz62_0, hcz62_1, hcz62_2, hfz62_0, hfz62_1, hfz62_2⟩ := cf3 BK415))
      go_meet
      case rel => exact ⟨_, (t417), (t406), (t409), (y437), (.slice Ao13 t406.length co13), (.slice Ao18 t409.length co18), (.slice Ao58 y437.length co58), H', ⟨by first | omega | exact Nat.le_refl _⟩, ⟨rl (Kd.R_mono (Kd.R_far (p := ⟨gb415, 2, none⟩) (Kd.R_types HO408.out BK415.out (by decide)) (fun _ hk => hk.2) (.slice Ao58 y437.length co58)) (fun _ hk => by first | exact ⟨hk.1.1.1, hk.1.2⟩ | (simp only [ne_eq] at hk ⊢; simp only [hk, not_false_eq_true, and_self])))⟩, ⟨rl (Kd.R_mono (Kd.R_far (p := ⟨gb415, 2, none⟩) (Kd.R_types HO411.out BK415.out (by decide)) (fun _ hk => hk.2) (.slice Ao58 y437.length co58)) (fun _ hk => by first | exact ⟨hk.1.1.1, hk.1.2⟩ | (simp only [ne_eq] at hk ⊢; simp only [hk, not_false_eq_true, and_self])))⟩, ⟨rl (Kd.R_mono (Kd.R_far (p := ⟨gb415, 2, none⟩) (Kd.R_types HO439.out BK415.out (by decide)) (fun _ hk => hk.2) (.slice Ao58 y437.length co58)) (fun _ hk => by first | exact ⟨hk.1.1.1.2, hk.1.1.2⟩ | (simp only [ne_eq] at hk ⊢; simp only [hk, not_false_eq_true, and_self])))⟩, ⟨kf1 NB404_415.out BK404.out⟩, ⟨kf1 NB405_415.out BK405.out⟩, ⟨by (with_reducible repeat (first | refine blk_drewN ?_ _ | refine blk_drew ?_ | refine blk_alloc ?_ _)); refine blk_put (cs := #[.slice Ao13 t406.length co13, .slice Ao18 t409.length co18, .slice Ao19 t412.length co19]) ?_ 2 _ rfl; (with_reducible repeat (first | refine blk_drewN ?_ _ | refine blk_drew ?_ | refine blk_alloc ?_ _)); exact BK415.out⟩, ⟨by exact is63_3 NB0_404.out NB0_405.out NB0_415.out HI0.out⟩, ⟨by exact ks3 GW404.out GW405.out GW415.out HK.out⟩, ⟨by exact bs4 (IsS63.ge HI0.out) GE404.out GE405.out GE415.out HB.out⟩⟩
     ·rw [if_neg c55] at H
      have c55b0 : (t416 == 3) = false := beq_eq_false_iff_ne.mpr c55
      have c55b1 : (t416 != 3) = true := bne_iff_ne.mpr c55
      have H' := am H
      clear H
      go_wp2
      go_meet
      case rel => exact ⟨_, (t417), (t406), (t409), (t412), (.slice Ao13 t406.length co13), (.slice Ao18 t409.length co18), (.slice Ao19 t412.length co19), H', ⟨by first | omega | exact Nat.le_refl _⟩, ⟨rl HO408.out⟩, ⟨rl HO411.out⟩, ⟨rl HO414.out⟩, ⟨kl BK404.out⟩, ⟨kl BK405.out⟩, ⟨kl BK415.out⟩, ⟨by exact is63_3 NB0_404.out NB0_405.out NB0_415.out HI0.out⟩, ⟨by exact ks3 GW404.out GW405.out GW415.out HK.out⟩, ⟨by exact bs4 (IsS63.ge HI0.out) GE404.out GE405.out GE415.out HB.out⟩⟩
 case rest =>
  clear HC5
  try clear c1
  try clear c2
  try clear p2
  try clear q2
  try clear hx2
  try clear hf2
  try clear c3
  try clear c4
  try clear c5
  try clear c6
  try clear c21
  try clear c21b0
  try clear c21b1
  try clear c24
  try clear c25
  try clear p26
  try clear q26
  try clear hx26
  try clear hf26
  try clear c34
  try clear c35
  try clear c35b0
  try clear c35b1
  try clear c36
  try clear c37
  try clear c38
  try clear c39
  try clear c44
  try clear c44b0
  try clear c44b1
  try clear c46
  try clear c55
  try clear c55b0
  try clear c55b1
  try clear c59
  try clear c60
  try clear c61
  try clear hx26_0
  try clear p26
  try clear q26
  obtain ⟨kq, x1001_4, x416000_4, x416001_4, x416002_4, u416000, u416001, u416002, HA, HJ4, HO_416000, HO_416001, HO_416002, BK404, BK405, BK415, HI0, HK, HB⟩ := hcut
  cases kq with
  | zero => exact absurd HA.out (by simp [spec_l1Wrong.j0])
  | succ kj4 =>
   have H := HA.out
   clear HA
   simp only [spec_l1Wrong.j0] at H
   simp only [Option.some.injEq, Prod.mk.injEq] at H
   obtain ⟨rfl, rfl, rfl, rfl⟩ := H
   have hnb63 := NB415_404.out
   have hnc63 := NB404_415.out
   have hnb64 := NB415_405.out
   have hnc64 := NB405_415.out
   have hnb65 := NB415_0.out
   have hnc65 := NB0_415.out
   obtain ⟨hcz66_0, hcz66_1, hcz66_2, hfz66_0, hfz66_1, hfz66_2⟩ := cf3 BK415
   obtain ⟨Ao67, co67, eo67⟩ := Kd.R_slice HO_416000.out
   subst eo67
   have hnb68 := NB405_404.out
   have hnc68 := NB404_405.out
   have hnb69 := NB405_0.out
   have hnc69 := NB0_405.out
   obtain ⟨hcz70_0, hcz70_1, hcz70_2, hfz70_0, hfz70_1, hfz70_2⟩ := cf3 BK405
   obtain ⟨Ao71, co71, eo71⟩ := Kd.R_slice HO_416001.out
   subst eo71
   obtain ⟨Ao72, co72, eo72⟩ := Kd.R_slice HO_416002.out
   subst eo72
   go_wp2
   refine bodyPost_ret (results_cell_row rfl _ _ gb405 24 #[.slice Ao67 x416000_4.length co67, .slice Ao71 x416001_4.length co71, .slice Ao72 x416002_4.length co72] (0, 0) _ rfl (kp3 (kf0 BK405.out)) Tryd.underlying24 rfl (by kernel_rfl)) rfl ?_
   exact ⟨_, _, _, by first | rfl | (simp [errW_none, errW_some] <;> rfl) | (simp [*, errW_none, errW_some] <;> rfl), by exact ro (rg BK405 HO_416000), by exact ro (rg BK405 HO_416001), by exact ro (rg BK405 HO_416002), by exact is63_3 NB0_404.out NB0_405.out NB0_415.out HI0.out, by exact bs4 (IsS63.ge HI0.out) GE404.out GE405.out GE415.out HB.out, by exact ks3 GW404.out GW405.out GW415.out HK.out⟩

end Go.Proofs.YtomeaapjjmaepaaDoor.A
