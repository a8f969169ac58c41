/- Contracts of functions of the given program (ASpecDrawHeapSame). No conditions beyond those stated. -/
import Derived.Test.YtomeaapjjmaepaaDoorA0
import Derived.Test.YtomeaapjjmaepaaDoorASpecL13Open
import Derived.Test.YtomeaapjjmaepaaDoorASpecL13RdPick
import Derived.Test.YtomeaapjjmaepaaDoorASpecL1Draw
import Derived.Test.YtomeaapjjmaepaaDoorASpecL1Wrong
import Derived.Test.YtomeaapjjmaepaaDoorAState
import Derived.Test.YtomeaapjjmaepaaDoorA0
namespace Go.Proofs.YtomeaapjjmaepaaDoor.A
open Go.RowKit Go.Proofs.YtomeaapjjmaepaaDoorW.PrintWords Go.Proofs.YtomeaapjjmaepaaDoorW.PrintLast Go.Proofs.YtomeaapjjmaepaaDoorW.PrintMore
attribute [local go_sem] max2_int min2_int max_two min_two max_three min_three max_four min_four   -- for this text's walks alone
set_option linter.unusedVariables false
set_option linter.unusedSimpArgs false

/-! ### spec_DrawHeapSame -/
def spec_DrawHeapSame.f (k : Nat) (l0 : List Int) : Option (List Int × List Int × List Int × List Int × List Int × List Int) := (spec_l13Open.f l0).bind fun bt527 => ((spec_l1Draw.f k bt527.1 bt527.2).bind fun bt530 => ((spec_l13Rd_pick.f k bt527.1 bt530.2.2.2 3).bind fun bt541 => (if bt541.1 = 0 then ((spec_l1Draw.f k bt527.1 bt541.2).bind fun bt543 => (some (bt530.1, bt530.2.1, bt530.2.2.1, bt543.1, bt543.2.1, bt543.2.2.1))) else ((spec_l1Wrong.f k bt527.1 bt541.2 bt530.1 bt530.2.1 bt530.2.2.1).bind fun bt553 => (some (bt530.1, bt530.2.1, bt530.2.2.1, bt553.1, bt553.2.1, bt553.2.2.1))))))
theorem spec_DrawHeapSame.mono : ∀ a0 k, LeO (spec_DrawHeapSame.f k a0) (spec_DrawHeapSame.f (k + 1) a0) := by
 intro a0 k
 unfold spec_DrawHeapSame.f
 repeat' first
   | (with_reducible exact spec_l13Rd_pick.mono _ _ _ _)
   | (with_reducible exact spec_l1Draw.mono _ _ _)
   | (with_reducible exact spec_l1Wrong.mono _ _ _ _ _ _)
   | (with_reducible exact LeO.refl _)
   | (with_reducible exact LeO.none _)
   | (with_reducible refine LeO.ite ?_ ?_)
   | (with_reducible refine LeO.bind ?_ (fun _ => ?_))
   | exact spec_l13Rd_pick.mono _ _ _ _
   | exact spec_l1Draw.mono _ _ _
   | exact spec_l1Wrong.mono _ _ _ _ _ _
   | exact LeO.none _
   | refine LeO.ite ?_ ?_
   | refine LeO.bind ?_ (fun _ => ?_)
set_option maxHeartbeats 8000000 in
set_option maxRecDepth 100000 in
theorem spec_DrawHeapSame.calls (k : Nat) (A0 : Option Addr) (c0 : Nat) (l0 : List Int) (r1 : List Int) (r2 : List Int) (r3 : List Int) (r4 : List Int) (r5 : List Int) (r6 : List Int) (w : World) (hr0 : Kd.C (Kd.int .u8) w A0 l0.length l0) (hc0 : l0.length ≤ c0) (h : spec_DrawHeapSame.f k l0 = some (r1, r2, r3, r4, r5, r6)) :
  Calls Tryd.prog 21 #[.slice A0 l0.length c0] w fun e w' => ∃ v0_ v1_ v2_ v3_ v4_ v5_ : Value, e = .returned (.tuple #[.agg #[v0_, v1_, v2_], .agg #[v3_, v4_, v5_]]) ∧ Kd.R (Kd.int .i64) 3 w' w.heap.size (fun k_ => some k_ ≠ (v1_ : Value).ownBlock ∧ some k_ ≠ (v2_ : Value).ownBlock ∧ some k_ ≠ (v3_ : Value).ownBlock ∧ some k_ ≠ (v4_ : Value).ownBlock ∧ some k_ ≠ (v5_ : Value).ownBlock) v0_ r1 ∧ Kd.R (Kd.int .i64) 3 w' w.heap.size (fun k_ => some k_ ≠ (v0_ : Value).ownBlock ∧ some k_ ≠ (v2_ : Value).ownBlock ∧ some k_ ≠ (v3_ : Value).ownBlock ∧ some k_ ≠ (v4_ : Value).ownBlock ∧ some k_ ≠ (v5_ : Value).ownBlock) v1_ r2 ∧ Kd.R (Kd.int .i64) 3 w' w.heap.size (fun k_ => some k_ ≠ (v0_ : Value).ownBlock ∧ some k_ ≠ (v1_ : Value).ownBlock ∧ some k_ ≠ (v3_ : Value).ownBlock ∧ some k_ ≠ (v4_ : Value).ownBlock ∧ some k_ ≠ (v5_ : Value).ownBlock) v2_ r3 ∧ Kd.R (Kd.int .i64) 3 w' w.heap.size (fun k_ => some k_ ≠ (v0_ : Value).ownBlock ∧ some k_ ≠ (v1_ : Value).ownBlock ∧ some k_ ≠ (v2_ : Value).ownBlock ∧ some k_ ≠ (v4_ : Value).ownBlock ∧ some k_ ≠ (v5_ : Value).ownBlock) v3_ r4 ∧ Kd.R (Kd.int .i64) 3 w' w.heap.size (fun k_ => some k_ ≠ (v0_ : Value).ownBlock ∧ some k_ ≠ (v1_ : Value).ownBlock ∧ some k_ ≠ (v2_ : Value).ownBlock ∧ some k_ ≠ (v3_ : Value).ownBlock ∧ some k_ ≠ (v5_ : Value).ownBlock) v4_ r5 ∧ Kd.R (Kd.int .i64) 3 w' w.heap.size (fun k_ => some k_ ≠ (v0_ : Value).ownBlock ∧ some k_ ≠ (v1_ : Value).ownBlock ∧ some k_ ≠ (v2_ : Value).ownBlock ∧ some k_ ≠ (v3_ : Value).ownBlock ∧ some k_ ≠ (v4_ : Value).ownBlock) v5_ r6 ∧ Below w.heap.size w w' := by
 have hu24 := Tryd.underlying24
 have HR0 := am hr0
 have HC0 := am hc0
 clear hr0 hc0
 have HB := am (Below.refl w.heap.size w)
 have H : ((spec_l13Open.f l0).bind fun bt527 => ((spec_l1Draw.f k bt527.1 bt527.2).bind fun bt530 => ((spec_l13Rd_pick.f k bt527.1 bt530.2.2.2 3).bind fun bt541 => (if bt541.1 = 0 then ((spec_l1Draw.f k bt527.1 bt541.2).bind fun bt543 => (some (bt530.1, bt530.2.1, bt530.2.2.1, bt543.1, bt543.2.1, bt543.2.2.1))) else ((spec_l1Wrong.f k bt527.1 bt541.2 bt530.1 bt530.2.1 bt530.2.2.1).bind fun bt553 => (some (bt530.1, bt530.2.1, bt530.2.2.1, bt553.1, bt553.2.1, bt553.2.2.1))))))) = some (r1, r2, r3, r4, r5, r6) := h
 clear h
 replace H := Option.bind_eq_some_iff.mp H
 obtain ⟨⟨t527, t528⟩, A20, H⟩ := H
 replace H : ((spec_l1Draw.f k t527 t528).bind fun bt530 => ((spec_l13Rd_pick.f k t527 bt530.2.2.2 3).bind fun bt541 => (if bt541.1 = 0 then ((spec_l1Draw.f k t527 bt541.2).bind fun bt543 => (some (bt530.1, bt530.2.1, bt530.2.2.1, bt543.1, bt543.2.1, bt543.2.2.1))) else ((spec_l1Wrong.f k t527 bt541.2 bt530.1 bt530.2.1 bt530.2.2.1).bind fun bt553 => (some (bt530.1, bt530.2.1, bt530.2.2.1, bt553.1, bt553.2.1, bt553.2.2.1)))))) = some (r1, r2, r3, r4, r5, r6) := H
 have A2 := am A20
 clear A20
 replace H := Option.bind_eq_some_iff.mp H
 obtain ⟨⟨t530, t533, t536, t539⟩, A30, H⟩ := H
 replace H : ((spec_l13Rd_pick.f k t527 t539 3).bind fun bt541 => (if bt541.1 = 0 then ((spec_l1Draw.f k t527 bt541.2).bind fun bt543 => (some (t530, t533, t536, bt543.1, bt543.2.1, bt543.2.2.1))) else ((spec_l1Wrong.f k t527 bt541.2 t530 t533 t536).bind fun bt553 => (some (t530, t533, t536, bt553.1, bt553.2.1, bt553.2.2.1))))) = some (r1, r2, r3, r4, r5, r6) := H
 have A3 := am A30
 clear A30
 replace H := Option.bind_eq_some_iff.mp H
 obtain ⟨⟨t541, t542⟩, A40, H⟩ := H
 replace H : (if t541 = 0 then ((spec_l1Draw.f k t527 t542).bind fun bt543 => (some (t530, t533, t536, bt543.1, bt543.2.1, bt543.2.2.1))) else ((spec_l1Wrong.f k t527 t542 t530 t533 t536).bind fun bt553 => (some (t530, t533, t536, bt553.1, bt553.2.1, bt553.2.2.1)))) = some (r1, r2, r3, r4, r5, r6) := H
 have A4 := am A40
 clear A40
 by_cases c5 : t541 = 0
 ·rw [if_pos c5] at H
  have c5b0 : (t541 == 0) = true := beq_iff_eq.mpr c5
  have c5b1 : (t541 != 0) = false := bne_eq_false_iff_eq.mpr c5
  clear c5
  replace H := Option.bind_eq_some_iff.mp H
  obtain ⟨⟨t543, t546, t549, t552⟩, A60, H⟩ := H
  replace H : (some (t530, t533, t536, t543, t546, t549)) = some (r1, r2, r3, r4, r5, r6) := H
  have A6 := am A60
  clear A60
  simp only [Option.some.injEq, Prod.mk.injEq] at H
  obtain ⟨rfl, rfl, rfl, rfl, rfl, rfl⟩ := H
  go_enter Tryd.func21, Tryd.ntmps21
  try go_wp2_with (first | ((with_reducible refine gate_dst (N := 2) rfl ?_); refine box_event ?hg (N := 2) ?hd (cs := #[.slice none 0 0, .slice none 0 0, .slice none 0 0]) (t := 24) ?hr ?_; (case hd => rfl); (case hg => rfl); (case hr => first | (go_simp; done) | (go_simp; rfl)); intro gb525 hg w7 hbox hb; have BK525 := am (hbox); have GW525 := am ((by rw [hg]; exact (below_size (bl HB.out)) : w.heap.size ≤ gb525)); have GE525 := am ((by rw [hg]; exact (below_size (bl HB.out)) : w.heap.size ≤ gb525)); replace HB := am (below_step (bl HB.out) hb); clear hb hbox hg) | ((with_reducible refine gate_dst (N := 3) rfl ?_); refine box_event ?hg (N := 3) ?hd (cs := #[.slice none 0 0, .slice none 0 0, .slice none 0 0]) (t := 24) ?hr ?_; (case hd => rfl); (case hg => rfl); (case hr => first | (go_simp; done) | (go_simp; rfl)); intro gb526 hg w8 hbox hb; have BK526 := am (hbox); have GW526 := am ((by rw [hg]; exact (below_size (bs1 GE525.out HB.out)) : w.heap.size ≤ gb526)); have GE526 := am ((by rw [hg]; exact (below_size (bs1 GE525.out HB.out)) : w.heap.size ≤ gb526)); replace HB := am (below_step (bs1 GE525.out HB.out) hb); have NB525_526 := nb BK525 hg; have NB526_525 := nc BK525 hg; replace BK525 := bb BK525 hb; clear hb hbox hg) | ((with_reducible refine gate_callee (f := 32) rfl ?_); refine gL (some 7) rfl rfl Tryd.func32 (by kernel_rfl) rfl #[.slice A0 l0.length c0] rfl ?_; (with_reducible refine (spec_l13Open.calls _ _ l0 t527 t528 w _ ?side1 ?side2 ?side3 A2.out).mono ?_); (case side1 => exact bs2 GE525.out GE526.out HB.out); (case side2 => exact HR0.out); (case side3 => exact HC0.out); rintro e w9 ⟨g529, rfl, hi, hb, hb2⟩; refine ⟨_, rfl, ?_⟩; replace HB := am (hb); have HI529 := am (hi); have NB529_525 := am (IsS63.ne_blk hi (blk_below (g := gb525) (o := .cells #[.slice none 0 0, .slice none 0 0, .slice none 0 0] 24 (0, 0)) (kl BK525.out) hb2) (by decide)); have NB525_529 := am (Ne.symm (IsS63.ne_blk hi (blk_below (g := gb525) (o := .cells #[.slice none 0 0, .slice none 0 0, .slice none 0 0] 24 (0, 0)) (kl BK525.out) hb2) (by decide))); replace BK525 := am (blk_below (g := gb525) (o := .cells #[.slice none 0 0, .slice none 0 0, .slice none 0 0] 24 (0, 0)) (kl BK525.out) hb2); have NB529_526 := am (IsS63.ne_blk hi (blk_below (g := gb526) (o := .cells #[.slice none 0 0, .slice none 0 0, .slice none 0 0] 24 (0, 0)) (kl BK526.out) hb2) (by decide)); have NB526_529 := am (Ne.symm (IsS63.ne_blk hi (blk_below (g := gb526) (o := .cells #[.slice none 0 0, .slice none 0 0, .slice none 0 0] 24 (0, 0)) (kl BK526.out) hb2) (by decide))); replace BK526 := am (blk_below (g := gb526) (o := .cells #[.slice none 0 0, .slice none 0 0, .slice none 0 0] 24 (0, 0)) (kl BK526.out) hb2); (try clear hb hb2 hi)) | ((with_reducible refine gate_callee (f := 33) rfl ?_); refine gL (some 9) rfl rfl Tryd.func33 (by kernel_rfl) rfl #[.pointer (some ⟨g529, 0, none⟩)] rfl ?_; (with_reducible refine (spec_l1Draw.calls k g529 t527 t528 t530 t533 t536 t539 w _ ?side1 ?side2 A3.out).mono ?_); (case side1 => exact is63_2 NB529_525.out NB529_526.out HI529.out); (case side2 => exact bs3 (IsS63.ge HI529.out) GE525.out GE526.out HB.out); rintro e w10 ⟨v531, v534, v537, rfl, ho0, ho1, ho2, hi, hb, hk⟩; refine ⟨_, rfl, ?_⟩; replace BK525 := kb hk BK525 NB525_529; replace BK526 := kb hk BK526 NB526_529; have HO532 := ln0 ho0 (bs3 (IsS63.ge HI529.out) GE525.out GE526.out HB.out); have HO535 := ln0 ho1 (bs3 (IsS63.ge HI529.out) GE525.out GE526.out HB.out); have HO538 := ln0 ho2 (bs3 (IsS63.ge HI529.out) GE525.out GE526.out HB.out); replace HB := am (hb); replace HI529 := am (hi); (try clear hb hk hi ho0 ho1 ho2)) | ((with_reducible refine gate_dst (N := 5) rfl ?_); refine box_event ?hg (N := 5) ?hd (cs := #[.slice none 0 0, .slice none 0 0, .slice none 0 0]) (t := 24) ?hr ?_; (case hd => rfl); (case hg => rfl); (case hr => first | (go_simp; done) | (go_simp; rfl)); intro gb540 hg w11 hbox hb; replace HO532 := rb HO532 hb; replace HO535 := rb HO535 hb; replace HO538 := rb HO538 hb; have BK540 := am (hbox); have GW540 := am ((by rw [hg]; exact (below_size (bs3 (IsS63.ge HI529.out) GE525.out GE526.out HB.out)) : w.heap.size ≤ gb540)); have GE540 := am ((by rw [hg]; exact (below_size (bs3 (IsS63.ge HI529.out) GE525.out GE526.out HB.out)) : w.heap.size ≤ gb540)); replace HB := am (below_step (bs3 (IsS63.ge HI529.out) GE525.out GE526.out HB.out) hb); have NB525_540 := nb BK525 hg; have NB540_525 := nc BK525 hg; replace BK525 := bb BK525 hb; have NB526_540 := nb BK526 hg; have NB540_526 := nc BK526 hg; replace BK526 := bb BK526 hb; have NB529_540 := am ((by rw [hg]; exact Nat.ne_of_lt (IsS63.lt (show IsS63 w _ g529 t527 t539 from by exact is63_2 NB529_525.out NB529_526.out HI529.out)) : g529 ≠ gb540)); have NB540_529 := am ((by rw [hg]; exact Nat.ne_of_gt (IsS63.lt (show IsS63 w _ g529 t527 t539 from by exact is63_2 NB529_525.out NB529_526.out HI529.out)) : gb540 ≠ g529)); replace HI529 := am (IsS63.below (is63_2 NB529_525.out NB529_526.out HI529.out) hb); clear hb hbox hg; obtain ⟨Ao12, co12, eo12⟩ := Kd.R_slice HO532.out; subst eo12; have hnb13 := NB540_525.out; have hnc13 := NB525_540.out; have hnb14 := NB540_526.out; have hnc14 := NB526_540.out; have hnb15 := NB540_529.out; have hnc15 := NB529_540.out; obtain ⟨hcz16_0, hcz16_1, hcz16_2, hfz16_0, hfz16_1, hfz16_2⟩ := cf3 BK540; obtain ⟨Ao17, co17, eo17⟩ := Kd.R_slice HO535.out; subst eo17; obtain ⟨Ao18, co18, eo18⟩ := Kd.R_slice HO538.out; subst eo18) | ((with_reducible refine gate_callee (f := 34) rfl ?_); refine gL (some 11) rfl rfl Tryd.func34 (by kernel_rfl) rfl #[.pointer (some ⟨g529, 0, none⟩), .int .i64 3] rfl ?_; (with_reducible refine (spec_l13Rd_pick.calls k g529 t527 t539 3 t541 t542 w _ ?side1 ?side2 A4.out).mono ?_); (case side1 => exact is63_3 NB529_525.out NB529_526.out NB529_540.out HI529.out); (case side2 => exact bs4 (IsS63.ge HI529.out) GE525.out GE526.out GE540.out HB.out); rintro e w19 ⟨rfl, hi, hb, hk⟩; refine ⟨_, rfl, ?_⟩; replace BK525 := am (KeepBut.blk hk (g' := gb525) (o := .cells #[.slice none 0 0, .slice none 0 0, .slice none 0 0] 24 (0, 0)) (kf1 NB525_540.out BK525.out) NB525_529.out (by simp)); replace BK526 := am (KeepBut.blk hk (g' := gb526) (o := .cells #[.slice none 0 0, .slice none 0 0, .slice none 0 0] 24 (0, 0)) (kf1 NB526_540.out BK526.out) NB526_529.out (by simp)); replace HO532 := am (Kd.R_mono (Kd.R_keep (IsS63.apart (show IsS63 w _ g529 t527 t539 from by exact is63_3 NB529_525.out NB529_526.out NB529_540.out HI529.out) (rg BK540 HO532) (by decide)) hk (fun _ h => h.2)) (fun _ h => h.1)); replace HO535 := am (Kd.R_mono (Kd.R_keep (IsS63.apart (show IsS63 w _ g529 t527 t539 from by exact is63_3 NB529_525.out NB529_526.out NB529_540.out HI529.out) (rg BK540 HO535) (by decide)) hk (fun _ h => h.2)) (fun _ h => h.1)); replace HO538 := am (Kd.R_mono (Kd.R_keep (IsS63.apart (show IsS63 w _ g529 t527 t539 from by exact is63_3 NB529_525.out NB529_526.out NB529_540.out HI529.out) (rg BK540 HO538) (by decide)) hk (fun _ h => h.2)) (fun _ h => h.1)); replace BK540 := am (KeepBut.blk hk (g' := gb540) (o := .cells #[.slice Ao12 t530.length co12, .slice Ao17 t533.length co17, .slice Ao18 t536.length co18] 24 (0, 0)) (kp3 (kf0 BK540.out)) NB540_529.out (by simp)); replace HB := am (hb); replace HI529 := am (hi); (try clear hb hk hi)))
  replace HO532 := am (Kd.R_drew HO532.out)
  replace HO535 := am (Kd.R_drew HO535.out)
  replace HO538 := am (Kd.R_drew HO538.out)
  replace BK525 := am (blk_drew BK525.out)
  replace BK526 := am (blk_drew BK526.out)
  replace BK540 := am (blk_drew BK540.out)
  replace HI529 := am (IsS63.drew HI529.out)
  replace HB := am (below_drew1 HB.out)
  refine start_ (n := 5) (S := fun w' => w'.cell? ⟨gb540, 0, none⟩ = some (.slice Ao12 t530.length co12) ∧ w'.cell? ⟨gb540, 1, none⟩ = some (.slice Ao17 t533.length co17) ∧ w'.cell? ⟨gb540, 2, none⟩ = some (.slice Ao18 t536.length co18)) (ds := []) #[false, false, false, false, false] (by kernel_rfl) rfl rfl ⟨(blk_cell BK540.out 0).trans rfl, (blk_cell BK540.out 1).trans rfl, (blk_cell BK540.out 2).trans rfl⟩ (fun hHeld => ?_)
  generalize w19.drew = w20 at HO532 HO535 HO538 BK525 BK526 BK540 HI529 HB hHeld ⊢
  refine pure_ (i := 1) (N := some 14) (v := ?_) (a' := ?_) #[false, true, false, false, false] rfl rfl (by kernel_rfl) (fun _ _ _ h => h) (Or.inl ⟨by rfl, ?_⟩) ?_ ?_
  rotate_left
  ·intro w'
   go_simp
   with_reducible rfl
  rotate_left
  ·simp only [Act.put, List.setIfInBounds_toArray, List.set_cons_zero, List.set_cons_succ, i64_w, i32_w]
   rfl
  refine take_ (i := 0) (N := some 13) (v := ?_) (a' := ?_) #[true, true, false, false, false] rfl rfl (by kernel_rfl) (fun _ _ _ h => h) (Or.inl ⟨by rfl, ?_⟩) hHeld ?_ ?_
  rotate_left
  ·rintro w' ⟨s0, s1, s2⟩
   go_simp
   with_reducible rfl
  rotate_left
  ·simp only [Act.put, List.setIfInBounds_toArray, List.set_cons_zero, List.set_cons_succ, i64_w, i32_w]
   rfl
  refine one_ (i := 2) (N := some 15) #[true, true, true, false, false] rfl rfl (by kernel_rfl) (by decide) (fun K hK => ?_)
  refine goes_ Tryd.func33 (by kernel_rfl) rfl #[.pointer (some ⟨g529, 0, none⟩)] (by rfl) rfl rfl (by (try simp only [List.map_toArray, List.map_cons, List.map_nil]); first | done | rfl | (simp only [List.length_drop, List.length_take]; rfl)) ?_
  with_reducible refine (spec_l1Draw.calls k g529 t527 t542 t543 t546 t549 t552 w _ ?side1 ?side2 A6.out).mono ?_
  (case side1 => exact is63_3 NB529_525.out NB529_526.out NB529_540.out HI529.out)
  (case side2 => exact bs4 (IsS63.ge HI529.out) GE525.out GE526.out GE540.out HB.out)
  rintro e w21 ⟨v544, v547, v550, rfl, ho0, ho1, ho2, hi, hb, hk⟩
  refine ⟨_, rfl, ?_⟩
  replace BK525 := kb hk BK525 NB525_529
  replace BK526 := kb hk BK526 NB526_529
  replace BK540 := kb hk BK540 NB540_529
  have HO545 := ln3 ho0 (rl HO532.out) (rl HO535.out) (rl HO538.out) (bs4 (IsS63.ge HI529.out) GE525.out GE526.out GE540.out HB.out)
  have HO548 := ln3 ho1 (rl HO532.out) (rl HO535.out) (rl HO538.out) (bs4 (IsS63.ge HI529.out) GE525.out GE526.out GE540.out HB.out)
  have HO551 := ln3 ho2 (rl HO532.out) (rl HO535.out) (rl HO538.out) (bs4 (IsS63.ge HI529.out) GE525.out GE526.out GE540.out HB.out)
  replace HO532 := am (Kd.R_mono (Kd.R_told (Kd.R_told (Kd.R_told (Kd.R_oldK (IsS63.apart (show IsS63 w _ g529 t527 t542 from by exact is63_3 NB529_525.out NB529_526.out NB529_540.out HI529.out) (rl HO532.out) (by decide)) hk) (Kd.R_base ho0)) (Kd.R_base ho1)) (Kd.R_base ho2)) (fun _ h_ => h_.1))
  replace HO535 := am (Kd.R_mono (Kd.R_told (Kd.R_told (Kd.R_told (Kd.R_oldK (IsS63.apart (show IsS63 w _ g529 t527 t542 from by exact is63_3 NB529_525.out NB529_526.out NB529_540.out HI529.out) (rl HO535.out) (by decide)) hk) (Kd.R_base ho0)) (Kd.R_base ho1)) (Kd.R_base ho2)) (fun _ h_ => h_.1))
  replace HO538 := am (Kd.R_mono (Kd.R_told (Kd.R_told (Kd.R_told (Kd.R_oldK (IsS63.apart (show IsS63 w _ g529 t527 t542 from by exact is63_3 NB529_525.out NB529_526.out NB529_540.out HI529.out) (rl HO538.out) (by decide)) hk) (Kd.R_base ho0)) (Kd.R_base ho1)) (Kd.R_base ho2)) (fun _ h_ => h_.1))
  replace HB := am (hb)
  replace HI529 := am (hi)
  (try clear hb hk hi ho0 ho1 ho2)
  obtain ⟨Ao25, co25, eo25⟩ := Kd.R_slice HO545.out
  (first | subst eo25 | (injection eo25 with f1_ f2_ f3_; have f4_ := f1_.symm; have f5_ := f3_.symm; clear f1_ f2_ f3_; subst f4_; subst f5_))
  obtain ⟨Ao27, co27, eo27⟩ := Kd.R_slice HO548.out
  (first | subst eo27 | (injection eo27 with f1_ f2_ f3_; have f4_ := f1_.symm; have f5_ := f3_.symm; clear f1_ f2_ f3_; subst f4_; subst f5_))
  obtain ⟨Ao29, co29, eo29⟩ := Kd.R_slice HO551.out
  (first | subst eo29 | (injection eo29 with f1_ f2_ f3_; have f4_ := f1_.symm; have f5_ := f3_.symm; clear f1_ f2_ f3_; subst f4_; subst f5_))
  refine hK.out _ _ ⟨(blk_cell BK540.out 0).trans rfl, (blk_cell BK540.out 1).trans rfl, (blk_cell BK540.out 2).trans rfl⟩ (fun hHeld => ?_)
  clear hK K
  refine norm_ (a' := ?_) ?_ ?_
  rotate_left
  ·show Act.put _ (some 15) _ = _
   simp only [Act.put, List.setIfInBounds_toArray, List.set_cons_zero, List.set_cons_succ, i64_w, i32_w]
   rfl
  refine one_ (i := 3) (N := none) #[true, true, true, true, false] rfl rfl (by kernel_rfl) (by decide) (fun K hK => ?_)
  have hs22 : w21.cell? ⟨gb525, 0, none⟩ = some (.slice none 0 0) := (blk_cell BK525.out 0).trans rfl
  have hfs22 := blk_frozen BK525.out 0
  have hns22_1 := NB526_525.out
  have hns22_2 := NB540_525.out
  have hms22_1 := NB525_526.out
  have hms22_2 := NB525_540.out
  have hs23 : w21.cell? ⟨gb525, 1, none⟩ = some (.slice none 0 0) := (blk_cell BK525.out 1).trans rfl
  have hfs23 := blk_frozen BK525.out 1
  have hns23_1 := NB526_525.out
  have hns23_2 := NB540_525.out
  have hms23_1 := NB525_526.out
  have hms23_2 := NB525_540.out
  have hs24 : w21.cell? ⟨gb525, 2, none⟩ = some (.slice none 0 0) := (blk_cell BK525.out 2).trans rfl
  have hfs24 := blk_frozen BK525.out 2
  have hns24_1 := NB526_525.out
  have hns24_2 := NB540_525.out
  have hms24_1 := NB525_526.out
  have hms24_2 := NB525_540.out
  refine skip_ (w1 := ?_) (by rfl) rfl ?_ ?_
  rotate_left
  ·go_simp
   rfl
  refine hK.out _ _ ⟨((cell_far (p := ⟨gb525, _, none⟩) NB540_525.out _).trans (((cell_far (p := ⟨gb525, _, none⟩) NB540_525.out _).trans (((cell_far (p := ⟨gb525, _, none⟩) NB540_525.out _).trans (hHeld.1)))))), ((cell_far (p := ⟨gb525, _, none⟩) NB540_525.out _).trans (((cell_far (p := ⟨gb525, _, none⟩) NB540_525.out _).trans (((cell_far (p := ⟨gb525, _, none⟩) NB540_525.out _).trans (hHeld.2.1)))))), ((cell_far (p := ⟨gb525, _, none⟩) NB540_525.out _).trans (((cell_far (p := ⟨gb525, _, none⟩) NB540_525.out _).trans (((cell_far (p := ⟨gb525, _, none⟩) NB540_525.out _).trans (hHeld.2.2))))))⟩ (fun hHeld => ?_)
  clear hK K
  refine one_ (i := 4) (N := none) #[true, true, true, true, true] rfl rfl (by kernel_rfl) (by decide) (fun K hK => ?_)
  have hs26 : w21.cell? ⟨gb526, 0, none⟩ = some (.slice none 0 0) := (blk_cell BK526.out 0).trans rfl
  have hfs26 := blk_frozen BK526.out 0
  have hns26_0 := NB525_526.out
  have hns26_2 := NB540_526.out
  have hms26_0 := NB526_525.out
  have hms26_2 := NB526_540.out
  have hs28 : w21.cell? ⟨gb526, 1, none⟩ = some (.slice none 0 0) := (blk_cell BK526.out 1).trans rfl
  have hfs28 := blk_frozen BK526.out 1
  have hns28_0 := NB525_526.out
  have hns28_2 := NB540_526.out
  have hms28_0 := NB526_525.out
  have hms28_2 := NB526_540.out
  have hs30 : w21.cell? ⟨gb526, 2, none⟩ = some (.slice none 0 0) := (blk_cell BK526.out 2).trans rfl
  have hfs30 := blk_frozen BK526.out 2
  have hns30_0 := NB525_526.out
  have hns30_2 := NB540_526.out
  have hms30_0 := NB526_525.out
  have hms30_2 := NB526_540.out
  refine skip_ (w1 := ?_) (by rfl) rfl ?_ ?_
  rotate_left
  ·go_simp
   rfl
  refine hK.out _ _ ⟨((cell_far (p := ⟨gb526, _, none⟩) NB540_526.out _).trans (((cell_far (p := ⟨gb526, _, none⟩) NB540_526.out _).trans (((cell_far (p := ⟨gb526, _, none⟩) NB540_526.out _).trans (hHeld.1)))))), ((cell_far (p := ⟨gb526, _, none⟩) NB540_526.out _).trans (((cell_far (p := ⟨gb526, _, none⟩) NB540_526.out _).trans (((cell_far (p := ⟨gb526, _, none⟩) NB540_526.out _).trans (hHeld.2.1)))))), ((cell_far (p := ⟨gb526, _, none⟩) NB540_526.out _).trans (((cell_far (p := ⟨gb526, _, none⟩) NB540_526.out _).trans (((cell_far (p := ⟨gb526, _, none⟩) NB540_526.out _).trans (hHeld.2.2))))))⟩ (fun hHeld => ?_)
  clear hK K
  refine done_ (by kernel_rfl) ?_
  try go_wp2
  refine bodyPost_ret (results_cc rfl _ _ gb525 gb526 24 24 #[.slice Ao12 t530.length co12, .slice Ao17 t533.length co17, .slice Ao18 t536.length co18] #[.slice Ao25 t543.length co25, .slice Ao27 t546.length co27, .slice Ao29 t549.length co29] (0, 0) (0, 0) _ _ rfl (by (with_reducible repeat (first | refine blk_drewN ?_ _ | refine blk_drew ?_ | refine blk_alloc ?_ _)); refine blk_far ?_ NB525_526.out _; (with_reducible repeat (first | refine blk_drewN ?_ _ | refine blk_drew ?_ | refine blk_alloc ?_ _)); refine blk_far ?_ NB525_526.out _; (with_reducible repeat (first | refine blk_drewN ?_ _ | refine blk_drew ?_ | refine blk_alloc ?_ _)); refine blk_far ?_ NB525_526.out _; (with_reducible repeat (first | refine blk_drewN ?_ _ | refine blk_drew ?_ | refine blk_alloc ?_ _)); refine blk_put (cs := #[.slice Ao12 t530.length co12, .slice Ao17 t533.length co17, .slice none 0 0]) ?_ 2 _ rfl; (with_reducible repeat (first | refine blk_drewN ?_ _ | refine blk_drew ?_ | refine blk_alloc ?_ _)); refine blk_put (cs := #[.slice Ao12 t530.length co12, .slice none 0 0, .slice none 0 0]) ?_ 1 _ rfl; (with_reducible repeat (first | refine blk_drewN ?_ _ | refine blk_drew ?_ | refine blk_alloc ?_ _)); refine blk_put (cs := #[.slice none 0 0, .slice none 0 0, .slice none 0 0]) ?_ 0 _ rfl; (with_reducible repeat (first | refine blk_drewN ?_ _ | refine blk_drew ?_ | refine blk_alloc ?_ _)); exact BK525.out) Tryd.underlying24 rfl (by kernel_rfl) rfl (kp3 (kf1 NB526_525.out BK526.out)) Tryd.underlying24 rfl (by kernel_rfl)) rfl ?_
  exact ⟨_, _, _, _, _, _, by first | rfl | (simp [errW_none, errW_some] <;> rfl) | (simp [*, errW_none, errW_some] <;> rfl), by exact ro (rg2 BK525 BK526 HO532), by exact ro (rg2 BK525 BK526 HO535), by exact ro (rg2 BK525 BK526 HO538), by exact ro (rg2 BK525 BK526 HO545), by exact ro (rg2 BK525 BK526 HO548), by exact ro (rg2 BK525 BK526 HO551), by exact bs4 (IsS63.ge HI529.out) GE525.out GE526.out GE540.out HB.out⟩
 ·rw [if_neg c5] at H
  have c5b0 : (t541 == 0) = false := beq_eq_false_iff_ne.mpr c5
  have c5b1 : (t541 != 0) = true := bne_iff_ne.mpr c5
  replace H := Option.bind_eq_some_iff.mp H
  obtain ⟨⟨t553, t556, t559, t562⟩, A310, H⟩ := H
  replace H : (some (t530, t533, t536, t553, t556, t559)) = some (r1, r2, r3, r4, r5, r6) := H
  have A31 := am A310
  clear A310
  simp only [Option.some.injEq, Prod.mk.injEq] at H
  obtain ⟨rfl, rfl, rfl, rfl, rfl, rfl⟩ := H
  go_enter Tryd.func21, Tryd.ntmps21
  try go_wp2_with (first | ((with_reducible refine gate_dst (N := 2) rfl ?_); refine box_event ?hg (N := 2) ?hd (cs := #[.slice none 0 0, .slice none 0 0, .slice none 0 0]) (t := 24) ?hr ?_; (case hd => rfl); (case hg => rfl); (case hr => first | (go_simp; done) | (go_simp; rfl)); intro gb525 hg w32 hbox hb; have BK525 := am (hbox); have GW525 := am ((by rw [hg]; exact (below_size (bl HB.out)) : w.heap.size ≤ gb525)); have GE525 := am ((by rw [hg]; exact (below_size (bl HB.out)) : w.heap.size ≤ gb525)); replace HB := am (below_step (bl HB.out) hb); clear hb hbox hg) | ((with_reducible refine gate_dst (N := 3) rfl ?_); refine box_event ?hg (N := 3) ?hd (cs := #[.slice none 0 0, .slice none 0 0, .slice none 0 0]) (t := 24) ?hr ?_; (case hd => rfl); (case hg => rfl); (case hr => first | (go_simp; done) | (go_simp; rfl)); intro gb526 hg w33 hbox hb; have BK526 := am (hbox); have GW526 := am ((by rw [hg]; exact (below_size (bs1 GE525.out HB.out)) : w.heap.size ≤ gb526)); have GE526 := am ((by rw [hg]; exact (below_size (bs1 GE525.out HB.out)) : w.heap.size ≤ gb526)); replace HB := am (below_step (bs1 GE525.out HB.out) hb); have NB525_526 := nb BK525 hg; have NB526_525 := nc BK525 hg; replace BK525 := bb BK525 hb; clear hb hbox hg) | ((with_reducible refine gate_callee (f := 32) rfl ?_); refine gL (some 7) rfl rfl Tryd.func32 (by kernel_rfl) rfl #[.slice A0 l0.length c0] rfl ?_; (with_reducible refine (spec_l13Open.calls _ _ l0 t527 t528 w _ ?side1 ?side2 ?side3 A2.out).mono ?_); (case side1 => exact bs2 GE525.out GE526.out HB.out); (case side2 => exact HR0.out); (case side3 => exact HC0.out); rintro e w34 ⟨g529, rfl, hi, hb, hb2⟩; refine ⟨_, rfl, ?_⟩; replace HB := am (hb); have HI529 := am (hi); have NB529_525 := am (IsS63.ne_blk hi (blk_below (g := gb525) (o := .cells #[.slice none 0 0, .slice none 0 0, .slice none 0 0] 24 (0, 0)) (kl BK525.out) hb2) (by decide)); have NB525_529 := am (Ne.symm (IsS63.ne_blk hi (blk_below (g := gb525) (o := .cells #[.slice none 0 0, .slice none 0 0, .slice none 0 0] 24 (0, 0)) (kl BK525.out) hb2) (by decide))); replace BK525 := am (blk_below (g := gb525) (o := .cells #[.slice none 0 0, .slice none 0 0, .slice none 0 0] 24 (0, 0)) (kl BK525.out) hb2); have NB529_526 := am (IsS63.ne_blk hi (blk_below (g := gb526) (o := .cells #[.slice none 0 0, .slice none 0 0, .slice none 0 0] 24 (0, 0)) (kl BK526.out) hb2) (by decide)); have NB526_529 := am (Ne.symm (IsS63.ne_blk hi (blk_below (g := gb526) (o := .cells #[.slice none 0 0, .slice none 0 0, .slice none 0 0] 24 (0, 0)) (kl BK526.out) hb2) (by decide))); replace BK526 := am (blk_below (g := gb526) (o := .cells #[.slice none 0 0, .slice none 0 0, .slice none 0 0] 24 (0, 0)) (kl BK526.out) hb2); (try clear hb hb2 hi)) | ((with_reducible refine gate_callee (f := 33) rfl ?_); refine gL (some 9) rfl rfl Tryd.func33 (by kernel_rfl) rfl #[.pointer (some ⟨g529, 0, none⟩)] rfl ?_; (with_reducible refine (spec_l1Draw.calls k g529 t527 t528 t530 t533 t536 t539 w _ ?side1 ?side2 A3.out).mono ?_); (case side1 => exact is63_2 NB529_525.out NB529_526.out HI529.out); (case side2 => exact bs3 (IsS63.ge HI529.out) GE525.out GE526.out HB.out); rintro e w35 ⟨v531, v534, v537, rfl, ho0, ho1, ho2, hi, hb, hk⟩; refine ⟨_, rfl, ?_⟩; replace BK525 := kb hk BK525 NB525_529; replace BK526 := kb hk BK526 NB526_529; have HO532 := ln0 ho0 (bs3 (IsS63.ge HI529.out) GE525.out GE526.out HB.out); have HO535 := ln0 ho1 (bs3 (IsS63.ge HI529.out) GE525.out GE526.out HB.out); have HO538 := ln0 ho2 (bs3 (IsS63.ge HI529.out) GE525.out GE526.out HB.out); replace HB := am (hb); replace HI529 := am (hi); (try clear hb hk hi ho0 ho1 ho2)) | ((with_reducible refine gate_dst (N := 5) rfl ?_); refine box_event ?hg (N := 5) ?hd (cs := #[.slice none 0 0, .slice none 0 0, .slice none 0 0]) (t := 24) ?hr ?_; (case hd => rfl); (case hg => rfl); (case hr => first | (go_simp; done) | (go_simp; rfl)); intro gb540 hg w36 hbox hb; replace HO532 := rb HO532 hb; replace HO535 := rb HO535 hb; replace HO538 := rb HO538 hb; have BK540 := am (hbox); have GW540 := am ((by rw [hg]; exact (below_size (bs3 (IsS63.ge HI529.out) GE525.out GE526.out HB.out)) : w.heap.size ≤ gb540)); have GE540 := am ((by rw [hg]; exact (below_size (bs3 (IsS63.ge HI529.out) GE525.out GE526.out HB.out)) : w.heap.size ≤ gb540)); replace HB := am (below_step (bs3 (IsS63.ge HI529.out) GE525.out GE526.out HB.out) hb); have NB525_540 := nb BK525 hg; have NB540_525 := nc BK525 hg; replace BK525 := bb BK525 hb; have NB526_540 := nb BK526 hg; have NB540_526 := nc BK526 hg; replace BK526 := bb BK526 hb; have NB529_540 := am ((by rw [hg]; exact Nat.ne_of_lt (IsS63.lt (show IsS63 w _ g529 t527 t539 from by exact is63_2 NB529_525.out NB529_526.out HI529.out)) : g529 ≠ gb540)); have NB540_529 := am ((by rw [hg]; exact Nat.ne_of_gt (IsS63.lt (show IsS63 w _ g529 t527 t539 from by exact is63_2 NB529_525.out NB529_526.out HI529.out)) : gb540 ≠ g529)); replace HI529 := am (IsS63.below (is63_2 NB529_525.out NB529_526.out HI529.out) hb); clear hb hbox hg; obtain ⟨Ao37, co37, eo37⟩ := Kd.R_slice HO532.out; subst eo37; have hnb38 := NB540_525.out; have hnc38 := NB525_540.out; have hnb39 := NB540_526.out; have hnc39 := NB526_540.out; have hnb40 := NB540_529.out; have hnc40 := NB529_540.out; obtain ⟨hcz41_0, hcz41_1, hcz41_2, hfz41_0, hfz41_1, hfz41_2⟩ := cf3 BK540; obtain ⟨Ao42, co42, eo42⟩ := Kd.R_slice HO535.out; subst eo42; obtain ⟨Ao43, co43, eo43⟩ := Kd.R_slice HO538.out; subst eo43) | ((with_reducible refine gate_callee (f := 34) rfl ?_); refine gL (some 11) rfl rfl Tryd.func34 (by kernel_rfl) rfl #[.pointer (some ⟨g529, 0, none⟩), .int .i64 3] rfl ?_; (with_reducible refine (spec_l13Rd_pick.calls k g529 t527 t539 3 t541 t542 w _ ?side1 ?side2 A4.out).mono ?_); (case side1 => exact is63_3 NB529_525.out NB529_526.out NB529_540.out HI529.out); (case side2 => exact bs4 (IsS63.ge HI529.out) GE525.out GE526.out GE540.out HB.out); rintro e w44 ⟨rfl, hi, hb, hk⟩; refine ⟨_, rfl, ?_⟩; replace BK525 := am (KeepBut.blk hk (g' := gb525) (o := .cells #[.slice none 0 0, .slice none 0 0, .slice none 0 0] 24 (0, 0)) (kf1 NB525_540.out BK525.out) NB525_529.out (by simp)); replace BK526 := am (KeepBut.blk hk (g' := gb526) (o := .cells #[.slice none 0 0, .slice none 0 0, .slice none 0 0] 24 (0, 0)) (kf1 NB526_540.out BK526.out) NB526_529.out (by simp)); replace HO532 := am (Kd.R_mono (Kd.R_keep (IsS63.apart (show IsS63 w _ g529 t527 t539 from by exact is63_3 NB529_525.out NB529_526.out NB529_540.out HI529.out) (rg BK540 HO532) (by decide)) hk (fun _ h => h.2)) (fun _ h => h.1)); replace HO535 := am (Kd.R_mono (Kd.R_keep (IsS63.apart (show IsS63 w _ g529 t527 t539 from by exact is63_3 NB529_525.out NB529_526.out NB529_540.out HI529.out) (rg BK540 HO535) (by decide)) hk (fun _ h => h.2)) (fun _ h => h.1)); replace HO538 := am (Kd.R_mono (Kd.R_keep (IsS63.apart (show IsS63 w _ g529 t527 t539 from by exact is63_3 NB529_525.out NB529_526.out NB529_540.out HI529.out) (rg BK540 HO538) (by decide)) hk (fun _ h => h.2)) (fun _ h => h.1)); replace BK540 := am (KeepBut.blk hk (g' := gb540) (o := .cells #[.slice Ao37 t530.length co37, .slice Ao42 t533.length co42, .slice Ao43 t536.length co43] 24 (0, 0)) (kp3 (kf0 BK540.out)) NB540_529.out (by simp)); replace HB := am (hb); replace HI529 := am (hi); (try clear hb hk hi)))
  replace HO532 := am (Kd.R_drew HO532.out)
  replace HO535 := am (Kd.R_drew HO535.out)
  replace HO538 := am (Kd.R_drew HO538.out)
  replace BK525 := am (blk_drew BK525.out)
  replace BK526 := am (blk_drew BK526.out)
  replace BK540 := am (blk_drew BK540.out)
  replace HI529 := am (IsS63.drew HI529.out)
  replace HB := am (below_drew1 HB.out)
  refine start_ (n := 6) (S := fun w' => w'.cell? ⟨gb540, 0, none⟩ = some (.slice Ao37 t530.length co37) ∧ w'.cell? ⟨gb540, 1, none⟩ = some (.slice Ao42 t533.length co42) ∧ w'.cell? ⟨gb540, 2, none⟩ = some (.slice Ao43 t536.length co43)) (ds := []) #[false, false, false, false, false, false] (by kernel_rfl) rfl rfl ⟨(blk_cell BK540.out 0).trans rfl, (blk_cell BK540.out 1).trans rfl, (blk_cell BK540.out 2).trans rfl⟩ (fun hHeld => ?_)
  generalize w44.drew = w45 at HO532 HO535 HO538 BK525 BK526 BK540 HI529 HB hHeld ⊢
  refine pure_ (i := 1) (N := some 17) (v := ?_) (a' := ?_) #[false, true, false, false, false, false] rfl rfl (by kernel_rfl) (fun _ _ _ h => h) (Or.inl ⟨by rfl, ?_⟩) ?_ ?_
  rotate_left
  ·intro w'
   go_simp
   with_reducible rfl
  rotate_left
  ·simp only [Act.put, List.setIfInBounds_toArray, List.set_cons_zero, List.set_cons_succ, i64_w, i32_w]
   rfl
  refine take_ (i := 0) (N := some 16) (v := ?_) (a' := ?_) #[true, true, false, false, false, false] rfl rfl (by kernel_rfl) (fun _ _ _ h => h) (Or.inl ⟨by rfl, ?_⟩) hHeld ?_ ?_
  rotate_left
  ·rintro w' ⟨s0, s1, s2⟩
   go_simp
   with_reducible rfl
  rotate_left
  ·simp only [Act.put, List.setIfInBounds_toArray, List.set_cons_zero, List.set_cons_succ, i64_w, i32_w]
   rfl
  refine take_ (i := 2) (N := some 18) (v := ?_) (a' := ?_) #[true, true, true, false, false, false] rfl rfl (by kernel_rfl) (fun _ _ _ h => h) (Or.inl ⟨by rfl, ?_⟩) hHeld ?_ ?_
  rotate_left
  ·rintro w' ⟨s0, s1, s2⟩
   go_simp
   with_reducible rfl
  rotate_left
  ·simp only [Act.put, List.setIfInBounds_toArray, List.set_cons_zero, List.set_cons_succ, i64_w, i32_w]
   rfl
  refine one_ (i := 3) (N := some 19) #[true, true, true, true, false, false] rfl rfl (by kernel_rfl) (by decide) (fun K hK => ?_)
  refine goes_ Tryd.func41 (by kernel_rfl) rfl #[.pointer (some ⟨g529, 0, none⟩), .agg #[.slice Ao37 t530.length co37, .slice Ao42 t533.length co42, .slice Ao43 t536.length co43]] (by rfl) rfl rfl (by (try simp only [List.map_toArray, List.map_cons, List.map_nil]); first | done | rfl | (simp only [List.length_drop, List.length_take]; rfl)) ?_
  with_reducible refine (spec_l1Wrong.calls k g529 t527 t542 _ _ t530 _ _ t533 _ _ t536 t553 t556 t559 t562 w _ ?side1 ?side2 ?side3 ?side4 ?side5 ?side6 ?side7 ?side8 ?side9 ?side10 ?side11 A31.out).mono ?_
  (case side1 => exact is63_3 NB529_525.out NB529_526.out NB529_540.out HI529.out)
  (case side2 => exact bs4 (IsS63.ge HI529.out) GE525.out GE526.out GE540.out HB.out)
  (case side3 => exact cl ((Kd.R_reads' HO532.out).2.2))
  (case side4 => exact sc HO532)
  (case side5 => exact far_slice (IsS63.own_ne HI529.out HO532.out (by decide)))
  (case side6 => exact cl ((Kd.R_reads' HO535.out).2.2))
  (case side7 => exact sc HO535)
  (case side8 => exact far_slice (IsS63.own_ne HI529.out HO535.out (by decide)))
  (case side9 => exact cl ((Kd.R_reads' HO538.out).2.2))
  (case side10 => exact sc HO538)
  (case side11 => exact far_slice (IsS63.own_ne HI529.out HO538.out (by decide)))
  rintro e w46 ⟨v554, v557, v560, rfl, ho0, ho1, ho2, hi, hb, hk⟩
  refine ⟨_, rfl, ?_⟩
  replace BK525 := kb hk BK525 NB525_529
  replace BK526 := kb hk BK526 NB526_529
  replace BK540 := kb hk BK540 NB540_529
  have HO555 := ln3 ho0 (rl HO532.out) (rl HO535.out) (rl HO538.out) (bs4 (IsS63.ge HI529.out) GE525.out GE526.out GE540.out HB.out)
  have HO558 := ln3 ho1 (rl HO532.out) (rl HO535.out) (rl HO538.out) (bs4 (IsS63.ge HI529.out) GE525.out GE526.out GE540.out HB.out)
  have HO561 := ln3 ho2 (rl HO532.out) (rl HO535.out) (rl HO538.out) (bs4 (IsS63.ge HI529.out) GE525.out GE526.out GE540.out HB.out)
  replace HO532 := am (Kd.R_mono (Kd.R_told (Kd.R_told (Kd.R_told (Kd.R_oldK (IsS63.apart (show IsS63 w _ g529 t527 t542 from by exact is63_3 NB529_525.out NB529_526.out NB529_540.out HI529.out) (rl HO532.out) (by decide)) hk) (Kd.R_base ho0)) (Kd.R_base ho1)) (Kd.R_base ho2)) (fun _ h_ => h_.1))
  replace HO535 := am (Kd.R_mono (Kd.R_told (Kd.R_told (Kd.R_told (Kd.R_oldK (IsS63.apart (show IsS63 w _ g529 t527 t542 from by exact is63_3 NB529_525.out NB529_526.out NB529_540.out HI529.out) (rl HO535.out) (by decide)) hk) (Kd.R_base ho0)) (Kd.R_base ho1)) (Kd.R_base ho2)) (fun _ h_ => h_.1))
  replace HO538 := am (Kd.R_mono (Kd.R_told (Kd.R_told (Kd.R_told (Kd.R_oldK (IsS63.apart (show IsS63 w _ g529 t527 t542 from by exact is63_3 NB529_525.out NB529_526.out NB529_540.out HI529.out) (rl HO538.out) (by decide)) hk) (Kd.R_base ho0)) (Kd.R_base ho1)) (Kd.R_base ho2)) (fun _ h_ => h_.1))
  replace HB := am (hb)
  replace HI529 := am (hi)
  (try clear hb hk hi ho0 ho1 ho2)
  obtain ⟨Ao50, co50, eo50⟩ := Kd.R_slice HO555.out
  (first | subst eo50 | (injection eo50 with f1_ f2_ f3_; have f4_ := f1_.symm; have f5_ := f3_.symm; clear f1_ f2_ f3_; subst f4_; subst f5_))
  obtain ⟨Ao52, co52, eo52⟩ := Kd.R_slice HO558.out
  (first | subst eo52 | (injection eo52 with f1_ f2_ f3_; have f4_ := f1_.symm; have f5_ := f3_.symm; clear f1_ f2_ f3_; subst f4_; subst f5_))
  obtain ⟨Ao54, co54, eo54⟩ := Kd.R_slice HO561.out
  (first | subst eo54 | (injection eo54 with f1_ f2_ f3_; have f4_ := f1_.symm; have f5_ := f3_.symm; clear f1_ f2_ f3_; subst f4_; subst f5_))
  refine hK.out _ _ ⟨(blk_cell BK540.out 0).trans rfl, (blk_cell BK540.out 1).trans rfl, (blk_cell BK540.out 2).trans rfl⟩ (fun hHeld => ?_)
  clear hK K
  refine norm_ (a' := ?_) ?_ ?_
  rotate_left
  ·show Act.put _ (some 19) _ = _
   simp only [Act.put, List.setIfInBounds_toArray, List.set_cons_zero, List.set_cons_succ, i64_w, i32_w]
   rfl
  refine one_ (i := 4) (N := none) #[true, true, true, true, true, false] rfl rfl (by kernel_rfl) (by decide) (fun K hK => ?_)
  have hs47 : w46.cell? ⟨gb525, 0, none⟩ = some (.slice none 0 0) := (blk_cell BK525.out 0).trans rfl
  have hfs47 := blk_frozen BK525.out 0
  have hns47_1 := NB526_525.out
  have hns47_2 := NB540_525.out
  have hms47_1 := NB525_526.out
  have hms47_2 := NB525_540.out
  have hs48 : w46.cell? ⟨gb525, 1, none⟩ = some (.slice none 0 0) := (blk_cell BK525.out 1).trans rfl
  have hfs48 := blk_frozen BK525.out 1
  have hns48_1 := NB526_525.out
  have hns48_2 := NB540_525.out
  have hms48_1 := NB525_526.out
  have hms48_2 := NB525_540.out
  have hs49 : w46.cell? ⟨gb525, 2, none⟩ = some (.slice none 0 0) := (blk_cell BK525.out 2).trans rfl
  have hfs49 := blk_frozen BK525.out 2
  have hns49_1 := NB526_525.out
  have hns49_2 := NB540_525.out
  have hms49_1 := NB525_526.out
  have hms49_2 := NB525_540.out
  refine skip_ (w1 := ?_) (by rfl) rfl ?_ ?_
  rotate_left
  ·go_simp
   rfl
  refine hK.out _ _ ⟨((cell_far (p := ⟨gb525, _, none⟩) NB540_525.out _).trans (((cell_far (p := ⟨gb525, _, none⟩) NB540_525.out _).trans (((cell_far (p := ⟨gb525, _, none⟩) NB540_525.out _).trans (hHeld.1)))))), ((cell_far (p := ⟨gb525, _, none⟩) NB540_525.out _).trans (((cell_far (p := ⟨gb525, _, none⟩) NB540_525.out _).trans (((cell_far (p := ⟨gb525, _, none⟩) NB540_525.out _).trans (hHeld.2.1)))))), ((cell_far (p := ⟨gb525, _, none⟩) NB540_525.out _).trans (((cell_far (p := ⟨gb525, _, none⟩) NB540_525.out _).trans (((cell_far (p := ⟨gb525, _, none⟩) NB540_525.out _).trans (hHeld.2.2))))))⟩ (fun hHeld => ?_)
  clear hK K
  refine one_ (i := 5) (N := none) #[true, true, true, true, true, true] rfl rfl (by kernel_rfl) (by decide) (fun K hK => ?_)
  have hs51 : w46.cell? ⟨gb526, 0, none⟩ = some (.slice none 0 0) := (blk_cell BK526.out 0).trans rfl
  have hfs51 := blk_frozen BK526.out 0
  have hns51_0 := NB525_526.out
  have hns51_2 := NB540_526.out
  have hms51_0 := NB526_525.out
  have hms51_2 := NB526_540.out
  have hs53 : w46.cell? ⟨gb526, 1, none⟩ = some (.slice none 0 0) := (blk_cell BK526.out 1).trans rfl
  have hfs53 := blk_frozen BK526.out 1
  have hns53_0 := NB525_526.out
  have hns53_2 := NB540_526.out
  have hms53_0 := NB526_525.out
  have hms53_2 := NB526_540.out
  have hs55 : w46.cell? ⟨gb526, 2, none⟩ = some (.slice none 0 0) := (blk_cell BK526.out 2).trans rfl
  have hfs55 := blk_frozen BK526.out 2
  have hns55_0 := NB525_526.out
  have hns55_2 := NB540_526.out
  have hms55_0 := NB526_525.out
  have hms55_2 := NB526_540.out
  refine skip_ (w1 := ?_) (by rfl) rfl ?_ ?_
  rotate_left
  ·go_simp
   rfl
  refine hK.out _ _ ⟨((cell_far (p := ⟨gb526, _, none⟩) NB540_526.out _).trans (((cell_far (p := ⟨gb526, _, none⟩) NB540_526.out _).trans (((cell_far (p := ⟨gb526, _, none⟩) NB540_526.out _).trans (hHeld.1)))))), ((cell_far (p := ⟨gb526, _, none⟩) NB540_526.out _).trans (((cell_far (p := ⟨gb526, _, none⟩) NB540_526.out _).trans (((cell_far (p := ⟨gb526, _, none⟩) NB540_526.out _).trans (hHeld.2.1)))))), ((cell_far (p := ⟨gb526, _, none⟩) NB540_526.out _).trans (((cell_far (p := ⟨gb526, _, none⟩) NB540_526.out _).trans (((cell_far (p := ⟨gb526, _, none⟩) NB540_526.out _).trans (hHeld.2.2))))))⟩ (fun hHeld => ?_)
  clear hK K
  refine done_ (by kernel_rfl) ?_
  try go_wp2
  refine bodyPost_ret (results_cc rfl _ _ gb525 gb526 24 24 #[.slice Ao37 t530.length co37, .slice Ao42 t533.length co42, .slice Ao43 t536.length co43] #[.slice Ao50 t553.length co50, .slice Ao52 t556.length co52, .slice Ao54 t559.length co54] (0, 0) (0, 0) _ _ rfl (by (with_reducible repeat (first | refine blk_drewN ?_ _ | refine blk_drew ?_ | refine blk_alloc ?_ _)); refine blk_far ?_ NB525_526.out _; (with_reducible repeat (first | refine blk_drewN ?_ _ | refine blk_drew ?_ | refine blk_alloc ?_ _)); refine blk_far ?_ NB525_526.out _; (with_reducible repeat (first | refine blk_drewN ?_ _ | refine blk_drew ?_ | refine blk_alloc ?_ _)); refine blk_far ?_ NB525_526.out _; (with_reducible repeat (first | refine blk_drewN ?_ _ | refine blk_drew ?_ | refine blk_alloc ?_ _)); refine blk_put (cs := #[.slice Ao37 t530.length co37, .slice Ao42 t533.length co42, .slice none 0 0]) ?_ 2 _ rfl; (with_reducible repeat (first | refine blk_drewN ?_ _ | refine blk_drew ?_ | refine blk_alloc ?_ _)); refine blk_put (cs := #[.slice Ao37 t530.length co37, .slice none 0 0, .slice none 0 0]) ?_ 1 _ rfl; (with_reducible repeat (first | refine blk_drewN ?_ _ | refine blk_drew ?_ | refine blk_alloc ?_ _)); refine blk_put (cs := #[.slice none 0 0, .slice none 0 0, .slice none 0 0]) ?_ 0 _ rfl; (with_reducible repeat (first | refine blk_drewN ?_ _ | refine blk_drew ?_ | refine blk_alloc ?_ _)); exact BK525.out) Tryd.underlying24 rfl (by kernel_rfl) rfl (kp3 (kf1 NB526_525.out BK526.out)) Tryd.underlying24 rfl (by kernel_rfl)) rfl ?_
  exact ⟨_, _, _, _, _, _, by first | rfl | (simp [errW_none, errW_some] <;> rfl) | (simp [*, errW_none, errW_some] <;> rfl), by exact ro (rg2 BK525 BK526 HO532), by exact ro (rg2 BK525 BK526 HO535), by exact ro (rg2 BK525 BK526 HO538), by exact ro (rg2 BK525 BK526 HO555), by exact ro (rg2 BK525 BK526 HO558), by exact ro (rg2 BK525 BK526 HO561), by exact bs4 (IsS63.ge HI529.out) GE525.out GE526.out GE540.out HB.out⟩

end Go.Proofs.YtomeaapjjmaepaaDoor.A
