/- Contracts of functions of the given program (ASpecDrawColoredSame). No conditions beyond those stated. -/
import Derived.Test.YtkbaggfkidalfaaA0
import Derived.Test.YtkbaggfkidalfaaASpecL13Open
import Derived.Test.YtkbaggfkidalfaaASpecL13RdPick
import Derived.Test.YtkbaggfkidalfaaASpecL3Draw
import Derived.Test.YtkbaggfkidalfaaASpecL3Wrong
import Derived.Test.YtkbaggfkidalfaaAState
import Derived.Test.YtkbaggfkidalfaaA0
namespace Go.Proofs.Ytkbaggfkidalfaa.A
open Go.RowKit Go.Proofs.YtkbaggfkidalfaaW.PrintWords Go.Proofs.YtkbaggfkidalfaaW.PrintLast Go.Proofs.YtkbaggfkidalfaaW.PrintMore
attribute [local go_sem] max2_int min2_int max_two min_two max_three min_three max_four min_four   -- for this text's walks alone
set_option linter.unusedVariables false
set_option linter.unusedSimpArgs false

/-! ### spec_DrawColoredSame -/
def spec_DrawColoredSame.f (k : Nat) (l0 : List Int) : Option (List Int × List Int × List Int × List Int × List Int × List Int × List Int × List Int) := (spec_l13Open.f l0).bind fun bt964 => ((spec_l3Draw.f k bt964.1 bt964.2).bind fun bt967 => ((spec_l13Rd_pick.f k bt964.1 bt967.2.2.2.2 3).bind fun bt981 => (if bt981.1 = 0 then ((spec_l3Draw.f k bt964.1 bt981.2).bind fun bt983 => (some (bt967.1, bt967.2.1, bt967.2.2.1, bt967.2.2.2.1, bt983.1, bt983.2.1, bt983.2.2.1, bt983.2.2.2.1))) else ((spec_l3Wrong.f k bt964.1 bt981.2 bt967.1 bt967.2.1 bt967.2.2.1 bt967.2.2.2.1).bind fun bt996 => (some (bt967.1, bt967.2.1, bt967.2.2.1, bt967.2.2.2.1, bt996.1, bt996.2.1, bt996.2.2.1, bt996.2.2.2.1))))))
theorem spec_DrawColoredSame.mono : ∀ a0 k, LeO (spec_DrawColoredSame.f k a0) (spec_DrawColoredSame.f (k + 1) a0) := by
 intro a0 k
 unfold spec_DrawColoredSame.f
 repeat' first
   | (with_reducible exact spec_l13Rd_pick.mono _ _ _ _)
   | (with_reducible exact spec_l3Draw.mono _ _ _)
   | (with_reducible exact spec_l3Wrong.mono _ _ _ _ _ _ _)
   | (with_reducible exact LeO.refl _)
   | (with_reducible exact LeO.none _)
   | (with_reducible refine LeO.ite ?_ ?_)
   | (with_reducible refine LeO.bind ?_ (fun _ => ?_))
   | exact spec_l13Rd_pick.mono _ _ _ _
   | exact spec_l3Draw.mono _ _ _
   | exact spec_l3Wrong.mono _ _ _ _ _ _ _
   | exact LeO.none _
   | refine LeO.ite ?_ ?_
   | refine LeO.bind ?_ (fun _ => ?_)
set_option maxHeartbeats 8000000 in
set_option maxRecDepth 100000 in
theorem spec_DrawColoredSame.calls (k : Nat) (A0 : Option Addr) (c0 : Nat) (l0 : List Int) (r1 : List Int) (r2 : List Int) (r3 : List Int) (r4 : List Int) (r5 : List Int) (r6 : List Int) (r7 : List Int) (r8 : List Int) (w : World) (hr0 : Kd.C (Kd.int .u8) w A0 l0.length l0) (hc0 : l0.length ≤ c0) (h : spec_DrawColoredSame.f k l0 = some (r1, r2, r3, r4, r5, r6, r7, r8)) :
  Calls Try.prog 33 #[.slice A0 l0.length c0] w fun e w' => ∃ v0_ v1_ v2_ v3_ v4_ v5_ v6_ v7_ : Value, e = .returned (.tuple #[.agg #[v0_, v1_, v2_, v3_], .agg #[v4_, v5_, v6_, v7_]]) ∧ Kd.R (Kd.int .i64) 3 w' w.heap.size (fun k_ => some k_ ≠ (v1_ : Value).ownBlock ∧ some k_ ≠ (v2_ : Value).ownBlock ∧ some k_ ≠ (v3_ : Value).ownBlock ∧ some k_ ≠ (v4_ : Value).ownBlock ∧ some k_ ≠ (v5_ : Value).ownBlock ∧ some k_ ≠ (v6_ : Value).ownBlock ∧ some k_ ≠ (v7_ : Value).ownBlock) v0_ r1 ∧ Kd.R (Kd.int .i64) 3 w' w.heap.size (fun k_ => some k_ ≠ (v0_ : Value).ownBlock ∧ some k_ ≠ (v2_ : Value).ownBlock ∧ some k_ ≠ (v3_ : Value).ownBlock ∧ some k_ ≠ (v4_ : Value).ownBlock ∧ some k_ ≠ (v5_ : Value).ownBlock ∧ some k_ ≠ (v6_ : Value).ownBlock ∧ some k_ ≠ (v7_ : Value).ownBlock) v1_ r2 ∧ Kd.R (Kd.int .i64) 3 w' w.heap.size (fun k_ => some k_ ≠ (v0_ : Value).ownBlock ∧ some k_ ≠ (v1_ : Value).ownBlock ∧ some k_ ≠ (v3_ : Value).ownBlock ∧ some k_ ≠ (v4_ : Value).ownBlock ∧ some k_ ≠ (v5_ : Value).ownBlock ∧ some k_ ≠ (v6_ : Value).ownBlock ∧ some k_ ≠ (v7_ : Value).ownBlock) v2_ r3 ∧ Kd.R (Kd.int .i64) 3 w' w.heap.size (fun k_ => some k_ ≠ (v0_ : Value).ownBlock ∧ some k_ ≠ (v1_ : Value).ownBlock ∧ some k_ ≠ (v2_ : Value).ownBlock ∧ some k_ ≠ (v4_ : Value).ownBlock ∧ some k_ ≠ (v5_ : Value).ownBlock ∧ some k_ ≠ (v6_ : Value).ownBlock ∧ some k_ ≠ (v7_ : Value).ownBlock) v3_ r4 ∧ Kd.R (Kd.int .i64) 3 w' w.heap.size (fun k_ => some k_ ≠ (v0_ : Value).ownBlock ∧ some k_ ≠ (v1_ : Value).ownBlock ∧ some k_ ≠ (v2_ : Value).ownBlock ∧ some k_ ≠ (v3_ : Value).ownBlock ∧ some k_ ≠ (v5_ : Value).ownBlock ∧ some k_ ≠ (v6_ : Value).ownBlock ∧ some k_ ≠ (v7_ : Value).ownBlock) v4_ r5 ∧ Kd.R (Kd.int .i64) 3 w' w.heap.size (fun k_ => some k_ ≠ (v0_ : Value).ownBlock ∧ some k_ ≠ (v1_ : Value).ownBlock ∧ some k_ ≠ (v2_ : Value).ownBlock ∧ some k_ ≠ (v3_ : Value).ownBlock ∧ some k_ ≠ (v4_ : Value).ownBlock ∧ some k_ ≠ (v6_ : Value).ownBlock ∧ some k_ ≠ (v7_ : Value).ownBlock) v5_ r6 ∧ Kd.R (Kd.int .i64) 3 w' w.heap.size (fun k_ => some k_ ≠ (v0_ : Value).ownBlock ∧ some k_ ≠ (v1_ : Value).ownBlock ∧ some k_ ≠ (v2_ : Value).ownBlock ∧ some k_ ≠ (v3_ : Value).ownBlock ∧ some k_ ≠ (v4_ : Value).ownBlock ∧ some k_ ≠ (v5_ : Value).ownBlock ∧ some k_ ≠ (v7_ : Value).ownBlock) v6_ r7 ∧ Kd.R (Kd.int .i64) 3 w' w.heap.size (fun k_ => some k_ ≠ (v0_ : Value).ownBlock ∧ some k_ ≠ (v1_ : Value).ownBlock ∧ some k_ ≠ (v2_ : Value).ownBlock ∧ some k_ ≠ (v3_ : Value).ownBlock ∧ some k_ ≠ (v4_ : Value).ownBlock ∧ some k_ ≠ (v5_ : Value).ownBlock ∧ some k_ ≠ (v6_ : Value).ownBlock) v7_ r8 ∧ Below w.heap.size w w' := by
 have hu30 := Try.underlying30
 have HR0 := am hr0
 have HC0 := am hc0
 clear hr0 hc0
 have HB := am (Below.refl w.heap.size w)
 have H : ((spec_l13Open.f l0).bind fun bt964 => ((spec_l3Draw.f k bt964.1 bt964.2).bind fun bt967 => ((spec_l13Rd_pick.f k bt964.1 bt967.2.2.2.2 3).bind fun bt981 => (if bt981.1 = 0 then ((spec_l3Draw.f k bt964.1 bt981.2).bind fun bt983 => (some (bt967.1, bt967.2.1, bt967.2.2.1, bt967.2.2.2.1, bt983.1, bt983.2.1, bt983.2.2.1, bt983.2.2.2.1))) else ((spec_l3Wrong.f k bt964.1 bt981.2 bt967.1 bt967.2.1 bt967.2.2.1 bt967.2.2.2.1).bind fun bt996 => (some (bt967.1, bt967.2.1, bt967.2.2.1, bt967.2.2.2.1, bt996.1, bt996.2.1, bt996.2.2.1, bt996.2.2.2.1))))))) = some (r1, r2, r3, r4, r5, r6, r7, r8) := h
 clear h
 replace H := Option.bind_eq_some_iff.mp H
 obtain ⟨⟨t964, t965⟩, A20, H⟩ := H
 replace H : ((spec_l3Draw.f k t964 t965).bind fun bt967 => ((spec_l13Rd_pick.f k t964 bt967.2.2.2.2 3).bind fun bt981 => (if bt981.1 = 0 then ((spec_l3Draw.f k t964 bt981.2).bind fun bt983 => (some (bt967.1, bt967.2.1, bt967.2.2.1, bt967.2.2.2.1, bt983.1, bt983.2.1, bt983.2.2.1, bt983.2.2.2.1))) else ((spec_l3Wrong.f k t964 bt981.2 bt967.1 bt967.2.1 bt967.2.2.1 bt967.2.2.2.1).bind fun bt996 => (some (bt967.1, bt967.2.1, bt967.2.2.1, bt967.2.2.2.1, bt996.1, bt996.2.1, bt996.2.2.1, bt996.2.2.2.1)))))) = some (r1, r2, r3, r4, r5, r6, r7, r8) := H
 have A2 := am A20
 clear A20
 replace H := Option.bind_eq_some_iff.mp H
 obtain ⟨⟨t967, t970, t973, t976, t979⟩, A30, H⟩ := H
 replace H : ((spec_l13Rd_pick.f k t964 t979 3).bind fun bt981 => (if bt981.1 = 0 then ((spec_l3Draw.f k t964 bt981.2).bind fun bt983 => (some (t967, t970, t973, t976, bt983.1, bt983.2.1, bt983.2.2.1, bt983.2.2.2.1))) else ((spec_l3Wrong.f k t964 bt981.2 t967 t970 t973 t976).bind fun bt996 => (some (t967, t970, t973, t976, bt996.1, bt996.2.1, bt996.2.2.1, bt996.2.2.2.1))))) = some (r1, r2, r3, r4, r5, r6, r7, r8) := H
 have A3 := am A30
 clear A30
 replace H := Option.bind_eq_some_iff.mp H
 obtain ⟨⟨t981, t982⟩, A40, H⟩ := H
 replace H : (if t981 = 0 then ((spec_l3Draw.f k t964 t982).bind fun bt983 => (some (t967, t970, t973, t976, bt983.1, bt983.2.1, bt983.2.2.1, bt983.2.2.2.1))) else ((spec_l3Wrong.f k t964 t982 t967 t970 t973 t976).bind fun bt996 => (some (t967, t970, t973, t976, bt996.1, bt996.2.1, bt996.2.2.1, bt996.2.2.2.1)))) = some (r1, r2, r3, r4, r5, r6, r7, r8) := H
 have A4 := am A40
 clear A40
 by_cases c5 : t981 = 0
 ·rw [if_pos c5] at H
  have c5b0 : (t981 == 0) = true := beq_iff_eq.mpr c5
  have c5b1 : (t981 != 0) = false := bne_eq_false_iff_eq.mpr c5
  clear c5
  replace H := Option.bind_eq_some_iff.mp H
  obtain ⟨⟨t983, t986, t989, t992, t995⟩, A60, H⟩ := H
  replace H : (some (t967, t970, t973, t976, t983, t986, t989, t992)) = some (r1, r2, r3, r4, r5, r6, r7, r8) := H
  have A6 := am A60
  clear A60
  simp only [Option.some.injEq, Prod.mk.injEq] at H
  obtain ⟨rfl, rfl, rfl, rfl, rfl, rfl, rfl, rfl⟩ := H
  go_enter Try.func33, Try.ntmps33
  try go_wp2_with (first | ((with_reducible refine gate_dst (N := 2) rfl ?_); refine box_event ?hg (N := 2) ?hd (cs := #[.slice none 0 0, .slice none 0 0, .slice none 0 0, .slice none 0 0]) (t := 30) ?hr ?_; (case hd => rfl); (case hg => rfl); (case hr => first | (go_simp; done) | (go_simp; rfl)); intro gb962 hg w7 hbox hb; have BK962 := am (hbox); have GW962 := am ((by rw [hg]; exact (below_size (bl HB.out)) : w.heap.size ≤ gb962)); have GE962 := am ((by rw [hg]; exact (below_size (bl HB.out)) : w.heap.size ≤ gb962)); replace HB := am (below_step (bl HB.out) hb); clear hb hbox hg) | ((with_reducible refine gate_dst (N := 3) rfl ?_); refine box_event ?hg (N := 3) ?hd (cs := #[.slice none 0 0, .slice none 0 0, .slice none 0 0, .slice none 0 0]) (t := 30) ?hr ?_; (case hd => rfl); (case hg => rfl); (case hr => first | (go_simp; done) | (go_simp; rfl)); intro gb963 hg w8 hbox hb; have BK963 := am (hbox); have GW963 := am ((by rw [hg]; exact (below_size (bs1 GE962.out HB.out)) : w.heap.size ≤ gb963)); have GE963 := am ((by rw [hg]; exact (below_size (bs1 GE962.out HB.out)) : w.heap.size ≤ gb963)); replace HB := am (below_step (bs1 GE962.out HB.out) hb); have NB962_963 := nb BK962 hg; have NB963_962 := nc BK962 hg; replace BK962 := bb BK962 hb; clear hb hbox hg) | ((with_reducible refine gate_callee (f := 69) rfl ?_); refine gL (some 7) rfl rfl Try.func69 (by kernel_rfl) rfl #[.slice A0 l0.length c0] rfl ?_; (with_reducible refine (spec_l13Open.calls _ _ l0 t964 t965 w _ ?side1 ?side2 ?side3 A2.out).mono ?_); (case side1 => exact bs2 GE962.out GE963.out HB.out); (case side2 => exact HR0.out); (case side3 => exact HC0.out); rintro e w9 ⟨g966, rfl, hi, hb, hb2⟩; refine ⟨_, rfl, ?_⟩; replace HB := am (hb); have HI966 := am (hi); have NB966_962 := am (IsS84.ne_blk hi (blk_below (g := gb962) (o := .cells #[.slice none 0 0, .slice none 0 0, .slice none 0 0, .slice none 0 0] 30 (0, 0)) (kl BK962.out) hb2) (by decide)); have NB962_966 := am (Ne.symm (IsS84.ne_blk hi (blk_below (g := gb962) (o := .cells #[.slice none 0 0, .slice none 0 0, .slice none 0 0, .slice none 0 0] 30 (0, 0)) (kl BK962.out) hb2) (by decide))); replace BK962 := am (blk_below (g := gb962) (o := .cells #[.slice none 0 0, .slice none 0 0, .slice none 0 0, .slice none 0 0] 30 (0, 0)) (kl BK962.out) hb2); have NB966_963 := am (IsS84.ne_blk hi (blk_below (g := gb963) (o := .cells #[.slice none 0 0, .slice none 0 0, .slice none 0 0, .slice none 0 0] 30 (0, 0)) (kl BK963.out) hb2) (by decide)); have NB963_966 := am (Ne.symm (IsS84.ne_blk hi (blk_below (g := gb963) (o := .cells #[.slice none 0 0, .slice none 0 0, .slice none 0 0, .slice none 0 0] 30 (0, 0)) (kl BK963.out) hb2) (by decide))); replace BK963 := am (blk_below (g := gb963) (o := .cells #[.slice none 0 0, .slice none 0 0, .slice none 0 0, .slice none 0 0] 30 (0, 0)) (kl BK963.out) hb2); (try clear hb hb2 hi)) | ((with_reducible refine gate_callee (f := 73) rfl ?_); refine gL (some 9) rfl rfl Try.func73 (by kernel_rfl) rfl #[.pointer (some ⟨g966, 0, none⟩)] rfl ?_; (with_reducible refine (spec_l3Draw.calls k g966 t964 t965 t967 t970 t973 t976 t979 w _ ?side1 ?side2 A3.out).mono ?_); (case side1 => exact is84_2 NB966_962.out NB966_963.out HI966.out); (case side2 => exact bs3 (IsS84.ge HI966.out) GE962.out GE963.out HB.out); rintro e w10 ⟨v968, v971, v974, v977, rfl, ho0, ho1, ho2, ho3, hi, hb, hk⟩; refine ⟨_, rfl, ?_⟩; replace BK962 := kb hk BK962 NB962_966; replace BK963 := kb hk BK963 NB963_966; have HO969 := ln0 ho0 (bs3 (IsS84.ge HI966.out) GE962.out GE963.out HB.out); have HO972 := ln0 ho1 (bs3 (IsS84.ge HI966.out) GE962.out GE963.out HB.out); have HO975 := ln0 ho2 (bs3 (IsS84.ge HI966.out) GE962.out GE963.out HB.out); have HO978 := ln0 ho3 (bs3 (IsS84.ge HI966.out) GE962.out GE963.out HB.out); replace HB := am (hb); replace HI966 := am (hi); (try clear hb hk hi ho0 ho1 ho2 ho3)) | ((with_reducible refine gate_dst (N := 5) rfl ?_); refine box_event ?hg (N := 5) ?hd (cs := #[.slice none 0 0, .slice none 0 0, .slice none 0 0, .slice none 0 0]) (t := 30) ?hr ?_; (case hd => rfl); (case hg => rfl); (case hr => first | (go_simp; done) | (go_simp; rfl)); intro gb980 hg w11 hbox hb; replace HO969 := rb HO969 hb; replace HO972 := rb HO972 hb; replace HO975 := rb HO975 hb; replace HO978 := rb HO978 hb; have BK980 := am (hbox); have GW980 := am ((by rw [hg]; exact (below_size (bs3 (IsS84.ge HI966.out) GE962.out GE963.out HB.out)) : w.heap.size ≤ gb980)); have GE980 := am ((by rw [hg]; exact (below_size (bs3 (IsS84.ge HI966.out) GE962.out GE963.out HB.out)) : w.heap.size ≤ gb980)); replace HB := am (below_step (bs3 (IsS84.ge HI966.out) GE962.out GE963.out HB.out) hb); have NB962_980 := nb BK962 hg; have NB980_962 := nc BK962 hg; replace BK962 := bb BK962 hb; have NB963_980 := nb BK963 hg; have NB980_963 := nc BK963 hg; replace BK963 := bb BK963 hb; have NB966_980 := am ((by rw [hg]; exact Nat.ne_of_lt (IsS84.lt (show IsS84 w _ g966 t964 t979 from by exact is84_2 NB966_962.out NB966_963.out HI966.out)) : g966 ≠ gb980)); have NB980_966 := am ((by rw [hg]; exact Nat.ne_of_gt (IsS84.lt (show IsS84 w _ g966 t964 t979 from by exact is84_2 NB966_962.out NB966_963.out HI966.out)) : gb980 ≠ g966)); replace HI966 := am (IsS84.below (is84_2 NB966_962.out NB966_963.out HI966.out) hb); clear hb hbox hg; obtain ⟨Ao12, co12, eo12⟩ := Kd.R_slice HO969.out; subst eo12; have hnb13 := NB980_962.out; have hnc13 := NB962_980.out; have hnb14 := NB980_963.out; have hnc14 := NB963_980.out; have hnb15 := NB980_966.out; have hnc15 := NB966_980.out; obtain ⟨hcz16_0, hcz16_1, hcz16_2, hcz16_3, hfz16_0, hfz16_1, hfz16_2, hfz16_3⟩ := cf4 BK980; obtain ⟨Ao17, co17, eo17⟩ := Kd.R_slice HO972.out; subst eo17; obtain ⟨Ao18, co18, eo18⟩ := Kd.R_slice HO975.out; subst eo18; obtain ⟨Ao19, co19, eo19⟩ := Kd.R_slice HO978.out; subst eo19) | ((with_reducible refine gate_callee (f := 74) rfl ?_); refine gL (some 11) rfl rfl Try.func74 (by kernel_rfl) rfl #[.pointer (some ⟨g966, 0, none⟩), .int .i64 3] rfl ?_; (with_reducible refine (spec_l13Rd_pick.calls k g966 t964 t979 3 t981 t982 w _ ?side1 ?side2 A4.out).mono ?_); (case side1 => exact is84_3 NB966_962.out NB966_963.out NB966_980.out HI966.out); (case side2 => exact bs4 (IsS84.ge HI966.out) GE962.out GE963.out GE980.out HB.out); rintro e w20 ⟨rfl, hi, hb, hk⟩; refine ⟨_, rfl, ?_⟩; replace BK962 := am (KeepBut.blk hk (g' := gb962) (o := .cells #[.slice none 0 0, .slice none 0 0, .slice none 0 0, .slice none 0 0] 30 (0, 0)) (kf1 NB962_980.out BK962.out) NB962_966.out (by simp)); replace BK963 := am (KeepBut.blk hk (g' := gb963) (o := .cells #[.slice none 0 0, .slice none 0 0, .slice none 0 0, .slice none 0 0] 30 (0, 0)) (kf1 NB963_980.out BK963.out) NB963_966.out (by simp)); replace HO969 := am (Kd.R_mono (Kd.R_keep (IsS84.apart (show IsS84 w _ g966 t964 t979 from by exact is84_3 NB966_962.out NB966_963.out NB966_980.out HI966.out) (rg BK980 HO969) (by decide)) hk (fun _ h => h.2)) (fun _ h => h.1)); replace HO972 := am (Kd.R_mono (Kd.R_keep (IsS84.apart (show IsS84 w _ g966 t964 t979 from by exact is84_3 NB966_962.out NB966_963.out NB966_980.out HI966.out) (rg BK980 HO972) (by decide)) hk (fun _ h => h.2)) (fun _ h => h.1)); replace HO975 := am (Kd.R_mono (Kd.R_keep (IsS84.apart (show IsS84 w _ g966 t964 t979 from by exact is84_3 NB966_962.out NB966_963.out NB966_980.out HI966.out) (rg BK980 HO975) (by decide)) hk (fun _ h => h.2)) (fun _ h => h.1)); replace HO978 := am (Kd.R_mono (Kd.R_keep (IsS84.apart (show IsS84 w _ g966 t964 t979 from by exact is84_3 NB966_962.out NB966_963.out NB966_980.out HI966.out) (rg BK980 HO978) (by decide)) hk (fun _ h => h.2)) (fun _ h => h.1)); replace BK980 := am (KeepBut.blk hk (g' := gb980) (o := .cells #[.slice Ao12 t967.length co12, .slice Ao17 t970.length co17, .slice Ao18 t973.length co18, .slice Ao19 t976.length co19] 30 (0, 0)) (kp4 (kf0 BK980.out)) NB980_966.out (by simp)); replace HB := am (hb); replace HI966 := am (hi); (try clear hb hk hi)))
  replace HO969 := am (Kd.R_drew HO969.out)
  replace HO972 := am (Kd.R_drew HO972.out)
  replace HO975 := am (Kd.R_drew HO975.out)
  replace HO978 := am (Kd.R_drew HO978.out)
  replace BK962 := am (blk_drew BK962.out)
  replace BK963 := am (blk_drew BK963.out)
  replace BK980 := am (blk_drew BK980.out)
  replace HI966 := am (IsS84.drew HI966.out)
  replace HB := am (below_drew1 HB.out)
  refine start_ (n := 5) (S := fun w' => w'.cell? ⟨gb980, 0, none⟩ = some (.slice Ao12 t967.length co12) ∧ w'.cell? ⟨gb980, 1, none⟩ = some (.slice Ao17 t970.length co17) ∧ w'.cell? ⟨gb980, 2, none⟩ = some (.slice Ao18 t973.length co18) ∧ w'.cell? ⟨gb980, 3, none⟩ = some (.slice Ao19 t976.length co19)) (ds := []) #[false, false, false, false, false] (by kernel_rfl) rfl rfl ⟨(blk_cell BK980.out 0).trans rfl, (blk_cell BK980.out 1).trans rfl, (blk_cell BK980.out 2).trans rfl, (blk_cell BK980.out 3).trans rfl⟩ (fun hHeld => ?_)
  generalize w20.drew = w21 at HO969 HO972 HO975 HO978 BK962 BK963 BK980 HI966 HB hHeld ⊢
  refine pure_ (i := 1) (N := some 14) (v := ?_) (a' := ?_) #[false, true, false, false, false] rfl rfl (by kernel_rfl) (fun _ _ _ h => h) (Or.inl ⟨by rfl, ?_⟩) ?_ ?_
  rotate_left
  ·intro w'
   go_simp
   with_reducible rfl
  rotate_left
  ·simp only [Act.put, List.setIfInBounds_toArray, List.set_cons_zero, List.set_cons_succ, i64_w, i32_w]
   rfl
  refine take_ (i := 0) (N := some 13) (v := ?_) (a' := ?_) #[true, true, false, false, false] rfl rfl (by kernel_rfl) (fun _ _ _ h => h) (Or.inl ⟨by rfl, ?_⟩) hHeld ?_ ?_
  rotate_left
  ·rintro w' ⟨s0, s1, s2, s3⟩
   go_simp
   with_reducible rfl
  rotate_left
  ·simp only [Act.put, List.setIfInBounds_toArray, List.set_cons_zero, List.set_cons_succ, i64_w, i32_w]
   rfl
  refine one_ (i := 2) (N := some 15) #[true, true, true, false, false] rfl rfl (by kernel_rfl) (by decide) (fun K hK => ?_)
  refine goes_ Try.func73 (by kernel_rfl) rfl #[.pointer (some ⟨g966, 0, none⟩)] (by rfl) rfl rfl (by (try simp only [List.map_toArray, List.map_cons, List.map_nil]); first | done | rfl | (simp only [List.length_drop, List.length_take]; rfl)) ?_
  with_reducible refine (spec_l3Draw.calls k g966 t964 t982 t983 t986 t989 t992 t995 w _ ?side1 ?side2 A6.out).mono ?_
  (case side1 => exact is84_3 NB966_962.out NB966_963.out NB966_980.out HI966.out)
  (case side2 => exact bs4 (IsS84.ge HI966.out) GE962.out GE963.out GE980.out HB.out)
  rintro e w22 ⟨v984, v987, v990, v993, rfl, ho0, ho1, ho2, ho3, hi, hb, hk⟩
  refine ⟨_, rfl, ?_⟩
  replace BK962 := kb hk BK962 NB962_966
  replace BK963 := kb hk BK963 NB963_966
  replace BK980 := kb hk BK980 NB980_966
  have HO985 := ln4 ho0 (rl HO969.out) (rl HO972.out) (rl HO975.out) (rl HO978.out) (bs4 (IsS84.ge HI966.out) GE962.out GE963.out GE980.out HB.out)
  have HO988 := ln4 ho1 (rl HO969.out) (rl HO972.out) (rl HO975.out) (rl HO978.out) (bs4 (IsS84.ge HI966.out) GE962.out GE963.out GE980.out HB.out)
  have HO991 := ln4 ho2 (rl HO969.out) (rl HO972.out) (rl HO975.out) (rl HO978.out) (bs4 (IsS84.ge HI966.out) GE962.out GE963.out GE980.out HB.out)
  have HO994 := ln4 ho3 (rl HO969.out) (rl HO972.out) (rl HO975.out) (rl HO978.out) (bs4 (IsS84.ge HI966.out) GE962.out GE963.out GE980.out HB.out)
  replace HO969 := am (Kd.R_mono (Kd.R_told (Kd.R_told (Kd.R_told (Kd.R_told (Kd.R_oldK (IsS84.apart (show IsS84 w _ g966 t964 t982 from by exact is84_3 NB966_962.out NB966_963.out NB966_980.out HI966.out) (rl HO969.out) (by decide)) hk) (Kd.R_base ho0)) (Kd.R_base ho1)) (Kd.R_base ho2)) (Kd.R_base ho3)) (fun _ h_ => h_.1))
  replace HO972 := am (Kd.R_mono (Kd.R_told (Kd.R_told (Kd.R_told (Kd.R_told (Kd.R_oldK (IsS84.apart (show IsS84 w _ g966 t964 t982 from by exact is84_3 NB966_962.out NB966_963.out NB966_980.out HI966.out) (rl HO972.out) (by decide)) hk) (Kd.R_base ho0)) (Kd.R_base ho1)) (Kd.R_base ho2)) (Kd.R_base ho3)) (fun _ h_ => h_.1))
  replace HO975 := am (Kd.R_mono (Kd.R_told (Kd.R_told (Kd.R_told (Kd.R_told (Kd.R_oldK (IsS84.apart (show IsS84 w _ g966 t964 t982 from by exact is84_3 NB966_962.out NB966_963.out NB966_980.out HI966.out) (rl HO975.out) (by decide)) hk) (Kd.R_base ho0)) (Kd.R_base ho1)) (Kd.R_base ho2)) (Kd.R_base ho3)) (fun _ h_ => h_.1))
  replace HO978 := am (Kd.R_mono (Kd.R_told (Kd.R_told (Kd.R_told (Kd.R_told (Kd.R_oldK (IsS84.apart (show IsS84 w _ g966 t964 t982 from by exact is84_3 NB966_962.out NB966_963.out NB966_980.out HI966.out) (rl HO978.out) (by decide)) hk) (Kd.R_base ho0)) (Kd.R_base ho1)) (Kd.R_base ho2)) (Kd.R_base ho3)) (fun _ h_ => h_.1))
  replace HB := am (hb)
  replace HI966 := am (hi)
  (try clear hb hk hi ho0 ho1 ho2 ho3)
  obtain ⟨Ao27, co27, eo27⟩ := Kd.R_slice HO985.out
  (first | subst eo27 | (injection eo27 with f1_ f2_ f3_; have f4_ := f1_.symm; have f5_ := f3_.symm; clear f1_ f2_ f3_; subst f4_; subst f5_))
  obtain ⟨Ao29, co29, eo29⟩ := Kd.R_slice HO988.out
  (first | subst eo29 | (injection eo29 with f1_ f2_ f3_; have f4_ := f1_.symm; have f5_ := f3_.symm; clear f1_ f2_ f3_; subst f4_; subst f5_))
  obtain ⟨Ao31, co31, eo31⟩ := Kd.R_slice HO991.out
  (first | subst eo31 | (injection eo31 with f1_ f2_ f3_; have f4_ := f1_.symm; have f5_ := f3_.symm; clear f1_ f2_ f3_; subst f4_; subst f5_))
  obtain ⟨Ao33, co33, eo33⟩ := Kd.R_slice HO994.out
  (first | subst eo33 | (injection eo33 with f1_ f2_ f3_; have f4_ := f1_.symm; have f5_ := f3_.symm; clear f1_ f2_ f3_; subst f4_; subst f5_))
  refine hK.out _ _ ⟨(blk_cell BK980.out 0).trans rfl, (blk_cell BK980.out 1).trans rfl, (blk_cell BK980.out 2).trans rfl, (blk_cell BK980.out 3).trans rfl⟩ (fun hHeld => ?_)
  clear hK K
  refine norm_ (a' := ?_) ?_ ?_
  rotate_left
  ·show Act.put _ (some 15) _ = _
   simp only [Act.put, List.setIfInBounds_toArray, List.set_cons_zero, List.set_cons_succ, i64_w, i32_w]
   rfl
  refine one_ (i := 3) (N := none) #[true, true, true, true, false] rfl rfl (by kernel_rfl) (by decide) (fun K hK => ?_)
  have hs23 : w22.cell? ⟨gb962, 0, none⟩ = some (.slice none 0 0) := (blk_cell BK962.out 0).trans rfl
  have hfs23 := blk_frozen BK962.out 0
  have hns23_1 := NB963_962.out
  have hns23_2 := NB980_962.out
  have hms23_1 := NB962_963.out
  have hms23_2 := NB962_980.out
  have hs24 : w22.cell? ⟨gb962, 1, none⟩ = some (.slice none 0 0) := (blk_cell BK962.out 1).trans rfl
  have hfs24 := blk_frozen BK962.out 1
  have hns24_1 := NB963_962.out
  have hns24_2 := NB980_962.out
  have hms24_1 := NB962_963.out
  have hms24_2 := NB962_980.out
  have hs25 : w22.cell? ⟨gb962, 2, none⟩ = some (.slice none 0 0) := (blk_cell BK962.out 2).trans rfl
  have hfs25 := blk_frozen BK962.out 2
  have hns25_1 := NB963_962.out
  have hns25_2 := NB980_962.out
  have hms25_1 := NB962_963.out
  have hms25_2 := NB962_980.out
  have hs26 : w22.cell? ⟨gb962, 3, none⟩ = some (.slice none 0 0) := (blk_cell BK962.out 3).trans rfl
  have hfs26 := blk_frozen BK962.out 3
  have hns26_1 := NB963_962.out
  have hns26_2 := NB980_962.out
  have hms26_1 := NB962_963.out
  have hms26_2 := NB962_980.out
  refine skip_ (w1 := ?_) (by rfl) rfl ?_ ?_
  rotate_left
  ·go_simp
   rfl
  refine hK.out _ _ ⟨((cell_far (p := ⟨gb962, _, none⟩) NB980_962.out _).trans (((cell_far (p := ⟨gb962, _, none⟩) NB980_962.out _).trans (((cell_far (p := ⟨gb962, _, none⟩) NB980_962.out _).trans (((cell_far (p := ⟨gb962, _, none⟩) NB980_962.out _).trans (hHeld.1)))))))), ((cell_far (p := ⟨gb962, _, none⟩) NB980_962.out _).trans (((cell_far (p := ⟨gb962, _, none⟩) NB980_962.out _).trans (((cell_far (p := ⟨gb962, _, none⟩) NB980_962.out _).trans (((cell_far (p := ⟨gb962, _, none⟩) NB980_962.out _).trans (hHeld.2.1)))))))), ((cell_far (p := ⟨gb962, _, none⟩) NB980_962.out _).trans (((cell_far (p := ⟨gb962, _, none⟩) NB980_962.out _).trans (((cell_far (p := ⟨gb962, _, none⟩) NB980_962.out _).trans (((cell_far (p := ⟨gb962, _, none⟩) NB980_962.out _).trans (hHeld.2.2.1)))))))), ((cell_far (p := ⟨gb962, _, none⟩) NB980_962.out _).trans (((cell_far (p := ⟨gb962, _, none⟩) NB980_962.out _).trans (((cell_far (p := ⟨gb962, _, none⟩) NB980_962.out _).trans (((cell_far (p := ⟨gb962, _, none⟩) NB980_962.out _).trans (hHeld.2.2.2))))))))⟩ (fun hHeld => ?_)
  clear hK K
  refine one_ (i := 4) (N := none) #[true, true, true, true, true] rfl rfl (by kernel_rfl) (by decide) (fun K hK => ?_)
  have hs28 : w22.cell? ⟨gb963, 0, none⟩ = some (.slice none 0 0) := (blk_cell BK963.out 0).trans rfl
  have hfs28 := blk_frozen BK963.out 0
  have hns28_0 := NB962_963.out
  have hns28_2 := NB980_963.out
  have hms28_0 := NB963_962.out
  have hms28_2 := NB963_980.out
  have hs30 : w22.cell? ⟨gb963, 1, none⟩ = some (.slice none 0 0) := (blk_cell BK963.out 1).trans rfl
  have hfs30 := blk_frozen BK963.out 1
  have hns30_0 := NB962_963.out
  have hns30_2 := NB980_963.out
  have hms30_0 := NB963_962.out
  have hms30_2 := NB963_980.out
  have hs32 : w22.cell? ⟨gb963, 2, none⟩ = some (.slice none 0 0) := (blk_cell BK963.out 2).trans rfl
  have hfs32 := blk_frozen BK963.out 2
  have hns32_0 := NB962_963.out
  have hns32_2 := NB980_963.out
  have hms32_0 := NB963_962.out
  have hms32_2 := NB963_980.out
  have hs34 : w22.cell? ⟨gb963, 3, none⟩ = some (.slice none 0 0) := (blk_cell BK963.out 3).trans rfl
  have hfs34 := blk_frozen BK963.out 3
  have hns34_0 := NB962_963.out
  have hns34_2 := NB980_963.out
  have hms34_0 := NB963_962.out
  have hms34_2 := NB963_980.out
  refine skip_ (w1 := ?_) (by rfl) rfl ?_ ?_
  rotate_left
  ·go_simp
   rfl
  refine hK.out _ _ ⟨((cell_far (p := ⟨gb963, _, none⟩) NB980_963.out _).trans (((cell_far (p := ⟨gb963, _, none⟩) NB980_963.out _).trans (((cell_far (p := ⟨gb963, _, none⟩) NB980_963.out _).trans (((cell_far (p := ⟨gb963, _, none⟩) NB980_963.out _).trans (hHeld.1)))))))), ((cell_far (p := ⟨gb963, _, none⟩) NB980_963.out _).trans (((cell_far (p := ⟨gb963, _, none⟩) NB980_963.out _).trans (((cell_far (p := ⟨gb963, _, none⟩) NB980_963.out _).trans (((cell_far (p := ⟨gb963, _, none⟩) NB980_963.out _).trans (hHeld.2.1)))))))), ((cell_far (p := ⟨gb963, _, none⟩) NB980_963.out _).trans (((cell_far (p := ⟨gb963, _, none⟩) NB980_963.out _).trans (((cell_far (p := ⟨gb963, _, none⟩) NB980_963.out _).trans (((cell_far (p := ⟨gb963, _, none⟩) NB980_963.out _).trans (hHeld.2.2.1)))))))), ((cell_far (p := ⟨gb963, _, none⟩) NB980_963.out _).trans (((cell_far (p := ⟨gb963, _, none⟩) NB980_963.out _).trans (((cell_far (p := ⟨gb963, _, none⟩) NB980_963.out _).trans (((cell_far (p := ⟨gb963, _, none⟩) NB980_963.out _).trans (hHeld.2.2.2))))))))⟩ (fun hHeld => ?_)
  clear hK K
  refine done_ (by kernel_rfl) ?_
  try go_wp2
  refine bodyPost_ret (results_cc rfl _ _ gb962 gb963 30 30 #[.slice Ao12 t967.length co12, .slice Ao17 t970.length co17, .slice Ao18 t973.length co18, .slice Ao19 t976.length co19] #[.slice Ao27 t983.length co27, .slice Ao29 t986.length co29, .slice Ao31 t989.length co31, .slice Ao33 t992.length co33] (0, 0) (0, 0) _ _ rfl (by (with_reducible repeat (first | refine blk_drewN ?_ _ | refine blk_drew ?_ | refine blk_alloc ?_ _)); refine blk_far ?_ NB962_963.out _; (with_reducible repeat (first | refine blk_drewN ?_ _ | refine blk_drew ?_ | refine blk_alloc ?_ _)); refine blk_far ?_ NB962_963.out _; (with_reducible repeat (first | refine blk_drewN ?_ _ | refine blk_drew ?_ | refine blk_alloc ?_ _)); refine blk_far ?_ NB962_963.out _; (with_reducible repeat (first | refine blk_drewN ?_ _ | refine blk_drew ?_ | refine blk_alloc ?_ _)); refine blk_far ?_ NB962_963.out _; (with_reducible repeat (first | refine blk_drewN ?_ _ | refine blk_drew ?_ | refine blk_alloc ?_ _)); refine blk_put (cs := #[.slice Ao12 t967.length co12, .slice Ao17 t970.length co17, .slice Ao18 t973.length co18, .slice none 0 0]) ?_ 3 _ rfl; (with_reducible repeat (first | refine blk_drewN ?_ _ | refine blk_drew ?_ | refine blk_alloc ?_ _)); refine blk_put (cs := #[.slice Ao12 t967.length co12, .slice Ao17 t970.length co17, .slice none 0 0, .slice none 0 0]) ?_ 2 _ rfl; (with_reducible repeat (first | refine blk_drewN ?_ _ | refine blk_drew ?_ | refine blk_alloc ?_ _)); refine blk_put (cs := #[.slice Ao12 t967.length co12, .slice none 0 0, .slice none 0 0, .slice none 0 0]) ?_ 1 _ rfl; (with_reducible repeat (first | refine blk_drewN ?_ _ | refine blk_drew ?_ | refine blk_alloc ?_ _)); refine blk_put (cs := #[.slice none 0 0, .slice none 0 0, .slice none 0 0, .slice none 0 0]) ?_ 0 _ rfl; (with_reducible repeat (first | refine blk_drewN ?_ _ | refine blk_drew ?_ | refine blk_alloc ?_ _)); exact BK962.out) Try.underlying30 rfl (by kernel_rfl) rfl (kp4 (kf1 NB963_962.out BK963.out)) Try.underlying30 rfl (by kernel_rfl)) rfl ?_
  exact ⟨_, _, _, _, _, _, _, _, by first | rfl | (simp [errW_none, errW_some] <;> rfl) | (simp [*, errW_none, errW_some] <;> rfl), by exact ro (rg2 BK962 BK963 HO969), by exact ro (rg2 BK962 BK963 HO972), by exact ro (rg2 BK962 BK963 HO975), by exact ro (rg2 BK962 BK963 HO978), by exact ro (rg2 BK962 BK963 HO985), by exact ro (rg2 BK962 BK963 HO988), by exact ro (rg2 BK962 BK963 HO991), by exact ro (rg2 BK962 BK963 HO994), by exact bs4 (IsS84.ge HI966.out) GE962.out GE963.out GE980.out HB.out⟩
 ·rw [if_neg c5] at H
  have c5b0 : (t981 == 0) = false := beq_eq_false_iff_ne.mpr c5
  have c5b1 : (t981 != 0) = true := bne_iff_ne.mpr c5
  replace H := Option.bind_eq_some_iff.mp H
  obtain ⟨⟨t996, t999, t1002, t1005, t1008⟩, A350, H⟩ := H
  replace H : (some (t967, t970, t973, t976, t996, t999, t1002, t1005)) = some (r1, r2, r3, r4, r5, r6, r7, r8) := H
  have A35 := am A350
  clear A350
  simp only [Option.some.injEq, Prod.mk.injEq] at H
  obtain ⟨rfl, rfl, rfl, rfl, rfl, rfl, rfl, rfl⟩ := H
  go_enter Try.func33, Try.ntmps33
  try go_wp2_with (first | ((with_reducible refine gate_dst (N := 2) rfl ?_); refine box_event ?hg (N := 2) ?hd (cs := #[.slice none 0 0, .slice none 0 0, .slice none 0 0, .slice none 0 0]) (t := 30) ?hr ?_; (case hd => rfl); (case hg => rfl); (case hr => first | (go_simp; done) | (go_simp; rfl)); intro gb962 hg w36 hbox hb; have BK962 := am (hbox); have GW962 := am ((by rw [hg]; exact (below_size (bl HB.out)) : w.heap.size ≤ gb962)); have GE962 := am ((by rw [hg]; exact (below_size (bl HB.out)) : w.heap.size ≤ gb962)); replace HB := am (below_step (bl HB.out) hb); clear hb hbox hg) | ((with_reducible refine gate_dst (N := 3) rfl ?_); refine box_event ?hg (N := 3) ?hd (cs := #[.slice none 0 0, .slice none 0 0, .slice none 0 0, .slice none 0 0]) (t := 30) ?hr ?_; (case hd => rfl); (case hg => rfl); (case hr => first | (go_simp; done) | (go_simp; rfl)); intro gb963 hg w37 hbox hb; have BK963 := am (hbox); have GW963 := am ((by rw [hg]; exact (below_size (bs1 GE962.out HB.out)) : w.heap.size ≤ gb963)); have GE963 := am ((by rw [hg]; exact (below_size (bs1 GE962.out HB.out)) : w.heap.size ≤ gb963)); replace HB := am (below_step (bs1 GE962.out HB.out) hb); have NB962_963 := nb BK962 hg; have NB963_962 := nc BK962 hg; replace BK962 := bb BK962 hb; clear hb hbox hg) | ((with_reducible refine gate_callee (f := 69) rfl ?_); refine gL (some 7) rfl rfl Try.func69 (by kernel_rfl) rfl #[.slice A0 l0.length c0] rfl ?_; (with_reducible refine (spec_l13Open.calls _ _ l0 t964 t965 w _ ?side1 ?side2 ?side3 A2.out).mono ?_); (case side1 => exact bs2 GE962.out GE963.out HB.out); (case side2 => exact HR0.out); (case side3 => exact HC0.out); rintro e w38 ⟨g966, rfl, hi, hb, hb2⟩; refine ⟨_, rfl, ?_⟩; replace HB := am (hb); have HI966 := am (hi); have NB966_962 := am (IsS84.ne_blk hi (blk_below (g := gb962) (o := .cells #[.slice none 0 0, .slice none 0 0, .slice none 0 0, .slice none 0 0] 30 (0, 0)) (kl BK962.out) hb2) (by decide)); have NB962_966 := am (Ne.symm (IsS84.ne_blk hi (blk_below (g := gb962) (o := .cells #[.slice none 0 0, .slice none 0 0, .slice none 0 0, .slice none 0 0] 30 (0, 0)) (kl BK962.out) hb2) (by decide))); replace BK962 := am (blk_below (g := gb962) (o := .cells #[.slice none 0 0, .slice none 0 0, .slice none 0 0, .slice none 0 0] 30 (0, 0)) (kl BK962.out) hb2); have NB966_963 := am (IsS84.ne_blk hi (blk_below (g := gb963) (o := .cells #[.slice none 0 0, .slice none 0 0, .slice none 0 0, .slice none 0 0] 30 (0, 0)) (kl BK963.out) hb2) (by decide)); have NB963_966 := am (Ne.symm (IsS84.ne_blk hi (blk_below (g := gb963) (o := .cells #[.slice none 0 0, .slice none 0 0, .slice none 0 0, .slice none 0 0] 30 (0, 0)) (kl BK963.out) hb2) (by decide))); replace BK963 := am (blk_below (g := gb963) (o := .cells #[.slice none 0 0, .slice none 0 0, .slice none 0 0, .slice none 0 0] 30 (0, 0)) (kl BK963.out) hb2); (try clear hb hb2 hi)) | ((with_reducible refine gate_callee (f := 73) rfl ?_); refine gL (some 9) rfl rfl Try.func73 (by kernel_rfl) rfl #[.pointer (some ⟨g966, 0, none⟩)] rfl ?_; (with_reducible refine (spec_l3Draw.calls k g966 t964 t965 t967 t970 t973 t976 t979 w _ ?side1 ?side2 A3.out).mono ?_); (case side1 => exact is84_2 NB966_962.out NB966_963.out HI966.out); (case side2 => exact bs3 (IsS84.ge HI966.out) GE962.out GE963.out HB.out); rintro e w39 ⟨v968, v971, v974, v977, rfl, ho0, ho1, ho2, ho3, hi, hb, hk⟩; refine ⟨_, rfl, ?_⟩; replace BK962 := kb hk BK962 NB962_966; replace BK963 := kb hk BK963 NB963_966; have HO969 := ln0 ho0 (bs3 (IsS84.ge HI966.out) GE962.out GE963.out HB.out); have HO972 := ln0 ho1 (bs3 (IsS84.ge HI966.out) GE962.out GE963.out HB.out); have HO975 := ln0 ho2 (bs3 (IsS84.ge HI966.out) GE962.out GE963.out HB.out); have HO978 := ln0 ho3 (bs3 (IsS84.ge HI966.out) GE962.out GE963.out HB.out); replace HB := am (hb); replace HI966 := am (hi); (try clear hb hk hi ho0 ho1 ho2 ho3)) | ((with_reducible refine gate_dst (N := 5) rfl ?_); refine box_event ?hg (N := 5) ?hd (cs := #[.slice none 0 0, .slice none 0 0, .slice none 0 0, .slice none 0 0]) (t := 30) ?hr ?_; (case hd => rfl); (case hg => rfl); (case hr => first | (go_simp; done) | (go_simp; rfl)); intro gb980 hg w40 hbox hb; replace HO969 := rb HO969 hb; replace HO972 := rb HO972 hb; replace HO975 := rb HO975 hb; replace HO978 := rb HO978 hb; have BK980 := am (hbox); have GW980 := am ((by rw [hg]; exact (below_size (bs3 (IsS84.ge HI966.out) GE962.out GE963.out HB.out)) : w.heap.size ≤ gb980)); have GE980 := am ((by rw [hg]; exact (below_size (bs3 (IsS84.ge HI966.out) GE962.out GE963.out HB.out)) : w.heap.size ≤ gb980)); replace HB := am (below_step (bs3 (IsS84.ge HI966.out) GE962.out GE963.out HB.out) hb); have NB962_980 := nb BK962 hg; have NB980_962 := nc BK962 hg; replace BK962 := bb BK962 hb; have NB963_980 := nb BK963 hg; have NB980_963 := nc BK963 hg; replace BK963 := bb BK963 hb; have NB966_980 := am ((by rw [hg]; exact Nat.ne_of_lt (IsS84.lt (show IsS84 w _ g966 t964 t979 from by exact is84_2 NB966_962.out NB966_963.out HI966.out)) : g966 ≠ gb980)); have NB980_966 := am ((by rw [hg]; exact Nat.ne_of_gt (IsS84.lt (show IsS84 w _ g966 t964 t979 from by exact is84_2 NB966_962.out NB966_963.out HI966.out)) : gb980 ≠ g966)); replace HI966 := am (IsS84.below (is84_2 NB966_962.out NB966_963.out HI966.out) hb); clear hb hbox hg; obtain ⟨Ao41, co41, eo41⟩ := Kd.R_slice HO969.out; subst eo41; have hnb42 := NB980_962.out; have hnc42 := NB962_980.out; have hnb43 := NB980_963.out; have hnc43 := NB963_980.out; have hnb44 := NB980_966.out; have hnc44 := NB966_980.out; obtain ⟨hcz45_0, hcz45_1, hcz45_2, hcz45_3, hfz45_0, hfz45_1, hfz45_2, hfz45_3⟩ := cf4 BK980; obtain ⟨Ao46, co46, eo46⟩ := Kd.R_slice HO972.out; subst eo46; obtain ⟨Ao47, co47, eo47⟩ := Kd.R_slice HO975.out; subst eo47; obtain ⟨Ao48, co48, eo48⟩ := Kd.R_slice HO978.out; subst eo48) | ((with_reducible refine gate_callee (f := 74) rfl ?_); refine gL (some 11) rfl rfl Try.func74 (by kernel_rfl) rfl #[.pointer (some ⟨g966, 0, none⟩), .int .i64 3] rfl ?_; (with_reducible refine (spec_l13Rd_pick.calls k g966 t964 t979 3 t981 t982 w _ ?side1 ?side2 A4.out).mono ?_); (case side1 => exact is84_3 NB966_962.out NB966_963.out NB966_980.out HI966.out); (case side2 => exact bs4 (IsS84.ge HI966.out) GE962.out GE963.out GE980.out HB.out); rintro e w49 ⟨rfl, hi, hb, hk⟩; refine ⟨_, rfl, ?_⟩; replace BK962 := am (KeepBut.blk hk (g' := gb962) (o := .cells #[.slice none 0 0, .slice none 0 0, .slice none 0 0, .slice none 0 0] 30 (0, 0)) (kf1 NB962_980.out BK962.out) NB962_966.out (by simp)); replace BK963 := am (KeepBut.blk hk (g' := gb963) (o := .cells #[.slice none 0 0, .slice none 0 0, .slice none 0 0, .slice none 0 0] 30 (0, 0)) (kf1 NB963_980.out BK963.out) NB963_966.out (by simp)); replace HO969 := am (Kd.R_mono (Kd.R_keep (IsS84.apart (show IsS84 w _ g966 t964 t979 from by exact is84_3 NB966_962.out NB966_963.out NB966_980.out HI966.out) (rg BK980 HO969) (by decide)) hk (fun _ h => h.2)) (fun _ h => h.1)); replace HO972 := am (Kd.R_mono (Kd.R_keep (IsS84.apart (show IsS84 w _ g966 t964 t979 from by exact is84_3 NB966_962.out NB966_963.out NB966_980.out HI966.out) (rg BK980 HO972) (by decide)) hk (fun _ h => h.2)) (fun _ h => h.1)); replace HO975 := am (Kd.R_mono (Kd.R_keep (IsS84.apart (show IsS84 w _ g966 t964 t979 from by exact is84_3 NB966_962.out NB966_963.out NB966_980.out HI966.out) (rg BK980 HO975) (by decide)) hk (fun _ h => h.2)) (fun _ h => h.1)); replace HO978 := am (Kd.R_mono (Kd.R_keep (IsS84.apart (show IsS84 w _ g966 t964 t979 from by exact is84_3 NB966_962.out NB966_963.out NB966_980.out HI966.out) (rg BK980 HO978) (by decide)) hk (fun _ h => h.2)) (fun _ h => h.1)); replace BK980 := am (KeepBut.blk hk (g' := gb980) (o := .cells #[.slice Ao41 t967.length co41, .slice Ao46 t970.length co46, .slice Ao47 t973.length co47, .slice Ao48 t976.length co48] 30 (0, 0)) (kp4 (kf0 BK980.out)) NB980_966.out (by simp)); replace HB := am (hb); replace HI966 := am (hi); (try clear hb hk hi)))
  replace HO969 := am (Kd.R_drew HO969.out)
  replace HO972 := am (Kd.R_drew HO972.out)
  replace HO975 := am (Kd.R_drew HO975.out)
  replace HO978 := am (Kd.R_drew HO978.out)
  replace BK962 := am (blk_drew BK962.out)
  replace BK963 := am (blk_drew BK963.out)
  replace BK980 := am (blk_drew BK980.out)
  replace HI966 := am (IsS84.drew HI966.out)
  replace HB := am (below_drew1 HB.out)
  refine start_ (n := 6) (S := fun w' => w'.cell? ⟨gb980, 0, none⟩ = some (.slice Ao41 t967.length co41) ∧ w'.cell? ⟨gb980, 1, none⟩ = some (.slice Ao46 t970.length co46) ∧ w'.cell? ⟨gb980, 2, none⟩ = some (.slice Ao47 t973.length co47) ∧ w'.cell? ⟨gb980, 3, none⟩ = some (.slice Ao48 t976.length co48)) (ds := []) #[false, false, false, false, false, false] (by kernel_rfl) rfl rfl ⟨(blk_cell BK980.out 0).trans rfl, (blk_cell BK980.out 1).trans rfl, (blk_cell BK980.out 2).trans rfl, (blk_cell BK980.out 3).trans rfl⟩ (fun hHeld => ?_)
  generalize w49.drew = w50 at HO969 HO972 HO975 HO978 BK962 BK963 BK980 HI966 HB hHeld ⊢
  refine pure_ (i := 1) (N := some 17) (v := ?_) (a' := ?_) #[false, true, false, false, false, false] rfl rfl (by kernel_rfl) (fun _ _ _ h => h) (Or.inl ⟨by rfl, ?_⟩) ?_ ?_
  rotate_left
  ·intro w'
   go_simp
   with_reducible rfl
  rotate_left
  ·simp only [Act.put, List.setIfInBounds_toArray, List.set_cons_zero, List.set_cons_succ, i64_w, i32_w]
   rfl
  refine take_ (i := 0) (N := some 16) (v := ?_) (a' := ?_) #[true, true, false, false, false, false] rfl rfl (by kernel_rfl) (fun _ _ _ h => h) (Or.inl ⟨by rfl, ?_⟩) hHeld ?_ ?_
  rotate_left
  ·rintro w' ⟨s0, s1, s2, s3⟩
   go_simp
   with_reducible rfl
  rotate_left
  ·simp only [Act.put, List.setIfInBounds_toArray, List.set_cons_zero, List.set_cons_succ, i64_w, i32_w]
   rfl
  refine take_ (i := 2) (N := some 18) (v := ?_) (a' := ?_) #[true, true, true, false, false, false] rfl rfl (by kernel_rfl) (fun _ _ _ h => h) (Or.inl ⟨by rfl, ?_⟩) hHeld ?_ ?_
  rotate_left
  ·rintro w' ⟨s0, s1, s2, s3⟩
   go_simp
   with_reducible rfl
  rotate_left
  ·simp only [Act.put, List.setIfInBounds_toArray, List.set_cons_zero, List.set_cons_succ, i64_w, i32_w]
   rfl
  refine one_ (i := 3) (N := some 19) #[true, true, true, true, false, false] rfl rfl (by kernel_rfl) (by decide) (fun K hK => ?_)
  refine goes_ Try.func75 (by kernel_rfl) rfl #[.pointer (some ⟨g966, 0, none⟩), .agg #[.slice Ao41 t967.length co41, .slice Ao46 t970.length co46, .slice Ao47 t973.length co47, .slice Ao48 t976.length co48]] (by rfl) rfl rfl (by (try simp only [List.map_toArray, List.map_cons, List.map_nil]); first | done | rfl | (simp only [List.length_drop, List.length_take]; rfl)) ?_
  with_reducible refine (spec_l3Wrong.calls k g966 t964 t982 _ _ t967 _ _ t970 _ _ t973 _ _ t976 t996 t999 t1002 t1005 t1008 w _ ?side1 ?side2 ?side3 ?side4 ?side5 ?side6 ?side7 ?side8 ?side9 ?side10 ?side11 ?side12 ?side13 ?side14 A35.out).mono ?_
  (case side1 => exact is84_3 NB966_962.out NB966_963.out NB966_980.out HI966.out)
  (case side2 => exact bs4 (IsS84.ge HI966.out) GE962.out GE963.out GE980.out HB.out)
  (case side3 => exact cl ((Kd.R_reads' HO969.out).2.2))
  (case side4 => exact sc HO969)
  (case side5 => exact far_slice (IsS84.own_ne HI966.out HO969.out (by decide)))
  (case side6 => exact cl ((Kd.R_reads' HO972.out).2.2))
  (case side7 => exact sc HO972)
  (case side8 => exact far_slice (IsS84.own_ne HI966.out HO972.out (by decide)))
  (case side9 => exact cl ((Kd.R_reads' HO975.out).2.2))
  (case side10 => exact sc HO975)
  (case side11 => exact far_slice (IsS84.own_ne HI966.out HO975.out (by decide)))
  (case side12 => exact cl ((Kd.R_reads' HO978.out).2.2))
  (case side13 => exact sc HO978)
  (case side14 => exact far_slice (IsS84.own_ne HI966.out HO978.out (by decide)))
  rintro e w51 ⟨v997, v1000, v1003, v1006, rfl, ho0, ho1, ho2, ho3, hi, hb, hk⟩
  refine ⟨_, rfl, ?_⟩
  replace BK962 := kb hk BK962 NB962_966
  replace BK963 := kb hk BK963 NB963_966
  replace BK980 := kb hk BK980 NB980_966
  have HO998 := ln4 ho0 (rl HO969.out) (rl HO972.out) (rl HO975.out) (rl HO978.out) (bs4 (IsS84.ge HI966.out) GE962.out GE963.out GE980.out HB.out)
  have HO1001 := ln4 ho1 (rl HO969.out) (rl HO972.out) (rl HO975.out) (rl HO978.out) (bs4 (IsS84.ge HI966.out) GE962.out GE963.out GE980.out HB.out)
  have HO1004 := ln4 ho2 (rl HO969.out) (rl HO972.out) (rl HO975.out) (rl HO978.out) (bs4 (IsS84.ge HI966.out) GE962.out GE963.out GE980.out HB.out)
  have HO1007 := ln4 ho3 (rl HO969.out) (rl HO972.out) (rl HO975.out) (rl HO978.out) (bs4 (IsS84.ge HI966.out) GE962.out GE963.out GE980.out HB.out)
  replace HO969 := am (Kd.R_mono (Kd.R_told (Kd.R_told (Kd.R_told (Kd.R_told (Kd.R_oldK (IsS84.apart (show IsS84 w _ g966 t964 t982 from by exact is84_3 NB966_962.out NB966_963.out NB966_980.out HI966.out) (rl HO969.out) (by decide)) hk) (Kd.R_base ho0)) (Kd.R_base ho1)) (Kd.R_base ho2)) (Kd.R_base ho3)) (fun _ h_ => h_.1))
  replace HO972 := am (Kd.R_mono (Kd.R_told (Kd.R_told (Kd.R_told (Kd.R_told (Kd.R_oldK (IsS84.apart (show IsS84 w _ g966 t964 t982 from by exact is84_3 NB966_962.out NB966_963.out NB966_980.out HI966.out) (rl HO972.out) (by decide)) hk) (Kd.R_base ho0)) (Kd.R_base ho1)) (Kd.R_base ho2)) (Kd.R_base ho3)) (fun _ h_ => h_.1))
  replace HO975 := am (Kd.R_mono (Kd.R_told (Kd.R_told (Kd.R_told (Kd.R_told (Kd.R_oldK (IsS84.apart (show IsS84 w _ g966 t964 t982 from by exact is84_3 NB966_962.out NB966_963.out NB966_980.out HI966.out) (rl HO975.out) (by decide)) hk) (Kd.R_base ho0)) (Kd.R_base ho1)) (Kd.R_base ho2)) (Kd.R_base ho3)) (fun _ h_ => h_.1))
  replace HO978 := am (Kd.R_mono (Kd.R_told (Kd.R_told (Kd.R_told (Kd.R_told (Kd.R_oldK (IsS84.apart (show IsS84 w _ g966 t964 t982 from by exact is84_3 NB966_962.out NB966_963.out NB966_980.out HI966.out) (rl HO978.out) (by decide)) hk) (Kd.R_base ho0)) (Kd.R_base ho1)) (Kd.R_base ho2)) (Kd.R_base ho3)) (fun _ h_ => h_.1))
  replace HB := am (hb)
  replace HI966 := am (hi)
  (try clear hb hk hi ho0 ho1 ho2 ho3)
  obtain ⟨Ao56, co56, eo56⟩ := Kd.R_slice HO998.out
  (first | subst eo56 | (injection eo56 with f1_ f2_ f3_; have f4_ := f1_.symm; have f5_ := f3_.symm; clear f1_ f2_ f3_; subst f4_; subst f5_))
  obtain ⟨Ao58, co58, eo58⟩ := Kd.R_slice HO1001.out
  (first | subst eo58 | (injection eo58 with f1_ f2_ f3_; have f4_ := f1_.symm; have f5_ := f3_.symm; clear f1_ f2_ f3_; subst f4_; subst f5_))
  obtain ⟨Ao60, co60, eo60⟩ := Kd.R_slice HO1004.out
  (first | subst eo60 | (injection eo60 with f1_ f2_ f3_; have f4_ := f1_.symm; have f5_ := f3_.symm; clear f1_ f2_ f3_; subst f4_; subst f5_))
  obtain ⟨Ao62, co62, eo62⟩ := Kd.R_slice HO1007.out
  (first | subst eo62 | (injection eo62 with f1_ f2_ f3_; have f4_ := f1_.symm; have f5_ := f3_.symm; clear f1_ f2_ f3_; subst f4_; subst f5_))
  refine hK.out _ _ ⟨(blk_cell BK980.out 0).trans rfl, (blk_cell BK980.out 1).trans rfl, (blk_cell BK980.out 2).trans rfl, (blk_cell BK980.out 3).trans rfl⟩ (fun hHeld => ?_)
  clear hK K
  refine norm_ (a' := ?_) ?_ ?_
  rotate_left
  ·show Act.put _ (some 19) _ = _
   simp only [Act.put, List.setIfInBounds_toArray, List.set_cons_zero, List.set_cons_succ, i64_w, i32_w]
   rfl
  refine one_ (i := 4) (N := none) #[true, true, true, true, true, false] rfl rfl (by kernel_rfl) (by decide) (fun K hK => ?_)
  have hs52 : w51.cell? ⟨gb962, 0, none⟩ = some (.slice none 0 0) := (blk_cell BK962.out 0).trans rfl
  have hfs52 := blk_frozen BK962.out 0
  have hns52_1 := NB963_962.out
  have hns52_2 := NB980_962.out
  have hms52_1 := NB962_963.out
  have hms52_2 := NB962_980.out
  have hs53 : w51.cell? ⟨gb962, 1, none⟩ = some (.slice none 0 0) := (blk_cell BK962.out 1).trans rfl
  have hfs53 := blk_frozen BK962.out 1
  have hns53_1 := NB963_962.out
  have hns53_2 := NB980_962.out
  have hms53_1 := NB962_963.out
  have hms53_2 := NB962_980.out
  have hs54 : w51.cell? ⟨gb962, 2, none⟩ = some (.slice none 0 0) := (blk_cell BK962.out 2).trans rfl
  have hfs54 := blk_frozen BK962.out 2
  have hns54_1 := NB963_962.out
  have hns54_2 := NB980_962.out
  have hms54_1 := NB962_963.out
  have hms54_2 := NB962_980.out
  have hs55 : w51.cell? ⟨gb962, 3, none⟩ = some (.slice none 0 0) := (blk_cell BK962.out 3).trans rfl
  have hfs55 := blk_frozen BK962.out 3
  have hns55_1 := NB963_962.out
  have hns55_2 := NB980_962.out
  have hms55_1 := NB962_963.out
  have hms55_2 := NB962_980.out
  refine skip_ (w1 := ?_) (by rfl) rfl ?_ ?_
  rotate_left
  ·go_simp
   rfl
  refine hK.out _ _ ⟨((cell_far (p := ⟨gb962, _, none⟩) NB980_962.out _).trans (((cell_far (p := ⟨gb962, _, none⟩) NB980_962.out _).trans (((cell_far (p := ⟨gb962, _, none⟩) NB980_962.out _).trans (((cell_far (p := ⟨gb962, _, none⟩) NB980_962.out _).trans (hHeld.1)))))))), ((cell_far (p := ⟨gb962, _, none⟩) NB980_962.out _).trans (((cell_far (p := ⟨gb962, _, none⟩) NB980_962.out _).trans (((cell_far (p := ⟨gb962, _, none⟩) NB980_962.out _).trans (((cell_far (p := ⟨gb962, _, none⟩) NB980_962.out _).trans (hHeld.2.1)))))))), ((cell_far (p := ⟨gb962, _, none⟩) NB980_962.out _).trans (((cell_far (p := ⟨gb962, _, none⟩) NB980_962.out _).trans (((cell_far (p := ⟨gb962, _, none⟩) NB980_962.out _).trans (((cell_far (p := ⟨gb962, _, none⟩) NB980_962.out _).trans (hHeld.2.2.1)))))))), ((cell_far (p := ⟨gb962, _, none⟩) NB980_962.out _).trans (((cell_far (p := ⟨gb962, _, none⟩) NB980_962.out _).trans (((cell_far (p := ⟨gb962, _, none⟩) NB980_962.out _).trans (((cell_far (p := ⟨gb962, _, none⟩) NB980_962.out _).trans (hHeld.2.2.2))))))))⟩ (fun hHeld => ?_)
  clear hK K
  refine one_ (i := 5) (N := none) #[true, true, true, true, true, true] rfl rfl (by kernel_rfl) (by decide) (fun K hK => ?_)
  have hs57 : w51.cell? ⟨gb963, 0, none⟩ = some (.slice none 0 0) := (blk_cell BK963.out 0).trans rfl
  have hfs57 := blk_frozen BK963.out 0
  have hns57_0 := NB962_963.out
  have hns57_2 := NB980_963.out
  have hms57_0 := NB963_962.out
  have hms57_2 := NB963_980.out
  have hs59 : w51.cell? ⟨gb963, 1, none⟩ = some (.slice none 0 0) := (blk_cell BK963.out 1).trans rfl
  have hfs59 := blk_frozen BK963.out 1
  have hns59_0 := NB962_963.out
  have hns59_2 := NB980_963.out
  have hms59_0 := NB963_962.out
  have hms59_2 := NB963_980.out
  have hs61 : w51.cell? ⟨gb963, 2, none⟩ = some (.slice none 0 0) := (blk_cell BK963.out 2).trans rfl
  have hfs61 := blk_frozen BK963.out 2
  have hns61_0 := NB962_963.out
  have hns61_2 := NB980_963.out
  have hms61_0 := NB963_962.out
  have hms61_2 := NB963_980.out
  have hs63 : w51.cell? ⟨gb963, 3, none⟩ = some (.slice none 0 0) := (blk_cell BK963.out 3).trans rfl
  have hfs63 := blk_frozen BK963.out 3
  have hns63_0 := NB962_963.out
  have hns63_2 := NB980_963.out
  have hms63_0 := NB963_962.out
  have hms63_2 := NB963_980.out
  refine skip_ (w1 := ?_) (by rfl) rfl ?_ ?_
  rotate_left
  ·go_simp
   rfl
  refine hK.out _ _ ⟨((cell_far (p := ⟨gb963, _, none⟩) NB980_963.out _).trans (((cell_far (p := ⟨gb963, _, none⟩) NB980_963.out _).trans (((cell_far (p := ⟨gb963, _, none⟩) NB980_963.out _).trans (((cell_far (p := ⟨gb963, _, none⟩) NB980_963.out _).trans (hHeld.1)))))))), ((cell_far (p := ⟨gb963, _, none⟩) NB980_963.out _).trans (((cell_far (p := ⟨gb963, _, none⟩) NB980_963.out _).trans (((cell_far (p := ⟨gb963, _, none⟩) NB980_963.out _).trans (((cell_far (p := ⟨gb963, _, none⟩) NB980_963.out _).trans (hHeld.2.1)))))))), ((cell_far (p := ⟨gb963, _, none⟩) NB980_963.out _).trans (((cell_far (p := ⟨gb963, _, none⟩) NB980_963.out _).trans (((cell_far (p := ⟨gb963, _, none⟩) NB980_963.out _).trans (((cell_far (p := ⟨gb963, _, none⟩) NB980_963.out _).trans (hHeld.2.2.1)))))))), ((cell_far (p := ⟨gb963, _, none⟩) NB980_963.out _).trans (((cell_far (p := ⟨gb963, _, none⟩) NB980_963.out _).trans (((cell_far (p := ⟨gb963, _, none⟩) NB980_963.out _).trans (((cell_far (p := ⟨gb963, _, none⟩) NB980_963.out _).trans (hHeld.2.2.2))))))))⟩ (fun hHeld => ?_)
  clear hK K
  refine done_ (by kernel_rfl) ?_
  try go_wp2
  refine bodyPost_ret (results_cc rfl _ _ gb962 gb963 30 30 #[.slice Ao41 t967.length co41, .slice Ao46 t970.length co46, .slice Ao47 t973.length co47, .slice Ao48 t976.length co48] #[.slice Ao56 t996.length co56, .slice Ao58 t999.length co58, .slice Ao60 t1002.length co60, .slice Ao62 t1005.length co62] (0, 0) (0, 0) _ _ rfl (by (with_reducible repeat (first | refine blk_drewN ?_ _ | refine blk_drew ?_ | refine blk_alloc ?_ _)); refine blk_far ?_ NB962_963.out _; (with_reducible repeat (first | refine blk_drewN ?_ _ | refine blk_drew ?_ | refine blk_alloc ?_ _)); refine blk_far ?_ NB962_963.out _; (with_reducible repeat (first | refine blk_drewN ?_ _ | refine blk_drew ?_ | refine blk_alloc ?_ _)); refine blk_far ?_ NB962_963.out _; (with_reducible repeat (first | refine blk_drewN ?_ _ | refine blk_drew ?_ | refine blk_alloc ?_ _)); refine blk_far ?_ NB962_963.out _; (with_reducible repeat (first | refine blk_drewN ?_ _ | refine blk_drew ?_ | refine blk_alloc ?_ _)); refine blk_put (cs := #[.slice Ao41 t967.length co41, .slice Ao46 t970.length co46, .slice Ao47 t973.length co47, .slice none 0 0]) ?_ 3 _ rfl; (with_reducible repeat (first | refine blk_drewN ?_ _ | refine blk_drew ?_ | refine blk_alloc ?_ _)); refine blk_put (cs := #[.slice Ao41 t967.length co41, .slice Ao46 t970.length co46, .slice none 0 0, .slice none 0 0]) ?_ 2 _ rfl; (with_reducible repeat (first | refine blk_drewN ?_ _ | refine blk_drew ?_ | refine blk_alloc ?_ _)); refine blk_put (cs := #[.slice Ao41 t967.length co41, .slice none 0 0, .slice none 0 0, .slice none 0 0]) ?_ 1 _ rfl; (with_reducible repeat (first | refine blk_drewN ?_ _ | refine blk_drew ?_ | refine blk_alloc ?_ _)); refine blk_put (cs := #[.slice none 0 0, .slice none 0 0, .slice none 0 0, .slice none 0 0]) ?_ 0 _ rfl; (with_reducible repeat (first | refine blk_drewN ?_ _ | refine blk_drew ?_ | refine blk_alloc ?_ _)); exact BK962.out) Try.underlying30 rfl (by kernel_rfl) rfl (kp4 (kf1 NB963_962.out BK963.out)) Try.underlying30 rfl (by kernel_rfl)) rfl ?_
  exact ⟨_, _, _, _, _, _, _, _, by first | rfl | (simp [errW_none, errW_some] <;> rfl) | (simp [*, errW_none, errW_some] <;> rfl), by exact ro (rg2 BK962 BK963 HO969), by exact ro (rg2 BK962 BK963 HO972), by exact ro (rg2 BK962 BK963 HO975), by exact ro (rg2 BK962 BK963 HO978), by exact ro (rg2 BK962 BK963 HO998), by exact ro (rg2 BK962 BK963 HO1001), by exact ro (rg2 BK962 BK963 HO1004), by exact ro (rg2 BK962 BK963 HO1007), by exact bs4 (IsS84.ge HI966.out) GE962.out GE963.out GE980.out HB.out⟩

end Go.Proofs.Ytkbaggfkidalfaa.A
