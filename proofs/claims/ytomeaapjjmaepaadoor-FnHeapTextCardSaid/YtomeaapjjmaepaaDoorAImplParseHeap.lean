/- Contracts of functions of the given program (AImplParseHeap). No conditions beyond those stated. -/
import Derived.Test.YtomeaapjjmaepaaDoorA0
import Derived.Test.YtomeaapjjmaepaaDoorAImplFormatHeap
import Derived.Test.YtomeaapjjmaepaaDoorAImplHeapValid
import Derived.Test.YtomeaapjjmaepaaDoorAImplParseHeap1
import Derived.Test.YtomeaapjjmaepaaDoorAStringsSplit
import Derived.Test.YtomeaapjjmaepaaDoorA0
namespace Go.Proofs.YtomeaapjjmaepaaDoor.A
open Go.RowKit Go.Proofs.YtomeaapjjmaepaaDoorW.PrintWords Go.Proofs.YtomeaapjjmaepaaDoorW.PrintLast Go.Proofs.YtomeaapjjmaepaaDoorW.PrintMore
attribute [local go_sem] max2_int min2_int max_two min_two max_three min_three max_four min_four   -- for this text's walks alone
set_option linter.unusedVariables false
set_option linter.unusedSimpArgs false

/-! ### impl_ParseHeap -/
theorem goesV_ {P : Program} {ops : Array Oper} {Q : Exit → Act → World → Prop} {oi : Oper} {N : Option Tmp} {a : Act} {w : World} {K : Act → World → Prop} {f : FuncId} {fn : Func} {c : Operand} {ag : Array Operand} {ts : Array TypeId} (hf : P.funcs[f]? = some fn) (hname : (fn.name == "runtime.NumGoroutine") = false) (hb : fn.body.isSome = true) (args : Array Value)
  (hw : Region.wanted oi (yielded ops a.tmps) = true) (hN : oi.dst = N) (hop : oi.op = .call { callee := .value c, args := ag, argTypes := ts }) (hc : a.eval c = a.eval (.func f)) (hargs : ag.map a.eval = args)
  (h : Calls P f args w fun e w' => ∃ v, e = .returned v ∧ K (a.put N v) w') : if Region.wanted oi (yielded ops a.tmps) = true then Oper.wp P oi a w K Q else K (a.put N undef) w := by
 refine call_ f args hw hN ?_ h
 have he := enters_ hf hname hb args w
 have hc' : a.eval c = .func (.func f) #[] #[] := hc
 unfold execOp
 simp [hop, resolve, Deferred.ofValue, invoke, hc', hargs, he]

mutual
def impl_ParseHeap.l0 : Nat → ByteArray → Bool → List ByteArray → Int → Int → List Int → List Int → List Int → Option (List Int × List Int × List Int × Bool)
 | 0, _, _, _, _, _, _, _, _ => none
 | k + 1, x0, x6, x10, x11, x12, x179000, x179001, x179002 => if x12 < x11 then (if 0 ≤ x12 then (if x12 < (x10.length : Int) then (if (rdOf ByteArray.empty x10 x12).toList = ([47] : List UInt8) then (impl_ParseHeap.l0 k x0 true x10 x11 (wrap64 (x12 + 1)) x179000 x179001 x179002) else (if x6 = true then (impl_ParseHeap.j1 k x0 x6 (rdOf ByteArray.empty x10 x12) x10 x11 x12 (((rdOf ByteArray.empty x10 x12).size : Int) == 1) x179000 x179001 x179002) else (impl_ParseHeap.j1 k x0 x6 (rdOf ByteArray.empty x10 x12) x10 x11 x12 false x179000 x179001 x179002))) else (none)) else (none)) else ((impl_HeapValid.f k x179000 x179001 x179002).bind fun t195 => (if t195 = true then ((impl_FormatHeap.f k x179000 x179001 x179002).bind fun t196 => (if t196.toList = x0.toList then (some (x179000, x179001, x179002, true)) else (some (([] : List Int), ([] : List Int), ([] : List Int), false)))) else (some (([] : List Int), ([] : List Int), ([] : List Int), false))))
def impl_ParseHeap.j1 : Nat → ByteArray → Bool → ByteArray → List ByteArray → Int → Int → Bool → List Int → List Int → List Int → Option (List Int × List Int × List Int × Bool)
 | 0, _, _, _, _, _, _, _, _, _, _ => none
 | k + 1, x0, x6, x8, x10, x11, x12, x20, x179000, x179001, x179002 => if x20 = true then (if 0 < (x8.size : Int) then ((impl_ParseHeap_1.f (bt x8 0)).bind fun t183 => (if x179002.length < 17592186044416 then (impl_ParseHeap.l0 k x0 x6 x10 x11 (wrap64 (x12 + 1)) x179000 x179001 (x179002 ++ [t183])) else (none))) else (none)) else (if x6 = true then (impl_ParseHeap.j2 k x0 x6 x8 x10 x11 x12 false x179000 x179001 x179002) else (impl_ParseHeap.j2 k x0 x6 x8 x10 x11 x12 ((x8.size : Int) == 2) x179000 x179001 x179002))
def impl_ParseHeap.j2 : Nat → ByteArray → Bool → ByteArray → List ByteArray → Int → Int → Bool → List Int → List Int → List Int → Option (List Int × List Int × List Int × Bool)
 | 0, _, _, _, _, _, _, _, _, _, _ => none
 | k + 1, x0, x6, x8, x10, x11, x12, x36, x179000, x179001, x179002 => if x36 = true then (if 0 < (x8.size : Int) then ((impl_ParseHeap_1.f (bt x8 0)).bind fun t187 => (if x179000.length < 17592186044416 then (if 1 < (x8.size : Int) then ((impl_ParseHeap_1.f (bt x8 1)).bind fun t191 => (if x179001.length < 17592186044416 then (impl_ParseHeap.l0 k x0 x6 x10 x11 (wrap64 (x12 + 1)) (x179000 ++ [t187]) (x179001 ++ [t191]) x179002) else (none))) else (none)) else (none))) else (none)) else (some (([] : List Int), ([] : List Int), ([] : List Int), false))
end
def impl_ParseHeap.f (k : Nat) (a0 : ByteArray) : Option (List Int × List Int × List Int × Bool) := (strings_Split.f a0 (⟨#[32]⟩ : ByteArray)).bind fun t179 => (impl_ParseHeap.l0 k a0 false t179 (t179.length : Int) 0 ([] : List Int) ([] : List Int) ([] : List Int))
theorem impl_ParseHeap.mono_l : ∀ k, (∀ y0 y1 y2 y3 y4 y5 y6 y7, LeO (impl_ParseHeap.l0 k y0 y1 y2 y3 y4 y5 y6 y7) (impl_ParseHeap.l0 (k + 1) y0 y1 y2 y3 y4 y5 y6 y7)) ∧ (∀ y0 y1 y2 y3 y4 y5 y6 y7 y8 y9, LeO (impl_ParseHeap.j1 k y0 y1 y2 y3 y4 y5 y6 y7 y8 y9) (impl_ParseHeap.j1 (k + 1) y0 y1 y2 y3 y4 y5 y6 y7 y8 y9)) ∧ (∀ y0 y1 y2 y3 y4 y5 y6 y7 y8 y9, LeO (impl_ParseHeap.j2 k y0 y1 y2 y3 y4 y5 y6 y7 y8 y9) (impl_ParseHeap.j2 (k + 1) y0 y1 y2 y3 y4 y5 y6 y7 y8 y9))
 | 0 => ⟨fun _ _ _ _ _ _ _ _ r h => by simp [impl_ParseHeap.l0] at h, fun _ _ _ _ _ _ _ _ _ _ r h => by simp [impl_ParseHeap.j1] at h, fun _ _ _ _ _ _ _ _ _ _ r h => by simp [impl_ParseHeap.j2] at h⟩
 | k + 1 => by
  obtain ⟨ih0, ih1, ih2⟩ := impl_ParseHeap.mono_l k
  refine ⟨?_, ?_, ?_⟩
  ·intro y0 y1 y2 y3 y4 y5 y6 y7
   unfold impl_ParseHeap.l0
   repeat' first
   | (with_reducible exact ih0 _ _ _ _ _ _ _ _)
   | (with_reducible exact ih1 _ _ _ _ _ _ _ _ _ _)
   | (with_reducible exact ih2 _ _ _ _ _ _ _ _ _ _)
   | (with_reducible exact impl_FormatHeap.mono _ _ _ _)
   | (with_reducible exact impl_HeapValid.mono _ _ _ _)
   | (with_reducible exact LeO.refl _)
   | (with_reducible exact LeO.none _)
   | (with_reducible refine LeO.ite ?_ ?_)
   | (with_reducible refine LeO.bind ?_ (fun _ => ?_))
   | exact ih0 _ _ _ _ _ _ _ _
   | exact ih1 _ _ _ _ _ _ _ _ _ _
   | exact ih2 _ _ _ _ _ _ _ _ _ _
   | exact impl_FormatHeap.mono _ _ _ _
   | exact impl_HeapValid.mono _ _ _ _
   | exact LeO.none _
   | refine LeO.ite ?_ ?_
   | refine LeO.bind ?_ (fun _ => ?_)
  ·intro y0 y1 y2 y3 y4 y5 y6 y7 y8 y9
   unfold impl_ParseHeap.j1
   repeat' first
   | (with_reducible exact ih0 _ _ _ _ _ _ _ _)
   | (with_reducible exact ih1 _ _ _ _ _ _ _ _ _ _)
   | (with_reducible exact ih2 _ _ _ _ _ _ _ _ _ _)
   | (with_reducible exact impl_FormatHeap.mono _ _ _ _)
   | (with_reducible exact impl_HeapValid.mono _ _ _ _)
   | (with_reducible exact LeO.refl _)
   | (with_reducible exact LeO.none _)
   | (with_reducible refine LeO.ite ?_ ?_)
   | (with_reducible refine LeO.bind ?_ (fun _ => ?_))
   | exact ih0 _ _ _ _ _ _ _ _
   | exact ih1 _ _ _ _ _ _ _ _ _ _
   | exact ih2 _ _ _ _ _ _ _ _ _ _
   | exact impl_FormatHeap.mono _ _ _ _
   | exact impl_HeapValid.mono _ _ _ _
   | exact LeO.none _
   | refine LeO.ite ?_ ?_
   | refine LeO.bind ?_ (fun _ => ?_)
  ·intro y0 y1 y2 y3 y4 y5 y6 y7 y8 y9
   unfold impl_ParseHeap.j2
   repeat' first
   | (with_reducible exact ih0 _ _ _ _ _ _ _ _)
   | (with_reducible exact ih1 _ _ _ _ _ _ _ _ _ _)
   | (with_reducible exact ih2 _ _ _ _ _ _ _ _ _ _)
   | (with_reducible exact impl_FormatHeap.mono _ _ _ _)
   | (with_reducible exact impl_HeapValid.mono _ _ _ _)
   | (with_reducible exact LeO.refl _)
   | (with_reducible exact LeO.none _)
   | (with_reducible refine LeO.ite ?_ ?_)
   | (with_reducible refine LeO.bind ?_ (fun _ => ?_))
   | exact ih0 _ _ _ _ _ _ _ _
   | exact ih1 _ _ _ _ _ _ _ _ _ _
   | exact ih2 _ _ _ _ _ _ _ _ _ _
   | exact impl_FormatHeap.mono _ _ _ _
   | exact impl_HeapValid.mono _ _ _ _
   | exact LeO.none _
   | refine LeO.ite ?_ ?_
   | refine LeO.bind ?_ (fun _ => ?_)
theorem impl_ParseHeap.mono : ∀ a0 k, LeO (impl_ParseHeap.f k a0) (impl_ParseHeap.f (k + 1) a0) := by
 intro a0 k
 obtain ⟨ih0, ih1, ih2⟩ := impl_ParseHeap.mono_l k
 unfold impl_ParseHeap.f
 repeat' first
   | (with_reducible exact ih0 _ _ _ _ _ _ _ _)
   | (with_reducible exact ih1 _ _ _ _ _ _ _ _ _ _)
   | (with_reducible exact ih2 _ _ _ _ _ _ _ _ _ _)
   | (with_reducible exact impl_FormatHeap.mono _ _ _ _)
   | (with_reducible exact impl_HeapValid.mono _ _ _ _)
   | (with_reducible exact LeO.refl _)
   | (with_reducible exact LeO.none _)
   | (with_reducible refine LeO.ite ?_ ?_)
   | (with_reducible refine LeO.bind ?_ (fun _ => ?_))
   | exact ih0 _ _ _ _ _ _ _ _
   | exact ih1 _ _ _ _ _ _ _ _ _ _
   | exact ih2 _ _ _ _ _ _ _ _ _ _
   | exact impl_FormatHeap.mono _ _ _ _
   | exact impl_HeapValid.mono _ _ _ _
   | exact LeO.none _
   | refine LeO.ite ?_ ?_
   | refine LeO.bind ?_ (fun _ => ?_)
def impl_ParseHeap.T11 : Bool × List (List Nat × List Nat) := (true, [([], []), ([0], [0]), ([], []), ([], []), ([3], [3]), ([2, 4], [2, 4]), ([5], [5]), ([1, 6, 5], [1, 6]), ([0, 1, 2, 3, 4, 5, 6, 7], []), ([8, 7, 7, 0, 1, 2, 3, 4, 5, 6, 7], [7, 8])])
def impl_ParseHeap.B11 : List Nat := [0, 1, 0, 0, 8, 28, 60, 127, 255, 511]
theorem impl_ParseHeap.tab11 : rtab .any (opsOf Tryd.f10 11) = impl_ParseHeap.T11 := by kernel_rfl
theorem impl_ParseHeap.bits11 : waitsOk impl_ParseHeap.T11.2 impl_ParseHeap.B11 = true := by kernel_rfl
def impl_ParseHeap.T13 : Bool × List (List Nat × List Nat) := (true, [([], []), ([0], [0]), ([], []), ([], []), ([3], [3]), ([2, 4], [2, 4]), ([5], [5]), ([1, 6, 5], [1, 6]), ([0, 1, 2, 3, 4, 5, 6, 7], []), ([8, 7, 7, 0, 1, 2, 3, 4, 5, 6, 7], [7, 8])])
def impl_ParseHeap.B13 : List Nat := [0, 1, 0, 0, 8, 28, 60, 127, 255, 511]
theorem impl_ParseHeap.tab13 : rtab .any (opsOf Tryd.f10 13) = impl_ParseHeap.T13 := by kernel_rfl
theorem impl_ParseHeap.bits13 : waitsOk impl_ParseHeap.T13.2 impl_ParseHeap.B13 = true := by kernel_rfl
def impl_ParseHeap.T14 : Bool × List (List Nat × List Nat) := (true, [([], []), ([0], [0]), ([], []), ([], []), ([3], [3]), ([2, 4], [2, 4]), ([5], [5]), ([1, 6, 5], [1, 6]), ([0, 1, 2, 3, 4, 5, 6, 7], []), ([8, 7, 7, 0, 1, 2, 3, 4, 5, 6, 7], [7, 8])])
def impl_ParseHeap.B14 : List Nat := [0, 1, 0, 0, 8, 28, 60, 127, 255, 511]
theorem impl_ParseHeap.tab14 : rtab .any (opsOf Tryd.f10 14) = impl_ParseHeap.T14 := by kernel_rfl
theorem impl_ParseHeap.bits14 : waitsOk impl_ParseHeap.T14.2 impl_ParseHeap.B14 = true := by kernel_rfl
set_option maxHeartbeats 8000000 in
set_option maxRecDepth 100000 in
theorem impl_ParseHeap.calls (k : Nat) (a0 : ByteArray) (r1 : List Int) (r2 : List Int) (r3 : List Int) (r4 : Bool) (w : World) (h : impl_ParseHeap.f k a0 = some (r1, r2, r3, r4)) :
  Calls Tryd.prog 10 #[.string a0] w fun e w' => ∃ v0_ v1_ v2_ : Value, e = .returned (.tuple #[.agg #[v0_, v1_, v2_], .bool r4]) ∧ Kd.R (Kd.int .i64) 3 w' w.heap.size (fun k_ => some k_ ≠ (v1_ : Value).ownBlock ∧ some k_ ≠ (v2_ : Value).ownBlock) v0_ r1 ∧ Kd.R (Kd.int .i64) 3 w' w.heap.size (fun k_ => some k_ ≠ (v0_ : Value).ownBlock ∧ some k_ ≠ (v2_ : Value).ownBlock) v1_ r2 ∧ Kd.R (Kd.int .i64) 3 w' w.heap.size (fun k_ => some k_ ≠ (v0_ : Value).ownBlock ∧ some k_ ≠ (v1_ : Value).ownBlock) v2_ r3 ∧ Below w.heap.size w w' := by
 have hu24 := Tryd.underlying24
 have HB := am (Below.refl w.heap.size w)
 have H : ((strings_Split.f a0 (⟨#[32]⟩ : ByteArray)).bind fun t179 => (impl_ParseHeap.l0 k a0 false t179 (t179.length : Int) 0 ([] : List Int) ([] : List Int) ([] : List Int))) = some (r1, r2, r3, r4) := h
 clear h
 replace H := Option.bind_eq_some_iff.mp H
 obtain ⟨t179, A20, H⟩ := H
 replace H : (impl_ParseHeap.l0 k a0 false t179 (t179.length : Int) 0 ([] : List Int) ([] : List Int) ([] : List Int)) = some (r1, r2, r3, r4) := H
 have A2 := am A20
 clear A20
 have H' := am H
 clear H
 go_enter Tryd.func10, Tryd.ntmps10
 go_wp2_with (first | ((with_reducible refine gate_dst (N := 2) rfl ?_); (try (refine gate_guard (by rfl) ?_; dsimp only)); refine box_event ?hg (N := 2) ?hd (cs := #[.slice none 0 0, .slice none 0 0, .slice none 0 0]) (t := 24) ?hr ?_; (case hd => rfl); (case hg => rfl); (case hr => first | (go_simp; done) | (go_simp; rfl)); intro gb177 hg w3 hbox hb; have BK177 := am (hbox); have GW177 := am ((by rw [hg]; exact (below_size (bl HB.out)) : w.heap.size ≤ gb177)); have GE177 := am ((by rw [hg]; exact (below_size (bl HB.out)) : w.heap.size ≤ gb177)); replace HB := am (below_step (bl HB.out) hb); clear hb hbox hg) | ((with_reducible refine gate_dst (N := 5) rfl ?_); (try (refine gate_guard (by rfl) ?_; dsimp only)); refine box_event ?hg (N := 5) ?hd (cs := #[.slice none 0 0, .slice none 0 0, .slice none 0 0]) (t := 24) ?hr ?_; (case hd => rfl); (case hg => rfl); (case hr => first | (go_simp; done) | (go_simp; rfl)); intro gb178 hg w4 hbox hb; have BK178 := am (hbox); have GW178 := am ((by rw [hg]; exact (below_size (bs1 GE177.out HB.out)) : w.heap.size ≤ gb178)); have GE178 := am ((by rw [hg]; exact (below_size (bs1 GE177.out HB.out)) : w.heap.size ≤ gb178)); replace HB := am (below_step (bs1 GE177.out HB.out) hb); have NB177_178 := nb BK177 hg; have NB178_177 := nc BK177 hg; replace BK177 := bb BK177 hb; clear hb hbox hg) | ((with_reducible refine gate_callee (f := 28) rfl ?_); refine gL (some 10) rfl rfl Tryd.func28 (by kernel_rfl) rfl #[.string a0, .string (⟨#[32]⟩ : ByteArray)] rfl ?_; (with_reducible refine (strings_Split.calls a0 (⟨#[32]⟩ : ByteArray) t179 _ A2.out).mono ?_); rintro e w5 ⟨v180, rfl, ho0, hb⟩; refine ⟨_, rfl, ?_⟩; have HO181 := ln0 ho0 (bs2 GE177.out GE178.out HB.out); replace BK177 := bb BK177 hb; replace BK178 := bb BK178 hb; replace HB := am (below_step (bs2 GE177.out GE178.out HB.out) hb); (try clear hb ho0); obtain ⟨Ao6, co6, eo6⟩ := Kd.R_slice HO181.out; subst eo6))
 go_loopg [6, 12] k (fun kq v6 v12 w' => ∃ (x6_1 : Bool) (x12_1 : Int) (x179000_1 : List Int) (x179001_1 : List Int) (x179002_1 : List Int) (u179000 : Value) (u179001 : Value) (u179002 : Value), v6 = .bool x6_1 ∧ v12 = .int .i64 x12_1 ∧ Aside0 (impl_ParseHeap.l0 kq a0 x6_1 t179 (t179.length : Int) x12_1 x179000_1 x179001_1 x179002_1 = some (r1, r2, r3, r4)) ∧ Aside0 (kq ≤ k) ∧ Aside0 (Kd.R Kd.string 9 w' w.heap.size (fun _ => True) (.slice Ao6 t179.length co6) t179) ∧ Aside0 (Kd.R (Kd.int .i64) 3 w' w.heap.size (fun k_ => some k_ ≠ (u179001 : Value).ownBlock ∧ some k_ ≠ (u179002 : Value).ownBlock) u179000 x179000_1) ∧ Aside0 (Kd.R (Kd.int .i64) 3 w' w.heap.size (fun k_ => some k_ ≠ (u179000 : Value).ownBlock ∧ some k_ ≠ (u179002 : Value).ownBlock) u179001 x179001_1) ∧ Aside0 (Kd.R (Kd.int .i64) 3 w' w.heap.size (fun k_ => some k_ ≠ (u179000 : Value).ownBlock ∧ some k_ ≠ (u179001 : Value).ownBlock) u179002 x179002_1) ∧ Aside0 (w'.heap[gb177]? = some (.cells #[(.slice none 0 0), (.slice none 0 0), (.slice none 0 0)] 24 (0, 0))) ∧ Aside0 (w'.heap[gb178]? = some (.cells #[u179000, u179001, u179002] 24 (0, 0))) ∧ Aside0 (Below w.heap.size w w'))
 case atStart => exact ⟨(false), (0), (([] : List Int)), (([] : List Int)), (([] : List Int)), (.slice none 0 0), (.slice none 0 0), (.slice none 0 0), (by first | rfl | (simp; done) | (simp [*]; done)), (by first | rfl | (simp; done) | (simp [*]; done)), H', ⟨Nat.le_refl _⟩, ⟨rl HO181.out⟩, ⟨by first | exact Kd.R_nil _ _ _ _ _ | exact Kd.N_nil _ _ _ _ _ | exact Kd.V_nil _ _ _ _ _ | exact Kd.Q_nil _ _ _ _ _ | exact Kd.S_nil _ _ _ _ _⟩, ⟨by first | exact Kd.R_nil _ _ _ _ _ | exact Kd.N_nil _ _ _ _ _ | exact Kd.V_nil _ _ _ _ _ | exact Kd.Q_nil _ _ _ _ _ | exact Kd.S_nil _ _ _ _ _⟩, ⟨by first | exact Kd.R_nil _ _ _ _ _ | exact Kd.N_nil _ _ _ _ _ | exact Kd.V_nil _ _ _ _ _ | exact Kd.Q_nil _ _ _ _ _ | exact Kd.S_nil _ _ _ _ _⟩, ⟨kl BK177.out⟩, ⟨kl BK178.out⟩, ⟨by exact bs2 GE177.out GE178.out HB.out⟩⟩
 case round =>
  clear H'
  try clear c1
  try clear c2
  try clear p2
  obtain ⟨x6_1, x12_1, x179000_1, x179001_1, x179002_1, u179000, u179001, u179002, rfl, rfl, HA, HK1, HO_10, HO_179000, HO_179001, HO_179002, BK177, BK178, HB⟩ := hrel
  cases gk with
  | zero => exact absurd HA.out (by simp [impl_ParseHeap.l0])
  | succ k1 =>
   have H := HA.out
   clear HA
   simp only [impl_ParseHeap.l0] at H
   by_cases c7 : x12_1 < (t179.length : Int)
   ·rw [if_pos c7] at H
    have c7b0 : decide (x12_1 < (t179.length : Int)) = true := decide_eq_true c7
    clear c7
    by_cases c8 : 0 ≤ x12_1
    ·rw [if_pos c8] at H
     have c8b0 : decide (0 ≤ x12_1) = true := decide_eq_true c8
     clear c8
     by_cases c9 : x12_1 < (t179.length : Int)
     ·rw [if_pos c9] at H
      have c9b0 : decide (x12_1 < (t179.length : Int)) = true := decide_eq_true c9
      clear c9
      by_cases c10 : (rdOf ByteArray.empty t179 x12_1).toList = ([47] : List UInt8)
      ·rw [if_pos c10] at H
       have c10b0 : ((rdOf ByteArray.empty t179 x12_1).toList == ([47] : List UInt8)) = true := beq_iff_eq.mpr c10
       have c10b1 : ((rdOf ByteArray.empty t179 x12_1).toList != ([47] : List UInt8)) = false := bne_eq_false_iff_eq.mpr c10
       clear c10
       have H' := am H
       clear H
       have p182 : 0 ≤ (x12_1 : Int) := of_decide_eq_true (by first | (with_reducible assumption) | assumption)
       have q182 : x12_1 < (t179.length : Int) := of_decide_eq_true (by first | (with_reducible assumption) | assumption)
       obtain ⟨ad182, e182, hx182_0⟩ := Kd.at_string (Kd.R_reads' HO_10.out).2.2 x12_1 p182 q182
       cases e182
       replace p182 := eq_true p182
       replace q182 := eq_true q182
       go_wp2
       go_roundg k1
       case measure => have := HK1.out; omega
       case rel => exact ⟨(true), (wrap64 (x12_1 + 1)), (x179000_1), (x179001_1), (x179002_1), (u179000), (u179001), (u179002), (by first | rfl | (simp; done) | (simp [*]; done)), (by first | rfl | (simp; done) | (simp [*]; done)), H', ⟨by have := HK1.out; omega⟩, ⟨rl HO_10.out⟩, ⟨rl HO_179000.out⟩, ⟨rl HO_179001.out⟩, ⟨rl HO_179002.out⟩, ⟨kl BK177.out⟩, ⟨kl BK178.out⟩, ⟨by exact bs2 GE177.out GE178.out HB.out⟩⟩
      ·rw [if_neg c10] at H
       have c10b0 : ((rdOf ByteArray.empty t179 x12_1).toList == ([47] : List UInt8)) = false := beq_eq_false_iff_ne.mpr c10
       have c10b1 : ((rdOf ByteArray.empty t179 x12_1).toList != ([47] : List UInt8)) = true := bne_iff_ne.mpr c10
       have HC11 := am H
       clear H
       have p182 : 0 ≤ (x12_1 : Int) := of_decide_eq_true (by first | (with_reducible assumption) | assumption)
       have q182 : x12_1 < (t179.length : Int) := of_decide_eq_true (by first | (with_reducible assumption) | assumption)
       obtain ⟨ad182, e182, hx182_0⟩ := Kd.at_string (Kd.R_reads' HO_10.out).2.2 x12_1 p182 q182
       cases e182
       replace p182 := eq_true p182
       replace q182 := eq_true q182
       go_upto_region 10 with (fail)
       go_cut [20] (fun v20 wc => ∃ (kq : Nat) (x20_10 : Bool), v20 = .bool x20_10 ∧ Aside0 (impl_ParseHeap.j1 kq a0 x6_1 (rdOf ByteArray.empty t179 x12_1) t179 (t179.length : Int) x12_1 x20_10 x179000_1 x179001_1 x179002_1 = some (r1, r2, r3, r4)) ∧ Aside0 (kq ≤ k1) ∧ Aside0 (Kd.R Kd.string 9 wc w.heap.size (fun _ => True) (.slice (some ad182) t179.length co6) t179) ∧ Aside0 (Kd.R (Kd.int .i64) 3 wc w.heap.size (fun k_ => some k_ ≠ (u179001 : Value).ownBlock ∧ some k_ ≠ (u179002 : Value).ownBlock) u179000 x179000_1) ∧ Aside0 (Kd.R (Kd.int .i64) 3 wc w.heap.size (fun k_ => some k_ ≠ (u179000 : Value).ownBlock ∧ some k_ ≠ (u179002 : Value).ownBlock) u179001 x179001_1) ∧ Aside0 (Kd.R (Kd.int .i64) 3 wc w.heap.size (fun k_ => some k_ ≠ (u179000 : Value).ownBlock ∧ some k_ ≠ (u179001 : Value).ownBlock) u179002 x179002_1) ∧ Aside0 (wc.heap[gb177]? = some (.cells #[(.slice none 0 0), (.slice none 0 0), (.slice none 0 0)] 24 (0, 0))) ∧ Aside0 (wc.heap[gb178]? = some (.cells #[u179000, u179001, u179002] 24 (0, 0))) ∧ Aside0 (Below w.heap.size w wc))
       case first =>
        have H := HC11.out
        clear HC11
        by_cases c12 : x6_1 = true
        ·subst c12
         have H1 : (impl_ParseHeap.j1 k1 a0 true (rdOf ByteArray.empty t179 x12_1) t179 (t179.length : Int) x12_1 (((rdOf ByteArray.empty t179 x12_1).size : Int) == 1) x179000_1 x179001_1 x179002_1) = some (r1, r2, r3, r4) := by rw [if_pos rfl] at H; exact H
         clear H
         have H := H1
         clear H1
         have H' := am H
         clear H
         go_wp2
         go_meet
         case rel => exact ⟨_, ((((rdOf ByteArray.empty t179 x12_1).size : Int) == 1)), (by first | rfl | (simp; done) | (simp [*]; done)), H', ⟨by have := HK1.out; first | omega | exact Nat.le_refl _⟩, ⟨rl HO_10.out⟩, ⟨rl HO_179000.out⟩, ⟨rl HO_179001.out⟩, ⟨rl HO_179002.out⟩, ⟨kl BK177.out⟩, ⟨kl BK178.out⟩, ⟨by exact bs2 GE177.out GE178.out HB.out⟩⟩
        ·replace c12 := Bool.eq_false_iff.mpr c12
         subst c12
         have H1 : (impl_ParseHeap.j1 k1 a0 false (rdOf ByteArray.empty t179 x12_1) t179 (t179.length : Int) x12_1 false x179000_1 x179001_1 x179002_1) = some (r1, r2, r3, r4) := by rw [if_neg (show ¬ (false = true) by decide)] at H; exact H
         clear H
         have H := H1
         clear H1
         have H' := am H
         clear H
         go_wp2
         go_meet
         case rel => exact ⟨_, (false), (by first | rfl | (simp; done) | (simp [*]; done)), H', ⟨by have := HK1.out; first | omega | exact Nat.le_refl _⟩, ⟨rl HO_10.out⟩, ⟨rl HO_179000.out⟩, ⟨rl HO_179001.out⟩, ⟨rl HO_179002.out⟩, ⟨kl BK177.out⟩, ⟨kl BK178.out⟩, ⟨by exact bs2 GE177.out GE178.out HB.out⟩⟩
       case rest =>
        clear HC11
        try clear c1
        try clear p1
        try clear q1
        try clear hx1
        try clear c2
        try clear p2
        try clear p6
        try clear c7
        try clear c7b0
        try clear c8
        try clear c8b0
        try clear c9
        try clear c9b0
        try clear c10
        try clear c10b0
        try clear c10b1
        try clear c12
        try clear hx182_0
        try clear p182
        try clear p2
        try clear q182
        obtain ⟨kq, x20_10, rfl, HA, HJ10, HO_10, HO_179000, HO_179001, HO_179002, BK177, BK178, HB⟩ := hcut
        cases kq with
        | zero => exact absurd HA.out (by simp [impl_ParseHeap.j1])
        | succ kj10 =>
         have H := HA.out
         clear HA
         simp only [impl_ParseHeap.j1] at H
         by_cases c13 : x20_10 = true
         ·subst c13
          have H1 : (if 0 < ((rdOf ByteArray.empty t179 x12_1).size : Int) then ((impl_ParseHeap_1.f (bt (rdOf ByteArray.empty t179 x12_1) 0)).bind fun t183 => (if x179002_1.length < 17592186044416 then (impl_ParseHeap.l0 kj10 a0 x6_1 t179 (t179.length : Int) (wrap64 (x12_1 + 1)) x179000_1 x179001_1 (x179002_1 ++ [t183])) else (none))) else (none)) = some (r1, r2, r3, r4) := by rw [if_pos rfl] at H; exact H
          clear H
          have H := H1
          clear H1
          by_cases c14 : 0 < ((rdOf ByteArray.empty t179 x12_1).size : Int)
          ·rw [if_pos c14] at H
           have c14b0 : decide (0 < ((rdOf ByteArray.empty t179 x12_1).size : Int)) = true := decide_eq_true c14
           have c14b1 : decide (0 < (rdOf ByteArray.empty t179 x12_1).size) = true := decide_eq_true (by omega)
           clear c14
           replace H := Option.bind_eq_some_iff.mp H
           obtain ⟨t183, A160, H⟩ := H
           replace H : (if x179002_1.length < 17592186044416 then (impl_ParseHeap.l0 kj10 a0 x6_1 t179 (t179.length : Int) (wrap64 (x12_1 + 1)) x179000_1 x179001_1 (x179002_1 ++ [t183])) else (none)) = some (r1, r2, r3, r4) := H
           have A16 := am A160
           clear A160
           by_cases c17 : x179002_1.length < 17592186044416
           ·rw [if_pos c17] at H
            have LMc17 := am c17
            clear c17
            obtain ⟨y184, hy184⟩ : ∃ y_ : List Int, y_ = (x179002_1 ++ [t183]) := ⟨_, rfl⟩
            replace H : (impl_ParseHeap.l0 kj10 a0 x6_1 t179 (t179.length : Int) (wrap64 (x12_1 + 1)) x179000_1 x179001_1 y184) = some (r1, r2, r3, r4) := by first | (rw [hy184]; with_reducible exact H) | (have H2_ := (Option.bind_some _ _).symm.trans H; rw [hy184]; with_reducible exact H2_) | (have H2_ := (Option.bind_some _ _).symm.trans H; with_reducible exact H2_) | with_reducible exact H | (rw [hy184]; exact H) | exact H
            have Ny184 := am hy184
            clear hy184
            have H' := am H
            clear H
            try go_wp2
            replace HO_10 := am (Kd.R_drew HO_10.out)
            replace HO_179000 := am (Kd.R_drew HO_179000.out)
            replace HO_179001 := am (Kd.R_drew HO_179001.out)
            replace HO_179002 := am (Kd.R_drew HO_179002.out)
            replace BK177 := am (blk_drew BK177.out)
            replace BK178 := am (blk_drew BK178.out)
            replace HB := am (below_drew1 HB.out)
            have p15 : 0 ≤ (0 : Int) := (by omega)
            have q15 : 0 < (rdOf ByteArray.empty t179 x12_1).size := (by have : (0 : Int) < ((rdOf ByteArray.empty t179 x12_1).size : Int) := of_decide_eq_true (by first | (with_reducible assumption) | assumption); omega)
            have hx15 : ∀ h : 0 < (rdOf ByteArray.empty t179 x12_1).size, (((rdOf ByteArray.empty t179 x12_1)[0]'h).toNat : Int) = bt (rdOf ByteArray.empty t179 x12_1) 0 := bt_at (rdOf ByteArray.empty t179 x12_1) 0
            clear p15
            have qi15 : (0 < ((rdOf ByteArray.empty t179 x12_1).size : Int)) = True := eq_true (of_decide_eq_true (by first | (with_reducible assumption) | assumption))
            replace q15 := eq_true q15
            refine start_ (n := 10) (S := fun w' => w'.cell? ⟨gb178, 0, none⟩ = some (u179000) ∧ w'.cell? ⟨gb178, 1, none⟩ = some (u179001) ∧ w'.cell? ⟨gb178, 2, none⟩ = some (u179002)) (ds := [9]) #[false, false, false, false, false, false, false, false, false, false] (by kernel_rfl) rfl rfl ⟨(blk_cell BK178.out 0).trans rfl, (blk_cell BK178.out 1).trans rfl, (blk_cell BK178.out 2).trans rfl⟩ (fun hHeld => ?_); refine with_tabW impl_ParseHeap.tab11 impl_ParseHeap.bits11 (fun HT_ HW_ => ?_)
            generalize wc.drew = w18 at HO_10 HO_179000 HO_179001 HO_179002 BK177 BK178 HB hHeld ⊢
            refine pure_ (i := 0) (N := some 27) (v := ?_) (a' := ?_) #[true, false, false, false, false, false, false, false, false, false] rfl rfl (any_of HT_.out (by kernel_rfl)) (fun _ _ _ h => h) (Or.inl ⟨by rfl, ?_⟩) ?_ ?_
            rotate_left
            ·intro w'
             go_simp
             with_reducible rfl
            rotate_left
            ·simp only [Act.put, List.setIfInBounds_toArray, List.set_cons_zero, List.set_cons_succ, i64_w, i32_w]
             rfl
            refine pure_ (i := 2) (N := some 29) (v := ?_) (a' := ?_) #[true, false, true, false, false, false, false, false, false, false] rfl rfl (any_of HT_.out (by kernel_rfl)) (fun _ _ _ h => h) (Or.inl ⟨by rfl, ?_⟩) ?_ ?_
            rotate_left
            ·intro w'
             go_simp
             with_reducible rfl
            rotate_left
            ·simp only [Act.put, List.setIfInBounds_toArray, List.set_cons_zero, List.set_cons_succ, i64_w, i32_w]
             rfl
            refine pure_ (i := 3) (N := some 30) (v := ?_) (a' := ?_) #[true, false, true, true, false, false, false, false, false, false] rfl rfl (any_of HT_.out (by kernel_rfl)) (fun _ _ _ h => h) (Or.inl ⟨by rfl, ?_⟩) ?_ ?_
            rotate_left
            ·intro w'
             go_simp
             with_reducible rfl
            rotate_left
            ·simp only [Act.put, List.setIfInBounds_toArray, List.set_cons_zero, List.set_cons_succ, i64_w, i32_w]
             rfl
            refine take_ (i := 1) (N := some 28) (v := ?_) (a' := ?_) #[true, true, true, true, false, false, false, false, false, false] rfl rfl (take_ofW HT_.out HW_.out (by kernel_rfl)) (fun _ _ _ h => h) (Or.inl ⟨by rfl, ?_⟩) hHeld ?_ ?_
            rotate_left
            ·rintro w' ⟨s0, s1, s2⟩
             go_simp
             with_reducible rfl
            rotate_left
            ·simp only [Act.put, List.setIfInBounds_toArray, List.set_cons_zero, List.set_cons_succ, i64_w, i32_w]
             rfl
            refine take_ (i := 4) (N := some 31) (v := ?_) (a' := ?_) #[true, true, true, true, true, false, false, false, false, false] rfl rfl (take_ofW HT_.out HW_.out (by kernel_rfl)) (fun _ _ _ h => h) (Or.inl ⟨by rfl, ?_⟩) hHeld ?_ ?_
            rotate_left
            ·rintro w' ⟨s0, s1, s2⟩
             go_simp
             with_reducible rfl
            rotate_left
            ·simp only [Act.put, List.setIfInBounds_toArray, List.set_cons_zero, List.set_cons_succ, i64_w, i32_w]
             rfl
            refine one_ (i := 5) (N := some 32) #[true, true, true, true, true, true, false, false, false, false] rfl rfl (one_of HT_.out (by kernel_rfl)) (by decide) (fun K hK => ?_)
            refine goesV_ Tryd.func27 (by kernel_rfl) rfl #[.int .u8 (bt (rdOf ByteArray.empty t179 x12_1) 0)] (by rfl) rfl rfl (by rfl) (by (try simp only [List.map_toArray, List.map_cons, List.map_nil]); first | done | rfl | (simp only [List.length_drop, List.length_take]; rfl)) ?_
            with_reducible refine (impl_ParseHeap_1.calls (bt (rdOf ByteArray.empty t179 x12_1) 0) t183 _ A16.out).mono ?_
            rintro e w' ⟨rfl, ⟨nd, rfl⟩⟩
            refine ⟨_, rfl, ?_⟩
            refine hK.out _ _ ⟨(blk_cell BK178.out 0).trans rfl, (blk_cell BK178.out 1).trans rfl, (blk_cell BK178.out 2).trans rfl⟩ (fun hHeld => ?_)
            clear hK K
            refine norm_ (a' := ?_) ?_ ?_
            rotate_left
            ·show Act.put _ (some 32) _ = _
             simp only [Act.put, List.setIfInBounds_toArray, List.set_cons_zero, List.set_cons_succ, i64_w, i32_w]
             rfl
            refine one_ (i := 6) (N := some 33) #[true, true, true, true, true, true, true, false, false, false] rfl rfl (one_of HT_.out (by kernel_rfl)) (by decide) (fun K hK => ?_)
            refine value_ (w1 := ?_) (v := ?_) (by rfl) rfl ?_ ?_
            rotate_left 2
            ·go_simp
             constructor
             ·rfl
             ·rfl
            refine hK.out _ _ ⟨(blk_cell (blk_alloc BK178.out _) 0).trans rfl, (blk_cell (blk_alloc BK178.out _) 1).trans rfl, (blk_cell (blk_alloc BK178.out _) 2).trans rfl⟩ (fun hHeld => ?_)
            clear hK K
            refine norm_ (a' := ?_) ?_ ?_
            rotate_left
            ·show Act.put _ (some 33) _ = _
             simp only [Act.put, List.setIfInBounds_toArray, List.set_cons_zero, List.set_cons_succ, i64_w, i32_w]
             rfl
            refine one_ (i := 7) (N := some 34) #[true, true, true, true, true, true, true, true, false, false] rfl rfl (one_of HT_.out (by kernel_rfl)) (by decide) (fun K hK => ?_)
            refine Kd.R_append_step (Kd.int .i64) (w0 := w) w.heap.size (by rfl) (.tmp 28) (.tmp 33) 22 3 (.int .i64 0) 8 rfl Tryd.underlying22 info3 rfl (by decide) (by omega) u179002 x179002_1 t183 [.int .i64 t183] (fun k_ => some k_ ≠ (u179000 : Value).ownBlock ∧ some k_ ≠ (u179001 : Value).ownBlock) (fun _ => False) rfl rfl ?aP (fun _ hk => hk.elim) ?aF ?aO ?aB ?aS ?aL ?_
            (case aP => exact rfl)
            (case aB => exact (bs2 GE177.out GE178.out HB.out))
            (case aF => exact (fun k_ hk => ⟨Kd.fresh' (Kd.R_lt (rl HO_179000.out)) k_ hk, Kd.fresh' (Kd.R_lt (rl HO_179001.out)) k_ hk⟩))
            (case aO => exact (rl HO_179002.out))
            (case aS => exact (below_size (bs2 GE177.out GE178.out HB.out)))
            (case aL => have := LMc17.out; omega)
            intro v185 w19 ho hb hg hat
            rw [← Ny184.out] at ho
            replace HO_10 := am (Kd.R_over' (rl HO_10.out) (Kd.R_typed (rl HO_179002.out)) (by decide) hg)
            replace HO_179000 := am (Kd.R_after (ok := (fun k_ => some k_ ≠ (u179001 : Value).ownBlock)) (rl HO_179000.out) hg hat)
            replace HO_179001 := am (Kd.R_after (ok := (fun k_ => some k_ ≠ (u179000 : Value).ownBlock)) (rl HO_179001.out) hg hat)
            replace BK177 := am (blk_grown (g := gb177) (o := .cells #[.slice none 0 0, .slice none 0 0, .slice none 0 0] 24 (0, 0)) (kl BK177.out) hg (Kd.R_ne HO_179002.out BK177.out (by decide)))
            replace BK178 := am (blk_grown (g := gb178) (o := .cells #[u179000, u179001, u179002] 24 (0, 0)) (kl BK178.out) hg (Kd.R_ne HO_179002.out BK178.out (by decide)))
            replace HB := am (hb)
            have HO186 := am (ho)
            clear HO_179002
            clear ho hb hg hat
            obtain ⟨Ao20, co20, eo20⟩ := Kd.R_slice HO186.out
            (first | subst eo20 | (injection eo20 with f1_ f2_ f3_; have f4_ := f1_.symm; have f5_ := f3_.symm; clear f1_ f2_ f3_; subst f4_; subst f5_))
            refine hK.out _ _ ⟨(blk_cell BK178.out 0).trans rfl, (blk_cell BK178.out 1).trans rfl, (blk_cell BK178.out 2).trans rfl⟩ (fun hHeld => ?_)
            clear hK K
            refine norm_ (a' := ?_) ?_ ?_
            rotate_left
            ·show Act.put _ (some 34) _ = _
             simp only [Act.put, List.setIfInBounds_toArray, List.set_cons_zero, List.set_cons_succ, i64_w, i32_w]
             rfl
            refine pure_ (i := 8) (N := some 35) (v := ?_) (a' := ?_) #[true, true, true, true, true, true, true, true, true, false] rfl rfl (any_of HT_.out (by kernel_rfl)) (fun _ _ _ h => h) (Or.inl ⟨by rfl, ?_⟩) ?_ ?_
            rotate_left
            ·intro w'
             go_simp
             with_reducible rfl
            rotate_left
            ·simp only [Act.put, List.setIfInBounds_toArray, List.set_cons_zero, List.set_cons_succ, i64_w, i32_w]
             rfl
            refine last_ (i := 9) (N := none) #[true, true, true, true, true, true, true, true, true, true] rfl rfl (one_of HT_.out (by kernel_rfl)) (by decide) (fun K hK => ?_)
            have hs21 : w19.cell? ⟨gb178, 2, none⟩ = some (u179002) := (blk_cell BK178.out 2).trans rfl
            have hfs21 := blk_frozen BK178.out 2
            have hns21_0 := NB177_178.out
            have hms21_0 := NB178_177.out
            refine skip_ (w1 := ?_) (by rfl) rfl ?_ ?_
            rotate_left
            ·go_simp
             rfl
            refine hK.out _ _ ?_
            clear hK K
            refine done_ (done_of HT_.out (by kernel_rfl)) ?_
            try go_wp2
            go_roundg kj10
            case measure => have := HK1.out; have := HJ10.out; omega
            case rel => exact ⟨(x6_1), (wrap64 (x12_1 + 1)), (x179000_1), (x179001_1), (y184), (u179000), (u179001), (.slice Ao20 y184.length co20), (by first | rfl | (simp; done) | (simp [*]; done)), (by first | rfl | (simp; done) | (simp [*]; done)), H', ⟨by have := HK1.out; have := HJ10.out; omega⟩, ⟨rl (Kd.R_mono (Kd.R_far (p := ⟨gb178, 2, none⟩) (Kd.R_types HO_10.out BK178.out (by decide)) (fun _ hk => hk.2) (.slice Ao20 y184.length co20)) (fun _ hk => trivial))⟩, ⟨rl (Kd.R_mono (Kd.R_far (p := ⟨gb178, 2, none⟩) (Kd.R_types HO_179000.out BK178.out (by decide)) (fun _ hk => hk.2) (.slice Ao20 y184.length co20)) (fun _ hk => by first | exact ⟨hk.1.1, hk.1.2⟩ | (simp only [ne_eq] at hk ⊢; simp only [hk, not_false_eq_true, and_self])))⟩, ⟨rl (Kd.R_mono (Kd.R_far (p := ⟨gb178, 2, none⟩) (Kd.R_types HO_179001.out BK178.out (by decide)) (fun _ hk => hk.2) (.slice Ao20 y184.length co20)) (fun _ hk => by first | exact ⟨hk.1.1, hk.1.2⟩ | (simp only [ne_eq] at hk ⊢; simp only [hk, not_false_eq_true, and_self])))⟩, ⟨rl (Kd.R_mono (Kd.R_far (p := ⟨gb178, 2, none⟩) (Kd.R_types HO186.out BK178.out (by decide)) (fun _ hk => hk.2) (.slice Ao20 y184.length co20)) (fun _ hk => by first | exact ⟨hk.1.1, hk.1.2⟩ | (simp only [ne_eq] at hk ⊢; simp only [hk, not_false_eq_true, and_self])))⟩, ⟨kf1 NB177_178.out BK177.out⟩, ⟨by (with_reducible repeat (first | refine blk_drewN ?_ _ | refine blk_drew ?_ | refine blk_alloc ?_ _)); refine blk_put (cs := #[u179000, u179001, u179002]) ?_ 2 _ rfl; (with_reducible repeat (first | refine blk_drewN ?_ _ | refine blk_drew ?_ | refine blk_alloc ?_ _)); exact BK178.out⟩, ⟨by exact bs2 GE177.out GE178.out HB.out⟩⟩
           ·rw [if_neg c17] at H
            exact absurd H (by simp)
          ·rw [if_neg c14] at H
           exact absurd H (by simp)
         ·replace c13 := Bool.eq_false_iff.mpr c13
          subst c13
          have H1 : (if x6_1 = true then (impl_ParseHeap.j2 kj10 a0 x6_1 (rdOf ByteArray.empty t179 x12_1) t179 (t179.length : Int) x12_1 false x179000_1 x179001_1 x179002_1) else (impl_ParseHeap.j2 kj10 a0 x6_1 (rdOf ByteArray.empty t179 x12_1) t179 (t179.length : Int) x12_1 (((rdOf ByteArray.empty t179 x12_1).size : Int) == 2) x179000_1 x179001_1 x179002_1)) = some (r1, r2, r3, r4) := by rw [if_neg (show ¬ (false = true) by decide)] at H; exact H
          clear H
          have H := H1
          clear H1
          have HC22 := am H
          clear H
          go_upto_region 12 with (fail)
          go_cut [36] (fun v36 wc => ∃ (kq : Nat) (x36_21 : Bool), v36 = .bool x36_21 ∧ Aside0 (impl_ParseHeap.j2 kq a0 x6_1 (rdOf ByteArray.empty t179 x12_1) t179 (t179.length : Int) x12_1 x36_21 x179000_1 x179001_1 x179002_1 = some (r1, r2, r3, r4)) ∧ Aside0 (kq ≤ kj10) ∧ Aside0 (Kd.R Kd.string 9 wc w.heap.size (fun _ => True) (.slice (some ad182) t179.length co6) t179) ∧ Aside0 (Kd.R (Kd.int .i64) 3 wc w.heap.size (fun k_ => some k_ ≠ (u179001 : Value).ownBlock ∧ some k_ ≠ (u179002 : Value).ownBlock) u179000 x179000_1) ∧ Aside0 (Kd.R (Kd.int .i64) 3 wc w.heap.size (fun k_ => some k_ ≠ (u179000 : Value).ownBlock ∧ some k_ ≠ (u179002 : Value).ownBlock) u179001 x179001_1) ∧ Aside0 (Kd.R (Kd.int .i64) 3 wc w.heap.size (fun k_ => some k_ ≠ (u179000 : Value).ownBlock ∧ some k_ ≠ (u179001 : Value).ownBlock) u179002 x179002_1) ∧ Aside0 (wc.heap[gb177]? = some (.cells #[(.slice none 0 0), (.slice none 0 0), (.slice none 0 0)] 24 (0, 0))) ∧ Aside0 (wc.heap[gb178]? = some (.cells #[u179000, u179001, u179002] 24 (0, 0))) ∧ Aside0 (Below w.heap.size w wc))
          case first =>
           have H := HC22.out
           clear HC22
           by_cases c23 : x6_1 = true
           ·subst c23
            have H1 : (impl_ParseHeap.j2 kj10 a0 true (rdOf ByteArray.empty t179 x12_1) t179 (t179.length : Int) x12_1 false x179000_1 x179001_1 x179002_1) = some (r1, r2, r3, r4) := by rw [if_pos rfl] at H; exact H
            clear H
            have H := H1
            clear H1
            have H' := am H
            clear H
            go_wp2
            go_meet
            case rel => exact ⟨_, (false), (by first | rfl | (simp; done) | (simp [*]; done)), H', ⟨by have := HK1.out; have := HJ10.out; first | omega | exact Nat.le_refl _⟩, ⟨rl HO_10.out⟩, ⟨rl HO_179000.out⟩, ⟨rl HO_179001.out⟩, ⟨rl HO_179002.out⟩, ⟨kl BK177.out⟩, ⟨kl BK178.out⟩, ⟨by exact bs2 GE177.out GE178.out HB.out⟩⟩
           ·replace c23 := Bool.eq_false_iff.mpr c23
            subst c23
            have H1 : (impl_ParseHeap.j2 kj10 a0 false (rdOf ByteArray.empty t179 x12_1) t179 (t179.length : Int) x12_1 (((rdOf ByteArray.empty t179 x12_1).size : Int) == 2) x179000_1 x179001_1 x179002_1) = some (r1, r2, r3, r4) := by rw [if_neg (show ¬ (false = true) by decide)] at H; exact H
            clear H
            have H := H1
            clear H1
            have H' := am H
            clear H
            go_wp2
            go_meet
            case rel => exact ⟨_, ((((rdOf ByteArray.empty t179 x12_1).size : Int) == 2)), (by first | rfl | (simp; done) | (simp [*]; done)), H', ⟨by have := HK1.out; have := HJ10.out; first | omega | exact Nat.le_refl _⟩, ⟨rl HO_10.out⟩, ⟨rl HO_179000.out⟩, ⟨rl HO_179001.out⟩, ⟨rl HO_179002.out⟩, ⟨kl BK177.out⟩, ⟨kl BK178.out⟩, ⟨by exact bs2 GE177.out GE178.out HB.out⟩⟩
          case rest =>
           clear HC22
           try clear c1
           try clear p1
           try clear q1
           try clear hx1
           try clear qi1
           try clear c2
           try clear p2
           try clear p6
           try clear c7
           try clear c7b0
           try clear c8
           try clear c8b0
           try clear c9
           try clear c9b0
           try clear c10
           try clear c10b0
           try clear c10b1
           try clear c12
           try clear c13
           try clear c14
           try clear c14b0
           try clear c14b1
           try clear p15
           try clear q15
           try clear hx15
           try clear qi15
           try clear c17
           try clear p18
           try clear q18
           try clear hx18
           try clear c23
           try clear hx182_0
           try clear p1
           try clear p15
           try clear p182
           try clear p2
           try clear p6
           try clear q1
           try clear q15
           try clear q182
           obtain ⟨kq, x36_21, rfl, HA, HJ21, HO_10, HO_179000, HO_179001, HO_179002, BK177, BK178, HB⟩ := hcut
           cases kq with
           | zero => exact absurd HA.out (by simp [impl_ParseHeap.j2])
           | succ kj21 =>
            have H := HA.out
            clear HA
            simp only [impl_ParseHeap.j2] at H
            by_cases c24 : x36_21 = true
            ·subst c24
             have H1 : (if 0 < ((rdOf ByteArray.empty t179 x12_1).size : Int) then ((impl_ParseHeap_1.f (bt (rdOf ByteArray.empty t179 x12_1) 0)).bind fun t187 => (if x179000_1.length < 17592186044416 then (if 1 < ((rdOf ByteArray.empty t179 x12_1).size : Int) then ((impl_ParseHeap_1.f (bt (rdOf ByteArray.empty t179 x12_1) 1)).bind fun t191 => (if x179001_1.length < 17592186044416 then (impl_ParseHeap.l0 kj21 a0 x6_1 t179 (t179.length : Int) (wrap64 (x12_1 + 1)) (x179000_1 ++ [t187]) (x179001_1 ++ [t191]) x179002_1) else (none))) else (none)) else (none))) else (none)) = some (r1, r2, r3, r4) := by rw [if_pos rfl] at H; exact H
             clear H
             have H := H1
             clear H1
             by_cases c25 : 0 < ((rdOf ByteArray.empty t179 x12_1).size : Int)
             ·rw [if_pos c25] at H
              have c25b0 : decide (0 < ((rdOf ByteArray.empty t179 x12_1).size : Int)) = true := decide_eq_true c25
              have c25b1 : decide (0 < (rdOf ByteArray.empty t179 x12_1).size) = true := decide_eq_true (by omega)
              clear c25
              replace H := Option.bind_eq_some_iff.mp H
              obtain ⟨t187, A270, H⟩ := H
              replace H : (if x179000_1.length < 17592186044416 then (if 1 < ((rdOf ByteArray.empty t179 x12_1).size : Int) then ((impl_ParseHeap_1.f (bt (rdOf ByteArray.empty t179 x12_1) 1)).bind fun t191 => (if x179001_1.length < 17592186044416 then (impl_ParseHeap.l0 kj21 a0 x6_1 t179 (t179.length : Int) (wrap64 (x12_1 + 1)) (x179000_1 ++ [t187]) (x179001_1 ++ [t191]) x179002_1) else (none))) else (none)) else (none)) = some (r1, r2, r3, r4) := H
              have A27 := am A270
              clear A270
              by_cases c28 : x179000_1.length < 17592186044416
              ·rw [if_pos c28] at H
               have LMc28 := am c28
               clear c28
               obtain ⟨y188, hy188⟩ : ∃ y_ : List Int, y_ = (x179000_1 ++ [t187]) := ⟨_, rfl⟩
               replace H : (if 1 < ((rdOf ByteArray.empty t179 x12_1).size : Int) then ((impl_ParseHeap_1.f (bt (rdOf ByteArray.empty t179 x12_1) 1)).bind fun t191 => (if x179001_1.length < 17592186044416 then (impl_ParseHeap.l0 kj21 a0 x6_1 t179 (t179.length : Int) (wrap64 (x12_1 + 1)) y188 (x179001_1 ++ [t191]) x179002_1) else (none))) else (none)) = some (r1, r2, r3, r4) := by first | (rw [hy188]; with_reducible exact H) | (have H2_ := (Option.bind_some _ _).symm.trans H; rw [hy188]; with_reducible exact H2_) | (have H2_ := (Option.bind_some _ _).symm.trans H; with_reducible exact H2_) | with_reducible exact H | (rw [hy188]; exact H) | exact H
               have Ny188 := am hy188
               clear hy188
               by_cases c29 : 1 < ((rdOf ByteArray.empty t179 x12_1).size : Int)
               ·rw [if_pos c29] at H
                have c29b0 : decide (1 < ((rdOf ByteArray.empty t179 x12_1).size : Int)) = true := decide_eq_true c29
                have c29b1 : decide (1 < (rdOf ByteArray.empty t179 x12_1).size) = true := decide_eq_true (by omega)
                clear c29
                replace H := Option.bind_eq_some_iff.mp H
                obtain ⟨t191, A310, H⟩ := H
                replace H : (if x179001_1.length < 17592186044416 then (impl_ParseHeap.l0 kj21 a0 x6_1 t179 (t179.length : Int) (wrap64 (x12_1 + 1)) y188 (x179001_1 ++ [t191]) x179002_1) else (none)) = some (r1, r2, r3, r4) := H
                have A31 := am A310
                clear A310
                by_cases c32 : x179001_1.length < 17592186044416
                ·rw [if_pos c32] at H
                 have LMc32 := am c32
                 clear c32
                 obtain ⟨y192, hy192⟩ : ∃ y_ : List Int, y_ = (x179001_1 ++ [t191]) := ⟨_, rfl⟩
                 replace H : (impl_ParseHeap.l0 kj21 a0 x6_1 t179 (t179.length : Int) (wrap64 (x12_1 + 1)) y188 y192 x179002_1) = some (r1, r2, r3, r4) := by first | (rw [hy192]; with_reducible exact H) | (have H2_ := (Option.bind_some _ _).symm.trans H; rw [hy192]; with_reducible exact H2_) | (have H2_ := (Option.bind_some _ _).symm.trans H; with_reducible exact H2_) | with_reducible exact H | (rw [hy192]; exact H) | exact H
                 have Ny192 := am hy192
                 clear hy192
                 have H' := am H
                 clear H
                 try go_wp2
                 replace HO_10 := am (Kd.R_drew HO_10.out)
                 replace HO_179000 := am (Kd.R_drew HO_179000.out)
                 replace HO_179001 := am (Kd.R_drew HO_179001.out)
                 replace HO_179002 := am (Kd.R_drew HO_179002.out)
                 replace BK177 := am (blk_drew BK177.out)
                 replace BK178 := am (blk_drew BK178.out)
                 replace HB := am (below_drew1 HB.out)
                 have p26 : 0 ≤ (0 : Int) := (by omega)
                 have q26 : 0 < (rdOf ByteArray.empty t179 x12_1).size := (by have : (0 : Int) < ((rdOf ByteArray.empty t179 x12_1).size : Int) := of_decide_eq_true (by first | (with_reducible assumption) | assumption); omega)
                 have hx26 : ∀ h : 0 < (rdOf ByteArray.empty t179 x12_1).size, (((rdOf ByteArray.empty t179 x12_1)[0]'h).toNat : Int) = bt (rdOf ByteArray.empty t179 x12_1) 0 := bt_at (rdOf ByteArray.empty t179 x12_1) 0
                 clear p26
                 have qi26 : (0 < ((rdOf ByteArray.empty t179 x12_1).size : Int)) = True := eq_true (of_decide_eq_true (by first | (with_reducible assumption) | assumption))
                 replace q26 := eq_true q26
                 refine start_ (n := 10) (S := fun w' => w'.cell? ⟨gb178, 0, none⟩ = some (u179000) ∧ w'.cell? ⟨gb178, 1, none⟩ = some (u179001) ∧ w'.cell? ⟨gb178, 2, none⟩ = some (u179002)) (ds := [9]) #[false, false, false, false, false, false, false, false, false, false] (by kernel_rfl) rfl rfl ⟨(blk_cell BK178.out 0).trans rfl, (blk_cell BK178.out 1).trans rfl, (blk_cell BK178.out 2).trans rfl⟩ (fun hHeld => ?_); refine with_tabW impl_ParseHeap.tab13 impl_ParseHeap.bits13 (fun HT_ HW_ => ?_)
                 generalize wc.drew = w33 at HO_10 HO_179000 HO_179001 HO_179002 BK177 BK178 HB hHeld ⊢
                 refine pure_ (i := 0) (N := some 44) (v := ?_) (a' := ?_) #[true, false, false, false, false, false, false, false, false, false] rfl rfl (any_of HT_.out (by kernel_rfl)) (fun _ _ _ h => h) (Or.inl ⟨by rfl, ?_⟩) ?_ ?_
                 rotate_left
                 ·intro w'
                  go_simp
                  with_reducible rfl
                 rotate_left
                 ·simp only [Act.put, List.setIfInBounds_toArray, List.set_cons_zero, List.set_cons_succ, i64_w, i32_w]
                  rfl
                 refine pure_ (i := 2) (N := some 46) (v := ?_) (a' := ?_) #[true, false, true, false, false, false, false, false, false, false] rfl rfl (any_of HT_.out (by kernel_rfl)) (fun _ _ _ h => h) (Or.inl ⟨by rfl, ?_⟩) ?_ ?_
                 rotate_left
                 ·intro w'
                  go_simp
                  with_reducible rfl
                 rotate_left
                 ·simp only [Act.put, List.setIfInBounds_toArray, List.set_cons_zero, List.set_cons_succ, i64_w, i32_w]
                  rfl
                 refine pure_ (i := 3) (N := some 47) (v := ?_) (a' := ?_) #[true, false, true, true, false, false, false, false, false, false] rfl rfl (any_of HT_.out (by kernel_rfl)) (fun _ _ _ h => h) (Or.inl ⟨by rfl, ?_⟩) ?_ ?_
                 rotate_left
                 ·intro w'
                  go_simp
                  with_reducible rfl
                 rotate_left
                 ·simp only [Act.put, List.setIfInBounds_toArray, List.set_cons_zero, List.set_cons_succ, i64_w, i32_w]
                  rfl
                 refine take_ (i := 1) (N := some 45) (v := ?_) (a' := ?_) #[true, true, true, true, false, false, false, false, false, false] rfl rfl (take_ofW HT_.out HW_.out (by kernel_rfl)) (fun _ _ _ h => h) (Or.inl ⟨by rfl, ?_⟩) hHeld ?_ ?_
                 rotate_left
                 ·rintro w' ⟨s0, s1, s2⟩
                  go_simp
                  with_reducible rfl
                 rotate_left
                 ·simp only [Act.put, List.setIfInBounds_toArray, List.set_cons_zero, List.set_cons_succ, i64_w, i32_w]
                  rfl
                 refine take_ (i := 4) (N := some 48) (v := ?_) (a' := ?_) #[true, true, true, true, true, false, false, false, false, false] rfl rfl (take_ofW HT_.out HW_.out (by kernel_rfl)) (fun _ _ _ h => h) (Or.inl ⟨by rfl, ?_⟩) hHeld ?_ ?_
                 rotate_left
                 ·rintro w' ⟨s0, s1, s2⟩
                  go_simp
                  with_reducible rfl
                 rotate_left
                 ·simp only [Act.put, List.setIfInBounds_toArray, List.set_cons_zero, List.set_cons_succ, i64_w, i32_w]
                  rfl
                 refine one_ (i := 5) (N := some 49) #[true, true, true, true, true, true, false, false, false, false] rfl rfl (one_of HT_.out (by kernel_rfl)) (by decide) (fun K hK => ?_)
                 refine goesV_ Tryd.func27 (by kernel_rfl) rfl #[.int .u8 (bt (rdOf ByteArray.empty t179 x12_1) 0)] (by rfl) rfl rfl (by rfl) (by (try simp only [List.map_toArray, List.map_cons, List.map_nil]); first | done | rfl | (simp only [List.length_drop, List.length_take]; rfl)) ?_
                 with_reducible refine (impl_ParseHeap_1.calls (bt (rdOf ByteArray.empty t179 x12_1) 0) t187 _ A27.out).mono ?_
                 rintro e w' ⟨rfl, ⟨nd, rfl⟩⟩
                 refine ⟨_, rfl, ?_⟩
                 refine hK.out _ _ ⟨(blk_cell BK178.out 0).trans rfl, (blk_cell BK178.out 1).trans rfl, (blk_cell BK178.out 2).trans rfl⟩ (fun hHeld => ?_)
                 clear hK K
                 refine norm_ (a' := ?_) ?_ ?_
                 rotate_left
                 ·show Act.put _ (some 49) _ = _
                  simp only [Act.put, List.setIfInBounds_toArray, List.set_cons_zero, List.set_cons_succ, i64_w, i32_w]
                  rfl
                 refine one_ (i := 6) (N := some 50) #[true, true, true, true, true, true, true, false, false, false] rfl rfl (one_of HT_.out (by kernel_rfl)) (by decide) (fun K hK => ?_)
                 refine value_ (w1 := ?_) (v := ?_) (by rfl) rfl ?_ ?_
                 rotate_left 2
                 ·go_simp
                  constructor
                  ·rfl
                  ·rfl
                 refine hK.out _ _ ⟨(blk_cell (blk_alloc BK178.out _) 0).trans rfl, (blk_cell (blk_alloc BK178.out _) 1).trans rfl, (blk_cell (blk_alloc BK178.out _) 2).trans rfl⟩ (fun hHeld => ?_)
                 clear hK K
                 refine norm_ (a' := ?_) ?_ ?_
                 rotate_left
                 ·show Act.put _ (some 50) _ = _
                  simp only [Act.put, List.setIfInBounds_toArray, List.set_cons_zero, List.set_cons_succ, i64_w, i32_w]
                  rfl
                 refine one_ (i := 7) (N := some 51) #[true, true, true, true, true, true, true, true, false, false] rfl rfl (one_of HT_.out (by kernel_rfl)) (by decide) (fun K hK => ?_)
                 refine Kd.R_append_step (Kd.int .i64) (w0 := w) w.heap.size (by rfl) (.tmp 45) (.tmp 50) 22 3 (.int .i64 0) 8 rfl Tryd.underlying22 info3 rfl (by decide) (by omega) u179000 x179000_1 t187 [.int .i64 t187] (fun k_ => some k_ ≠ (u179001 : Value).ownBlock ∧ some k_ ≠ (u179002 : Value).ownBlock) (fun _ => False) rfl rfl ?aP (fun _ hk => hk.elim) ?aF ?aO ?aB ?aS ?aL ?_
                 (case aP => exact rfl)
                 (case aB => exact (bs2 GE177.out GE178.out HB.out))
                 (case aF => exact (fun k_ hk => ⟨Kd.fresh' (Kd.R_lt (rl HO_179001.out)) k_ hk, Kd.fresh' (Kd.R_lt (rl HO_179002.out)) k_ hk⟩))
                 (case aO => exact (rl HO_179000.out))
                 (case aS => exact (below_size (bs2 GE177.out GE178.out HB.out)))
                 (case aL => have := LMc28.out; omega)
                 intro v189 w34 ho hb hg hat
                 rw [← Ny188.out] at ho
                 replace HO_10 := am (Kd.R_over' (rl HO_10.out) (Kd.R_typed (rl HO_179000.out)) (by decide) hg)
                 replace HO_179001 := am (Kd.R_after (ok := (fun k_ => some k_ ≠ (u179002 : Value).ownBlock)) (rl (Kd.R_mono HO_179001.out (fun _ hk => by first | exact ⟨hk.2, hk.1⟩ | (simp only [ne_eq] at hk ⊢; simp only [hk, not_false_eq_true, and_self])))) hg hat)
                 replace HO_179002 := am (Kd.R_after (ok := (fun k_ => some k_ ≠ (u179001 : Value).ownBlock)) (rl (Kd.R_mono HO_179002.out (fun _ hk => by first | exact ⟨hk.2, hk.1⟩ | (simp only [ne_eq] at hk ⊢; simp only [hk, not_false_eq_true, and_self])))) hg hat)
                 replace BK177 := am (blk_grown (g := gb177) (o := .cells #[.slice none 0 0, .slice none 0 0, .slice none 0 0] 24 (0, 0)) (kl BK177.out) hg (Kd.R_ne HO_179000.out BK177.out (by decide)))
                 replace BK178 := am (blk_grown (g := gb178) (o := .cells #[u179000, u179001, u179002] 24 (0, 0)) (kl BK178.out) hg (Kd.R_ne HO_179000.out BK178.out (by decide)))
                 replace HB := am (hb)
                 have HO190 := am (ho)
                 clear HO_179000
                 clear ho hb hg hat
                 obtain ⟨Ao35, co35, eo35⟩ := Kd.R_slice HO190.out
                 (first | subst eo35 | (injection eo35 with f1_ f2_ f3_; have f4_ := f1_.symm; have f5_ := f3_.symm; clear f1_ f2_ f3_; subst f4_; subst f5_))
                 refine hK.out _ _ ⟨(blk_cell BK178.out 0).trans rfl, (blk_cell BK178.out 1).trans rfl, (blk_cell BK178.out 2).trans rfl⟩ (fun hHeld => ?_)
                 clear hK K
                 refine norm_ (a' := ?_) ?_ ?_
                 rotate_left
                 ·show Act.put _ (some 51) _ = _
                  simp only [Act.put, List.setIfInBounds_toArray, List.set_cons_zero, List.set_cons_succ, i64_w, i32_w]
                  rfl
                 refine pure_ (i := 8) (N := some 52) (v := ?_) (a' := ?_) #[true, true, true, true, true, true, true, true, true, false] rfl rfl (any_of HT_.out (by kernel_rfl)) (fun _ _ _ h => h) (Or.inl ⟨by rfl, ?_⟩) ?_ ?_
                 rotate_left
                 ·intro w'
                  go_simp
                  with_reducible rfl
                 rotate_left
                 ·simp only [Act.put, List.setIfInBounds_toArray, List.set_cons_zero, List.set_cons_succ, i64_w, i32_w]
                  rfl
                 refine last_ (i := 9) (N := none) #[true, true, true, true, true, true, true, true, true, true] rfl rfl (one_of HT_.out (by kernel_rfl)) (by decide) (fun K hK => ?_)
                 have hs36 : w34.cell? ⟨gb178, 0, none⟩ = some (u179000) := (blk_cell BK178.out 0).trans rfl
                 have hfs36 := blk_frozen BK178.out 0
                 have hns36_0 := NB177_178.out
                 have hms36_0 := NB178_177.out
                 refine skip_ (w1 := ?_) (by rfl) rfl ?_ ?_
                 rotate_left
                 ·go_simp
                  rfl
                 refine hK.out _ _ ?_
                 clear hK K
                 refine done_ (done_of HT_.out (by kernel_rfl)) ?_
                 try go_wp2
                 have n0_ : Aside0 (Kd.R Kd.string 9 (w34.setCell ⟨gb178, 0, none⟩ (.slice Ao35 y188.length co35)) w.heap.size (fun _ => True) (.slice (some ad182) t179.length co6) t179) := ⟨rl (Kd.R_mono (Kd.R_far (p := ⟨gb178, 0, none⟩) (Kd.R_types HO_10.out BK178.out (by decide)) (fun _ hk => hk.2) (.slice Ao35 y188.length co35)) (fun _ hk => trivial))⟩
                 have n1_ : Aside0 (Kd.R (Kd.int .i64) 3 (w34.setCell ⟨gb178, 0, none⟩ (.slice Ao35 y188.length co35)) w.heap.size (fun k_ => some k_ ≠ (u179002 : Value).ownBlock ∧ some k_ ≠ (.slice Ao35 y188.length co35 : Value).ownBlock) u179001 x179001_1) := ⟨rl (Kd.R_mono (Kd.R_far (p := ⟨gb178, 0, none⟩) (Kd.R_types HO_179001.out BK178.out (by decide)) (fun _ hk => hk.2) (.slice Ao35 y188.length co35)) (fun _ hk => by first | exact ⟨hk.1.1, hk.1.2⟩ | (simp only [ne_eq] at hk ⊢; simp only [hk, not_false_eq_true, and_self])))⟩
                 have n2_ : Aside0 (Kd.R (Kd.int .i64) 3 (w34.setCell ⟨gb178, 0, none⟩ (.slice Ao35 y188.length co35)) w.heap.size (fun k_ => some k_ ≠ (u179001 : Value).ownBlock ∧ some k_ ≠ (.slice Ao35 y188.length co35 : Value).ownBlock) u179002 x179002_1) := ⟨rl (Kd.R_mono (Kd.R_far (p := ⟨gb178, 0, none⟩) (Kd.R_types HO_179002.out BK178.out (by decide)) (fun _ hk => hk.2) (.slice Ao35 y188.length co35)) (fun _ hk => by first | exact ⟨hk.1.1, hk.1.2⟩ | (simp only [ne_eq] at hk ⊢; simp only [hk, not_false_eq_true, and_self])))⟩
                 have n3_ : Aside0 (Kd.R (Kd.int .i64) 3 (w34.setCell ⟨gb178, 0, none⟩ (.slice Ao35 y188.length co35)) w.heap.size (fun k_ => some k_ ≠ (u179001 : Value).ownBlock ∧ some k_ ≠ (u179002 : Value).ownBlock) (.slice Ao35 y188.length co35) y188) := ⟨rl (Kd.R_mono (Kd.R_far (p := ⟨gb178, 0, none⟩) (Kd.R_types HO190.out BK178.out (by decide)) (fun _ hk => hk.2) (.slice Ao35 y188.length co35)) (fun _ hk => by first | exact ⟨hk.1.1, hk.1.2⟩ | (simp only [ne_eq] at hk ⊢; simp only [hk, not_false_eq_true, and_self])))⟩
                 have n4_ : Aside0 ((w34.setCell ⟨gb178, 0, none⟩ (.slice Ao35 y188.length co35)).heap[gb177]? = some (.cells #[.slice none 0 0, .slice none 0 0, .slice none 0 0] 24 (0, 0))) := ⟨kf1 NB177_178.out BK177.out⟩
                 have n5_ : Aside0 ((w34.setCell ⟨gb178, 0, none⟩ (.slice Ao35 y188.length co35)).heap[gb178]? = some (.cells #[.slice Ao35 y188.length co35, u179001, u179002] 24 (0, 0))) := ⟨by (with_reducible repeat (first | refine blk_drewN ?_ _ | refine blk_drew ?_ | refine blk_alloc ?_ _)); refine blk_put (cs := #[u179000, u179001, u179002]) ?_ 0 _ rfl; (with_reducible repeat (first | refine blk_drewN ?_ _ | refine blk_drew ?_ | refine blk_alloc ?_ _)); exact BK178.out⟩
                 have n6_ : Aside0 (Below w.heap.size w (w34.setCell ⟨gb178, 0, none⟩ (.slice Ao35 y188.length co35))) := ⟨by exact bs2 GE177.out GE178.out HB.out⟩
                 (try clear HO_10)
                 (try clear HO_179001)
                 (try clear HO_179002)
                 (try clear HO190)
                 (try clear BK177)
                 (try clear BK178)
                 (try clear HB)
                 generalize (w34.setCell ⟨gb178, 0, none⟩ (.slice Ao35 y188.length co35)) = w37 at n0_ n1_ n2_ n3_ n4_ n5_ n6_ ⊢
                 have HO_10 := n0_
                 have HO_179001 := n1_
                 have HO_179002 := n2_
                 have HO190 := n3_
                 have BK177 := n4_
                 have BK178 := n5_
                 have HB := n6_
                 clear n0_ n1_ n2_ n3_ n4_ n5_ n6_
                 replace HO_10 := am (Kd.R_drew HO_10.out)
                 replace HO_179001 := am (Kd.R_drew HO_179001.out)
                 replace HO_179002 := am (Kd.R_drew HO_179002.out)
                 replace HO190 := am (Kd.R_drew HO190.out)
                 replace BK177 := am (blk_drew BK177.out)
                 replace BK178 := am (blk_drew BK178.out)
                 replace HB := am (below_drew1 HB.out)
                 have p30 : 0 ≤ (1 : Int) := (by omega)
                 have q30 : 1 < (rdOf ByteArray.empty t179 x12_1).size := (by have : (1 : Int) < ((rdOf ByteArray.empty t179 x12_1).size : Int) := of_decide_eq_true (by first | (with_reducible assumption) | assumption); omega)
                 have hx30 : ∀ h : 1 < (rdOf ByteArray.empty t179 x12_1).size, (((rdOf ByteArray.empty t179 x12_1)[1]'h).toNat : Int) = bt (rdOf ByteArray.empty t179 x12_1) 1 := bt_at (rdOf ByteArray.empty t179 x12_1) 1
                 clear p30
                 have qi30 : (1 < ((rdOf ByteArray.empty t179 x12_1).size : Int)) = True := eq_true (of_decide_eq_true (by first | (with_reducible assumption) | assumption))
                 replace q30 := eq_true q30
                 refine start_ (n := 10) (S := fun w' => w'.cell? ⟨gb178, 0, none⟩ = some (.slice Ao35 y188.length co35) ∧ w'.cell? ⟨gb178, 1, none⟩ = some (u179001) ∧ w'.cell? ⟨gb178, 2, none⟩ = some (u179002)) (ds := [9]) #[false, false, false, false, false, false, false, false, false, false] (by kernel_rfl) rfl rfl ⟨(blk_cell BK178.out 0).trans rfl, (blk_cell BK178.out 1).trans rfl, (blk_cell BK178.out 2).trans rfl⟩ (fun hHeld => ?_); refine with_tabW impl_ParseHeap.tab14 impl_ParseHeap.bits14 (fun HT_ HW_ => ?_)
                 generalize w37.drew = w38 at HO_10 HO_179001 HO_179002 HO190 BK177 BK178 HB hHeld ⊢
                 refine pure_ (i := 0) (N := some 53) (v := ?_) (a' := ?_) #[true, false, false, false, false, false, false, false, false, false] rfl rfl (any_of HT_.out (by kernel_rfl)) (fun _ _ _ h => h) (Or.inl ⟨by rfl, ?_⟩) ?_ ?_
                 rotate_left
                 ·intro w'
                  go_simp
                  with_reducible rfl
                 rotate_left
                 ·simp only [Act.put, List.setIfInBounds_toArray, List.set_cons_zero, List.set_cons_succ, i64_w, i32_w]
                  rfl
                 refine pure_ (i := 2) (N := some 55) (v := ?_) (a' := ?_) #[true, false, true, false, false, false, false, false, false, false] rfl rfl (any_of HT_.out (by kernel_rfl)) (fun _ _ _ h => h) (Or.inl ⟨by rfl, ?_⟩) ?_ ?_
                 rotate_left
                 ·intro w'
                  go_simp
                  with_reducible rfl
                 rotate_left
                 ·simp only [Act.put, List.setIfInBounds_toArray, List.set_cons_zero, List.set_cons_succ, i64_w, i32_w]
                  rfl
                 refine pure_ (i := 3) (N := some 56) (v := ?_) (a' := ?_) #[true, false, true, true, false, false, false, false, false, false] rfl rfl (any_of HT_.out (by kernel_rfl)) (fun _ _ _ h => h) (Or.inl ⟨by rfl, ?_⟩) ?_ ?_
                 rotate_left
                 ·intro w'
                  go_simp
                  with_reducible rfl
                 rotate_left
                 ·simp only [Act.put, List.setIfInBounds_toArray, List.set_cons_zero, List.set_cons_succ, i64_w, i32_w]
                  rfl
                 refine take_ (i := 1) (N := some 54) (v := ?_) (a' := ?_) #[true, true, true, true, false, false, false, false, false, false] rfl rfl (take_ofW HT_.out HW_.out (by kernel_rfl)) (fun _ _ _ h => h) (Or.inl ⟨by rfl, ?_⟩) hHeld ?_ ?_
                 rotate_left
                 ·rintro w' ⟨s0, s1, s2⟩
                  go_simp
                  with_reducible rfl
                 rotate_left
                 ·simp only [Act.put, List.setIfInBounds_toArray, List.set_cons_zero, List.set_cons_succ, i64_w, i32_w]
                  rfl
                 refine take_ (i := 4) (N := some 57) (v := ?_) (a' := ?_) #[true, true, true, true, true, false, false, false, false, false] rfl rfl (take_ofW HT_.out HW_.out (by kernel_rfl)) (fun _ _ _ h => h) (Or.inl ⟨by rfl, ?_⟩) hHeld ?_ ?_
                 rotate_left
                 ·rintro w' ⟨s0, s1, s2⟩
                  go_simp
                  with_reducible rfl
                 rotate_left
                 ·simp only [Act.put, List.setIfInBounds_toArray, List.set_cons_zero, List.set_cons_succ, i64_w, i32_w]
                  rfl
                 refine one_ (i := 5) (N := some 58) #[true, true, true, true, true, true, false, false, false, false] rfl rfl (one_of HT_.out (by kernel_rfl)) (by decide) (fun K hK => ?_)
                 refine goesV_ Tryd.func27 (by kernel_rfl) rfl #[.int .u8 (bt (rdOf ByteArray.empty t179 x12_1) 1)] (by rfl) rfl rfl (by rfl) (by (try simp only [List.map_toArray, List.map_cons, List.map_nil]); first | done | rfl | (simp only [List.length_drop, List.length_take]; rfl)) ?_
                 with_reducible refine (impl_ParseHeap_1.calls (bt (rdOf ByteArray.empty t179 x12_1) 1) t191 _ A31.out).mono ?_
                 rintro e w' ⟨rfl, ⟨nd, rfl⟩⟩
                 refine ⟨_, rfl, ?_⟩
                 refine hK.out _ _ ⟨(blk_cell BK178.out 0).trans rfl, (blk_cell BK178.out 1).trans rfl, (blk_cell BK178.out 2).trans rfl⟩ (fun hHeld => ?_)
                 clear hK K
                 refine norm_ (a' := ?_) ?_ ?_
                 rotate_left
                 ·show Act.put _ (some 58) _ = _
                  simp only [Act.put, List.setIfInBounds_toArray, List.set_cons_zero, List.set_cons_succ, i64_w, i32_w]
                  rfl
                 refine one_ (i := 6) (N := some 59) #[true, true, true, true, true, true, true, false, false, false] rfl rfl (one_of HT_.out (by kernel_rfl)) (by decide) (fun K hK => ?_)
                 refine value_ (w1 := ?_) (v := ?_) (by rfl) rfl ?_ ?_
                 rotate_left 2
                 ·go_simp
                  constructor
                  ·rfl
                  ·rfl
                 refine hK.out _ _ ⟨(blk_cell (blk_alloc BK178.out _) 0).trans rfl, (blk_cell (blk_alloc BK178.out _) 1).trans rfl, (blk_cell (blk_alloc BK178.out _) 2).trans rfl⟩ (fun hHeld => ?_)
                 clear hK K
                 refine norm_ (a' := ?_) ?_ ?_
                 rotate_left
                 ·show Act.put _ (some 59) _ = _
                  simp only [Act.put, List.setIfInBounds_toArray, List.set_cons_zero, List.set_cons_succ, i64_w, i32_w]
                  rfl
                 refine one_ (i := 7) (N := some 60) #[true, true, true, true, true, true, true, true, false, false] rfl rfl (one_of HT_.out (by kernel_rfl)) (by decide) (fun K hK => ?_)
                 refine Kd.R_append_step (Kd.int .i64) (w0 := w) w.heap.size (by rfl) (.tmp 54) (.tmp 59) 22 3 (.int .i64 0) 8 rfl Tryd.underlying22 info3 rfl (by decide) (by omega) u179001 x179001_1 t191 [.int .i64 t191] (fun k_ => some k_ ≠ (u179002 : Value).ownBlock ∧ some k_ ≠ (.slice Ao35 y188.length co35 : Value).ownBlock) (fun _ => False) rfl rfl ?aP (fun _ hk => hk.elim) ?aF ?aO ?aB ?aS ?aL ?_
                 (case aP => exact rfl)
                 (case aB => exact (bs2 GE177.out GE178.out HB.out))
                 (case aF => exact (fun k_ hk => ⟨Kd.fresh' (Kd.R_lt (rl HO_179002.out)) k_ hk, Kd.fresh' (Kd.R_lt (rl HO190.out)) k_ hk⟩))
                 (case aO => exact (rl HO_179001.out))
                 (case aS => exact (below_size (bs2 GE177.out GE178.out HB.out)))
                 (case aL => have := LMc32.out; omega)
                 intro v193 w39 ho hb hg hat
                 rw [← Ny192.out] at ho
                 replace HO_10 := am (Kd.R_over' (rl HO_10.out) (Kd.R_typed (rl HO_179001.out)) (by decide) hg)
                 replace HO_179002 := am (Kd.R_after (ok := (fun k_ => some k_ ≠ (.slice Ao35 y188.length co35 : Value).ownBlock)) (rl (Kd.R_mono HO_179002.out (fun _ hk => by first | exact ⟨hk.2, hk.1⟩ | (simp only [ne_eq] at hk ⊢; simp only [hk, not_false_eq_true, and_self])))) hg hat)
                 replace BK177 := am (blk_grown (g := gb177) (o := .cells #[.slice none 0 0, .slice none 0 0, .slice none 0 0] 24 (0, 0)) (kl BK177.out) hg (Kd.R_ne HO_179001.out BK177.out (by decide)))
                 replace BK178 := am (blk_grown (g := gb178) (o := .cells #[.slice Ao35 y188.length co35, u179001, u179002] 24 (0, 0)) (kl BK178.out) hg (Kd.R_ne HO_179001.out BK178.out (by decide)))
                 replace HO190 := am (Kd.R_after (ok := (fun k_ => some k_ ≠ (u179002 : Value).ownBlock)) (rl (Kd.R_mono HO190.out (fun _ hk => by first | exact ⟨hk.2, hk.1⟩ | (simp only [ne_eq] at hk ⊢; simp only [hk, not_false_eq_true, and_self])))) hg hat)
                 replace HB := am (hb)
                 have HO194 := am (ho)
                 clear HO_179001
                 clear ho hb hg hat
                 obtain ⟨Ao40, co40, eo40⟩ := Kd.R_slice HO194.out
                 (first | subst eo40 | (injection eo40 with f1_ f2_ f3_; have f4_ := f1_.symm; have f5_ := f3_.symm; clear f1_ f2_ f3_; subst f4_; subst f5_))
                 refine hK.out _ _ ⟨(blk_cell BK178.out 0).trans rfl, (blk_cell BK178.out 1).trans rfl, (blk_cell BK178.out 2).trans rfl⟩ (fun hHeld => ?_)
                 clear hK K
                 refine norm_ (a' := ?_) ?_ ?_
                 rotate_left
                 ·show Act.put _ (some 60) _ = _
                  simp only [Act.put, List.setIfInBounds_toArray, List.set_cons_zero, List.set_cons_succ, i64_w, i32_w]
                  rfl
                 refine pure_ (i := 8) (N := some 61) (v := ?_) (a' := ?_) #[true, true, true, true, true, true, true, true, true, false] rfl rfl (any_of HT_.out (by kernel_rfl)) (fun _ _ _ h => h) (Or.inl ⟨by rfl, ?_⟩) ?_ ?_
                 rotate_left
                 ·intro w'
                  go_simp
                  with_reducible rfl
                 rotate_left
                 ·simp only [Act.put, List.setIfInBounds_toArray, List.set_cons_zero, List.set_cons_succ, i64_w, i32_w]
                  rfl
                 refine last_ (i := 9) (N := none) #[true, true, true, true, true, true, true, true, true, true] rfl rfl (one_of HT_.out (by kernel_rfl)) (by decide) (fun K hK => ?_)
                 have hs41 : w39.cell? ⟨gb178, 1, none⟩ = some (u179001) := (blk_cell BK178.out 1).trans rfl
                 have hfs41 := blk_frozen BK178.out 1
                 have hns41_0 := NB177_178.out
                 have hms41_0 := NB178_177.out
                 refine skip_ (w1 := ?_) (by rfl) rfl ?_ ?_
                 rotate_left
                 ·go_simp
                  rfl
                 refine hK.out _ _ ?_
                 clear hK K
                 refine done_ (done_of HT_.out (by kernel_rfl)) ?_
                 try go_wp2
                 go_roundg kj21
                 case measure => have := HK1.out; have := HJ10.out; have := HJ21.out; omega
                 case rel => exact ⟨(x6_1), (wrap64 (x12_1 + 1)), (y188), (y192), (x179002_1), (.slice Ao35 y188.length co35), (.slice Ao40 y192.length co40), (u179002), (by first | rfl | (simp; done) | (simp [*]; done)), (by first | rfl | (simp; done) | (simp [*]; done)), H', ⟨by have := HK1.out; have := HJ10.out; have := HJ21.out; omega⟩, ⟨rl (Kd.R_mono (Kd.R_far (p := ⟨gb178, 1, none⟩) (Kd.R_types HO_10.out BK178.out (by decide)) (fun _ hk => hk.2) (.slice Ao40 y192.length co40)) (fun _ hk => trivial))⟩, ⟨rl (Kd.R_mono (Kd.R_far (p := ⟨gb178, 1, none⟩) (Kd.R_types HO190.out BK178.out (by decide)) (fun _ hk => hk.2) (.slice Ao40 y192.length co40)) (fun _ hk => by first | exact ⟨hk.1.2, hk.1.1⟩ | (simp only [ne_eq] at hk ⊢; simp only [hk, not_false_eq_true, and_self])))⟩, ⟨rl (Kd.R_mono (Kd.R_far (p := ⟨gb178, 1, none⟩) (Kd.R_types HO194.out BK178.out (by decide)) (fun _ hk => hk.2) (.slice Ao40 y192.length co40)) (fun _ hk => by first | exact ⟨hk.1.2, hk.1.1⟩ | (simp only [ne_eq] at hk ⊢; simp only [hk, not_false_eq_true, and_self])))⟩, ⟨rl (Kd.R_mono (Kd.R_far (p := ⟨gb178, 1, none⟩) (Kd.R_types HO_179002.out BK178.out (by decide)) (fun _ hk => hk.2) (.slice Ao40 y192.length co40)) (fun _ hk => by first | exact ⟨hk.1.1, hk.1.2⟩ | (simp only [ne_eq] at hk ⊢; simp only [hk, not_false_eq_true, and_self])))⟩, ⟨kf1 NB177_178.out BK177.out⟩, ⟨by (with_reducible repeat (first | refine blk_drewN ?_ _ | refine blk_drew ?_ | refine blk_alloc ?_ _)); refine blk_put (cs := #[.slice Ao35 y188.length co35, u179001, u179002]) ?_ 1 _ rfl; (with_reducible repeat (first | refine blk_drewN ?_ _ | refine blk_drew ?_ | refine blk_alloc ?_ _)); exact BK178.out⟩, ⟨by exact bs2 GE177.out GE178.out HB.out⟩⟩
                ·rw [if_neg c32] at H
                 exact absurd H (by simp)
               ·rw [if_neg c29] at H
                exact absurd H (by simp)
              ·rw [if_neg c28] at H
               exact absurd H (by simp)
             ·rw [if_neg c25] at H
              exact absurd H (by simp)
            ·replace c24 := Bool.eq_false_iff.mpr c24
             subst c24
             have H1 : (some (([] : List Int), ([] : List Int), ([] : List Int), false)) = some (r1, r2, r3, r4) := by rw [if_neg (show ¬ (false = true) by decide)] at H; exact H
             clear H
             have H := H1
             clear H1
             simp only [Option.some.injEq, Prod.mk.injEq] at H
             obtain ⟨rfl, rfl, rfl, rfl⟩ := H
             have hnb42 := NB177_178.out
             have hnc42 := NB178_177.out
             obtain ⟨hcz43_0, hcz43_1, hcz43_2, hfz43_0, hfz43_1, hfz43_2⟩ := cf3 BK177
             go_wp2
             refine bodyPost_ret (results_ct rfl _ _ gb177 24 #[.slice none 0 0, .slice none 0 0, .slice none 0 0] (0, 0) _ rfl (kp3 (kf0 BK177.out)) Tryd.underlying24 rfl (by kernel_rfl)) rfl ?_
             exact ⟨_, _, _, by first | rfl | (simp [errW_none, errW_some] <;> rfl) | (simp [*, errW_none, errW_some] <;> rfl), by first | exact Kd.R_nil _ _ _ _ _ | exact Kd.N_nil _ _ _ _ _ | exact Kd.V_nil _ _ _ _ _ | exact Kd.Q_nil _ _ _ _ _ | exact Kd.S_nil _ _ _ _ _, by first | exact Kd.R_nil _ _ _ _ _ | exact Kd.N_nil _ _ _ _ _ | exact Kd.V_nil _ _ _ _ _ | exact Kd.Q_nil _ _ _ _ _ | exact Kd.S_nil _ _ _ _ _, by first | exact Kd.R_nil _ _ _ _ _ | exact Kd.N_nil _ _ _ _ _ | exact Kd.V_nil _ _ _ _ _ | exact Kd.Q_nil _ _ _ _ _ | exact Kd.S_nil _ _ _ _ _, by exact bs2 GE177.out GE178.out HB.out⟩
     ·rw [if_neg c9] at H
      exact absurd H (by simp)
    ·rw [if_neg c8] at H
     exact absurd H (by simp)
   ·rw [if_neg c7] at H
    have c7b0 : decide (x12_1 < (t179.length : Int)) = false := decide_eq_false c7
    clear c7
    replace H := Option.bind_eq_some_iff.mp H
    obtain ⟨t195, A440, H⟩ := H
    replace H : (if t195 = true then ((impl_FormatHeap.f k1 x179000_1 x179001_1 x179002_1).bind fun t196 => (if t196.toList = a0.toList then (some (x179000_1, x179001_1, x179002_1, true)) else (some (([] : List Int), ([] : List Int), ([] : List Int), false)))) else (some (([] : List Int), ([] : List Int), ([] : List Int), false))) = some (r1, r2, r3, r4) := H
    have A44 := am A440
    clear A440
    by_cases c45 : t195 = true
    ·subst c45
     have H1 : ((impl_FormatHeap.f k1 x179000_1 x179001_1 x179002_1).bind fun t196 => (if t196.toList = a0.toList then (some (x179000_1, x179001_1, x179002_1, true)) else (some (([] : List Int), ([] : List Int), ([] : List Int), false)))) = some (r1, r2, r3, r4) := by rw [if_pos rfl] at H; exact H
     clear H
     have H := H1
     clear H1
     replace H := Option.bind_eq_some_iff.mp H
     obtain ⟨t196, A460, H⟩ := H
     replace H : (if t196.toList = a0.toList then (some (x179000_1, x179001_1, x179002_1, true)) else (some (([] : List Int), ([] : List Int), ([] : List Int), false))) = some (r1, r2, r3, r4) := H
     have A46 := am A460
     clear A460
     by_cases c47 : t196.toList = a0.toList
     ·rw [if_pos c47] at H
      have c47b0 : (t196.toList == a0.toList) = true := beq_iff_eq.mpr c47
      have c47b1 : (t196.toList != a0.toList) = false := bne_eq_false_iff_eq.mpr c47
      clear c47
      simp only [Option.some.injEq, Prod.mk.injEq] at H
      obtain ⟨rfl, rfl, rfl, rfl⟩ := H
      have hnb48 := NB178_177.out
      have hnc48 := NB177_178.out
      obtain ⟨hcz49_0, hcz49_1, hcz49_2, hfz49_0, hfz49_1, hfz49_2⟩ := cf3 BK178
      obtain ⟨Ao50, co50, eo50⟩ := Kd.R_slice HO_179000.out
      subst eo50
      obtain ⟨Ao51, co51, eo51⟩ := Kd.R_slice HO_179001.out
      subst eo51
      obtain ⟨Ao52, co52, eo52⟩ := Kd.R_slice HO_179002.out
      subst eo52
      go_wp2_with (first | ((with_reducible refine gate_callee (f := 16) rfl ?_); refine gL (some 64) rfl rfl Tryd.func16 (by kernel_rfl) rfl #[.agg #[.slice Ao50 x179000_1.length co50, .slice Ao51 x179001_1.length co51, .slice Ao52 x179002_1.length co52]] rfl ?_; (with_reducible refine (impl_HeapValid.calls k1 (fun k_ => some k_ = (.slice Ao50 x179000_1.length co50 : Value).ownBlock) _ _ x179000_1 (fun k_ => some k_ = (.slice Ao51 x179001_1.length co51 : Value).ownBlock) _ _ x179001_1 (fun k_ => some k_ = (.slice Ao52 x179002_1.length co52 : Value).ownBlock) _ _ x179002_1 true _ ?side1 ?side2 ?side3 A44.out).mono ?_); (case side1 => exact Kd.R_V (Kd.R_tight rfl (Kd.R_types (Kd.R_types (Kd.R_apart' (HO_179000.out) (Kd.R_typed HO_10.out) (by decide)) BK177.out (by decide)) BK178.out (by decide)))); (case side2 => exact Kd.R_V (Kd.R_tight rfl (Kd.R_types (Kd.R_types (Kd.R_apart' (HO_179001.out) (Kd.R_typed HO_10.out) (by decide)) BK177.out (by decide)) BK178.out (by decide)))); (case side3 => exact Kd.R_V (Kd.R_tight rfl (Kd.R_types (Kd.R_types (Kd.R_apart' (HO_179002.out) (Kd.R_typed HO_10.out) (by decide)) BK177.out (by decide)) BK178.out (by decide)))); rintro e w53 ⟨rfl, hb⟩; refine ⟨_, rfl, ?_⟩; replace HO_10 := rb HO_10 hb; replace HO_179000 := rb HO_179000 hb; replace HO_179001 := rb HO_179001 hb; replace HO_179002 := rb HO_179002 hb; replace BK177 := bb BK177 hb; replace BK178 := bb BK178 hb; replace HB := am (below_step (bs2 GE177.out GE178.out HB.out) hb); (try clear hb); obtain ⟨hcz54_0, hcz54_1, hcz54_2, hfz54_0, hfz54_1, hfz54_2⟩ := cf3 BK178) | (go_at_call 18; (with_reducible refine (impl_FormatHeap.calls k1 _ _ x179000_1 _ _ x179001_1 _ _ x179002_1 t196 _ ?side1 ?side2 ?side3 ?side4 ?side5 ?side6 A46.out).mono ?_); (case side1 => exact cl ((Kd.R_reads' HO_179000.out).2.2)); (case side2 => exact sc HO_179000); (case side3 => exact cl ((Kd.R_reads' HO_179001.out).2.2)); (case side4 => exact sc HO_179001); (case side5 => exact cl ((Kd.R_reads' HO_179002.out).2.2)); (case side6 => exact sc HO_179002); rintro e w55 ⟨rfl, hb⟩; replace HO_10 := rb HO_10 hb; replace HO_179000 := rb HO_179000 hb; replace HO_179001 := rb HO_179001 hb; replace HO_179002 := rb HO_179002 hb; replace BK177 := bb BK177 hb; replace BK178 := bb BK178 hb; replace HB := am (below_step (bs2 GE177.out GE178.out HB.out) hb); (try clear hb); obtain ⟨hcz56_0, hcz56_1, hcz56_2, hfz56_0, hfz56_1, hfz56_2⟩ := cf3 BK178; obtain ⟨hcz57_0, hcz57_1, hcz57_2, hfz57_0, hfz57_1, hfz57_2⟩ := cf3 BK177))
      refine bodyPost_ret (results_ct rfl _ _ gb177 24 #[.slice Ao50 x179000_1.length co50, .slice Ao51 x179001_1.length co51, .slice Ao52 x179002_1.length co52] (0, 0) _ rfl (kp3 (kf0 BK177.out)) Tryd.underlying24 rfl (by kernel_rfl)) rfl ?_
      exact ⟨_, _, _, by first | rfl | (simp [errW_none, errW_some] <;> rfl) | (simp [*, errW_none, errW_some] <;> rfl), by exact ro (rg BK177 HO_179000), by exact ro (rg BK177 HO_179001), by exact ro (rg BK177 HO_179002), by exact bs2 GE177.out GE178.out HB.out⟩
     ·rw [if_neg c47] at H
      have c47b0 : (t196.toList == a0.toList) = false := beq_eq_false_iff_ne.mpr c47
      have c47b1 : (t196.toList != a0.toList) = true := bne_iff_ne.mpr c47
      simp only [Option.some.injEq, Prod.mk.injEq] at H
      obtain ⟨rfl, rfl, rfl, rfl⟩ := H
      have hnb58 := NB178_177.out
      have hnc58 := NB177_178.out
      obtain ⟨hcz59_0, hcz59_1, hcz59_2, hfz59_0, hfz59_1, hfz59_2⟩ := cf3 BK178
      obtain ⟨Ao60, co60, eo60⟩ := Kd.R_slice HO_179000.out
      subst eo60
      obtain ⟨Ao61, co61, eo61⟩ := Kd.R_slice HO_179001.out
      subst eo61
      obtain ⟨Ao62, co62, eo62⟩ := Kd.R_slice HO_179002.out
      subst eo62
      go_wp2_with (first | ((with_reducible refine gate_callee (f := 16) rfl ?_); refine gL (some 64) rfl rfl Tryd.func16 (by kernel_rfl) rfl #[.agg #[.slice Ao60 x179000_1.length co60, .slice Ao61 x179001_1.length co61, .slice Ao62 x179002_1.length co62]] rfl ?_; (with_reducible refine (impl_HeapValid.calls k1 (fun k_ => some k_ = (.slice Ao60 x179000_1.length co60 : Value).ownBlock) _ _ x179000_1 (fun k_ => some k_ = (.slice Ao61 x179001_1.length co61 : Value).ownBlock) _ _ x179001_1 (fun k_ => some k_ = (.slice Ao62 x179002_1.length co62 : Value).ownBlock) _ _ x179002_1 true _ ?side1 ?side2 ?side3 A44.out).mono ?_); (case side1 => exact Kd.R_V (Kd.R_tight rfl (Kd.R_types (Kd.R_types (Kd.R_apart' (HO_179000.out) (Kd.R_typed HO_10.out) (by decide)) BK177.out (by decide)) BK178.out (by decide)))); (case side2 => exact Kd.R_V (Kd.R_tight rfl (Kd.R_types (Kd.R_types (Kd.R_apart' (HO_179001.out) (Kd.R_typed HO_10.out) (by decide)) BK177.out (by decide)) BK178.out (by decide)))); (case side3 => exact Kd.R_V (Kd.R_tight rfl (Kd.R_types (Kd.R_types (Kd.R_apart' (HO_179002.out) (Kd.R_typed HO_10.out) (by decide)) BK177.out (by decide)) BK178.out (by decide)))); rintro e w63 ⟨rfl, hb⟩; refine ⟨_, rfl, ?_⟩; replace HO_10 := rb HO_10 hb; replace HO_179000 := rb HO_179000 hb; replace HO_179001 := rb HO_179001 hb; replace HO_179002 := rb HO_179002 hb; replace BK177 := bb BK177 hb; replace BK178 := bb BK178 hb; replace HB := am (below_step (bs2 GE177.out GE178.out HB.out) hb); (try clear hb); obtain ⟨hcz64_0, hcz64_1, hcz64_2, hfz64_0, hfz64_1, hfz64_2⟩ := cf3 BK178) | (go_at_call 18; (with_reducible refine (impl_FormatHeap.calls k1 _ _ x179000_1 _ _ x179001_1 _ _ x179002_1 t196 _ ?side1 ?side2 ?side3 ?side4 ?side5 ?side6 A46.out).mono ?_); (case side1 => exact cl ((Kd.R_reads' HO_179000.out).2.2)); (case side2 => exact sc HO_179000); (case side3 => exact cl ((Kd.R_reads' HO_179001.out).2.2)); (case side4 => exact sc HO_179001); (case side5 => exact cl ((Kd.R_reads' HO_179002.out).2.2)); (case side6 => exact sc HO_179002); rintro e w65 ⟨rfl, hb⟩; replace HO_10 := rb HO_10 hb; replace HO_179000 := rb HO_179000 hb; replace HO_179001 := rb HO_179001 hb; replace HO_179002 := rb HO_179002 hb; replace BK177 := bb BK177 hb; replace BK178 := bb BK178 hb; replace HB := am (below_step (bs2 GE177.out GE178.out HB.out) hb); (try clear hb); obtain ⟨hcz66_0, hcz66_1, hcz66_2, hfz66_0, hfz66_1, hfz66_2⟩ := cf3 BK177))
      refine bodyPost_ret (results_ct rfl _ _ gb177 24 #[.slice none 0 0, .slice none 0 0, .slice none 0 0] (0, 0) _ rfl (kp3 (kf0 BK177.out)) Tryd.underlying24 rfl (by kernel_rfl)) rfl ?_
      exact ⟨_, _, _, by first | rfl | (simp [errW_none, errW_some] <;> rfl) | (simp [*, errW_none, errW_some] <;> rfl), by first | exact Kd.R_nil _ _ _ _ _ | exact Kd.N_nil _ _ _ _ _ | exact Kd.V_nil _ _ _ _ _ | exact Kd.Q_nil _ _ _ _ _ | exact Kd.S_nil _ _ _ _ _, by first | exact Kd.R_nil _ _ _ _ _ | exact Kd.N_nil _ _ _ _ _ | exact Kd.V_nil _ _ _ _ _ | exact Kd.Q_nil _ _ _ _ _ | exact Kd.S_nil _ _ _ _ _, by first | exact Kd.R_nil _ _ _ _ _ | exact Kd.N_nil _ _ _ _ _ | exact Kd.V_nil _ _ _ _ _ | exact Kd.Q_nil _ _ _ _ _ | exact Kd.S_nil _ _ _ _ _, by exact bs2 GE177.out GE178.out HB.out⟩
    ·replace c45 := Bool.eq_false_iff.mpr c45
     subst c45
     have H1 : (some (([] : List Int), ([] : List Int), ([] : List Int), false)) = some (r1, r2, r3, r4) := by rw [if_neg (show ¬ (false = true) by decide)] at H; exact H
     clear H
     have H := H1
     clear H1
     simp only [Option.some.injEq, Prod.mk.injEq] at H
     obtain ⟨rfl, rfl, rfl, rfl⟩ := H
     have hnb67 := NB178_177.out
     have hnc67 := NB177_178.out
     obtain ⟨hcz68_0, hcz68_1, hcz68_2, hfz68_0, hfz68_1, hfz68_2⟩ := cf3 BK178
     obtain ⟨Ao69, co69, eo69⟩ := Kd.R_slice HO_179000.out
     subst eo69
     obtain ⟨Ao70, co70, eo70⟩ := Kd.R_slice HO_179001.out
     subst eo70
     obtain ⟨Ao71, co71, eo71⟩ := Kd.R_slice HO_179002.out
     subst eo71
     go_wp2_with (first | ((with_reducible refine gate_callee (f := 16) rfl ?_); refine gL (some 64) rfl rfl Tryd.func16 (by kernel_rfl) rfl #[.agg #[.slice Ao69 x179000_1.length co69, .slice Ao70 x179001_1.length co70, .slice Ao71 x179002_1.length co71]] rfl ?_; (with_reducible refine (impl_HeapValid.calls k1 (fun k_ => some k_ = (.slice Ao69 x179000_1.length co69 : Value).ownBlock) _ _ x179000_1 (fun k_ => some k_ = (.slice Ao70 x179001_1.length co70 : Value).ownBlock) _ _ x179001_1 (fun k_ => some k_ = (.slice Ao71 x179002_1.length co71 : Value).ownBlock) _ _ x179002_1 false _ ?side1 ?side2 ?side3 A44.out).mono ?_); (case side1 => exact Kd.R_V (Kd.R_tight rfl (Kd.R_types (Kd.R_types (Kd.R_apart' (HO_179000.out) (Kd.R_typed HO_10.out) (by decide)) BK177.out (by decide)) BK178.out (by decide)))); (case side2 => exact Kd.R_V (Kd.R_tight rfl (Kd.R_types (Kd.R_types (Kd.R_apart' (HO_179001.out) (Kd.R_typed HO_10.out) (by decide)) BK177.out (by decide)) BK178.out (by decide)))); (case side3 => exact Kd.R_V (Kd.R_tight rfl (Kd.R_types (Kd.R_types (Kd.R_apart' (HO_179002.out) (Kd.R_typed HO_10.out) (by decide)) BK177.out (by decide)) BK178.out (by decide)))); rintro e w72 ⟨rfl, hb⟩; refine ⟨_, rfl, ?_⟩; replace HO_10 := rb HO_10 hb; replace HO_179000 := rb HO_179000 hb; replace HO_179001 := rb HO_179001 hb; replace HO_179002 := rb HO_179002 hb; replace BK177 := bb BK177 hb; replace BK178 := bb BK178 hb; replace HB := am (below_step (bs2 GE177.out GE178.out HB.out) hb); (try clear hb); obtain ⟨hcz73_0, hcz73_1, hcz73_2, hfz73_0, hfz73_1, hfz73_2⟩ := cf3 BK177))
     refine bodyPost_ret (results_ct rfl _ _ gb177 24 #[.slice none 0 0, .slice none 0 0, .slice none 0 0] (0, 0) _ rfl (kp3 (kf0 BK177.out)) Tryd.underlying24 rfl (by kernel_rfl)) rfl ?_
     exact ⟨_, _, _, by first | rfl | (simp [errW_none, errW_some] <;> rfl) | (simp [*, errW_none, errW_some] <;> rfl), by first | exact Kd.R_nil _ _ _ _ _ | exact Kd.N_nil _ _ _ _ _ | exact Kd.V_nil _ _ _ _ _ | exact Kd.Q_nil _ _ _ _ _ | exact Kd.S_nil _ _ _ _ _, by first | exact Kd.R_nil _ _ _ _ _ | exact Kd.N_nil _ _ _ _ _ | exact Kd.V_nil _ _ _ _ _ | exact Kd.Q_nil _ _ _ _ _ | exact Kd.S_nil _ _ _ _ _, by first | exact Kd.R_nil _ _ _ _ _ | exact Kd.N_nil _ _ _ _ _ | exact Kd.V_nil _ _ _ _ _ | exact Kd.Q_nil _ _ _ _ _ | exact Kd.S_nil _ _ _ _ _, by exact bs2 GE177.out GE178.out HB.out⟩

end Go.Proofs.YtomeaapjjmaepaaDoor.A
