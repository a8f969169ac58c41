/- Contracts of functions of the given program (ASlicesRepeatIntInt). No conditions beyond those stated. -/
import Derived.Test.YtghgpinhghhlgaaA0
import Derived.Test.YtghgpinhghhlgaaABitsMul
import Derived.Test.YtghgpinhghhlgaaA0
namespace Go.Proofs.Ytghgpinhghhlgaa.A
open Go.RowKit Go.Proofs.YtghgpinhghhlgaaW.PrintWords Go.Proofs.YtghgpinhghhlgaaW.PrintLast Go.Proofs.YtghgpinhghhlgaaW.PrintMore
attribute [local go_sem] max2_int min2_int max_two min_two max_three min_three max_four min_four   -- for this text's walks alone
set_option linter.unusedVariables false
set_option linter.unusedSimpArgs false

/-! ### slices_Repeat_int_int -/
def slices_Repeat_int_int.f (l0 : List Int) (a1 : Int) : Option (List Int) := if l0.length = 1 ∧ 1 ≤ a1 ∧ a1 ≤ 8 then some (List.replicate a1.toNat (rd l0 0)) else none
/-- The cells behind m of n places filled with x. -/
def repRow (x : Int) (n m : Nat) : List Value := List.replicate m (.int .i64 x) ++ List.replicate (n - m) (.int .i64 0)
def repCs (x : Int) (j : Nat) : List Value := List.replicate j (.int .i64 x)
def repMade (n : Nat) : Array Value := madeCells (Value.cells (.int .i64 0)) (n * 1)
theorem repMade_eq (x : Int) (n : Nat) : repMade n = (repRow x n 0).toArray := by
  unfold repMade repRow madeCells
  apply Array.ext'
  simp only [Array.toList_map, Array.toList_range, List.replicate_zero, List.nil_append, Nat.sub_zero, Nat.mul_one]
  apply List.ext_getElem
  · simp
  · intro i h1 h2
    simp [Value.cells, Nat.mod_one]
theorem repRow_splice (x : Int) (n m j : Nat) (h : m + j ≤ n) : splice (repRow x n m) m (repCs x j) = repRow x n (m + j) := by
  unfold splice repRow repCs
  rw [List.take_append_of_le_length (by simp)]
  simp only [List.length_replicate, List.drop_append, List.take_replicate, List.drop_replicate, Nat.min_self]
  have e1 : m - (m + j) = 0 := by omega
  have e2 : n - m - (m + j - m) = n - (m + j) := by omega
  rw [e1, e2, List.replicate_zero, List.nil_append, ← List.append_assoc, List.replicate_append_replicate]
theorem repRow_len (x : Int) (n m : Nat) (h : m ≤ n) : (repRow x n m).length = n := by unfold repRow; simp; omega
theorem repCs_len (x : Int) (j : Nat) : (repCs x j).length = j := by unfold repCs; simp
theorem repCs_one (x : Int) (j : Nat) : ∀ v ∈ repCs x j, v.oneCell' = true := by
  intro v hv; unfold repCs at hv; rw [List.mem_replicate] at hv; rw [hv.2]; rfl
theorem repCs_get {x : Int} {j i : Nat} {v : Value} (h : (repCs x j)[i]? = some v) : i < j ∧ v = .int .i64 x := by
  unfold repCs at h
  rw [List.getElem?_replicate] at h
  split at h
  · exact ⟨by assumption, (Option.some.inj h).symm⟩
  · exact absurd h (by simp)
theorem repRow_get {x : Int} {n m i : Nat} (h : i < m) : (repRow x n m)[i]? = some (.int .i64 x) := by
  unfold repRow; rw [List.getElem?_append_left (by simpa using h), List.getElem?_replicate, if_pos h]
theorem rep_cell {W : World} {g t : Nat} {x : Int} {n m i : Nat} (h : W.heap[g]? = some (.cells (repRow x n m).toArray t (0, 0))) (hi : i < m) : W.cell? ((⟨g, 0, none⟩ : Addr).add i) = some (.int .i64 x) := by
  have := blk_cell h i
  have e : (⟨g, 0, none⟩ : Addr).add i = ⟨g, i, none⟩ := by
    unfold Addr.add
    by_cases h0 : i = 0
    · subst h0; rfl
    · simp [h0]
  rw [e, this]
  simpa using repRow_get hi
theorem rep_R {W : World} {g : Nat} {x : Int} {n base : Nat} (h : W.heap[g]? = some (.cells (repRow x n n).toArray 3 (0, 0))) (hg : base ≤ g) (hn : n ≤ 8) : Kd.R (Kd.int .i64) 3 W base (fun _ => True) (.slice (some ⟨g, 0, none⟩) n n) (List.replicate n x) := by
  have e : encs (Value.int .i64) (List.replicate n x) = repRow x n n := by unfold encs repRow; simp
  refine Kd.R_of_own (h1 := fun _ => rfl) ?_ (fun _ _ => trivial)
  rw [e, List.length_replicate]
  refine ⟨?_, .inr ⟨g, n, (repRow x n n).toArray, rfl, hg, h, Nat.le_refl _, by unfold maxLen; omega, ?_, ?_⟩⟩
  · rw [repRow_len _ _ _ (Nat.le_refl _), Nat.mul_one]
  · rw [List.size_toArray, repRow_len _ _ _ (Nat.le_refl _), Nat.mul_one]
  · rw [List.take_of_length_le (by rw [repRow_len _ _ _ (Nat.le_refl _)]; omega)]
theorem rep_mul (n : Nat) (h1 : 1 ≤ n) (h8 : n ≤ 8) : bits_Mul.f 1 (n : Int) = some (0, (n : Int)) := by
  have : n = 1 ∨ n = 2 ∨ n = 3 ∨ n = 4 ∨ n = 5 ∨ n = 6 ∨ n = 7 ∨ n = 8 := by omega
  rcases this with rfl | rfl | rfl | rfl | rfl | rfl | rfl | rfl <;> decide
set_option maxHeartbeats 8000000 in
set_option maxRecDepth 100000 in
theorem slices_Repeat_int_int.calls (A0 : Option Addr) (c0 : Nat) (l0 : List Int) (a1 : Int) (r : List Int) (w : World) (hr0 : Kd.C (Kd.int .i64) w A0 l0.length l0) (hc0 : l0.length ≤ c0) (h : slices_Repeat_int_int.f l0 a1 = some r) :
    Calls Try.prog 53 #[.slice A0 l0.length c0, .int .i64 a1] w fun e w' => ∃ v0_ : Value, e = .returned (v0_) ∧ Kd.R (Kd.int .i64) 3 w' w.heap.size (fun _ => True) v0_ r ∧ Below w.heap.size w w' := by
  obtain ⟨x, n, h1, h8, rfl, rfl, rfl⟩ : ∃ (x : Int) (n : Nat), 1 ≤ n ∧ n ≤ 8 ∧ l0 = [x] ∧ a1 = (n : Int) ∧ r = List.replicate n x := by
    unfold slices_Repeat_int_int.f at h
    by_cases c : l0.length = 1 ∧ 1 ≤ a1 ∧ a1 ≤ 8
    · rw [if_pos c] at h
      obtain ⟨x, rfl⟩ : ∃ x, l0 = [x] := by
        match l0, c.1 with
        | [x], _ => exact ⟨x, rfl⟩
      refine ⟨x, a1.toNat, by omega, by omega, rfl, by omega, ?_⟩
      exact (Option.some.inj h).symm
    · rw [if_neg c] at h; exact absurd h (by simp)
  clear h
  obtain ⟨ad, rfl, hx⟩ : ∃ ad, A0 = some ad ∧ w.cell? ad = some (.int .i64 x) := by
    obtain ⟨ad, e, hc⟩ := hr0.2.2 (by simp)
    obtain ⟨c, hl, hk, hcc⟩ := hc 0 x (by simp)
    refine ⟨ad, e, ?_⟩
    have hk' : c = [.int .i64 x] := hk
    subst hk'
    have := hcc 0 (.int .i64 x) (by simp)
    simpa [Addr.add] using this
  clear hr0
  have hmul := Aside0.mk (rep_mul n h1 h8)
  have hmk : ∀ W : World, (Instr.makeSlice 23 (.int .i64 (n : Int)) (.int .i64 (n : Int))).run Try.prog W = .ok (.slice (some ⟨W.heap.size, 0, none⟩) n n) (W.alloc (.cells (repMade n) 3)) := by
    intro W
    obtain ⟨i, hi, hz, hs, hb⟩ := info_parts info3
    have := run_make (P := Try.prog) W 23 3 i _ Try.underlying23 hi hz .i64 .i64 (n : Int) (n : Int) (by omega) (Int.le_refl _) (by rw [hb]; omega) (by omega)
    rw [Int.toNat_natCast, hs] at this
    exact this
  have hlt8 : (n : Int) ≤ 8 := by omega
  have hge1 : (1 : Int) ≤ (n : Int) := by omega
  have hd1 : decide ((n : Int) < 0) = false := decide_eq_false (by omega)
  have hd2 : decide ((9223372036854775807 : Int) < (n : Int)) = false := decide_eq_false (by omega)
  go_enter Try.func53, Try.ntmps53
  go_wp2_with fail
  refine (bits_Mul.calls 1 (n : Int) 0 (n : Int) _ hmul.out).mono ?_
  rintro e w' ⟨rfl, ⟨nd, rfl⟩⟩
  clear hmul
  have hsz : (Try.prog.info? 3).map (·.size) = some 1 := by
    obtain ⟨i, hi, _, hs, _⟩ := info_parts info3
    rw [hi, Option.map_some, hs]
  have HSZ := Aside0.mk hsz
  clear hsz
  have hcl : ∀ j, (repCs x j).length = j := repCs_len x
  have HX := Aside0.mk hx
  clear hx
  have HB0 : Aside0 (Below w.heap.size w ((w.drewN nd).alloc (.cells (repMade n) 3))) := ⟨by repeat (first | exact Below.refl _ _ | apply below_alloc | apply pw_below_drewN | apply below_drew1)⟩
  go_wp2_with (with_reducible refine wpList_copy_splice rfl (.tmp 31) (.tmp 32) 23 23 rfl 3 Try.underlying23 HSZ.out (some ⟨w.heap.size, 0, none⟩) (some ad) n n 1 c0 rfl rfl w.heap.size 0 (repRow x n 0) 3 ?hg (repCs x 1) ?hn ?hpos ?hfit (repCs_one x 1) w.heap.size w HB0.out (Nat.le_refl _) ?hk)
  case hg => rw [← repMade_eq]; exact blk_new (w.drewN nd) _
  case hn => rw [repCs_len]; simp only [Nat.min_def]; rw [if_pos h1]
  case hpos =>
    intro j v hj
    obtain ⟨hj1, rfl⟩ := repCs_get hj
    obtain rfl : j = 0 := by omega
    have := (HB0.out.cell (World.block_lt_of_cell? w _ HX.out)).trans HX.out
    simpa [Addr.add] using this
  case hfit => rw [repCs_len, repRow_len x n 0 (by omega)]; omega
  case hk =>
    intro w2 HG hB2
    have HG1 : Aside0 (w2.heap[w.heap.size]? = some (.cells (repRow x n 1).toArray 3 (0, 0))) := ⟨by have := HG.out; rw [repRow_splice x n 0 1 (by omega)] at this; exact this⟩
    have HB2 := Aside0.mk hB2
    clear HG hB2 HB0 hmk
    go_wp2
    go_loopw [8] (fun v wr => ∃ m : Nat, 1 ≤ m ∧ m ≤ n ∧ v = .int .i64 m ∧ Aside0 (wr.heap[w.heap.size]? = some (.cells (repRow x n m).toArray 3 (0, 0))) ∧ Aside0 (Below w.heap.size w wr)) (fun v _ => n - (intOf v).toNat)
    case atStart => exact ⟨1, Nat.le_refl _, h1, rfl, HG1, HB2⟩
    case round =>
      obtain ⟨m, hm1, hmn, rfl, HG, HB⟩ := hrel
      clear HG1 HB2
      by_cases hlt : m < n
      · obtain ⟨j, hj⟩ : ∃ j, j = Nat.min m (n - m) := ⟨_, rfl⟩
        have HJ := Aside0.mk hj
        have hj1 : j ≤ n - m := by rw [hj]; exact Nat.min_le_right _ _
        have hj2 : j ≤ m := by rw [hj]; exact Nat.min_le_left _ _
        have hj3 : 1 ≤ j := by rw [hj]; exact Nat.le_min.mpr ⟨hm1, by omega⟩
        clear hj
        go_wp2
        go_region_law (refine step_copy_splice rfl (.tmp 41) (.tmp 44) 23 23 rfl 3 Try.underlying23 HSZ.out (some ⟨w.heap.size, m, none⟩) (some ⟨w.heap.size, 0, none⟩) (n - m) (n - m) m n (by simp [Act.eval, Act.put, show ¬ n = m from by omega]) (by simp [Act.eval, Act.put]) w.heap.size m (repRow x n m) 3 HG.out (repCs x j) (by rw [repCs_len, HJ.out]) (fun _ => ⟨rfl, ⟨w.heap.size, 0, none⟩, rfl, fun i v hi => by obtain ⟨hi1, rfl⟩ := repCs_get hi; exact rep_cell HG.out (by omega)⟩) (by rw [repCs_len, repRow_len _ _ _ hmn]; omega) (repCs_one x _) w.heap.size w (by first | exact HB.out | exact below_drew HB.out) (Nat.le_refl _) ?_; intro w4 hg4 hb4)
        have HG2 : Aside0 (w4.heap[w.heap.size]? = some (.cells (repRow x n (m + j)).toArray 3 (0, 0))) := ⟨by have := hg4.out; rw [repRow_splice x n m j (by omega)] at this; exact this⟩
        have HB4 := Aside0.mk hb4
        clear hg4 hb4 HG HB HJ
        have hw_ : IntKind.i64.wrap ((m : Int) + (j : Int)) = (m : Int) + (j : Int) := by rw [IntKind.wrap_i64]; omega
        go_simp
        clear hw_
        go_roundw
        case rel => exact ⟨_, _, _, _, _, _, _, _, _, _, _, _, _, _, ⟨m + j, by omega, by omega, by go_num, HG2, HB4⟩, rfl⟩
        case measure => simp [intOf]; omega
      · go_wp2
        go_ret
        obtain rfl : m = n := by omega
        exact ⟨_, rfl, rep_R HG.out (Nat.le_refl _) h8, HB.out⟩

end Go.Proofs.Ytghgpinhghhlgaa.A
