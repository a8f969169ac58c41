/- Plain laws on lists and numbers, for FnHoldsShade. No conditions beyond those stated. -/
import Derived.Test.YtkbaggfkidalfaaCLawsFnHoldsShade
import Derived.Test.YtkbaggfkidalfaaPBase
import Derived.Test.YtkbaggfkidalfaaA0
import Derived.Test.YtkbaggfkidalfaaAImplColorHolds
import Derived.Test.YtkbaggfkidalfaaAImplColoredValid
import Derived.Test.YtkbaggfkidalfaaAImplColorsOk
import Derived.Test.YtkbaggfkidalfaaAImplHeapValid
import Derived.Test.YtkbaggfkidalfaaASpecHeapValid
import Derived.Test.YtkbaggfkidalfaaASpecL1Points
import Derived.Test.YtkbaggfkidalfaaASpecDrawShadeCell
import Derived.Test.YtkbaggfkidalfaaASpecL13RdPick
import Derived.Test.YtkbaggfkidalfaaASpecL3Case
import Derived.Test.YtkbaggfkidalfaaASpecL3Draw
import Derived.Test.YtkbaggfkidalfaaASpecL3Wrong
import Derived.Test.YtkbaggfkidalfaaASpecL3Copy
import Derived.Test.YtkbaggfkidalfaaASpecL1Copy
import Derived.Test.YtkbaggfkidalfaaASpecL1Draw
import Derived.Test.YtkbaggfkidalfaaASpecL1Many
import Derived.Test.YtkbaggfkidalfaaASpecNewHeap
import Derived.Test.YtkbaggfkidalfaaASpecL13Open
import Derived.Test.YtkbaggfkidalfaaASpecL13RdNum
import Derived.Test.YtkbaggfkidalfaaASpecL3Black
import Derived.Test.YtkbaggfkidalfaaASpecL3First
import Derived.Test.YtkbaggfkidalfaaASpecMarkStep
import Derived.Test.YtkbaggfkidalfaaASpecColoredValid
import Derived.Test.YtkbaggfkidalfaaASpecL3Shade
import Derived.Test.YtkbaggfkidalfaaASpecNewColored
import Derived.Test.YtkbaggfkidalfaaASpecShadeRoots
import Derived.Test.YtkbaggfkidalfaaASpecL1Wrong
import Derived.Test.YtkbaggfkidalfaaAImplColoredSame
import Derived.Test.YtkbaggfkidalfaaASlicesEqualIntInt
import Derived.Test.YtkbaggfkidalfaaAImplHeapSame
import Derived.Test.YtkbaggfkidalfaaAImplShadeCell
import Derived.Test.YtkbaggfkidalfaaAImplHas
import Derived.Test.YtkbaggfkidalfaaAImplFresh
import Derived.Test.YtkbaggfkidalfaaASlicesCloneIntInt
import Derived.Test.YtkbaggfkidalfaaAImplCopied
import Derived.Test.YtkbaggfkidalfaaAImplShade
import Derived.Test.YtkbaggfkidalfaaASpecShadeCell
import Derived.Test.YtkbaggfkidalfaaASpecL1Cell
namespace Go.Proofs.Ytkbaggfkidalfaa.A
open Go.RowKit Go.Proofs.YtkbaggfkidalfaaW.PrintWords Go.Proofs.YtkbaggfkidalfaaW.PrintLast Go.Proofs.YtkbaggfkidalfaaW.PrintMore
attribute [local go_sem] max2_int min2_int max_two min_two max_three min_three max_four min_four   -- for this text's walks alone
set_option linter.unusedVariables false
set_option linter.unusedSimpArgs false
/-- A pointer of a heap of n cells. -/
def okp (n : Nat) (x : Int) : Bool := decide (-1 ≤ x ∧ x < (n : Int))
def hv (a b c : List Int) : Bool := decide (a.length = b.length ∧ 1 ≤ a.length ∧ a.length ≤ 8 ∧ 1 ≤ c.length ∧ c.length ≤ 3) && (a.all (okp a.length) && (b.all (okp a.length) && c.all (okp a.length)))
theorem hv_len {a b c : List Int} (h : hv a b c = true) : a.length = b.length ∧ 1 ≤ a.length ∧ a.length ≤ 8 ∧ 1 ≤ c.length ∧ c.length ≤ 3 := by
  unfold hv at h
  rw [Bool.and_eq_true] at h
  exact of_decide_eq_true h.1
theorem okp_iff {n : Nat} {x : Int} : okp n x = true ↔ -1 ≤ x ∧ x < (n : Int) := by unfold okp; exact decide_eq_true_iff
theorem hv_iff {a b c : List Int} : hv a b c = true ↔ (a.length = b.length ∧ 1 ≤ a.length ∧ a.length ≤ 8 ∧ 1 ≤ c.length ∧ c.length ≤ 3) ∧ (∀ x ∈ a, -1 ≤ x ∧ x < (a.length : Int)) ∧ (∀ x ∈ b, -1 ≤ x ∧ x < (a.length : Int)) ∧ (∀ x ∈ c, -1 ≤ x ∧ x < (a.length : Int)) := by
  unfold hv
  simp only [Bool.and_eq_true, decide_eq_true_eq, List.all_eq_true, okp_iff]
theorem all_drop_cons (p : Int → Bool) (l : List Int) (n : Nat) (h : n < l.length) : (l.drop n).all p = (p (rd l (n : Int)) && (l.drop (n + 1)).all p) := by
  rw [drop_rd l n h, List.all_cons]
theorem all_drop_nil (p : Int → Bool) (l : List Int) (n : Nat) (h : l.length ≤ n) : (l.drop n).all p = true := by
  rw [List.drop_eq_nil_of_le h, List.all_nil]
/-- A cell of a valid heap. -/
def cellM (a b c : List Int) (x : Int) : Bool := hv a b c && decide (0 ≤ x ∧ x < (a.length : Int))
theorem cellM_iff {a b c : List Int} {x : Int} : cellM a b c x = true ↔ hv a b c = true ∧ 0 ≤ x ∧ x < (a.length : Int) := by
  unfold cellM; simp
def okc (x : Int) : Bool := decide (0 ≤ x ∧ x ≤ 2)
def cv (a b c e : List Int) : Bool := hv a b c && (e.all okc && decide (e.length = a.length))
theorem okc_iff {x : Int} : okc x = true ↔ 0 ≤ x ∧ x ≤ 2 := by unfold okc; exact decide_eq_true_iff
theorem cv_iff {a b c e : List Int} : cv a b c e = true ↔ hv a b c = true ∧ (∀ x ∈ e, 0 ≤ x ∧ x ≤ 2) ∧ e.length = a.length := by
  unfold cv
  simp only [Bool.and_eq_true, decide_eq_true_eq, List.all_eq_true, okc_iff]
/-- Cell i is not black, or it points to no white cell. -/
def chOk (a b e : List Int) (i : Nat) : Bool := !(decide (rd e (i : Int) = 2) && (decide (rd a (i : Int) ≠ -1 ∧ rd e (rd a (i : Int)) = 0) || decide (rd b (i : Int) ≠ -1 ∧ rd e (rd b (i : Int)) = 0)))
def chFrom (a b e : List Int) (i : Nat) : Bool := ((List.range e.length).drop i).all (chOk a b e)
theorem chFrom_nil (a b e : List Int) (i : Nat) (h : e.length ≤ i) : chFrom a b e i = true := by
  unfold chFrom; rw [List.drop_eq_nil_of_le (by simpa using h)]; rfl
theorem chFrom_cons (a b e : List Int) (i : Nat) (h : i < e.length) : chFrom a b e i = (chOk a b e i && chFrom a b e (i + 1)) := by
  unfold chFrom
  rw [List.drop_eq_getElem_cons (by simpa using h), List.all_cons, List.getElem_range]
theorem chFrom_iff (a b e : List Int) : chFrom a b e 0 = true ↔ ∀ i : Nat, i < e.length → chOk a b e i = true := by
  unfold chFrom
  rw [List.drop_zero, List.all_eq_true]
  exact ⟨fun h i hi => h i (List.mem_range.2 hi), fun h i hi => h i (List.mem_range.1 hi)⟩
/-- No black cell points to a white one. -/
def chM (a b c e : List Int) : Bool := cv a b c e && chFrom a b e 0
theorem cv_ptr {a b c e : List Int} (h : cv a b c e = true) (i : Nat) (hi : i < e.length) : (rd a (i : Int) = -1 ∨ (0 ≤ rd a (i : Int) ∧ rd a (i : Int) < (e.length : Int))) ∧ (rd b (i : Int) = -1 ∨ (0 ≤ rd b (i : Int) ∧ rd b (i : Int) < (e.length : Int))) := by
  obtain ⟨h1, _, h3⟩ := cv_iff.1 h
  have hl := hv_len h1
  have p1 := (hv_iff.1 h1).2.1 _ (rd_mem a (i : Int) (by omega) (by omega))
  have p2 := (hv_iff.1 h1).2.2.1 _ (rd_mem b (i : Int) (by omega) (by omega))
  omega
theorem l1Points_tells (x : Int) (n : Nat) : spec_l1Points.f x (n : Int) = some (okp n x) := by
  unfold spec_l1Points.f okp
  by_cases h : x ≥ -1
  · rw [if_pos h]; congr 1; simp; omega
  · rw [if_neg h]; congr 1; exact (decide_eq_false (fun h2 => h h2.1)).symm
theorem specHV_l1 (a b c : List Int) (n : Nat) (hl : c.length ≤ 3) : ∀ (d i k : Nat), i ≤ c.length → c.length - i = d → d < k →
    spec_HeapValid.l1 k (n : Int) (i : Int) a b c = some ((c.drop i).all (okp n)) := by
  intro d
  induction d with
  | zero =>
    intro i k hi hd hk
    obtain ⟨k, rfl⟩ : ∃ m, k = m + 1 := ⟨k - 1, by omega⟩
    rw [spec_HeapValid.l1, if_neg (by omega), all_drop_nil _ _ _ (by omega)]
  | succ d ih =>
    intro i k hi hd hk
    obtain ⟨k, rfl⟩ : ∃ m, k = m + 1 := ⟨k - 1, by omega⟩
    have hlt : i < c.length := by omega
    rw [spec_HeapValid.l1, if_pos (by omega), if_pos (by omega), l1Points_tells, all_drop_cons _ _ _ hlt, wrap_succ hlt (by omega)]
    simp only [Option.bind_some]
    cases h : okp n (rd c (i : Int)) with
    | true => rw [if_pos rfl, ih (i + 1) k (by omega) (by omega) (by omega), Bool.true_and]
    | false => rw [if_neg (by simp), Bool.false_and]
theorem specHV_l0 (a b c : List Int) (hl : c.length ≤ 3) (ha : a.length ≤ 8) (hb : b.length = a.length) : ∀ (d i k : Nat), i ≤ a.length → a.length - i = d → d + 5 < k →
    spec_HeapValid.l0 k (a.length : Int) (i : Int) a b c = some ((a.drop i).all (okp a.length) && ((b.drop i).all (okp a.length) && c.all (okp a.length))) := by
  intro d
  induction d with
  | zero =>
    intro i k hi hd hk
    obtain ⟨k, rfl⟩ : ∃ m, k = m + 1 := ⟨k - 1, by omega⟩
    rw [spec_HeapValid.l0, if_neg (by omega), all_drop_nil _ _ _ (by omega), all_drop_nil _ _ _ (by omega)]
    have := specHV_l1 a b c a.length hl c.length 0 k (by omega) (by omega) (by omega)
    simp only [List.drop_zero] at this
    rw [Bool.true_and, Bool.true_and]
    exact this
  | succ d ih =>
    intro i k hi hd hk
    obtain ⟨k, rfl⟩ : ∃ m, k = m + 1 := ⟨k - 1, by omega⟩
    have hlt : i < a.length := by omega
    have hlt2 : i < b.length := by omega
    rw [spec_HeapValid.l0, if_pos (by omega), if_pos (by omega), if_pos (by omega), l1Points_tells, all_drop_cons _ a _ hlt, all_drop_cons _ b _ hlt2]
    simp only [Option.bind_some]
    cases h : okp a.length (rd a (i : Int)) with
    | false => rw [if_neg (by simp), Bool.false_and, Bool.false_and]
    | true =>
      rw [if_pos rfl, if_pos (by omega), l1Points_tells, wrap_succ hlt (by omega)]
      simp only [Option.bind_some]
      cases h2 : okp a.length (rd b (i : Int)) with
      | false => rw [if_neg (by simp), Bool.false_and, Bool.false_and, Bool.and_false]
      | true => rw [if_pos rfl, ih (i + 1) k (by omega) (by omega) (by omega), Bool.true_and, Bool.true_and]
theorem hv_false {a b c : List Int} (h : ¬ (a.length = b.length ∧ 1 ≤ a.length ∧ a.length ≤ 8 ∧ 1 ≤ c.length ∧ c.length ≤ 3)) : hv a b c = false := by
  unfold hv; rw [decide_eq_false h, Bool.false_and]
theorem specHV_tells (a b c : List Int) (k : Nat) (hk : 40 ≤ k) : spec_HeapValid.f k a b c = some (hv a b c) := by
  unfold spec_HeapValid.f
  obtain ⟨k, rfl⟩ : ∃ m, k = m + 1 := ⟨k - 1, by omega⟩
  have hj : ∀ n : Int, spec_HeapValid.j0 (k + 1) n true a b c = some false := fun n => by rw [spec_HeapValid.j0, if_pos rfl]
  by_cases h1 : (a.length : Int) < 1
  · rw [if_pos h1, hj, hv_false (by omega)]
  rw [if_neg h1]
  by_cases h2 : (a.length : Int) > 8
  · rw [if_pos h2, hj, hv_false (by omega)]
  rw [if_neg h2]
  by_cases h3 : (b.length : Int) = (a.length : Int)
  · rw [if_pos h3]
    by_cases h4 : (c.length : Int) < 1
    · rw [if_pos h4, hj, hv_false (by omega)]
    rw [if_neg h4]
    by_cases h5 : (c.length : Int) > 3
    · rw [decide_eq_true h5, hj, hv_false (by omega)]
    rw [decide_eq_false h5, spec_HeapValid.j0, if_neg (by simp)]
    have := specHV_l0 a b c (by omega) (by omega) (by omega) a.length 0 k (by omega) (by omega) (by omega)
    simp only [List.drop_zero] at this
    refine this.trans ?_
    unfold hv
    rw [decide_eq_true (show a.length = b.length ∧ 1 ≤ a.length ∧ a.length ≤ 8 ∧ 1 ≤ c.length ∧ c.length ≤ 3 by omega), Bool.true_and]
  · rw [if_neg h3, hj, hv_false (by omega)]
theorem implHV_l1 (y : List (List Int)) (xs a b c : List Int) (i : Int) (h0 : -9223372036854775808 ≤ i) (h9 : i ≤ 9223372036854775806) (hl : xs.length ≤ 9223372036854775807) : ∀ (d j m : Nat), j ≤ xs.length → xs.length - j = d →
    impl_HeapValid.l1 (m + d + 1) y 3 i xs (xs.length : Int) (j : Int) a b c = if (xs.drop j).all (okp a.length) = true then impl_HeapValid.l0 m y 3 (i + 1) a b c else some false := by
  intro d
  induction d with
  | zero =>
    intro j m hj hd
    rw [impl_HeapValid.l1, if_neg (by omega), all_drop_nil _ _ _ (by omega), if_pos rfl, wrap_id (by omega) (by omega)]
  | succ d ih =>
    intro j m hj hd
    have hlt : j < xs.length := by omega
    rw [impl_HeapValid.l1, if_pos (by omega), if_pos (by omega), if_pos (by omega), all_drop_cons _ xs _ hlt, wrap_succ hlt hl]
    by_cases h1 : rd xs (j : Int) < -1
    · have : okp a.length (rd xs (j : Int)) = false := by unfold okp; exact decide_eq_false (by omega)
      rw [if_pos h1, this, Bool.false_and, if_neg (by simp)]
    · rw [if_neg h1]
      by_cases h2 : rd xs (j : Int) ≥ (a.length : Int)
      · have : okp a.length (rd xs (j : Int)) = false := by unfold okp; exact decide_eq_false (by omega)
        rw [if_pos h2, this, Bool.false_and, if_neg (by simp)]
      · have : okp a.length (rd xs (j : Int)) = true := by unfold okp; exact decide_eq_true (by omega)
        rw [if_neg h2, this, Bool.true_and]
        exact ih (j + 1) m (by omega) (by omega)
theorem implHV_l0 (a b c : List Int) (m : Nat) (hb : b.length ≤ 8) (ha : a.length ≤ 8) (hc : c.length ≤ 8) :
    impl_HeapValid.l0 (m + 1 + (c.length + 1) + 1 + (b.length + 1) + 1 + (a.length + 1) + 1) [a, b, c] 3 0 a b c = some (a.all (okp a.length) && (b.all (okp a.length) && c.all (okp a.length))) := by
  have e0 : rd_L1 [a, b, c] 0 = a := rfl
  have e1 : rd_L1 [a, b, c] 1 = b := rfl
  have e2 : rd_L1 [a, b, c] 2 = c := rfl
  rw [impl_HeapValid.l0, if_pos (by omega), if_pos (by omega), if_pos (by simp), e0]
  have s0 := implHV_l1 [a, b, c] a a b c 0 (by omega) (by omega) (by omega) a.length 0 (m + 1 + (c.length + 1) + 1 + (b.length + 1) + 1) (by omega) (by omega)
  simp only [List.drop_zero] at s0
  refine Eq.trans s0 ?_
  cases hA : a.all (okp a.length) with
  | false => rfl
  | true =>
    rw [if_pos rfl, Bool.true_and]
    rw [impl_HeapValid.l0, if_pos (by omega), if_pos (by omega), if_pos (by simp), show (0 : Int) + 1 = 1 from rfl, e1]
    have s1 := implHV_l1 [a, b, c] b a b c 1 (by omega) (by omega) (by omega) b.length 0 (m + 1 + (c.length + 1) + 1) (by omega) (by omega)
    simp only [List.drop_zero] at s1
    refine Eq.trans s1 ?_
    cases hB : b.all (okp a.length) with
    | false => rfl
    | true =>
      rw [if_pos rfl, Bool.true_and]
      rw [impl_HeapValid.l0, if_pos (by omega), if_pos (by omega), if_pos (by simp), show (1 : Int) + 1 = 2 from rfl, e2]
      have s2 := implHV_l1 [a, b, c] c a b c 2 (by omega) (by omega) (by omega) c.length 0 (m + 1) (by omega) (by omega)
      simp only [List.drop_zero] at s2
      refine Eq.trans s2 ?_
      cases hC : c.all (okp a.length) with
      | false => rfl
      | true => rw [if_pos rfl, impl_HeapValid.l0, if_neg (by omega)]
theorem implHV_tells (a b c : List Int) (k : Nat) (hk : 60 ≤ k) : impl_HeapValid.f k a b c = some (hv a b c) := by
  unfold impl_HeapValid.f
  obtain ⟨k, rfl⟩ : ∃ m, k = m + 1 := ⟨k - 1, by omega⟩
  have hj : impl_HeapValid.j0 (k + 1) true a b c = some false := by rw [impl_HeapValid.j0, if_pos rfl]
  by_cases h1 : (a.length : Int) = (b.length : Int)
  · rw [if_pos h1]
    by_cases h2 : (a.length : Int) < 1
    · rw [if_pos h2, hj, hv_false (by omega)]
    rw [if_neg h2]
    by_cases h3 : (a.length : Int) > 8
    · rw [if_pos h3, hj, hv_false (by omega)]
    rw [if_neg h3]
    by_cases h4 : (c.length : Int) < 1
    · rw [if_pos h4, hj, hv_false (by omega)]
    rw [if_neg h4]
    by_cases h5 : (c.length : Int) > 3
    · rw [decide_eq_true h5, hj, hv_false (by omega)]
    rw [decide_eq_false h5, impl_HeapValid.j0, if_neg (by simp)]
    simp only [Option.bind_some]
    obtain ⟨m, hm⟩ : ∃ m, k = m + 1 + (c.length + 1) + 1 + (b.length + 1) + 1 + (a.length + 1) + 1 := ⟨k - 1 - (c.length + 1) - 1 - (b.length + 1) - 1 - (a.length + 1) - 1, by omega⟩
    have := implHV_l0 a b c m (by omega) (by omega) (by omega)
    rw [← hm] at this
    refine Eq.trans this ?_
    unfold hv
    rw [decide_eq_true (show a.length = b.length ∧ 1 ≤ a.length ∧ a.length ≤ 8 ∧ 1 ≤ c.length ∧ c.length ≤ 3 by omega), Bool.true_and]
  · rw [if_neg h1, hj, hv_false (by omega)]
theorem colorsOk_l0 (x e : List Int) (n : Int) (hl : e.length ≤ 9223372036854775807) : ∀ (d i k : Nat), i ≤ e.length → e.length - i = d → d < k →
    impl_colorsOk.l0 k x n e (e.length : Int) (i : Int) = some ((e.drop i).all okc && ((x.length : Int) == n)) := by
  intro d
  induction d with
  | zero =>
    intro i k hi hd hk
    obtain ⟨k, rfl⟩ : ∃ m, k = m + 1 := ⟨k - 1, by omega⟩
    rw [impl_colorsOk.l0, if_neg (by omega), all_drop_nil _ _ _ (by omega), Bool.true_and]
  | succ d ih =>
    intro i k hi hd hk
    obtain ⟨k, rfl⟩ : ∃ m, k = m + 1 := ⟨k - 1, by omega⟩
    have hlt : i < e.length := by omega
    rw [impl_colorsOk.l0, if_pos (by omega), if_pos (by omega), if_pos (by omega), all_drop_cons _ _ _ hlt, wrap_succ hlt hl]
    by_cases h1 : rd e (i : Int) < 0
    · have : okc (rd e (i : Int)) = false := by unfold okc; exact decide_eq_false (by omega)
      rw [if_pos h1, this, Bool.false_and, Bool.false_and]
    · rw [if_neg h1]
      by_cases h2 : rd e (i : Int) > 2
      · have : okc (rd e (i : Int)) = false := by unfold okc; exact decide_eq_false (by omega)
        rw [if_pos h2, this, Bool.false_and, Bool.false_and]
      · have : okc (rd e (i : Int)) = true := by unfold okc; exact decide_eq_true (by omega)
        rw [if_neg h2, this, Bool.true_and]
        exact ih (i + 1) k (by omega) (by omega) (by omega)
theorem colorsOk_tells (e : List Int) (n : Nat) (k : Nat) (he : e.length ≤ 1048576) (hk : 1048600 ≤ k) : impl_colorsOk.f k e (n : Int) = some (e.all okc && decide (e.length = n)) := by
  unfold impl_colorsOk.f
  refine Eq.trans (colorsOk_l0 e e n (by omega) e.length 0 k (by omega) (by omega) (by omega)) ?_
  rw [List.drop_zero]
  congr 2
  rw [Bool.eq_iff_iff]; simp; omega
theorem implCV_tells (a b c e : List Int) (k : Nat) (he : e.length ≤ 1048576) (hk : 1048600 ≤ k) : impl_ColoredValid.f k a b c e = some (cv a b c e) := by
  unfold impl_ColoredValid.f cv
  rw [implHV_tells a b c k (by omega)]
  simp only [Option.bind_some]
  cases h : hv a b c with
  | false => rw [if_neg (by simp), Bool.false_and]
  | true => rw [if_pos rfl, Bool.true_and, colorsOk_tells e a.length k he hk]; rfl
theorem implCH_l0 {a b c e : List Int} (h : cv a b c e = true) : ∀ (d i k : Nat), i ≤ e.length → e.length - i = d → d < k → impl_ColorHolds.l0 k (i : Int) a b e = some (chFrom a b e i) := by
  obtain ⟨h1, _, h3⟩ := cv_iff.1 h
  have hl := hv_len h1
  intro d
  induction d with
  | zero =>
    intro i k hi hd hk
    obtain ⟨k, rfl⟩ : ∃ m, k = m + 1 := ⟨k - 1, by omega⟩
    rw [impl_ColorHolds.l0, if_neg (by omega), chFrom_nil _ _ _ _ (by omega)]
  | succ d ih =>
    intro i k hi hd hk
    obtain ⟨k, rfl⟩ : ∃ m, k = m + 1 := ⟨k - 1, by omega⟩
    have hlt : i < e.length := by omega
    obtain ⟨pa, pb⟩ := cv_ptr h i hlt
    have oa : whiteOk e.length (rd a (i : Int)) = true := decide_eq_true pa
    have ob : whiteOk e.length (rd b (i : Int)) = true := decide_eq_true pb
    rw [impl_ColorHolds.l0, if_pos (by omega), if_pos (by omega), chFrom_cons _ _ _ _ hlt, wrap_succ hlt (by omega), ih (i + 1) k (by omega) (by omega) (by omega)]
    unfold chOk
    by_cases c1 : rd e (i : Int) = 2
    · rw [if_pos c1, if_pos (by omega), if_pos oa, decide_eq_true c1]
      have m1 : whiteM e (rd a (i : Int)) = decide (rd a (i : Int) ≠ -1 ∧ rd e (rd a (i : Int)) = 0) := rfl
      have m2 : whiteM e (rd b (i : Int)) = decide (rd b (i : Int) ≠ -1 ∧ rd e (rd b (i : Int)) = 0) := rfl
      rw [← m1, ← m2]
      by_cases q1 : whiteM e (rd a (i : Int)) = true
      · rw [if_pos q1, q1]; simp
      · rw [if_neg q1, if_pos (by omega), if_pos ob, Bool.eq_false_iff.2 q1]
        by_cases q2 : whiteM e (rd b (i : Int)) = true
        · rw [if_pos q2, q2]; simp
        · rw [if_neg q2, Bool.eq_false_iff.2 q2]; simp
    · rw [if_neg c1, decide_eq_false c1]; simp
theorem implCH_tells (a b c e : List Int) (he : e.length ≤ 1048576) : impl_ColorHolds.f a b c e = some (chM a b c e) := by
  unfold impl_ColorHolds.f chM
  rw [implCV_tells a b c e _ he (by omega)]
  simp only [Option.bind_some]
  by_cases h : cv a b c e = true
  · obtain ⟨h1, _, h3⟩ := cv_iff.1 h
    have hl := hv_len h1
    rw [if_pos h, h, Bool.true_and]
    exact implCH_l0 h e.length 0 2000 (by omega) (by omega) (by omega)
  · rw [if_neg h, Bool.eq_false_iff.2 h, Bool.false_and]
theorem chM_pos {a b c e : List Int} (h : cv a b c e = true) : chM a b c e = chFrom a b e 0 := by unfold chM; rw [h, Bool.true_and]
/-- Colors behind the shading of a cell (or of none). -/
def sh (e : List Int) (p : Int) : List Int := if p ≠ -1 ∧ rd e p = 0 then e.set p.toNat 1 else e
theorem sh_len (e : List Int) (p : Int) : (sh e p).length = e.length := by unfold sh; split <;> simp
theorem sh_rd {e : List Int} {p q : Int} (hp : p = -1 ∨ (0 ≤ p ∧ p < (e.length : Int))) (hq : 0 ≤ q) : rd (sh e p) q = if q = p ∧ rd e p = 0 then 1 else rd e q := by
  unfold sh
  by_cases h : p ≠ -1 ∧ rd e p = 0
  · obtain ⟨h0, h1⟩ := hp.resolve_left h.1
    rw [if_pos h]
    by_cases g : q = p
    · subst g; rw [rd_set_eq _ _ _ h0 h1, if_pos ⟨rfl, h.2⟩]
    · rw [rd_set_ne _ _ _ _ h0 hq (fun k => g k.symm), if_neg (fun k => g k.1)]
  · rw [if_neg h, if_neg (fun k => h ⟨by omega, k.2⟩)]
theorem sh_col {e : List Int} (h : ∀ x ∈ e, 0 ≤ x ∧ x ≤ 2) (p : Int) : ∀ x ∈ sh e p, 0 ≤ x ∧ x ≤ 2 := by
  unfold sh
  split
  · intro x hx
    rcases List.mem_or_eq_of_mem_set hx with g | rfl
    · exact h x g
    · omega
  · exact h
def shAll (c e : List Int) : List Int := c.foldl sh e
theorem shAll_len : ∀ (c e : List Int), (shAll c e).length = e.length
  | [], _ => rfl
  | p :: c, e => (shAll_len c (sh e p)).trans (sh_len e p)
theorem shAll_col : ∀ (c e : List Int), (∀ x ∈ e, 0 ≤ x ∧ x ≤ 2) → ∀ x ∈ shAll c e, 0 ≤ x ∧ x ≤ 2
  | [], _, h => h
  | p :: c, e, h => shAll_col c (sh e p) (sh_col h p)
def scM (a b c e : List Int) (x : Int) : List Int × List Int × List Int × List Int × Bool := if cv a b c e = true ∧ (0 ≤ x ∧ x < (a.length : Int)) then (a, b, c, sh e x, true) else ([], [], [], [], false)
def srM (a b c e : List Int) : List Int × List Int × List Int × List Int × Bool := if cv a b c e = true then (a, b, c, shAll c e, true) else ([], [], [], [], false)
theorem cv_lens {a b c e : List Int} (h : cv a b c e = true) : a.length = b.length ∧ 1 ≤ a.length ∧ a.length ≤ 8 ∧ 1 ≤ c.length ∧ c.length ≤ 3 ∧ e.length = a.length := by
  obtain ⟨h1, _, h3⟩ := cv_iff.1 h
  have := hv_len h1
  omega
theorem cv_sh {a b c e : List Int} (h : cv a b c e = true) (p : Int) : cv a b c (sh e p) = true := by
  obtain ⟨h1, h2, h3⟩ := cv_iff.1 h
  exact cv_iff.2 ⟨h1, sh_col h2 p, (sh_len e p).trans h3⟩
theorem cv_shAll {a b c e : List Int} (h : cv a b c e = true) (l : List Int) : cv a b c (shAll l e) = true := by
  obtain ⟨h1, h2, h3⟩ := cv_iff.1 h
  exact cv_iff.2 ⟨h1, shAll_col l e h2, (shAll_len l e).trans h3⟩
theorem scM_lens (a b c e : List Int) (x : Int) : (scM a b c e x).1.length ≤ 8 ∧ (scM a b c e x).2.1.length ≤ 8 ∧ (scM a b c e x).2.2.1.length ≤ 3 ∧ (scM a b c e x).2.2.2.1.length ≤ 8 := by
  unfold scM
  by_cases h : cv a b c e = true ∧ (0 ≤ x ∧ x < (a.length : Int))
  · have := cv_lens h.1
    rw [if_pos h]; simp [sh_len]; omega
  · rw [if_neg h]; simp
theorem chOk_iff (a b e : List Int) (i : Nat) : chOk a b e i = true ↔ (rd e (i : Int) = 2 → (rd a (i : Int) = -1 ∨ rd e (rd a (i : Int)) ≠ 0) ∧ (rd b (i : Int) = -1 ∨ rd e (rd b (i : Int)) ≠ 0)) := by
  unfold chOk
  by_cases h1 : rd e (i : Int) = 2 <;> by_cases h2 : rd a (i : Int) = -1 <;> by_cases h3 : rd e (rd a (i : Int)) = 0 <;> by_cases h4 : rd b (i : Int) = -1 <;> by_cases h5 : rd e (rd b (i : Int)) = 0 <;> simp [h1, h2, h3, h4, h5]
/-- Shading keeps that no black cell points to a white one. -/
theorem ch_sh {a b c e : List Int} (h : cv a b c e = true) (hh : chFrom a b e 0 = true) {p : Int} (hp : p = -1 ∨ (0 ≤ p ∧ p < (e.length : Int))) : chFrom a b (sh e p) 0 = true := by
  rw [chFrom_iff] at hh ⊢
  intro i hi
  rw [sh_len] at hi
  obtain ⟨pa, pb⟩ := cv_ptr h i hi
  rw [chOk_iff]
  intro h2
  have up : ∀ q : Int, 0 ≤ q → rd e q ≠ 0 → rd (sh e p) q ≠ 0 := by
    intro q q0 q1
    rw [sh_rd hp q0]
    by_cases g : q = p ∧ rd e p = 0
    · rw [if_pos g]; omega
    · rw [if_neg g]; exact q1
  have h3 : rd e (i : Int) = 2 := by
    rw [sh_rd hp (by omega)] at h2
    by_cases g : (i : Int) = p ∧ rd e p = 0
    · rw [if_pos g] at h2; omega
    · rw [if_neg g] at h2; exact h2
  obtain ⟨ga, gb⟩ := (chOk_iff a b e i).1 (hh i hi) h3
  refine ⟨?_, ?_⟩
  · by_cases g : rd a (i : Int) = -1
    · exact Or.inl g
    · exact Or.inr (up _ (by omega) (ga.resolve_left g))
  · by_cases g : rd b (i : Int) = -1
    · exact Or.inl g
    · exact Or.inr (up _ (by omega) (gb.resolve_left g))
theorem l1Copy_tells (a b c : List Int) (ha : a.length ≤ 1048576) (hb : b.length ≤ 1048576) (hc : c.length ≤ 1048576) : spec_l1Copy.f a b c = some (a, b, c) := by
  unfold spec_l1Copy.f
  simp only [Option.bind_some, List.length_nil, List.nil_append]
  rw [if_pos (by omega), if_pos (by omega), if_pos (by omega)]
theorem l3Copy_tells (a b c e : List Int) (ha : a.length ≤ 1048576) (hb : b.length ≤ 1048576) (hc : c.length ≤ 1048576) (he : e.length ≤ 1048576) : spec_l3Copy.f a b c e = some (a, b, c, e) := by
  unfold spec_l3Copy.f
  rw [l1Copy_tells a b c ha hb hc]
  simp only [Option.bind_some, List.length_nil, List.nil_append]
  rw [if_pos (by omega)]
def nhM (c r : Int) : List Int × List Int × List Int × Bool := if 1 ≤ c ∧ c ≤ 8 ∧ 1 ≤ r ∧ r ≤ 3 then (List.replicate c.toNat (-1), List.replicate c.toNat (-1), List.replicate r.toNat (-1), true) else ([], [], [], false)
theorem many_l0 (n : Nat) (hn : n ≤ 1000) : ∀ (d i k : Nat), i ≤ n → n - i = d → d < k → spec_l1Many.l0 k (n : Int) (List.replicate i (-1)) (i : Int) = some (List.replicate n (-1)) := by
  intro d
  induction d with
  | zero =>
    intro i k hi hd hk
    obtain ⟨k, rfl⟩ : ∃ m, k = m + 1 := ⟨k - 1, by omega⟩
    obtain rfl : i = n := by omega
    rw [spec_l1Many.l0, if_neg (by omega)]
  | succ d ih =>
    intro i k hi hd hk
    obtain ⟨k, rfl⟩ : ∃ m, k = m + 1 := ⟨k - 1, by omega⟩
    rw [spec_l1Many.l0, if_pos (by omega), if_pos (by simp; omega), wrap_succ (m := n) (by omega) (by omega), ← List.replicate_succ']
    exact ih (i + 1) k (by omega) (by omega) (by omega)
theorem many_tells (n k : Nat) (hn : n ≤ 1000) (hk : n < k) : spec_l1Many.f k (n : Int) = some (List.replicate n (-1)) := by
  unfold spec_l1Many.f
  exact many_l0 n hn n 0 k (by omega) (by omega) hk
theorem specNH_tells (c r : Int) (k : Nat) (hk : 20 ≤ k) : spec_NewHeap.f k c r = some (nhM c r) := by
  unfold spec_NewHeap.f
  obtain ⟨k, rfl⟩ : ∃ m, k = m + 1 := ⟨k - 1, by omega⟩
  have hj : spec_NewHeap.j0 (k + 1) c r true = some ([], [], [], false) := by rw [spec_NewHeap.j0, if_pos rfl]
  have hf : ¬ (1 ≤ c ∧ c ≤ 8 ∧ 1 ≤ r ∧ r ≤ 3) → nhM c r = ([], [], [], false) := fun h => by unfold nhM; rw [if_neg h]
  by_cases h1 : c < 1
  · rw [if_pos h1, hj, hf (by omega)]
  rw [if_neg h1]
  by_cases h2 : c > 8
  · rw [if_pos h2, hj, hf (by omega)]
  rw [if_neg h2]
  by_cases h3 : r < 1
  · rw [if_pos h3, hj, hf (by omega)]
  rw [if_neg h3]
  by_cases h4 : r > 3
  · rw [decide_eq_true h4, hj, hf (by omega)]
  obtain ⟨c, rfl⟩ : ∃ n : Nat, c = (n : Int) := ⟨c.toNat, by omega⟩
  obtain ⟨r, rfl⟩ : ∃ n : Nat, r = (n : Int) := ⟨r.toNat, by omega⟩
  rw [decide_eq_false h4, spec_NewHeap.j0, if_neg (by simp), many_tells c k (by omega) (by omega), many_tells r k (by omega) (by omega)]
  unfold nhM
  rw [if_pos (by omega)]
  rfl
def bytesOk (b : List Int) : Prop := ∀ x ∈ b, 0 ≤ x ∧ x ≤ 255
theorem tmod_nat (a b : Nat) : Int.tmod (a : Int) (b : Int) = ((a % b : Nat) : Int) := rfl
theorem tdiv_nat (a b : Nat) : Int.tdiv (a : Int) (b : Int) = ((a / b : Nat) : Int) := rfl
theorem xor_nat (a b : Nat) (ha : a < 4611686018427387904) (hb : b < 4611686018427387904) : Go.bits .xor .i64 (a : Int) (b : Int) = ((a ^^^ b : Nat) : Int) := by
  have hx : a ^^^ b < 2 ^ 62 := Nat.xor_lt_two_pow (by omega) (by omega)
  have h1 : (BitVec.ofInt 64 (a : Int)).toNat = a := by
    rw [BitVec.ofInt_natCast, BitVec.toNat_ofNat]; exact Nat.mod_eq_of_lt (by omega)
  have h2 : (BitVec.ofInt 64 (b : Int)).toNat = b := by
    rw [BitVec.ofInt_natCast, BitVec.toNat_ofNat]; exact Nat.mod_eq_of_lt (by omega)
  show IntKind.i64.wrap ((BitVec.ofInt 64 (a : Int) ^^^ BitVec.ofInt 64 (b : Int)).toNat : Int) = _
  rw [BitVec.toNat_xor, h1, h2, IntKind.wrap_i64]
  omega
theorem wn (n : Nat) (h : n ≤ 9223372036854775807) : wrap64 (n : Int) = (n : Int) := wrap_id (by omega) (by omega)
theorem byte_at {b : List Int} (hb : bytesOk b) (i : Nat) (h : i < b.length) : ∃ A : Nat, A ≤ 255 ∧ rd b (i : Int) = (A : Int) := by
  have := hb _ (rd_mem b (i : Int) (by omega) (by omega))
  exact ⟨(rd b (i : Int)).toNat, by omega, by omega⟩
theorem pick_tells {b : List Int} (hb : bytesOk b) (hl : b.length ≤ 2000) (p n k : Nat) (hp : p ≤ 100000) (h1 : 1 ≤ n) (hk : 1 ≤ k) : ∃ v : Nat, v < n ∧ spec_l13Rd_pick.f k b (p : Int) (n : Int) = some ((v : Int), ((p + 1 : Nat) : Int)) := by
  obtain ⟨k, rfl⟩ : ∃ m, k = m + 1 := ⟨k - 1, by omega⟩
  have w1 : wrap64 ((p : Int) + 1) = ((p + 1 : Nat) : Int) := by unfold wrap64; omega
  have w2 : wrap64 (((p + 1 : Nat) : Int) - 1) = (p : Int) := by unfold wrap64; omega
  unfold spec_l13Rd_pick.f
  rw [if_neg (by omega), w1, spec_l13Rd_pick.j0, w2]
  by_cases e : b.length = 0
  · refine ⟨0, by omega, ?_⟩
    rw [if_pos (by simp [e])]; rfl
  · have e' : ((b.length : Int) == 0) = false := beq_eq_false_iff_ne.mpr (by omega)
    rw [e', if_neg Bool.false_ne_true]
    by_cases c : (p : Int) < (b.length : Int)
    · obtain ⟨A, hA, eA⟩ := byte_at hb p (by omega)
      refine ⟨A % n, Nat.mod_lt _ (by omega), ?_⟩
      rw [if_pos c, if_pos (by omega), if_neg (by omega), eA, wn A (by omega), tmod_nat]
    · have i1 : p % b.length < b.length := Nat.mod_lt _ (by omega)
      have i2 : (p * 7 + 3) % b.length < b.length := Nat.mod_lt _ (by omega)
      obtain ⟨A, hA, eA⟩ := byte_at hb _ i1
      obtain ⟨B, hB, eB⟩ := byte_at hb _ i2
      have w3a : wrap64 ((p : Int) * 7) = ((p * 7 : Nat) : Int) := by rw [wrap_id (by omega) (by omega)]; omega
      have w3 : wrap64 (((p * 7 : Nat) : Int) + 3) = ((p * 7 + 3 : Nat) : Int) := by rw [wrap_id (by omega) (by omega)]; omega
      have q : p / b.length ≤ 100000 := Nat.le_trans (Nat.div_le_self _ _) hp
      obtain ⟨Q, hQ⟩ : ∃ Q, Q = p / b.length := ⟨_, rfl⟩
      rw [← hQ] at q
      have x1 : wrap64 ((A : Int) * 131) = ((A * 131 : Nat) : Int) := by rw [wrap_id (by omega) (by omega)]; omega
      have x2 : wrap64 ((B : Int) * 1117) = ((B * 1117 : Nat) : Int) := by rw [wrap_id (by omega) (by omega)]; omega
      have x3 : wrap64 ((p : Int) * 29) = ((p * 29 : Nat) : Int) := by rw [wrap_id (by omega) (by omega)]; omega
      have x4 : wrap64 ((Q : Int) * 53) = ((Q * 53 : Nat) : Int) := by rw [wrap_id (by omega) (by omega)]; omega
      have w4 : wrap64 (((A * 131 : Nat) : Int) + ((B * 1117 : Nat) : Int)) = ((A * 131 + B * 1117 : Nat) : Int) := by rw [wrap_id (by omega) (by omega)]; omega
      have w5 : wrap64 (((A * 131 + B * 1117 : Nat) : Int) + ((p * 29 : Nat) : Int)) = ((A * 131 + B * 1117 + p * 29 : Nat) : Int) := by rw [wrap_id (by omega) (by omega)]; omega
      have w6 : wrap64 (((A * 131 + B * 1117 + p * 29 : Nat) : Int) + ((Q * 53 : Nat) : Int)) = ((A * 131 + B * 1117 + p * 29 + Q * 53 : Nat) : Int) := by rw [wrap_id (by omega) (by omega)]; omega
      rw [if_neg c, if_neg (by omega), tmod_nat p b.length, w3a, w3, tmod_nat (p * 7 + 3) b.length, if_pos (by omega), if_pos (by omega), if_pos (by omega), if_pos (by omega), if_neg (by omega), eA, eB, tdiv_nat p b.length, ← hQ, wn A (by omega), wn B (by omega), wn Q (by omega), x1, x2, w4, x3, w5, x4, w6]
      have hX : A * 131 + B * 1117 + p * 29 + Q * 53 < 4611686018427387904 := by omega
      generalize A * 131 + B * 1117 + p * 29 + Q * 53 = X at hX
      have e64 : Int.tdiv (X : Int) 64 = ((X / 64 : Nat) : Int) := rfl
      rw [e64, wn (X / 64) (by omega), xor_nat X (X / 64) hX (by omega), tmod_nat]
      exact ⟨_, Nat.mod_lt _ (by omega), rfl⟩
theorem num_tells {b : List Int} (hb : bytesOk b) (hl : b.length ≤ 2000) (p k : Nat) (l : List Int) (hp : p ≤ 100000) (h1 : 1 ≤ l.length) (hk : 1 ≤ k) : ∃ v, v ∈ l ∧ spec_l13Rd_num.f k b (p : Int) l = some (v, ((p + 1 : Nat) : Int)) := by
  obtain ⟨v, hv, e⟩ := pick_tells hb hl p l.length k hp h1 hk
  refine ⟨rd l (v : Int), rd_mem l _ (by omega) (by omega), ?_⟩
  unfold spec_l13Rd_num.f
  rw [e]
  simp only [Option.bind_some]
  rw [if_pos (by omega), if_pos (by omega)]
theorem open_tells (b : List Int) : ∃ c, c.length ≤ 2000 ∧ (bytesOk b → bytesOk c) ∧ spec_l13Open.f b = some (c, ((0 : Nat) : Int)) := by
  unfold spec_l13Open.f
  by_cases h : (b.length : Int) > 2000
  · refine ⟨b.take 2000, by simp; omega, fun hb x hx => hb x (List.mem_of_mem_take hx), ?_⟩
    rw [if_pos h, if_pos (by omega)]; rfl
  · refine ⟨b, by omega, fun hb => hb, ?_⟩
    rw [if_neg h]; rfl
def okl (n : Nat) (l : List Int) : Prop := ∀ x ∈ l, -1 ≤ x ∧ x < (n : Int)
theorem okl_set {n : Nat} {l : List Int} (h : okl n l) (i : Nat) {v : Int} (hv : -1 ≤ v ∧ v < (n : Int)) : okl n (l.set i v) := by
  intro x hx
  rcases List.mem_or_eq_of_mem_set hx with hx | rfl
  · exact h x hx
  · exact hv
theorem wrap_p1 (n : Nat) (h : n ≤ 1000) : wrap64 ((n : Int) + 1) = ((n + 1 : Nat) : Int) := wrap_id (by omega) (by omega)
theorem wrap_p2 (n : Nat) (h : n ≤ 1000) : wrap64 ((n : Int) + 2) = ((n + 2 : Nat) : Int) := wrap_id (by omega) (by omega)
theorem wrap_m1 (n : Nat) (h : n ≤ 1000) : wrap64 ((n : Int) - 1) = (n : Int) - 1 := wrap_id (by omega) (by omega)
theorem wrap_m2 (n : Nat) (h : n ≤ 1000) : wrap64 ((n : Int) - 2) = (n : Int) - 2 := wrap_id (by omega) (by omega)
theorem drawl1_tells {b : List Int} (hb : bytesOk b) (hl : b.length ≤ 2000) (n : Nat) (h1 : 1 ≤ n) (hn : n ≤ 8) (x y : List Int) : ∀ (d i k p : Nat) (z : List Int), z.length ≤ 100 → i ≤ z.length → z.length - i = d → d + 2 ≤ k → p + d ≤ 90000 → okl n z →
    ∃ z' p', spec_l1Draw.l1 k (n : Int) (i : Int) b (p : Int) x y z = some (x, y, z', ((p' : Nat) : Int)) ∧ z'.length = z.length ∧ okl n z' ∧ p' ≤ p + d := by
  intro d
  induction d with
  | zero =>
    intro i k p z hz3 hi hd hk hp hz
    obtain ⟨k, rfl⟩ : ∃ m, k = m + 1 := ⟨k - 1, by omega⟩
    exact ⟨z, p, by rw [spec_l1Draw.l1, if_neg (by omega)], rfl, hz, by omega⟩
  | succ d ih =>
    intro i k p z hz3 hi hd hk hp hz
    obtain ⟨k, rfl⟩ : ∃ m, k = m + 1 := ⟨k - 1, by omega⟩
    obtain ⟨v, hv, e⟩ := pick_tells hb hl p (n + 1) k (by omega) (by omega) (by omega)
    obtain ⟨z', p', e2, l2, o2, q2⟩ := ih (i + 1) k (p + 1) (z.set i ((v : Int) - 1)) (by simp; omega) (by simp; omega) (by simp; omega) (by omega) (by omega) (okl_set hz i (by omega))
    refine ⟨z', p', ?_, by rw [l2]; simp, o2, by omega⟩
    rw [spec_l1Draw.l1, if_pos (by omega), wrap_p1 n (by omega), e]
    simp only [Option.bind_some]
    rw [if_pos (by omega), wrap_m1 v (by omega), wrap_succ (m := z.length) (by omega) (by omega), Int.toNat_natCast]
    exact e2
theorem drawl0_tells {b : List Int} (hb : bytesOk b) (hl : b.length ≤ 2000) (n : Nat) (h1 : 1 ≤ n) (hn : n ≤ 8) (z : List Int) (hzl : z.length ≤ 3) (hz : okl n z) : ∀ (d i k p : Nat) (x y : List Int), i ≤ n → n - i = d → d + 10 ≤ k → p + 2 * d ≤ 80000 → okl n x → okl n y → x.length = n → y.length = n →
    ∃ x' y' z' p', spec_l1Draw.l0 k (n : Int) (i : Int) b (p : Int) x y z = some (x', y', z', ((p' : Nat) : Int)) ∧ (x'.length = n ∧ y'.length = n ∧ z'.length = z.length) ∧ (okl n x' ∧ okl n y' ∧ okl n z') ∧ p' ≤ p + 2 * d + 3 := by
  intro d
  induction d with
  | zero =>
    intro i k p x y hi hd hk hp hx hy lx ly
    obtain ⟨k, rfl⟩ : ∃ m, k = m + 1 := ⟨k - 1, by omega⟩
    obtain ⟨z', p', e2, l2, o2, q2⟩ := drawl1_tells hb hl n h1 hn x y z.length 0 k p z (by omega) (by omega) (by omega) (by omega) (by omega) hz
    exact ⟨x, y, z', p', by rw [spec_l1Draw.l0, if_neg (by omega)]; exact e2, ⟨lx, ly, l2⟩, ⟨hx, hy, o2⟩, by omega⟩
  | succ d ih =>
    intro i k p x y hi hd hk hp hx hy lx ly
    obtain ⟨k, rfl⟩ : ∃ m, k = m + 1 := ⟨k - 1, by omega⟩
    obtain ⟨v, hv, e⟩ := pick_tells hb hl p (n + 2) k (by omega) (by omega) (by omega)
    obtain ⟨u, hu, f⟩ := pick_tells hb hl (p + 1) (n + 2) k (by omega) (by omega) (by omega)
    have r1 : rd (x.set i ((v : Int) - 1)) (i : Int) = (v : Int) - 1 := by
      have := rd_set_eq x (i : Int) ((v : Int) - 1) (by omega) (by omega)
      rwa [Int.toNat_natCast] at this
    have r2 : rd (y.set i ((u : Int) - 2)) (i : Int) = (u : Int) - 2 := by
      have := rd_set_eq y (i : Int) ((u : Int) - 2) (by omega) (by omega)
      rwa [Int.toNat_natCast] at this
    rw [spec_l1Draw.l0, if_pos (by omega), wrap_p2 n (by omega), e]
    simp only [Option.bind_some]
    rw [if_pos (by omega), if_pos (by omega), f]
    simp only [Option.bind_some]
    rw [if_pos (by omega), wrap_m1 v (by omega), wrap_m2 u (by omega), wrap_succ (m := n) (by omega) (by omega), Int.toNat_natCast]
    simp only [r1, r2]
    have go : ∀ (x2 y2 : List Int), okl n x2 → okl n y2 → x2.length = n → y2.length = n → ∃ x' y' z' p', spec_l1Draw.l0 k (n : Int) ((i + 1 : Nat) : Int) b ((p + 1 + 1 : Nat) : Int) x2 y2 z = some (x', y', z', ((p' : Nat) : Int)) ∧ (x'.length = n ∧ y'.length = n ∧ z'.length = z.length) ∧ (okl n x' ∧ okl n y' ∧ okl n z') ∧ p' ≤ p + 2 * (d + 1) + 3 := by
      intro x2 y2 a1 a2 a3 a4
      obtain ⟨x', y', z', p', g1, g2, g3, g4⟩ := ih (i + 1) k (p + 1 + 1) x2 y2 (by omega) (by omega) (by omega) (by omega) a1 a2 a3 a4
      exact ⟨x', y', z', p', g1, g2, g3, by omega⟩
    by_cases c1 : (v : Int) - 1 ≥ (n : Int)
    · have ox : okl n ((x.set i ((v : Int) - 1)).set i (-1)) := by rw [List.set_set]; exact okl_set hx i (by omega)
      rw [if_pos c1]
      by_cases c2 : (u : Int) - 2 < -1
      · have oy : okl n ((y.set i ((u : Int) - 2)).set i (-1)) := by rw [List.set_set]; exact okl_set hy i (by omega)
        rw [if_pos c2]
        exact go _ _ ox oy (by simp [lx]) (by simp [ly])
      · rw [if_neg c2]
        exact go _ _ ox (okl_set hy i (by omega)) (by simp [lx]) (by simp [ly])
    · rw [if_neg c1]
      by_cases c2 : (u : Int) - 2 < -1
      · have oy : okl n ((y.set i ((u : Int) - 2)).set i (-1)) := by rw [List.set_set]; exact okl_set hy i (by omega)
        rw [if_pos c2]
        exact go _ _ (okl_set hx i (by omega)) oy (by simp [lx]) (by simp [ly])
      · rw [if_neg c2]
        exact go _ _ (okl_set hx i (by omega)) (okl_set hy i (by omega)) (by simp [lx]) (by simp [ly])
theorem draw_tells {b : List Int} (hb : bytesOk b) (hl : b.length ≤ 2000) (p k : Nat) (hp : p ≤ 70000) (hk : 100 ≤ k) : ∃ x y z p', spec_l1Draw.f k b (p : Int) = some (x, y, z, ((p' : Nat) : Int)) ∧ hv x y z = true ∧ p' ≤ p + 30 := by
  obtain ⟨v, hv1, e1⟩ := num_tells hb hl p k [4, 3, 5, 6, 2, 8, 1] (by omega) (by simp) (by omega)
  obtain ⟨u, hu1, e2⟩ := num_tells hb hl (p + 1) k [2, 1, 3] (by omega) (by simp) (by omega)
  have bv : 1 ≤ v ∧ v ≤ 8 := by simp at hv1; omega
  have bu : 1 ≤ u ∧ u ≤ 3 := by simp at hu1; omega
  obtain ⟨n, rfl⟩ : ∃ n : Nat, v = (n : Int) := ⟨v.toNat, by omega⟩
  obtain ⟨m, rfl⟩ : ∃ n : Nat, u = (n : Int) := ⟨u.toNat, by omega⟩
  have hr : ∀ q : Nat, okl n (List.replicate q (-1)) := by
    intro q x hx
    rw [(List.mem_replicate.1 hx).2]; omega
  obtain ⟨x, y, z, p', f1, f2, f3, f4⟩ := drawl0_tells hb hl n (by omega) (by omega) (List.replicate m (-1)) (by simp; omega) (hr m) n 0 k (p + 1 + 1) (List.replicate n (-1)) (List.replicate n (-1)) (by omega) (by omega) (by omega) (by omega) (hr n) (hr n) (by simp) (by simp)
  refine ⟨x, y, z, p', ?_, ?_, by omega⟩
  · unfold spec_l1Draw.f
    rw [e1]
    simp only [Option.bind_some]
    rw [e2]
    simp only [Option.bind_some]
    rw [specNH_tells _ _ k (by omega)]
    simp only [Option.bind_some]
    unfold nhM
    rw [if_pos (by omega), Int.toNat_natCast, Int.toNat_natCast]
    exact f1
  · rw [List.length_replicate] at f2
    refine hv_iff.2 ⟨by omega, ?_, ?_, ?_⟩
    · intro w hw; have := f3.1 w hw; omega
    · intro w hw; have := f3.2.1 w hw; omega
    · intro w hw; have := f3.2.2 w hw; omega
theorem specCV_l0 (a b c e : List Int) (hl : e.length ≤ 9223372036854775807) : ∀ (d i k : Nat), i ≤ e.length → e.length - i = d → d < k →
    spec_ColoredValid.l0 k (i : Int) a b c e = some ((e.drop i).all okc) := by
  intro d
  induction d with
  | zero =>
    intro i k hi hd hk
    obtain ⟨k, rfl⟩ : ∃ m, k = m + 1 := ⟨k - 1, by omega⟩
    rw [spec_ColoredValid.l0, if_neg (by omega), all_drop_nil _ _ _ (by omega)]
  | succ d ih =>
    intro i k hi hd hk
    obtain ⟨k, rfl⟩ : ∃ m, k = m + 1 := ⟨k - 1, by omega⟩
    have hlt : i < e.length := by omega
    rw [spec_ColoredValid.l0, if_pos (by omega), if_pos (by omega), all_drop_cons _ _ _ hlt, wrap_succ hlt hl]
    by_cases h1 : rd e (i : Int) < 0
    · have : okc (rd e (i : Int)) = false := by unfold okc; exact decide_eq_false (by omega)
      rw [if_pos h1, this, Bool.false_and]
    · rw [if_neg h1]
      by_cases h2 : rd e (i : Int) > 2
      · have : okc (rd e (i : Int)) = false := by unfold okc; exact decide_eq_false (by omega)
        rw [if_pos h2, this, Bool.false_and]
      · have : okc (rd e (i : Int)) = true := by unfold okc; exact decide_eq_true (by omega)
        rw [if_neg h2, this, Bool.true_and]
        exact ih (i + 1) k (by omega) (by omega) (by omega)
theorem specCV_tells (a b c e : List Int) (k : Nat) (he : e.length ≤ 1048576) (hk : 1048600 ≤ k) : spec_ColoredValid.f k a b c e = some (cv a b c e) := by
  unfold spec_ColoredValid.f
  rw [specHV_tells a b c k (by omega)]
  simp only [Option.bind_some]
  obtain ⟨k, rfl⟩ : ∃ m, k = m + 1 := ⟨k - 1, by omega⟩
  have hj : spec_ColoredValid.j0 (k + 1) true a b c e = some false := by rw [spec_ColoredValid.j0, if_pos rfl]
  unfold cv
  cases h : hv a b c with
  | false => rw [if_neg (by simp), hj, Bool.false_and]
  | true =>
    rw [if_pos rfl, Bool.true_and]
    by_cases h2 : e.length = a.length
    · have : ((e.length : Int) != (a.length : Int)) = false := by simp [h2]
      rw [this, spec_ColoredValid.j0, if_neg (by simp), decide_eq_true h2, Bool.and_true]
      exact specCV_l0 a b c e (by omega) e.length 0 k (by omega) (by omega) (by omega)
    · have : ((e.length : Int) != (a.length : Int)) = true := by simp; omega
      rw [this, hj, decide_eq_false h2, Bool.and_false]
/-- The first place from i on where v stands. -/
def firstFrom (e : List Int) (v : Int) (i : Nat) : Option Nat := ((List.range e.length).drop i).find? (fun (j : Nat) => decide (rd e (j : Int) = v))
theorem firstFrom_nil (e : List Int) (v : Int) (i : Nat) (h : e.length ≤ i) : firstFrom e v i = none := by
  unfold firstFrom; rw [List.drop_eq_nil_of_le (by simpa using h)]; rfl
theorem firstFrom_cons (e : List Int) (v : Int) (i : Nat) (h : i < e.length) : firstFrom e v i = if rd e (i : Int) = v then some i else firstFrom e v (i + 1) := by
  unfold firstFrom
  rw [List.drop_eq_getElem_cons (by simpa using h), List.find?_cons]
  simp only [List.getElem_range]
  by_cases h2 : rd e (i : Int) = v
  · rw [if_pos h2, decide_eq_true h2]
  · rw [if_neg h2, decide_eq_false h2]
theorem firstFrom_some (e : List Int) (v : Int) : ∀ (d i : Nat), e.length - i = d → ∀ j, firstFrom e v i = some j → i ≤ j ∧ j < e.length ∧ rd e (j : Int) = v ∧ ∀ m : Nat, i ≤ m → m < j → rd e (m : Int) ≠ v := by
  intro d
  induction d with
  | zero => intro i hd j hj; rw [firstFrom_nil _ _ _ (by omega)] at hj; exact absurd hj (by simp)
  | succ d ih =>
    intro i hd j hj
    rw [firstFrom_cons _ _ _ (by omega)] at hj
    by_cases h2 : rd e (i : Int) = v
    · rw [if_pos h2] at hj
      obtain rfl := Option.some.inj hj
      exact ⟨by omega, by omega, h2, fun m h3 h4 => by omega⟩
    · rw [if_neg h2] at hj
      obtain ⟨h3, h4, h5, h6⟩ := ih (i + 1) (by omega) j hj
      refine ⟨by omega, h4, h5, fun m h7 h8 => ?_⟩
      by_cases g : m = i
      · subst g; exact h2
      · exact h6 m (by omega) h8
/-- A gray cell made black, what it points to shaded. -/
def blk (a b e : List Int) (i : Nat) : List Int := (sh (sh e (rd a (i : Int))) (rd b (i : Int))).set i 2
def msM (a b c e : List Int) : List Int × List Int × List Int × List Int × Bool × Bool := if cv a b c e = true then (match firstFrom e 1 0 with | none => (a, b, c, e, false, true) | some i => (a, b, c, blk a b e i, true, true)) else ([], [], [], [], false, false)
theorem blk_len (a b e : List Int) (i : Nat) : (blk a b e i).length = e.length := by unfold blk; rw [List.length_set, sh_len, sh_len]
theorem cv_blk {a b c e : List Int} (h : cv a b c e = true) (i : Nat) : cv a b c (blk a b e i) = true := by
  obtain ⟨h1, h2, h3⟩ := cv_iff.1 h
  refine cv_iff.2 ⟨h1, fun x hx => ?_, (blk_len a b e i).trans h3⟩
  rcases List.mem_or_eq_of_mem_set hx with g | rfl
  · exact sh_col (sh_col h2 _) _ x g
  · omega
/-- The first place from i on where v stands, or -1. -/
def idxM (e : List Int) (v : Int) (i : Nat) : Int := match firstFrom e v i with | none => -1 | some j => (j : Int)
theorem idxM_nil (e : List Int) (v : Int) (i : Nat) (h : e.length ≤ i) : idxM e v i = -1 := by unfold idxM; rw [firstFrom_nil _ _ _ h]
theorem idxM_cons (e : List Int) (v : Int) (i : Nat) (h : i < e.length) : idxM e v i = if rd e (i : Int) = v then (i : Int) else idxM e v (i + 1) := by
  unfold idxM
  rw [firstFrom_cons _ _ _ h]
  by_cases h2 : rd e (i : Int) = v
  · simp only [if_pos h2]
  · simp only [if_neg h2]
theorem idxM_none {e : List Int} {v : Int} {i : Nat} (h : firstFrom e v i = none) : idxM e v i = -1 := by unfold idxM; rw [h]
theorem idxM_some {e : List Int} {v : Int} {i j : Nat} (h : firstFrom e v i = some j) : idxM e v i = (j : Int) := by unfold idxM; rw [h]
theorem l3First_l0 (v : Int) (a b c e : List Int) (he : e.length ≤ 1048576) : ∀ (d i k : Nat), i ≤ e.length → e.length - i = d → d < k → spec_l3First.l0 k v (i : Int) a b c e = some (idxM e v i) := by
  intro d
  induction d with
  | zero =>
    intro i k hi hd hk
    obtain ⟨k, rfl⟩ : ∃ m, k = m + 1 := ⟨k - 1, by omega⟩
    rw [spec_l3First.l0, if_neg (by omega), idxM_nil _ _ _ (by omega)]
  | succ d ih =>
    intro i k hi hd hk
    obtain ⟨k, rfl⟩ : ∃ m, k = m + 1 := ⟨k - 1, by omega⟩
    have hlt : i < e.length := by omega
    rw [spec_l3First.l0, if_pos (by omega), if_pos (by omega), idxM_cons _ _ _ hlt, wrap_succ hlt (by omega), ih (i + 1) k (by omega) (by omega) (by omega)]
    by_cases h2 : rd e (i : Int) = v
    · rw [if_pos h2, if_pos h2]
    · rw [if_neg h2, if_neg h2]
theorem l3Shade_tells {e : List Int} {p : Int} (hp : p = -1 ∨ (0 ≤ p ∧ p < (e.length : Int))) : spec_l3Shade.f e p = some (sh e p) := by
  unfold spec_l3Shade.f sh
  by_cases h : p = -1
  · rw [if_pos h, if_neg (fun k => k.1 h)]
  · obtain ⟨h0, h1⟩ := hp.resolve_left h
    rw [if_neg h, if_pos h0, if_pos h1]
    by_cases g : rd e p = 0
    · rw [if_pos g, if_pos ⟨h, g⟩]
    · rw [if_neg g, if_neg (fun k => g k.2)]
theorem l3Black_tells {a b c e : List Int} (h : cv a b c e = true) (i : Nat) (hi : i < e.length) : spec_l3Black.f a b c e (i : Int) = some (a, b, c, blk a b e i) := by
  have hl := cv_lens h
  obtain ⟨pa, pb⟩ := cv_ptr h i hi
  unfold spec_l3Black.f
  rw [if_pos (by omega), if_pos (by omega), l3Shade_tells pa]
  simp only [Option.bind_some]
  rw [if_pos (by omega), l3Shade_tells (by rw [sh_len]; exact pb)]
  simp only [Option.bind_some]
  rw [if_pos (by rw [sh_len, sh_len]; omega), Int.toNat_natCast]
  rfl
theorem specMS_tells (a b c e : List Int) (k : Nat) (he : e.length ≤ 1048576) (hk : 1048601 ≤ k) : spec_MarkStep.f k a b c e = some (msM a b c e) := by
  unfold spec_MarkStep.f
  rw [specCV_tells a b c e _ he (by omega)]
  simp only [Option.bind_some]
  unfold msM
  by_cases h : cv a b c e = true
  · have hl := cv_lens h
    have f0 : spec_l3First.f k a b c e 1 = some (idxM e 1 0) := l3First_l0 1 a b c e he e.length 0 k (by omega) (by omega) (by omega)
    rw [if_pos h, if_pos h, f0, l3Copy_tells a b c e (by omega) (by omega) (by omega) he]
    simp only [Option.bind_some]
    cases hf : firstFrom e 1 0 with
    | none =>
      rw [idxM_none hf, if_pos (by omega)]
    | some i =>
      obtain ⟨_, h2, _, _⟩ := firstFrom_some e 1 _ 0 rfl i hf
      rw [idxM_some hf, if_neg (by omega), l3Black_tells h i h2]
      rfl
  · rw [if_neg h, if_neg h]
def ncM (a b c : List Int) : List Int × List Int × List Int × List Int × Bool := if hv a b c = true then (a, b, c, List.replicate a.length 0, true) else ([], [], [], [], false)
theorem specNC_tells (a b c : List Int) (k : Nat) (hk : 60 ≤ k) : spec_NewColored.f k a b c = some (ncM a b c) := by
  unfold spec_NewColored.f ncM
  rw [specHV_tells a b c k (by omega)]
  simp only [Option.bind_some]
  by_cases h : hv a b c = true
  · have hl := hv_len h
    rw [if_pos h, if_pos h, l1Copy_tells a b c (by omega) (by omega) (by omega)]
    simp only [Option.bind_some]
    rw [if_pos (by omega), Int.toNat_natCast, if_pos (by omega)]
  · rw [if_neg h, if_neg h]
theorem hv_c {a b c : List Int} (h : hv a b c = true) : ∀ x ∈ c, -1 ≤ x ∧ x < (a.length : Int) := (hv_iff.1 h).2.2.2
theorem specSR_l0 (a b e0 x y z c : List Int) {n : Nat} (hc : ∀ x ∈ c, -1 ≤ x ∧ x < (n : Int)) (hl : c.length ≤ 1048576) : ∀ (d i k : Nat) (e : List Int), i ≤ c.length → c.length - i = d → d < k → e.length = n → spec_ShadeRoots.l0 k (i : Int) a b c e0 x y z e = some (x, y, z, shAll (c.drop i) e, true) := by
  intro d
  induction d with
  | zero =>
    intro i k e hi hd hk he
    obtain ⟨k, rfl⟩ : ∃ m, k = m + 1 := ⟨k - 1, by omega⟩
    rw [spec_ShadeRoots.l0, if_neg (by omega), List.drop_eq_nil_of_le (by omega)]
    rfl
  | succ d ih =>
    intro i k e hi hd hk he
    obtain ⟨k, rfl⟩ : ∃ m, k = m + 1 := ⟨k - 1, by omega⟩
    have hlt : i < c.length := by omega
    have hm := hc _ (rd_mem c (i : Int) (by omega) (by omega))
    rw [spec_ShadeRoots.l0, if_pos (by omega), if_pos (by omega), l3Shade_tells (by omega), drop_rd c i hlt]
    simp only [Option.bind_some]
    rw [wrap_succ hlt (by omega), ih (i + 1) k (sh e (rd c (i : Int))) (by omega) (by omega) (by omega) ((sh_len e _).trans he)]
    rfl
theorem specSR_tells (a b c e : List Int) (k : Nat) (he : e.length ≤ 1048576) (hk : 1048601 ≤ k) : spec_ShadeRoots.f k a b c e = some (srM a b c e) := by
  unfold spec_ShadeRoots.f
  rw [specCV_tells a b c e _ he (by omega)]
  simp only [Option.bind_some]
  unfold srM
  by_cases h : cv a b c e = true
  · have hl := cv_lens h
    have hc := hv_c (cv_iff.1 h).1
    rw [if_pos h, if_pos h, l3Copy_tells a b c e (by omega) (by omega) (by omega) he]
    simp only [Option.bind_some]
    exact specSR_l0 a b e a b c c hc (by omega) c.length 0 k e (by omega) (by omega) (by omega) (by omega)
  · rw [if_neg h, if_neg h]
theorem wrong_tells {b : List Int} (hb : bytesOk b) (hl : b.length ≤ 2000) (p k : Nat) (hp : p ≤ 70000) (hk : 100 ≤ k) (x y z : List Int) (h1 : 1 ≤ x.length) (hx : x.length ≤ 18) (hy : y.length ≤ 18) (hz : z.length ≤ 18) : ∃ x' y' z' p', spec_l1Wrong.f k b (p : Int) x y z = some (x', y', z', ((p' : Nat) : Int)) ∧ (x'.length = x.length ∧ y'.length ≤ y.length + 1 ∧ z'.length ≤ z.length + 1) ∧ p' ≤ p + 3 := by
  obtain ⟨v, hv, e⟩ := pick_tells hb hl p 20 k (by omega) (by omega) (by omega)
  obtain ⟨q, hq⟩ : ∃ q, k = q + 1 := ⟨k - 1, by omega⟩
  have hj : ∀ s0 s1 a b c, spec_l1Wrong.j0 k s0 s1 a b c = some (a, b, c, s1) := fun s0 s1 a b c => by rw [hq]; rfl
  have e' : spec_l13Rd_pick.f k b (p : Int) 20 = some ((v : Int), ((p + 1 : Nat) : Int)) := e
  unfold spec_l1Wrong.f
  rw [l1Copy_tells x y z (by omega) (by omega) (by omega)]
  simp only [Option.bind_some]
  rw [e']
  simp only [Option.bind_some]
  by_cases c0 : (v : Int) = 0
  · obtain ⟨u, hu, f⟩ := pick_tells hb hl (p + 1) x.length k (by omega) h1 (by omega)
    obtain ⟨t, ht, g⟩ := num_tells hb hl (p + 1 + 1) k [-2, 8, 0] (by omega) (by simp) (by omega)
    refine ⟨x.set u t, y, z, p + 1 + 1 + 1, ?_, ⟨?_, ?_, ?_⟩, by omega⟩
    · rw [if_pos c0, f]
      simp only [Option.bind_some]
      rw [g]
      simp only [Option.bind_some]
      rw [if_pos (by omega), if_pos (by omega), Int.toNat_natCast, hj]
    · simp
    · omega
    · omega
  · rw [if_neg c0]
    by_cases c1 : (v : Int) = 1
    · rw [if_pos c1, if_pos (by omega), hj]
      exact ⟨_, _, _, p + 1, rfl, ⟨rfl, by simp, by omega⟩, by omega⟩
    · rw [if_neg c1]
      by_cases c2 : (v : Int) = 2
      · obtain ⟨t, ht, g⟩ := num_tells hb hl (p + 1) k [0, -1, 9] (by omega) (by simp) (by omega)
        rw [if_pos c2, g]
        simp only [Option.bind_some]
        rw [if_pos (by omega), hj]
        exact ⟨_, _, _, p + 1 + 1, rfl, ⟨rfl, by omega, by simp⟩, by omega⟩
      · rw [if_neg c2]
        by_cases c3 : (v : Int) = 3
        · rw [if_pos c3, hj]
          exact ⟨_, _, _, p + 1, rfl, ⟨rfl, by omega, by simp⟩, by omega⟩
        · rw [if_neg c3, hj]
          exact ⟨_, _, _, p + 1, rfl, ⟨rfl, by omega, by omega⟩, by omega⟩
def small4 (x y z e : List Int) : Prop := x.length ≤ 20 ∧ y.length ≤ 20 ∧ z.length ≤ 20 ∧ e.length ≤ 20
theorem draw3l0 {b : List Int} (hb : bytesOk b) (hl : b.length ≤ 2000) {x y z : List Int} : ∀ (d i k p : Nat) (e : List Int), e.length ≤ 100 → i ≤ e.length → e.length - i = d → d + 2 ≤ k → p + d ≤ 90000 → (∀ v ∈ e, 0 ≤ v ∧ v ≤ 2) →
    ∃ e' p', spec_l3Draw.l0 k (i : Int) b (p : Int) x y z e = some (x, y, z, e', ((p' : Nat) : Int)) ∧ e'.length = e.length ∧ (∀ v ∈ e', 0 ≤ v ∧ v ≤ 2) ∧ p' ≤ p + d := by
  intro d
  induction d with
  | zero =>
    intro i k p e he hi hd hk hp ho
    obtain ⟨k, rfl⟩ : ∃ m, k = m + 1 := ⟨k - 1, by omega⟩
    exact ⟨e, p, by rw [spec_l3Draw.l0, if_neg (by omega)], rfl, ho, by omega⟩
  | succ d ih =>
    intro i k p e he hi hd hk hp ho
    obtain ⟨k, rfl⟩ : ∃ m, k = m + 1 := ⟨k - 1, by omega⟩
    obtain ⟨v, hv, e0⟩ := pick_tells hb hl p 3 k (by omega) (by omega) (by omega)
    have e0' : spec_l13Rd_pick.f k b (p : Int) 3 = some ((v : Int), ((p + 1 : Nat) : Int)) := e0
    have ho2 : ∀ w ∈ e.set i (v : Int), 0 ≤ w ∧ w ≤ 2 := by
      intro w hw
      rcases List.mem_or_eq_of_mem_set hw with g | rfl
      · exact ho w g
      · omega
    obtain ⟨e', p', e2, l2, o2, q2⟩ := ih (i + 1) k (p + 1) (e.set i (v : Int)) (by simp; omega) (by simp; omega) (by simp; omega) (by omega) (by omega) ho2
    refine ⟨e', p', ?_, by rw [l2]; simp, o2, by omega⟩
    rw [spec_l3Draw.l0, if_pos (by omega), e0']
    simp only [Option.bind_some]
    rw [if_pos (by omega), wrap_succ (m := e.length) (by omega) (by omega), Int.toNat_natCast]
    exact e2
theorem wrap_down (n : Nat) (h : n ≤ 1000) : wrap64 (((n + 1 : Nat) : Int) - 1) = (n : Int) := by rw [wrap_id (by omega) (by omega)]; omega
theorem draw3l1 {b : List Int} {x y z : List Int} (p : Nat) : ∀ (m k : Nat) (e : List Int), cv x y z e = true → m ≤ 10 → m + 1048610 ≤ k → ∃ e', spec_l3Draw.l1 k (m : Int) b (p : Int) x y z e = some (x, y, z, e', (p : Int)) ∧ cv x y z e' = true := by
  intro m
  induction m with
  | zero =>
    intro k e h hm hk
    obtain ⟨k, rfl⟩ : ∃ m, k = m + 1 := ⟨k - 1, by omega⟩
    exact ⟨e, by rw [spec_l3Draw.l1, if_neg (by omega)], h⟩
  | succ m ih =>
    intro k e h hm hk
    obtain ⟨k, rfl⟩ : ∃ m, k = m + 1 := ⟨k - 1, by omega⟩
    have hl := cv_lens h
    rw [spec_l3Draw.l1, if_pos (by omega), specMS_tells x y z e k (by omega) (by omega), wrap_down m (by omega)]
    simp only [Option.bind_some]
    unfold msM
    rw [if_pos h]
    cases hf : firstFrom e 1 0 with
    | none => exact ih k e h (by omega) (by omega)
    | some i => exact ih k (blk x y e i) (cv_blk h i) (by omega) (by omega)
theorem draw3_tells {b : List Int} (hb : bytesOk b) (hl : b.length ≤ 2000) (p k : Nat) (hp : p ≤ 60000) (hk : 1048700 ≤ k) : ∃ x y z e p', spec_l3Draw.f k b (p : Int) = some (x, y, z, e, ((p' : Nat) : Int)) ∧ cv x y z e = true ∧ p' ≤ p + 60 := by
  obtain ⟨x, y, z, p1, e1, h1, q1⟩ := draw_tells hb hl p k (by omega) (by omega)
  have hh := hv_len h1
  obtain ⟨v, hv, e2⟩ := pick_tells hb hl p1 3 k (by omega) (by omega) (by omega)
  have e2' : spec_l13Rd_pick.f k b (p1 : Int) 3 = some ((v : Int), ((p1 + 1 : Nat) : Int)) := e2
  have hz : ∀ w ∈ List.replicate x.length (0 : Int), 0 ≤ w ∧ w ≤ 2 := fun w hw => by rw [(List.mem_replicate.1 hw).2]; omega
  have hc : cv x y z (List.replicate x.length 0) = true := cv_iff.2 ⟨h1, hz, by simp⟩
  have hn : ncM x y z = (x, y, z, List.replicate x.length 0, true) := by unfold ncM; rw [if_pos h1]
  unfold spec_l3Draw.f
  rw [e1]
  simp only [Option.bind_some]
  rw [specNC_tells x y z k (by omega), hn]
  simp only [Option.bind_some]
  rw [e2']
  simp only [Option.bind_some]
  by_cases g : (v : Int) = 0
  · obtain ⟨e', p', f1, f2, f3, f4⟩ := draw3l0 hb hl (x := x) (y := y) (z := z) x.length 0 k (p1 + 1) (List.replicate x.length 0) (by simp; omega) (by simp) (by simp) (by omega) (by omega) hz
    rw [if_pos g]
    refine ⟨x, y, z, e', p', f1, cv_iff.2 ⟨h1, f3, by rw [f2]; simp⟩, by omega⟩
  · obtain ⟨u, hu, e3⟩ := pick_tells hb hl (p1 + 1) 4 k (by omega) (by omega) (by omega)
    have e3' : spec_l13Rd_pick.f k b ((p1 + 1 : Nat) : Int) 4 = some ((u : Int), ((p1 + 1 + 1 : Nat) : Int)) := e3
    have hs : srM x y z (List.replicate x.length 0) = (x, y, z, shAll z (List.replicate x.length 0), true) := by unfold srM; rw [if_pos hc]
    obtain ⟨e', f1, f2⟩ := draw3l1 (b := b) (p1 + 1 + 1) u k (shAll z (List.replicate x.length 0)) (cv_shAll hc z) (by omega) (by omega)
    rw [if_neg g, specSR_tells x y z _ k (by simp; omega) (by omega), hs]
    simp only [Option.bind_some]
    rw [e3']
    simp only [Option.bind_some]
    exact ⟨x, y, z, e', p1 + 1 + 1, f1, f2, by omega⟩
theorem wrong3_tells {b : List Int} (hb : bytesOk b) (hl : b.length ≤ 2000) (p k : Nat) (hp : p ≤ 60000) (hk : 100 ≤ k) (x y z e : List Int) (h : cv x y z e = true) : ∃ x' y' z' e' p', spec_l3Wrong.f k b (p : Int) x y z e = some (x', y', z', e', ((p' : Nat) : Int)) ∧ small4 x' y' z' e' ∧ p' ≤ p + 10 := by
  have hs := cv_lens h
  obtain ⟨v, hv, e0⟩ := pick_tells hb hl p 20 k (by omega) (by omega) (by omega)
  have e0' : spec_l13Rd_pick.f k b (p : Int) 20 = some ((v : Int), ((p + 1 : Nat) : Int)) := e0
  unfold spec_l3Wrong.f
  rw [l3Copy_tells x y z e (by omega) (by omega) (by omega) (by omega)]
  simp only [Option.bind_some]
  rw [e0']
  simp only [Option.bind_some]
  by_cases c0 : (v : Int) = 0
  · obtain ⟨u, hu, f⟩ := pick_tells hb hl (p + 1) e.length k (by omega) (by omega) (by omega)
    obtain ⟨t, ht, g⟩ := num_tells hb hl (p + 1 + 1) k [3, -1, 0] (by omega) (by simp) (by omega)
    rw [if_pos c0, f]
    simp only [Option.bind_some]
    rw [g]
    simp only [Option.bind_some]
    rw [if_pos (by omega), if_pos (by omega)]
    exact ⟨x, y, z, e.set u t, p + 1 + 1 + 1, by rw [Int.toNat_natCast], ⟨by omega, by omega, by omega, by simp; omega⟩, by omega⟩
  · rw [if_neg c0]
    by_cases c1 : (v : Int) = 1
    · rw [if_pos c1, if_pos (by omega)]
      exact ⟨x, y, z, e ++ [0], p + 1, rfl, ⟨by omega, by omega, by omega, by simp; omega⟩, by omega⟩
    · rw [if_neg c1]
      by_cases c2 : (v : Int) = 2
      · obtain ⟨x', y', z', p', f, l, q⟩ := wrong_tells hb hl (p + 1) k (by omega) hk x y z (by omega) (by omega) (by omega) (by omega)
        rw [if_pos c2, f]
        simp only [Option.bind_some]
        exact ⟨x', y', z', e, p', rfl, ⟨by omega, by omega, by omega, by omega⟩, by omega⟩
      · rw [if_neg c2]
        exact ⟨x, y, z, e, p + 1, rfl, ⟨by omega, by omega, by omega, by omega⟩, by omega⟩
theorem case3_tells {code : List Int} (hb0 : bytesOk code) (k : Nat) (hk : 1048700 ≤ k) : ∃ x y z e, spec_l3Case.f k code = some (x, y, z, e) ∧ small4 x y z e := by
  obtain ⟨b, hl, hb1, e0⟩ := open_tells code
  have hb := hb1 hb0
  obtain ⟨x, y, z, e, p, e1, h1, q1⟩ := draw3_tells hb hl 0 k (by omega) hk
  obtain ⟨x', y', z', e', p', e2, s2, q2⟩ := wrong3_tells hb hl p k (by omega) (by omega) x y z e h1
  refine ⟨x', y', z', e', ?_, s2⟩
  unfold spec_l3Case.f
  rw [e0]
  simp only [Option.bind_some]
  rw [e1]
  simp only [Option.bind_some]
  rw [e2]
  rfl
theorem drawShadeCell_tells {code : List Int} (hb0 : bytesOk code) (k : Nat) (hk : 1048700 ≤ k) : ∃ x y z e u, spec_DrawShadeCell.f k code = some (x, y, z, e, u) ∧ small4 x y z e := by
  obtain ⟨b, hl, hb1, e0⟩ := open_tells code
  have hb := hb1 hb0
  obtain ⟨x, y, z, e, e1, s1⟩ := case3_tells hb0 k hk
  obtain ⟨u, hu, e2⟩ := num_tells hb hl 0 k [0, 1, 2, 3, 8, -1] (by omega) (by simp) (by omega)
  refine ⟨x, y, z, e, u, ?_, s1⟩
  unfold spec_DrawShadeCell.f
  rw [e1]
  simp only [Option.bind_some]
  rw [e0]
  simp only [Option.bind_some]
  rw [e2]
  rfl
theorem Equal_l0 (a b : List Int) (he : a.length = b.length) (hl : a.length ≤ 9223372036854775807) : ∀ (d n k : Nat), n ≤ a.length → a.length - n = d → d < k →
    slices_Equal_int_int.l0 k a b (a.length : Int) (n : Int) = some (decide (a.drop n = b.drop n)) := by
  intro d
  induction d with
  | zero =>
    intro n k hn hd hk
    obtain ⟨k, rfl⟩ : ∃ m, k = m + 1 := ⟨k - 1, by omega⟩
    rw [slices_Equal_int_int.l0, if_neg (by omega), List.drop_eq_nil_of_le (by omega), List.drop_eq_nil_of_le (by omega)]
    simp
  | succ d ih =>
    intro n k hn hd hk
    obtain ⟨k, rfl⟩ : ∃ m, k = m + 1 := ⟨k - 1, by omega⟩
    have hlt : n < a.length := by omega
    have hlt2 : n < b.length := by omega
    rw [slices_Equal_int_int.l0, if_pos (by omega), if_pos (by omega), if_pos (by omega), if_pos (by omega), drop_rd a n hlt, drop_rd b n hlt2]
    by_cases h : rd a (n : Int) = rd b (n : Int)
    · rw [if_pos h, wrap_succ hlt hl, ih (n + 1) k (by omega) (by omega) (by omega), h]
      simp
    · rw [if_neg h]
      simp [h]
theorem Equal_tells (a b : List Int) (k : Nat) (hl : a.length ≤ 9223372036854775807) (hk : a.length < k) : slices_Equal_int_int.f k a b = some (decide (a = b)) := by
  unfold slices_Equal_int_int.f
  by_cases h : a.length = b.length
  · rw [if_pos (by omega)]
    refine Eq.trans (Equal_l0 a b h hl a.length 0 k (by omega) (by omega) hk) ?_
    simp
  · rw [if_neg (by omega)]
    have : a ≠ b := fun e => h (by rw [e])
    simp [this]
theorem implHeapSame_tells (a b c a' b' c' : List Int) (k : Nat) (ha : a.length ≤ 1048576) (hb : b.length ≤ 1048576) (hc : c.length ≤ 1048576) (hk : 1048577 ≤ k) :
    impl_HeapSame.f k a b c a' b' c' = some (decide (a = a' ∧ b = b' ∧ c = c')) := by
  unfold impl_HeapSame.f
  rw [Equal_tells a a' k (by omega) (by omega)]
  simp only [Option.bind_some, decide_eq_true_eq]
  by_cases h1 : a = a'
  · rw [if_pos h1, Equal_tells b b' k (by omega) (by omega)]
    simp only [Option.bind_some, decide_eq_true_eq]
    by_cases h2 : b = b'
    · rw [if_pos h2, Equal_tells c c' k (by omega) (by omega)]
      simp [h1, h2]
    · rw [if_neg h2]; simp [h2]
  · rw [if_neg h1]; simp [h1]
theorem implColoredSame_tells (a b c e a' b' c' e' : List Int) (k : Nat) (ha : a.length ≤ 1048576) (hb : b.length ≤ 1048576) (hc : c.length ≤ 1048576) (he : e.length ≤ 1048576) (hk : 1048577 ≤ k) :
    impl_ColoredSame.f k a b c e a' b' c' e' = some (decide (a = a' ∧ b = b' ∧ c = c' ∧ e = e')) := by
  unfold impl_ColoredSame.f
  rw [implHeapSame_tells a b c a' b' c' k ha hb hc hk]
  simp only [Option.bind_some, decide_eq_true_eq]
  by_cases h1 : a = a' ∧ b = b' ∧ c = c'
  · rw [if_pos h1, Equal_tells e e' k (by omega) (by omega)]
    obtain ⟨rfl, rfl, rfl⟩ := h1
    simp
  · rw [if_neg h1]
    simp only [Option.some.injEq]
    exact (decide_eq_false (fun h => h1 ⟨h.1, h.2.1, h.2.2.1⟩)).symm
theorem has_tells (a b c : List Int) (x : Int) (k : Nat) (hk : 60 ≤ k) : impl_has.f k a b c x = some (cellM a b c x) := by
  unfold impl_has.f cellM
  rw [implHV_tells a b c k hk]
  simp only [Option.bind_some]
  cases h : hv a b c with
  | false => rw [if_neg (by simp), Bool.false_and]
  | true =>
    rw [if_pos rfl, Bool.true_and]
    by_cases h1 : x ≥ 0
    · rw [if_pos h1]; congr 1; simp; omega
    · rw [if_neg h1, decide_eq_false (by omega)]
theorem copied_tells (a b c : List Int) (ha : a.length ≤ 1048576) (hb : b.length ≤ 1048576) (hc : c.length ≤ 1048576) : impl_copied.f a b c = some (a, b, c) := by
  unfold impl_copied.f slices_Clone_int_int.f
  rw [if_pos (by omega), if_pos (by omega), if_pos (by omega)]
  rfl
theorem fresh_tells (a b c e : List Int) (ha : a.length ≤ 1048576) (hb : b.length ≤ 1048576) (hc : c.length ≤ 1048576) (he : e.length ≤ 1048576) : impl_fresh.f a b c e = some (a, b, c, e) := by
  unfold impl_fresh.f
  rw [copied_tells a b c ha hb hc]
  simp only [Option.bind_some]
  unfold slices_Clone_int_int.f
  rw [if_pos (by omega)]
  rfl
theorem shade_tells {e : List Int} {p : Int} (hp : p = -1 ∨ (0 ≤ p ∧ p < (e.length : Int))) : impl_shade.f e p = some (sh e p) := by
  unfold impl_shade.f sh
  by_cases h : p = -1
  · rw [if_pos h, if_neg (fun k => k.1 h)]
  · obtain ⟨h0, h1⟩ := hp.resolve_left h
    rw [if_neg h, if_pos h0, if_pos h1]
    by_cases g : rd e p = 0
    · rw [if_pos g, if_pos ⟨h, g⟩]
    · rw [if_neg g, if_neg (fun k => g k.2)]
theorem implSC_tells (a b c e : List Int) (x : Int) (k : Nat) (he : e.length ≤ 1048576) (hk : 1048601 ≤ k) : impl_ShadeCell.f k a b c e x = some (scM a b c e x) := by
  obtain ⟨q, rfl⟩ : ∃ q, k = q + 1 := ⟨k - 1, by omega⟩
  unfold impl_ShadeCell.f
  rw [implCV_tells a b c e _ he (by omega)]
  simp only [Option.bind_some]
  by_cases h : cv a b c e = true
  · have hl := cv_lens h
    have hh := (cv_iff.1 h).1
    rw [if_pos h, has_tells a b c x _ (by omega)]
    simp only [Option.bind_some]
    rw [impl_ShadeCell.j0]
    by_cases g : 0 ≤ x ∧ x < (a.length : Int)
    · have hc : cellM a b c x = true := cellM_iff.2 ⟨hh, g.1, g.2⟩
      rw [hc, if_neg (by simp), fresh_tells a b c e (by omega) (by omega) (by omega) he]
      simp only [Option.bind_some]
      rw [shade_tells (Or.inr (by omega))]
      simp only [Option.bind_some]
      unfold scM
      rw [if_pos ⟨h, g⟩]
    · have hc : cellM a b c x = false := Bool.eq_false_iff.2 (fun k => g (cellM_iff.1 k).2)
      rw [hc, if_pos (by simp)]
      unfold scM
      rw [if_neg (fun k => g k.2)]
  · rw [if_neg h, impl_ShadeCell.j0, if_pos rfl]
    unfold scM
    rw [if_neg (fun k => h k.1)]
theorem scM_pos {a b c e : List Int} {x : Int} (h : cv a b c e = true) (g : 0 ≤ x ∧ x < (a.length : Int)) : scM a b c e x = (a, b, c, sh e x, true) := by unfold scM; rw [if_pos ⟨h, g⟩]
theorem scM_neg {a b c e : List Int} {x : Int} (h : ¬ (cv a b c e = true ∧ (0 ≤ x ∧ x < (a.length : Int)))) : scM a b c e x = ([], [], [], [], false) := by unfold scM; rw [if_neg h]
theorem l1Cell_tells (a b c : List Int) (x : Int) (k : Nat) (hk : 40 ≤ k) : spec_l1Cell.f k a b c x = some (cellM a b c x) := by
  unfold spec_l1Cell.f cellM
  rw [specHV_tells a b c k hk]
  simp only [Option.bind_some]
  cases h : hv a b c with
  | false => rw [if_neg (by simp), Bool.false_and]
  | true =>
    rw [if_pos rfl, Bool.true_and]
    by_cases h1 : x ≥ 0
    · rw [if_pos h1]; congr 1; simp; omega
    · rw [if_neg h1, decide_eq_false (by omega)]
theorem specSC_tells (a b c e : List Int) (x : Int) (k : Nat) (he : e.length ≤ 1048576) (hk : 1048601 ≤ k) : spec_ShadeCell.f k a b c e x = some (scM a b c e x) := by
  obtain ⟨q, rfl⟩ : ∃ q, k = q + 1 := ⟨k - 1, by omega⟩
  unfold spec_ShadeCell.f
  rw [specCV_tells a b c e _ he (by omega)]
  simp only [Option.bind_some]
  by_cases h : cv a b c e = true
  · have hl := cv_lens h
    have hh := (cv_iff.1 h).1
    rw [if_pos h, l1Cell_tells a b c x _ (by omega)]
    simp only [Option.bind_some]
    rw [spec_ShadeCell.j0]
    by_cases g : 0 ≤ x ∧ x < (a.length : Int)
    · have hc : cellM a b c x = true := cellM_iff.2 ⟨hh, g.1, g.2⟩
      rw [hc, if_neg (by simp), l3Copy_tells a b c e (by omega) (by omega) (by omega) he]
      simp only [Option.bind_some]
      rw [l3Shade_tells (Or.inr (by omega))]
      simp only [Option.bind_some]
      unfold scM
      rw [if_pos ⟨h, g⟩]
    · have hc : cellM a b c x = false := Bool.eq_false_iff.2 (fun k => g (cellM_iff.1 k).2)
      rw [hc, if_pos (by simp)]
      unfold scM
      rw [if_neg (fun k => g k.2)]
  · rw [if_neg h, spec_ShadeCell.j0, if_pos rfl]
    unfold scM
    rw [if_neg (fun k => h k.1)]
theorem pure_FnHoldsShade (code : List Int) (_hl : code.length ≤ 9223372036854775807) (hb : ∀ x ∈ code, 0 ≤ x ∧ x ≤ 255) : ∃ k, laws_FnHoldsShade.f k code = some true := by
  refine ⟨3200000, ?_⟩
  obtain ⟨k, hk⟩ : ∃ k : Nat, k = 3199999 := ⟨_, rfl⟩
  rw [show 3200000 = k + 1 from by omega]
  unfold laws_FnHoldsShade.f
  by_cases h0 : (code.length : Int) > 1048576
  · rw [if_pos h0]
  rw [if_neg h0]
  obtain ⟨a, b, c, e, x, e1, s1, s2, s3, s4⟩ := drawShadeCell_tells (code := code) hb (k + 1) (by omega)
  have hm := scM_lens a b c e x
  rw [e1]
  simp only [Option.bind_some]
  rw [implSC_tells a b c e x (k + 1) (by omega) (by omega), specSC_tells a b c e x (k + 1) (by omega) (by omega)]
  simp only [Option.bind_some]
  rw [implColoredSame_tells _ _ _ _ _ _ _ _ (k + 1) (by omega) (by omega) (by omega) (by omega) (by omega)]
  simp only [Option.bind_some]
  rw [if_pos (by simp), if_neg (by simp), laws_FnHoldsShade.j0]
  by_cases h : cv a b c e = true ∧ (0 ≤ x ∧ x < (a.length : Int))
  · have hl := cv_lens h.1
    have hs := sh_len e x
    have hcv := cv_sh h.1 x
    rw [scM_pos h.1 h.2, if_neg (by simp), implCH_tells a b c e (by omega), implCH_tells a b c (sh e x) (by omega), chM_pos h.1, chM_pos hcv]
    simp only [Option.bind_some]
    by_cases g : chFrom a b e 0 = true
    · rw [if_pos g, ch_sh h.1 g (Or.inr (by omega))]
    · rw [if_neg g]
  · rw [scM_neg h, if_pos (by simp), implColoredSame_tells _ _ _ _ _ _ _ _ k (by simp) (by simp) (by simp) (by simp) (by omega)]
    simp
end Go.Proofs.Ytkbaggfkidalfaa.A
